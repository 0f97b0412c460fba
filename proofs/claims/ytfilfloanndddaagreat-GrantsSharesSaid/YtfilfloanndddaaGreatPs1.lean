/- A part of the evaluator over typed open values for any program, and of the proof that it is sound. No condition. -/
import Derived.Test.YtfilfloanndddaaGreatPs0
set_option linter.all false
namespace Go.Proofs.YtfilfloanndddaaGreat.Sv
variable [Pi.Gl]
open Go.Proofs.YtfilfloanndddaaGreat.Pi (PV T Hp Blk DF UM PE A5 BM)
structure Nw (X:Cx) (n id idP:Nat):Prop where
 pi:X.π id=none
 lt:id<n
 big:n<=1048575
 hp:X.h.get idP=none
 hlt:idP<X.h.nx
section
variable {X:Cx} {h:H} {n id idP:Nat} {β:Type} {x:β} {P:Program}
theorem Nw.small (w:Nw X n id idP):id<1048575:=by have:=w.lt;have:=w.big;omega
def VOk (X:Cx) (h:H) (n id idP:Nat) (K:RA->Option β) (x:β) (o:Option Pi.R):Prop :=
 ∃ v h' p a Y,K (.val v h')=some x/\o=some (.val p a)/\MD X h n id idP h' a Y/\VR Y v p
theorem VOk.same (r:RH X h n) {K:RA->Option β} {o:Option Pi.R} {v:V} {p:PV} (e:K (.val v h)=some x) (b:o=some (.val p X.h)) (a:VR X v p):VOk X h n id idP K x o :=
 ⟨v,h,p,X.h,X,e,b,⟨rfl,r,St.refl _ _ _ _⟩,a⟩
theorem Ub (r:RH X h n) (w:Nw X n id idP) {g:Bool} {c:Ty} {l:List c.den} {es:List PV} {ex fz d:Bool} (p:fz=false->d=false) (s:L2 (EP g (DR X.h X.Q c)) l es) (f:ex=false->0<es.length) :
  ∃ a Y,X.h.new idP (.row es ex d)=some a/\MD X h n id idP (Ai h id (.row g c l ex fz false)) a Y/\VR Y (.ow id) (.own idP 0 es.length)/\Y.π id=some (.blk idP es.length):=by
 obtain ⟨a,e⟩:=MC X.h idP (.row es ex d) w.hp
 obtain ⟨Y,k,j,i,q⟩:=r.new (m:=es.length) (b:=.row g c l ex fz false) w.small w.lt w.pi w.hlt e (λY k j i u =>
  .inl ⟨idP,es.length,es,d,rfl,(i _).2 (.inr rfl),by rw [j,(Hp.get_new e).2.1,if_pos rfl],p,rfl,f,EDR.mono u s⟩)
 have o:Y.π id=some (.blk idP es.length):=by rw [k];exact if_pos rfl
 exact ⟨a,Y,e,⟨j,i,q⟩,by simp only [VR,o],o⟩
theorem ER (r:RH X h n) (w:Nw X n id idP) {g:Bool} {c:Ty} {l:List c.den} {es:List PV} {ex fz:Bool} (d:L2 (EP g (DR X.h X.Q c)) l es) (a:ex=false->0<es.length) :
  ∃ b Y,X.h.new idP (.row es ex false)=some b/\MD X h n id idP (Ai h id (.row g c l ex fz false)) b Y/\VR Y (.ow id) (.own idP 0 es.length)/\Y.π id=some (.blk idP es.length) :=
 Ub r w (λ_=>rfl) d a
theorem Sj (r:RH X h n) (w:Nw X n id idP) {g:Bool} {c:Ty} {fz:Bool} :
  ∃ Y,MD X h n id idP (Ai h id (.row g c [] false fz false)) X.h Y/\VR Y (.ow id) .nils:=by
 obtain ⟨Y,e,i,d,f⟩:=r.alias (a:=.nil) (b:=.row g c [] false fz false) w.small w.lt w.pi (by simp) (λY u => .inr (.inl ⟨rfl,rfl,rfl⟩)) idP;have j:Y.π id=some .nil:=by rw [e];exact if_pos rfl
 exact ⟨Y,⟨i,d,f⟩,by simp only [VR,j]⟩
theorem mT (r:RH X h n) (w:Nw X n id idP) {g:Bool} {c:Ty} {l:List c.den} {es:List PV} (j:L2 (EP g (DP c)) l es) :
  ∃ Y,MD X h n id idP (Ai h id (.row g c l false true false)) X.h Y/\VR Y (.ow id) (.lst true es):=by
 obtain ⟨Y,e,i,d,f⟩:=r.alias (a:=.fz es) (b:=.row g c l false true false) w.small w.lt w.pi (by simp) (λY u => .inr (.inr ⟨es,rfl,rfl,.inl rfl,j⟩)) idP;have k:Y.π id=some (.fz es):=by rw [e];exact if_pos rfl
 exact ⟨Y,⟨i,d,f⟩,by simp only [VR,k]⟩
theorem Sk (r:RH X h n) (w:Nw X n id idP) {g:Bool} {c:Ty} {fz:Bool} :
  ∃ Y,MD X h n id idP (Ai h id (.row g c [] false fz false)) X.h Y/\VR Y (.ow id) (.lst true []):=by
 obtain ⟨Y,e,i,d,f⟩:=r.alias (a:=.fz []) (b:=.row g c [] false fz false) w.small w.lt w.pi (by simp) (λY u => .inr (.inr ⟨[],rfl,rfl,.inr rfl,.nil⟩)) idP;have j:Y.π id=some (.fz []):=by rw [e];exact if_pos rfl
 exact ⟨Y,⟨i,d,f⟩,by simp only [VR,j]⟩
theorem EPL.up {g:Bool} {c:Ty} {l:List c.den} {es:List PV} {hh:Hp} {Q:Nat->Prop} (h:L2 (EP g (DP c)) l es):L2 (EP g (DR hh Q c)) l es:=h.mono λ_ _ k=>k.upP
theorem cm {g:Bool} {hh:Hp} {Q:Nat->Prop} {c:Ty} {l:List c.den} {es:List PV} {b:Nat} (hs:b=c.wd) (h:L2 (EP g (DR hh Q c)) l es):(es.all λv=>Nat.beq v.cells.length b)=true:=by
 induction h with
 | nil=>rfl
 | cons a _ ih=>simp only [List.all_cons,ih,Bool.and_true,a.wd];simp [hs]
theorem kQ {hh:Hp} {k:TypeId} {g:Bool} {c:Ty} {s p:PV} {new:List PV} {l:List c.den} {Q:Nat->Prop} (a:RP P k c=true) (r:Pi.EN hh p=some new) (n:L2 (EP g (DR hh Q c)) l new) :
  Pi.KL P hh idP k s p=(match s with
   | .nils=>bif new.isEmpty then some (.val .nils hh) else bif Nat.ble new.length Pi.EO then (hh.new idP (.row new false false)).map λh => .val (.own idP 0 new.length) h else none
   | .lst true es=>bif new.isEmpty then some (.val (.lst true es) hh) else bif Nat.ble (es.length+new.length) Pi.EO&&Pi.HD c.wd es then (hh.new idP (.row (es++new) false false)).map λh => .val (.own idP 0 (es.length+new.length)) h else none
   | .own j off len=>match hh.get j with
    | some (.row es ex fz) =>
     bif !Nat.ble (len+new.length) Pi.EO || !Nat.ble (off+len) es.length || !Pi.HD c.wd es then none else
     bif ex then
      bif new.isEmpty then some (.val (.own j off len) hh) else bif Nat.ble (off+len+new.length) es.length then
       (bif fz then none else (hh.set j (.row (Pi.EH es (off+len) new) true false)).map λh => .val (.own j off (len+new.length)) h)
      else (hh.new idP (.row ((es.drop off).take len++new) false false)).map λh => .val (.own idP 0 (len+new.length)) h
     else bif Nat.beq len es.length&&Nat.beq off 0&&Nat.blt 0 len then
      match hh.set j .dead with
      | some h=>(h.new idP (.row (es++new) false fz)).map λh => .val (.own idP 0 (len+new.length)) h
      | none=>none
     else none
    | _=>none
   | _=>none):=by
 unfold RP at a;unfold Pi.KL;split at a
 ·rename_i e t;split at a
  ·rename_i i z b m;simp only [Bool.and_eq_true,Nat.beq_eq] at a;obtain ⟨⟨⟨f,o⟩,u⟩,q⟩:=a;have w:Pi.Bc P e=some i.size:=by unfold Pi.Bc;rw [b];rfl
   have d:z.length.beq i.size=true:=by simp [u]
   simp only [t,w,b,r,m];rw [cm f n,show Pi.EO=1048576 from rfl,o,d,q,f];rfl
  ·cases a
 ·cases a
theorem Gh {α:Type} {l:List α} (h:l≠[]):l.isEmpty=false:=by cases l<;>simp at h ⊢
theorem cp {f:Bool} {v:V} {vs:List V} {p:PV} {es:List PV} {hh:Hp} (a:VR X (.exl f (v::vs)) p) (e:Pi.EN hh p=some es):es≠[]:=by
 simp only [VR] at a;obtain ⟨g,c,rfl,_,b⟩:=a;obtain ⟨q,d,rfl,_,_⟩:=b.cons_inv;cases e;simp
theorem YJ {α:Type} {R:α->PV->Prop} {l new:List α} {es a:List PV} (h:L2 R l es) (k:L2 R new a) (off m:Nat):L2 R (Jl l off new m) (Pi.EH es off (a.take m)):=by
 unfold Jl Pi.EH;have:=(k.take m).length;rw [this];exact (h.take off).append ((k.take m).append (h.drop _))
theorem Uc {es x:List PV} {off:Nat} (h:off+x.length<=es.length):(Pi.EH es off x).length=es.length:=by
 unfold Pi.EH;simp;omega
theorem kS (r:RH X h n) (w:Nw X n id idP) {st:TypeId} {s a:V} {sP p:PV} {K:RA->Option β} (hs:VR X s sP) (ha:VR X a p) (e:mL P h id st s a K=some x):VOk X h n id idP K x (Pi.KL P X.h idP st sP p):=by
 unfold mL at e;replace e:=AZ e;obtain ⟨⟨g,c⟩,hel,e⟩:=e;replace e:=BD e;obtain ⟨he,e⟩:=e;replace e:=RW r ha e;obtain ⟨new,b,e,hx,d⟩:=e;have E:=kQ (idP:=idP) (s:=sP) he hx d;rw [E];have sm:Pi.EO=1048576:=rfl
 have into : ∀ {fz:Bool},b.length<=1048576->K (.val (.ow id) (Ai h id (.row g c new false fz false)))=some x->VOk X h n id idP K x (bif b.isEmpty then some (.val .nils X.h) else bif Nat.ble b.length Pi.EO then (X.h.new idP (.row b false false)).map λh => .val (.own idP 0 b.length) h else none):=by
  intro fz D e;by_cases f:b=[]
  ·subst f;have:=d.nil_inv';subst this;obtain ⟨Y,y,q⟩:=Sj (fz:=fz) (g:=g) (c:=c) r w;exact ⟨_,_,.nils,X.h,Y,e,rfl,y,q⟩
  ·have z:0<b.length:=List.length_pos_iff.2 f;obtain ⟨i,Y,y,q,I,_⟩:=ER (fz:=fz) r w d λ_=>z;refine ⟨_,_,_,i,Y,e,?_,q,I⟩;rw [Gh f,sm,show Nat.ble b.length 1048576=true from by simpa using D,y];rfl
 split at e
 ·simp only [VR] at hs;subst hs;replace e:=Ax e;obtain ⟨D,e⟩:=e;exact into (by rw [<- d.length];simpa [BP,AA] using D) e
 ·rename_i g' U l;replace e:=BD e;obtain ⟨hg,e⟩:=e;have:=eq_of_beq hg;subst this;replace e:=Ax e;obtain ⟨D,e⟩:=e;replace e:=C8 e;obtain ⟨hc,e⟩:=e;subst hc;have k:l.length+new.length<=1048576:=by simpa [BP,AA,Ag] using D
  have M:b≠[]->K (.val (.ow id) (Ai h id (.row g U (Bu l new) false false false)))=some x->VOk X h n id idP K x (Pi.KL P X.h idP st sP p):=λF e=>by
   rw [E];have z:0<b.length:=List.length_pos_iff.2 F;simp only [VR] at hs;rcases hs with ⟨rfl,rfl⟩ | ⟨f',o,rfl,hf,B⟩ | ⟨pid,off,len,o,ex,fz,rfl,hf,B,Z,L,h8,h4⟩
   ·exact into (by rw [<- d.length];simpa using k) e
   ·have:=hf trivial;subst this;obtain ⟨i,Y,y,q,I,_⟩:=ER (fz:=false) r w ((EPL.up B).append d) λ_=>by simp;omega
    refine ⟨_,_,_,i,Y,e,?_,q,I⟩;have G:Nat.ble (o.length+b.length) 1048576=true:=by rw [<- B.length,<- d.length];simpa using k
    dsimp only;rw [Gh F,sm,G,Ca rfl (EPL.up (hh:=X.h) (Q:=X.Q) B),y];simp
   ·obtain ⟨rfl,hend⟩:=hf trivial;obtain ⟨i,Y,y,q,I,_⟩:=ER (fz:=false) r w (h4.append d) λ_=>by simp;omega
    refine ⟨_,_,_,i,Y,e,?_,q,I⟩;have hl4:=h4.length;have J:((o.drop off).take len).length=len:=by simp;omega
    have G:Nat.ble (len+b.length) 1048576=true:=by rw [<- J,<- hl4,<- d.length];simpa using k
    have O:Nat.ble (off+len) o.length=true:=by simpa using L
    have h7:Nat.ble (off+len+b.length) o.length=false:=by
     cases S:Nat.ble (off+len+b.length) o.length with
     | false=>rfl
     | true=>have:=Nat.le_of_ble_eq_true S;omega
    simp only [Z,sm,G,O,h8,h7,Gh F,Bool.not_true,Bool.or_false,cond_false,cond_true,y];simp [J]
  have W:b=[]->K (.val (.lf true g U l) h)=some x->VOk X h n id idP K x (Pi.KL P X.h idP st sP p):=λf e=>by
   rw [E];subst f;have N:=hs;simp only [VR] at hs;rcases hs with ⟨rfl,rfl⟩ | ⟨f',o,rfl,hf,B⟩ | ⟨pid,off,len,o,ex,fz,rfl,hf,B,Z,L,h8,h4⟩
   ·exact VOk.same r e rfl N
   ·have:=hf trivial;subst this;exact VOk.same r e rfl N
   ·obtain ⟨rfl,hend⟩:=hf trivial;have hl4:=h4.length;have J:((o.drop off).take len).length=len:=by simp;omega
    have G:Nat.ble (len+([]:List PV).length) 1048576=true:=by
     rw [<- J,<- hl4];simp only [List.length_nil,Nat.add_zero,Nat.ble_eq];omega
    have O:Nat.ble (off+len) o.length=true:=by simpa using L
    refine VOk.same r e ?_ N;simp only [Z,sm,G,O,h8,Bool.not_true,Bool.or_false,cond_false,cond_true,List.isEmpty_nil]
  rw [<- E];split at e
  ·exact M (cp ha hx) e
  ·replace e:=Ew e;rcases e with ⟨f,e⟩ | ⟨f,e⟩
   ·refine W ?_ e;have f:new.length=0:=Nat.eq_of_beq_eq_true f;rw [d.length] at f;exact List.eq_nil_of_length_eq_zero f
   ·refine M ?_ e;intro hn;subst hn;have:=d.nil_inv';subst this;cases f
 ·simp only [VR] at hs;obtain ⟨f',o,rfl,hf,B⟩:=hs;have:=B.nil_inv;subst this;have:=hf trivial;subst this;replace e:=Ax e;obtain ⟨D,e⟩:=e;have k:b.length<=1048576:=by rw [<- d.length];simpa [BP,AA] using D
  by_cases f:b=[]
  ·subst f;have:=d.nil_inv';subst this;obtain ⟨Y,y,q⟩:=Sk (fz:=false) (g:=g) (c:=c) r w;exact ⟨_,_,_,X.h,Y,e,rfl,y,q⟩
  ·have z:0<b.length:=List.length_pos_iff.2 f;obtain ⟨i,Y,y,q,I,_⟩:=ER (fz:=false) r w d λ_=>z;refine ⟨_,_,_,i,Y,e,?_,q,I⟩;have G:Nat.ble (([]:List PV).length+b.length) 1048576=true:=by simpa using k
   dsimp only;rw [Gh f,sm,G,show Pi.HD c.wd []=true from rfl,List.nil_append,y];simp
 ·rename_i j;split at e
  ·rename_i g' U l ex fz lk C;replace e:=DL e;obtain ⟨hg,e⟩:=e;simp only [Bool.or_eq_false_iff,Bool.not_eq_false'] at hg;obtain ⟨hg,hlk⟩:=hg;subst hlk;have:=eq_of_beq hg;subst this;replace e:=C8 e;obtain ⟨hc,e⟩:=e;subst hc;replace e:=Ax e;obtain ⟨D,e⟩:=e;have k:l.length+new.length<=1048576:=by simpa [BP,AA,Ag] using D
   simp only [VR] at hs;have S:=r.blk _ _ C;cases A:X.π j with
   | none=>rw [A] at hs;exact hs.elim
   | some t =>
    rw [A] at hs S;have hj:j<1048575:=by have:=r.dom _ _ A;have:=w.big;omega
    rcases Fj e with ⟨hex,e⟩ | ⟨hex,e⟩
    ·subst hex
     have M:b≠[]->K (.val (.ow id) (Ai h id (.row g U (Bu l new) false false false)))=some x->VOk X h n id idP K x (Pi.KL P X.h idP st sP p):=λF e=>by
      rw [E];have z:0<b.length:=List.length_pos_iff.2 F;rcases S with ⟨pid,len,o,fz',B,Z,L,h4,G,h7,O⟩ | ⟨_,B,_⟩ | ⟨_,_,B,_⟩
      ·cases B;simp only at hs;subst hs;obtain ⟨i,Y,y,q,I,_⟩:=ER (fz:=false) r w (O.append d) λ_=>by simp;omega
       refine ⟨_,_,_,i,Y,e,?_,q,I⟩;have k5:Nat.ble (len+b.length) 1048576=true:=by rw [<- G,<- O.length,<- d.length];simpa using k
       have k6:Nat.ble (0+len) o.length=true:=by rw [G];simp
       have k7:Nat.ble (0+len+b.length) o.length=false:=by
        cases S:Nat.ble (0+len+b.length) o.length with
        | false=>rfl
        | true=>have:=Nat.le_of_ble_eq_true S;omega
       have k8:(o.drop 0).take len=o:=by rw [List.drop_zero,List.take_of_length_le (by omega)]
       simp only [L,sm,k5,k6,Ca rfl O,k7,k8,Gh F,Bool.not_true,Bool.or_false,cond_false,cond_true,y];simp [G]
      ·cases B
      ·cases B
     have W:b=[]->K (.val (.ow j) h)=some x->VOk X h n id idP K x (Pi.KL P X.h idP st sP p):=λf e=>by
      rw [E];subst f;have N:VR X (.ow j) sP:=by simp only [VR];rw [A];exact hs
      rcases S with ⟨pid,len,o,fz',B,Z,L,h4,G,h7,O⟩ | ⟨_,B,_⟩ | ⟨_,_,B,_⟩
      ·cases B;simp only at hs;subst hs
       have k5:Nat.ble (len+([]:List PV).length) 1048576=true:=by
        rw [<- G,<- O.length];simp only [List.length_nil,Nat.add_zero,Nat.ble_eq];omega
       have k6:Nat.ble (0+len) o.length=true:=by rw [G];simp
       refine VOk.same r e ?_ N;simp only [L,sm,k5,k6,Ca rfl O,Bool.not_true,Bool.or_false,cond_false,cond_true,List.isEmpty_nil]
      ·cases B
      ·cases B
     rw [<- E];split at e
     ·exact M (cp ha hx) e
     ·simp only [cond_true] at e;replace e:=Ew e;rcases e with ⟨f,e⟩ | ⟨f,e⟩
      ·refine W ?_ e;have f:new.length=0:=Nat.eq_of_beq_eq_true f;rw [d.length] at f;exact List.eq_nil_of_length_eq_zero f
      ·refine M ?_ e;intro hn;subst hn;have:=d.nil_inv';subst this;cases f
    ·subst hex;rcases S with ⟨pid,len,o,fz',B,Z,L,h4,G,h7,O⟩ | ⟨B,_,Z⟩ | ⟨o,B,_,Z,L⟩
     ·cases B;simp only at hs;subst hs;have z:=h7 rfl;have k5:Nat.ble (len+b.length) 1048576=true:=by rw [<- G,<- O.length,<- d.length];simpa using k
      have k6:Nat.ble (0+len) o.length=true:=by rw [G];simp
      have k9:(Nat.beq len o.length&&Nat.beq 0 0&&Nat.blt 0 len)=true:=by rw [G];simp [z]
      obtain ⟨hD,eD⟩:=Do X.h pid .dead
      obtain ⟨Y0,z1,z2,z3,z4,z5⟩:=r.set (b':=.dead) hj C trivial rfl A L (by intros;simp) eD (λY hY1 hY2 hY3 _ pid' m' e=>by
       rw [A] at e;cases e
       exact ⟨by rw [hY3];exact Z,by rw [hY2,(Hp.get_set eD).1,if_pos rfl]⟩) idP
      have w0:Nw Y0 n id idP:=⟨by rw [z1];exact w.pi,w.lt,w.big,by
       rw [z2,(Hp.get_set eD).1];by_cases hq:idP=pid
       ·subst hq;have:=w.hp;rw [L] at this;cases this
       ·rw [if_neg hq];exact w.hp,by rw [z2,(Hp.get_set eD).2];exact w.hlt⟩
      have hmix:L2 (EP g (DR Y0.h Y0.Q U)) (l++new) (o++b):=(EDR.mono (z5 id).up O).append (EDR.mono (z5 id).up d);obtain ⟨i,Y,y,q,I,_⟩:=Ub z4 w0 h4 hmix λ_=>by simp;omega
      refine ⟨_,_,_,i,Y,e,?_,⟨q.1,q.2.1,(z5 id).trans q.2.2⟩,I⟩;rw [z2] at y;simp only [L,sm,k5,k6,Ca rfl O,k9,Bool.not_true,Bool.or_false,cond_false,cond_true,eD,y];simp [G]
     ·cases B;simp only at hs;subst hs;subst Z;obtain ⟨rd,sd⟩:=r.dead hj C rfl (λ_ _ e=>by rw [A] at e;cases e) idP;by_cases f:b=[]
      ·subst f;have:=d.nil_inv';subst this;obtain ⟨Y,y,q⟩:=Sj (fz:=fz) (g:=g) (c:=U) rd w;exact ⟨_,_,.nils,X.h,Y,e,rfl,⟨y.1,y.2.1,(sd id).trans y.2.2⟩,q⟩
      ·have z:0<b.length:=List.length_pos_iff.2 f;obtain ⟨i,Y,y,q,I,_⟩:=ER (fz:=fz) rd w d λ_=>z;refine ⟨_,_,_,i,Y,e,?_,⟨q.1,q.2.1,(sd id).trans q.2.2⟩,I⟩;rw [Gh f,sm,show Nat.ble b.length 1048576=true from by rw [<- d.length];simpa using k,y];rfl
     ·cases B;simp only at hs;subst hs;obtain ⟨rd,sd⟩:=r.dead hj C rfl (λ_ _ e=>by rw [A] at e;cases e) idP;by_cases f:b=[]
      ·subst f;have:=d.nil_inv';subst this
       have hx : ∃ Y,MD X (Ai h j .dead) n id idP (Ai (Ai h j .dead) id (.row g U l false fz false)) X.h Y/\VR Y (.ow id) (.lst true o):=by
        rcases Z with rfl | rfl
        ·exact mT (g:=g) (c:=U) (l:=l) rd w L
        ·rw [L.nil_inv];exact Sk (g:=g) (c:=U) (fz:=fz) rd w
       obtain ⟨Y,y,q⟩:=hx;refine ⟨_,_,_,X.h,Y,e,rfl,⟨?_,?_,?_⟩,q⟩
       ·exact y.1
       ·have:=y.2.1;rw [show Bu l []=l from List.append_nil l];exact this
       ·have:=y.2.2;rw [show Bu l []=l from List.append_nil l];exact (sd id).trans this
      ·obtain ⟨i,Y,y,q,I,_⟩:=ER (fz:=fz) rd w ((EPL.up L).append d) λ_=>by simp;have:=List.length_pos_iff.2 f;omega
       refine ⟨_,_,_,i,Y,e,?_,⟨q.1,q.2.1,(sd id).trans q.2.2⟩,I⟩;have G:Nat.ble (o.length+b.length) 1048576=true:=by rw [<- L.length,<- d.length];simpa using k
       dsimp only;rw [Gh f,sm,G,Ca rfl (EPL.up (hh:=X.h) (Q:=X.Q) L),y];simp
  ·cases e
 ·rename_i j off len;split at e
  ·rename_i g' U l C;replace e:=BD e;obtain ⟨hg,e⟩:=e;have:=eq_of_beq hg;subst this;replace e:=C8 e;obtain ⟨hc,e⟩:=e;subst hc;replace e:=Ax e;obtain ⟨D,e⟩:=e;replace e:=Ax e;obtain ⟨hin,e⟩:=e;have k:len+new.length<=1048576:=by simpa [BP,AA,Ag] using D
   have hin':off+len<=l.length:=by simpa [BP,AA,Ag] using hin
   have N:=hs;simp only [VR] at hs;obtain ⟨pid,m,A,rfl⟩:=hs;have hj:j<1048575:=by have:=r.dom _ _ A;have:=w.big;omega
   obtain ⟨o,fz',p3,p4,p5,p7,p6⟩:=r.rowAt A C;have:=p4 rfl;subst this;have hl:=p6.length;have k5:Nat.ble (len+b.length) 1048576=true:=by rw [<- d.length];simpa using k
   have k6:Nat.ble (off+len) o.length=true:=by rw [<- hl];simpa using hin'
   replace e:=Ew e;rcases e with ⟨f,e⟩ | ⟨f,e⟩
   ·have f:new.length=0:=Nat.eq_of_beq_eq_true f;rw [d.length] at f;have f:=List.eq_nil_of_length_eq_zero f;subst f;refine VOk.same r e ?_ N;simp only [p3,sm,k5,k6,Ca rfl p6,Bool.not_true,Bool.or_false,cond_false,cond_true,List.isEmpty_nil]
   ·have F:b≠[]:=λhn=>by
     subst hn;have:=d.nil_inv';subst this;cases f
    replace e:=Ew e;rcases e with ⟨S,e⟩ | ⟨S,e⟩
    ·have hb':off+len+b.length<=o.length:=by
      rw [<- hl,<- d.length];simpa [BP,Ag,AA] using S
     have k7:Nat.ble (off+len+b.length) o.length=true:=by simpa using hb'
     have htk:b.take new.length=b:=by rw [d.length,List.take_length]
     obtain ⟨i,eS⟩:=Do X.h pid (.row (Pi.EH o (off+len) b) true false)
     obtain ⟨Y,y,q,I,y4,y5⟩:=r.set (b':=.row g U (Jl l (Ag off len) new (AA new)) true false false) hj C trivial rfl A p3 (by intros;simp) eS
      (λY y q I u=>by
       rw [A];refine .inl ⟨pid,m,_,false,rfl,by rw [I];exact (A ▸ r.blk _ _ C).own trivial,by rw [q,(Hp.get_set eS).1,if_pos rfl],λ_=>rfl,?_,p7,EDR.mono u ?_⟩
       ·rw [Uc hb'];exact p5
       ·have:=YJ p6 d (off+len) new.length
        rw [htk] at this;exact this) idP
     refine ⟨_,_,.own pid off (len+b.length),i,Y,e,?_,⟨q,y4,y5 id⟩,by simp only [VR];exact ⟨pid,m,by rw [y];exact A,by simp [Ag,AA,d.length]⟩⟩;simp only [p3,sm,k5,k6,k7,Ca rfl p6,Gh F,Bool.not_true,Bool.or_false,cond_false,cond_true,eS];rfl
    ·have k7:Nat.ble (off+len+b.length) o.length=false:=by
      cases hq:Nat.ble (off+len+b.length) o.length with
      | false=>rfl
      | true =>
       have h7:=Nat.le_of_ble_eq_true hq;rw [<- hl,<- d.length] at h7;have:BP (Ag (Ag off len) (AA new)) (AA l)=true:=by simpa [BP,Ag,AA] using h7
       rw [this] at S;cases S
     have hsub:L2 (EP g (DR X.h X.Q U)) (EI l off (Ag off len)) ((o.drop off).take len):=by
      have:=(p6.drop off).take len;unfold EI Ag;rw [show off+len-off=len by omega];exact this
     have J:((o.drop off).take len).length=len:=by simp;omega
     have z:0<b.length:=List.length_pos_iff.2 F;obtain ⟨i,Y,y,q,I,_⟩:=ER (fz:=false) r w (hsub.append d) λ_=>by simp;omega
     refine ⟨_,_,_,i,Y,e,?_,q,I⟩;simp only [p3,sm,k5,k6,k7,Ca rfl p6,Gh F,Bool.not_true,Bool.or_false,cond_false,cond_true,y];simp [J]
  ·cases e
 ·cases e
end
end Go.Proofs.YtfilfloanndddaaGreat.Sv
namespace Go.Proofs.YtfilfloanndddaaGreat.Sv
variable [Pi.Gl]
open Go.Proofs.YtfilfloanndddaaGreat.Pi (PV T Hp Blk DF UM PE A5 BM)
section
variable {X:Cx} {h:H} {n id idP:Nat} {β:Type} {x:β} {P:Program}
theorem HW {k:Ty} {d:TypeDesc} {e:k.den->k.den->Bool} {a b:k.den} {p q:PV} (h:KY k d=true) (f:mK k=some e) (g:DP k a [p]) (c:DP k b [q]):Pi.SA d p q=some (e a b):=by
 cases k with
 | int i =>
  cases d<;>simp [KY] at h;cases f;simp only [DP,List.cons.injEq,and_true] at g c;subst g;subst c;simp [Pi.SA,A8]
 | bool =>
  cases d<;>simp [KY] at h;cases f;simp only [DP,List.cons.injEq,and_true] at g c;subst g;subst c;simp [Pi.SA,beq]
 | str =>
  cases d<;>simp [KY] at h;cases f;simp only [DP,List.cons.injEq,and_true] at g c;subst g;subst c;simp [Pi.SA,seq]
 | unit=>cases f
 | pair=>cases f
 | sl=>cases f
theorem Jr {k:Ty} {d:TypeDesc} (a:KY k d=true):Pi.HT d=true:=by
 cases k<;>cases d<;>simp [KY] at a<;>rfl
variable {k:Ty} {g:Bool} {c:Ty} {d:TypeDesc} {e:k.den->k.den->Bool}
theorem YK (b:KY k d=true) (f:mK k=some e) {a:k.den} {p:PV} (i:DP k a [p]) : ∀ {l:List (k.den×c.den)} {es:List (PV×PV)},L2 (MR X k g c) l es ->
  (JF e l a=none/\Pi.OY d es p=some none) \/ ∃ y v,JF e l a=some y/\Pi.OY d es p=some (some v)/\EP g (DR X.h X.Q c) y v
 | _,_,.nil => .inl ⟨rfl,rfl⟩
 | (a1,y1)::l,(p1,v1)::es,.cons h t=>by
  have j:=HW b f i h.1;unfold JF Pi.OY;rw [j];cases m:e a a1 with
  | true=>exact .inr ⟨y1,v1,rfl,rfl,h.2⟩
  | false=>simpa using YK b f i t
theorem Mg (i:KY k d=true) (j:mK k=some e) {a:k.den} {p:PV} (b:DP k a [p]) {y:c.den} {v:PV} (f:EP g (DR X.h X.Q c) y v) : ∀ {l:List (k.den×c.den)} {es:List (PV×PV)},L2 (MR X k g c) l es ->
  ∃ es',Pi.IW d es p v=some es'/\L2 (MR X k g c) (IW e l a y) es'
 | _,_,.nil=>⟨[(p,v)],rfl,.cons ⟨b,f⟩ .nil⟩
 | (a1,y1)::l,(p1,v1)::es,.cons h t=>by
  have n:=HW i j b h.1;unfold IW Pi.IW;rw [n];cases q:e a a1 with
  | true=>exact ⟨_,rfl,.cons ⟨b,f⟩ t⟩
  | false =>
   obtain ⟨es',o,m⟩:=Mg i j b f t;exact ⟨(p1,v1)::es',by simp [o],.cons h m⟩
theorem Ml (b:KY k d=true) (f:mK k=some e) {a:k.den} {p:PV} (i:DP k a [p]) : ∀ {l:List (k.den×c.den)} {es:List (PV×PV)},L2 (MR X k g c) l es ->
  ∃ es',Pi.KN d es p=some es'/\L2 (MR X k g c) (KN e l a) es'
 | _,_,.nil=>⟨[],rfl,.nil⟩
 | (a1,y1)::l,(p1,v1)::es,.cons h t=>by
  have m:=HW b f i h.1;unfold KN Pi.KN;rw [m];cases o:e a a1 with
  | true=>exact ⟨_,rfl,t⟩
  | false =>
   obtain ⟨es',n,j⟩:=Ml b f i t;exact ⟨(p1,v1)::es',by simp [n],.cons h j⟩
theorem DP.key {hh:Hp} {Q:Nat->Prop} (b:mK k=some e) {a:k.den} {c:List PV} (h:DR hh Q k a c):DP k a c:=by
 cases k with
 | int | bool | str=>exact h
 | unit=>cases b
 | pair=>cases b
 | sl=>cases b
end
section
variable {X:Cx} {h:H} {n id idP:Nat} {β:Type} {x:β} {P:Program}
theorem Sl (r:RH X h n) {ty:TypeId} {m v:V} {w p:PV} {K:(j:Nat)->(k:Ty)->(g:Bool)->(c:Ty)->List (k.den×c.den)->Bool->(k.den->k.den->Bool)->k.den->Option β}
  (y:VR X m w) (D:VR X v p) (e:cV P ty m v h K=some x) :
  ∃ j k g c l i f a o t d pid s es,K j k g c l i f a=some x/\m = .mp j/\h.get j=some (.mp k g c l i)/\X.π j=some (.blk pid s)/\w = .mp pid/\X.h.get pid=some (.mp es)/\L2 (MR X k g c) l es /\
   P.underlying ty=some (.map o t)/\P.underlying o=some d/\KY k d=true/\mK k=some f/\DP k a [p]:=by
 unfold cV at e;split at e
 ·rename_i o t j E;split at e
  ·rename_i d k g c l i F z;replace e:=BD e;obtain ⟨G,e⟩:=e;replace e:=AZ e;obtain ⟨f,A,e⟩:=e;replace e:=NB (VRL.cons D .nil) e;obtain ⟨a,S,O,q,e,B,L,I⟩:=e;split at e
   ·rw [I.nil_inv,List.append_nil] at B;simp only [VR] at y;obtain ⟨pid,s,b,rfl⟩:=y;have u:=r.blk _ _ z;rw [b] at u;obtain ⟨_,_,es,C,N,J,M⟩:=u;cases C;exact ⟨j,k,g,c,l,i,f,a,o,t,d,_,s,es,e,rfl,z,b,rfl,J,M,E,F,G,A,DP.key A (B ▸ L)⟩
   ·cases e
  ·cases e
 ·cases e
theorem WC (r:RH X h n) {ty:TypeId} {m k:V} {M p:PV} {i:Bool} {K:V->Option β} (G:VR X m M) (Y:VR X k p) (e:Sa P h ty m k i K=some x) :
  ∃ v q,K v=some x/\Pi.IC P X.h ty M p i=some (.val q X.h)/\VR X v q:=by
 unfold Sa at e;split at e
 ·simp only [VR] at G;subst G;split at e
  ·rename_i kt et t;split at e
   ·rename_i d z w D;replace e:=BD e;obtain ⟨E,e⟩:=e;obtain ⟨F,C,u⟩:=L9 (X:=X) D;refine ⟨_,bif i then .tup [F,.bool false] else F,e,?_,?_⟩
    ·unfold Pi.IC;simp only [t,Pi.Tb,w,E,Bool.not_true,cond_false,Pi.OY,C];rfl
    ·cases i
     ·exact u
     ·simp only [cond_true,VR];exact ⟨_,rfl,.cons u (.cons (by simp [VR]) .nil)⟩
   ·cases e
  ·cases e
 ·rename_i S;replace e:=Sl r G Y e;obtain ⟨j,kk,g,c,l,lk,f,a,kt,et,d,pid,m',es,e,rfl,hg,U,rfl,O,h6,t,w,o,hf,J⟩:=e;simp only [t] at e;replace e:=AZ e;obtain ⟨z,D,e⟩:=e;obtain ⟨F,C,u⟩:=L9 (X:=X) D;replace e:=Kd u e;obtain ⟨y,e,Z⟩:=e
  have s : ∀ {A:c.den} {B:PV} {b:Bool},EP g (DR X.h X.Q c) A B->VR X (bif i then V.tup [ZP g c A,.bool b] else ZP g c A) (bif i then PV.tup [B,.bool b] else B):=by
   intro A B b N;cases i
   ·exact MB N
   ·simp only [cond_true,VR];exact ⟨_,rfl,.cons (MB N) (.cons (by simp [VR]) .nil)⟩
  rcases YK (d:=d) o hf J h6 with ⟨L,I⟩ | ⟨y',v',L,I,W⟩
  ·refine ⟨_,_,e,?_,by rw [L];exact s Z⟩;unfold Pi.IC;simp only [t,Pi.Tb,O,w,Jr o,Bool.not_true,cond_false,I,C];rfl
  ·refine ⟨_,_,e,?_,by rw [L];exact s W⟩;unfold Pi.IC;simp only [t,Pi.Tb,O,w,Jr o,Bool.not_true,cond_false,I];rfl
theorem RH.mapSet (r:RH X h n) (D:n<=1048575) {j pid m:Nat} {k:Ty} {g:Bool} {c:Ty} {l l':List (k.den×c.den)} {es es':List (PV×PV)} (w:h.get j=some (.mp k g c l false)) (b:X.π j=some (.blk pid m)) (A:X.h.get pid=some (.mp es)) (C:L2 (MR X k g c) l' es') :
  ∃ a Y,X.h.set pid (.mp es')=some a /\ ∀ i d,MD X h n i d (Ai h j (.mp k g c l' false)) a Y:=by
 obtain ⟨a,e⟩:=Do X.h pid (.mp es');have B:j<1048575:=by have:=r.dom _ _ b;omega
 have key : ∀ d,∃ Y:Cx,Y.π=X.π/\Y.h=a/\Y.O=X.O/\RH Y (Ai h j (.mp k g c l' false)) n /\ ∀ i,St X h i d Y (Ai h j (.mp k g c l' false)):=λd =>
  r.set (b':=.mp k g c l' false) B w trivial rfl b A (by intros;simp) e (λY p f o u=>by
   rw [b]
   exact ⟨pid,m,es',rfl,by rw [o];exact (b ▸ r.blk _ _ w).own trivial,by rw [f,(Hp.get_set e).1,if_pos rfl],C.mono λ_ _ m=>⟨m.1,m.2.mono λ_ _ k=>DR.mono u.rows k⟩⟩) d
 obtain ⟨Y,p,f,o,z,E⟩:=key 0;refine ⟨a,Y,e,λi d=>⟨f,z,?_⟩⟩;obtain ⟨x,t,q,s,F,y⟩:=key d
 have:x=Y:=by
  cases Y;cases x;simp only at p f o t q s;subst p;subst f;subst o;subst t;subst q;subst s;rfl
 subst this;exact y i
theorem Ll (r:RH X h n) (G:n<=1048575) {ty:TypeId} {m k v:V} {u p q:PV} {K:H->Option β} (I:VR X m u) (E:VR X k p) (B:VR X v q) (id idP:Nat) (e:Jm P h ty m k v K=some x) :
  ∃ h' b Y,K h'=some x/\Pi.GL P X.h ty u p q=some (.skip b)/\MD X h n id idP h' b Y:=by
 unfold Jm at e;replace e:=Sl r I E e;obtain ⟨j,W,g,c,l,O,f,a,Z,U,d,pid,S,es,e,rfl,J,o,rfl,w,N,C,D,i,L,t⟩:=e;replace e:=DL e;obtain ⟨s,e⟩:=e;subst s;replace e:=Kd B e;obtain ⟨y,e,F⟩:=e;obtain ⟨es',A,M⟩:=Mg (d:=d) i L t F N;obtain ⟨b,Y,e1,z⟩:=r.mapSet G J o w M;refine ⟨_,b,Y,e,?_,z id idP⟩;unfold Pi.GL;simp only [C,D,Jr i,Bool.not_true,cond_false,w,A,e1];rfl
theorem Pu {f:Int->Int->Int} {F:Int->Int->Int} (g : ∀ a b,f a b=F a b) {k:IntKind} : ∀ {m:Int} {vs:List V} {d:List PV} {K:Int->Option β},VRL X vs d->RQ f k m vs K=some x -> ∃ r,K r=some x/\Pi.F7 F m d k=some r
 | m,[],_,K,h,e=>by rw [h.nil_inv];exact ⟨m,e,rfl⟩
 | m,v::vs,_,K,h,e=>by
  obtain ⟨p,q,rfl,i,l⟩:=h.cons_inv;cases v with
  | int n y =>
   unfold RQ at e;replace e:=BD e;obtain ⟨j,e⟩:=e;simp only [VR] at i;subst i;obtain ⟨r,e1,o⟩:=Pu g l e;refine ⟨r,e1,?_⟩;have c:(n == k)=true:=by rw [beq_iff_eq] at j ⊢;exact j.symm
   unfold Pi.F7;rw [c,<- g];exact o
  | _=>simp [RQ] at e
theorem Ud (r:RH X h n) (w:Nw X n id idP) {b:Builtin} {D:Array TypeId} {args:List V} {ps:List PV} {K:RA->Option β} (S:VRL X args ps) (e:Ph P h id b D args K=some x) :
  VOk X h n id idP K x (Pi.Al P X.h idP b D ps)\/(∃ v p,K (.pan v)=some x/\Pi.Al P X.h idP b D ps=some (.pan p)/\VR X v p)\/(K .rcv=some x/\Pi.Al P X.h idP b D ps=some .rcv):=by
 unfold Ph at e;split at e
 ·
  split at e
  ·rename_i a t M;obtain ⟨p,J,rfl,o,B⟩:=S.cons_inv;rw [B.nil_inv];obtain ⟨m,e1,e2⟩:=kP r M o e idP;exact .inl (.same r e1 e2 (by simp [VR]))
  ·cases e
 ·
  split at e
  ·rename_i a t M;obtain ⟨p,J,rfl,o,B⟩:=S.cons_inv;rw [B.nil_inv];split at e
   ·rename_i et j E;split at e
    ·rename_i g c l fz lk C;simp only [VR] at o;cases i:X.π j with
     | none=>rw [i] at o;exact o.elim
     | some tt =>
      rw [i] at o;have O:=r.blk _ _ C;rw [i] at O;rcases O with ⟨pid,len,es,fz',G,k2,U,k4,k5,k7,L⟩ | ⟨_,G,_⟩ | ⟨_,_,G,_⟩
      ·cases G;simp only at o;subst o;refine .inl (.same r e (p:=.int .i64 (es.length-0:Nat)) ?_ (by simp [VR,Ab,AA,L.length]));unfold Pi.Al;simp only [M,E,U]
      ·cases G
      ·cases G
    ·cases e
   ·rename_i et j off len E;split at e
    ·rename_i g c l fz lk C;simp only [VR] at o;obtain ⟨pid,m,i,rfl⟩:=o;obtain ⟨es,fz',h3,_,h5,_,h6⟩:=r.rowAt i C;refine .inl (.same r e (p:=.int .i64 (es.length-off:Nat)) ?_ (by simp [VR,Ab,SV,AA,h6.length]));unfold Pi.Al;simp only [M,E,h3]
    ·cases e
   ·rename_i E;simp only [VR] at o;subst o;refine .inl (.same r e (p:=.int .i64 0) ?_ (by simp [VR]));unfold Pi.Al;simp only [M,E]
   ·cases e
  ·cases e
 ·
  split at e
  ·rename_i s a t t' hts;replace e:=BD e;obtain ⟨O,e⟩:=e;obtain ⟨p,J,rfl,o,B⟩:=S.cons_inv;obtain ⟨q,J,rfl,h3,Z⟩:=B.cons_inv;rw [Z.nil_inv];have:=kS r w o h3 e;refine .inl ?_
   have hp:Pi.Al P X.h idP .append D [p,q]=Pi.KL P X.h idP t p q:=by
    unfold Pi.Al;simp only [hts,O,cond_true]
   rw [hp];exact this
  ·cases e
 ·
  split at e
  ·rename_i dst a t M;obtain ⟨p,J,rfl,o,B⟩:=S.cons_inv;obtain ⟨q,J,rfl,h3,Z⟩:=B.cons_inv;rw [Z.nil_inv];replace e:=AZ e;obtain ⟨⟨g,c⟩,hel,e⟩:=e;replace e:=DL e;obtain ⟨A,e⟩:=e;replace e:=RW r h3 e;obtain ⟨new,W,e,hx,N⟩:=e;have A:RP P t c=true:=by simpa using A
   have go : ∀ {j pid m off len:Nat} {l:List c.den} {ex:Bool} {es:List PV},h.get j=some (.row g c l ex false false)->X.π j=some (.blk pid m)->X.h.get pid=some (.row es ex false)->es.length=m->(ex=false->0<m)->L2 (EP g (DR X.h X.Q c)) l es->off+len<=es.length ->
     K (.val (.int .i64 (Ab (kA (AA new) len))) (Ai h j (.row g c (Jl l off new len) ex false false)))=some x->VOk X h n id idP K x (Pi.Al P X.h idP .copy D [.own pid off len,q]):=by
    intro j pid m off len l ex es C i U k5 k9 L hle e;obtain ⟨I,eS⟩:=Do X.h pid (.row (Pi.EH es off (W.take len)) ex false);have hj:j<1048575:=by have:=r.dom _ _ i;have:=w.big;omega
    obtain ⟨Y,y1,y2,y3,y4,y5⟩:=r.set (b':=.row g c (Jl l off new len) ex false false) hj C trivial rfl i U (by intros;simp) eS
     (λY y1 y2 y3 u=>by
      rw [i];refine .inl ⟨pid,m,_,false,rfl,by rw [y3];exact (i ▸ r.blk _ _ C).own trivial,by rw [y2,(Hp.get_set eS).1,if_pos rfl],λ_=>rfl,?_,k9,EDR.mono u (YJ L N off len)⟩
      rw [Uc (by simp;omega)];exact k5) idP
    refine ⟨_,_,.int .i64 (Nat.min W.length len:Nat),I,Y,e,?_,⟨y2,y4,y5 id⟩,by simp [VR,Ab,kA,AA,N.length]⟩;unfold RP at A;split at A
    ·rename_i et E;split at A
     ·rename_i ti z hti hz;simp only [Bool.and_eq_true,Nat.beq_eq] at A;obtain ⟨⟨⟨g1,g2⟩,g3⟩,g4⟩:=A;have htz:Pi.Bc P et=some ti.size:=by unfold Pi.Bc;rw [hti];rfl
      unfold Pi.Al;simp only [M,E,U,hx,htz];rw [cm g1 N,show Nat.ble (off+len) es.length=true from by simpa using hle,g4,Ca g1 L];simp [eS]
     ·cases A
    ·cases A
   refine .inl ?_;split at e
   ·rename_i j;split at e
    ·rename_i g' c' l C;replace e:=BD e;obtain ⟨hgg,e⟩:=e;have:=eq_of_beq hgg;subst this;replace e:=C8 e;obtain ⟨hc,e⟩:=e;subst hc;simp only [VR] at o;cases i:X.π j with
     | none=>rw [i] at o;exact o.elim
     | some tt =>
      rw [i] at o;have O:=r.blk _ _ C;rw [i] at O;rcases O with ⟨pid,len,es,fz',G,k2,U,k4,k5,k7,L⟩ | ⟨_,G,_⟩ | ⟨_,_,G,_⟩
      ·cases G;simp only at o;subst o;have:=k4 rfl;subst this;have hl:AA l=len:=by rw [<- k5,<- L.length];rfl
       rw [hl] at e;exact go C i U k5 k7 L (by omega) e
      ·cases G
      ·cases G
    ·cases e
   ·rename_i j off len;split at e
    ·rename_i g' c' l ex C;replace e:=BD e;obtain ⟨hgg,e⟩:=e;have:=eq_of_beq hgg;subst this;replace e:=C8 e;obtain ⟨hc,e⟩:=e;subst hc;replace e:=Ax e;obtain ⟨hle,e⟩:=e;simp only [VR] at o;obtain ⟨pid,m,i,rfl⟩:=o;obtain ⟨es,fz',U,k4,k5,k7,L⟩:=r.rowAt i C;have:=k4 rfl;subst this;exact go C i U k5 k7 L (by rw [<- L.length];simpa [BP,Ag,AA] using hle) e
    ·cases e
   ·cases e
  ·cases e
 ·
  split at e
  ·rename_i j t M;obtain ⟨p,J,rfl,o,B⟩:=S.cons_inv;rw [B.nil_inv];split at e
   ·rename_i kt et kk g c l E C;simp only [VR] at o;obtain ⟨pid,m,i,rfl⟩:=o;have O:=r.blk _ _ C;rw [i] at O;obtain ⟨_,_,es,k2,U,k4,L⟩:=O;cases k2;obtain ⟨I,Y,e1,y1⟩:=r.mapSet w.big C i k4 (l':=[]) (es':=[]) .nil;refine .inl ⟨_,_,.tup [],I,Y,e,?_,y1 id idP,by simp [VR,VRL]⟩;unfold Pi.Al;simp only [M,E,k4,e1];rfl
   ·cases e
  ·cases e
 ·
  split at e
  ·rename_i m v t M;obtain ⟨p,J,rfl,o,B⟩:=S.cons_inv;obtain ⟨q,J,rfl,h3,Z⟩:=B.cons_inv;rw [Z.nil_inv];replace e:=Sl r o h3 e;obtain ⟨j,kk,g,c,l,lk,f,a,kt,et,d,pid,m',es,e,rfl,C,i,rfl,Z,h6,E,hd,hko,hf,hdp⟩:=e;replace e:=DL e;obtain ⟨hlk,e⟩:=e;subst hlk;obtain ⟨es',p1,p2⟩:=Ml (d:=d) hko hf hdp h6;obtain ⟨I,Y,e1,y1⟩:=r.mapSet w.big C i Z p2;refine .inl ⟨_,_,.tup [],I,Y,e,?_,y1 id idP,by simp [VR,VRL]⟩;unfold Pi.Al;simp only [M,E,Z,hd,Jr hko,Bool.not_true,cond_false,p1,e1];rfl
  ·cases e
 ·
  split at e
  ·rename_i k a vs;obtain ⟨p,J,rfl,o,B⟩:=S.cons_inv;simp only [VR] at o;subst o;obtain ⟨rr,e1,e2⟩:=Pu (F:=λm y=>if y>m then y else m) (λa b=>rfl) B e
   refine .inl (.same r e1 (p:=.int k rr) ?_ (by simp [VR]));unfold Pi.Al;simp only [e2];rfl
  ·cases e
 ·
  split at e
  ·rename_i k a vs;obtain ⟨p,J,rfl,o,B⟩:=S.cons_inv;simp only [VR] at o;subst o;obtain ⟨rr,e1,e2⟩:=Pu (F:=λm y=>if y<m then y else m) (λa b=>rfl) B e
   refine .inl (.same r e1 (p:=.int k rr) ?_ (by simp [VR]));unfold Pi.Al;simp only [e2];rfl
  ·cases e
 ·
  split at e
  ·rename_i t v;obtain ⟨p,J,rfl,o,B⟩:=S.cons_inv;rw [B.nil_inv];simp only [VR] at o;obtain ⟨q,rfl,o⟩:=o;exact .inr (.inl ⟨_,_,e,rfl,by simp only [VR];exact ⟨q,rfl,o⟩⟩)
  ·cases e
 ·exact .inr (.inr ⟨e,rfl⟩)
 ·cases e
end
end Go.Proofs.YtfilfloanndddaaGreat.Sv
namespace Go.Proofs.YtfilfloanndddaaGreat.Sv
variable [Pi.Gl]
open Go.Proofs.YtfilfloanndddaaGreat.Pi (PV T Hp Blk DF UM PE A5 BM AS Bg CH)
section
variable {X:Cx} {h:H} {n id idP:Nat} {β:Type} {x:β} {P:Program}
theorem I2 {f:PV->Option (PV×List Nat)} : ∀ {a b c g:List PV} {d e:List Nat},AS f a=some (c,d)->AS f b=some (g,e)->AS f (a++b)=some (c++g,d++e)
 | [],b,c,g,d,e,h1,h2=>by cases h1;exact h2
 | p::a,b,c,g,d,e,h1,h2=>by
  simp only [AS] at h1;split at h1
  ·rename_i q l h m e1 e2;cases h1;have:=I2 e2 h2
   show (match f p,AS f (a++b) with
    | some (q,a),some (h,b)=>some (q::h,a++b)
    | _,_=>none)=_
   rw [e1,this];simp
  ·cases h1
theorem ES {f:PV->Option (PV×List Nat)} {p q:PV} {l:List Nat} (h:f p=some (q,l)):AS f [p]=some ([q],l):=by simp [AS,h]
def Met (h:Hp) (Q:Nat->Prop) (l:List Nat):Prop := ∀ i∈l,Q i /\ ∃ es ex fz,h.get i=some (.row es ex fz)
theorem Met.nil {h:Hp} {Q:Nat->Prop}:Met h Q []:=λ_ hi=>by cases hi
theorem Met.append {h:Hp} {Q:Nat->Prop} {a b:List Nat} (d:Met h Q a) (c:Met h Q b):Met h Q (a++b):=λi hi=>(List.mem_append.1 hi).elim (d i) (c i)
theorem Met.mono {h:Hp} {Q b:Nat->Prop} {a:List Nat} (f : ∀ i,Q i->b i) (c:Met h Q a):Met h b a:=λi hi=>⟨f _ (c i hi).1,(c i hi).2⟩
theorem Ue {hh:Hp} {Q:Nat->Prop} {g:Bool} {c:Ty} {d:Nat} (o : ∀ {y:c.den} {n:List PV},DR hh Q c y n -> ∀ i,2*c.depth+1<=i -> ∃ b a,AS (Bg hh i) n=some (b,a)/\DP c y b/\Met hh Q a) (r:2*c.depth+2<=d)
  {y:c.den} {e:PV} (h:EP g (DR hh Q c) y e) : ∃ q a,Bg hh d e=some (q,a)/\EP g (DP c) y q/\Met hh Q a:=by
 cases g with
 | true =>
  obtain ⟨cs,rfl,h⟩:=h;obtain ⟨d,rfl⟩ : ∃ i,d=i+1:=⟨d-1,by omega⟩;obtain ⟨b,a,f,j,k⟩:=o h d (by omega);exact ⟨.agg b,a,by simp only [Bg,f];rfl,⟨b,rfl,j⟩,k⟩
 | false =>
  obtain ⟨b,a,f,j,k⟩:=o (show DR hh Q c y [e] from h) d (by omega);simp only [AS] at f;split at f
  ·rename_i q l p m e1 e2;cases e2;cases f;exact ⟨q,l,e1,j,by simpa using k⟩
  ·cases f
theorem RX {α:Type} {hh:Hp} {Q:Nat->Prop} {R S:α->PV->Prop} {d:Nat} (f : ∀ y e,R y e -> ∃ q c,Bg hh d e=some (q,c)/\S y q/\Met hh Q c) :
  ∀ {l:List α} {es:List PV},L2 R l es -> ∃ g c,AS (Bg hh d) es=some (g,c)/\L2 S l g/\Met hh Q c
 | _,_,.nil=>⟨[],[],rfl,.nil,.nil⟩
 | _,_,.cons h t=>by
  obtain ⟨q,a,k,i,o⟩:=f _ _ h;obtain ⟨g,b,n,j,m⟩:=RX f t;exact ⟨q::g,a++b,by simp [AS,k,n],.cons i j,o.append m⟩
theorem Ke : ∀ {hh:Hp} {Q:Nat->Prop} {c:Ty} {y:c.den} {m:List PV},DR hh Q c y m -> ∀ d,2*c.depth+1<=d -> ∃ o j,AS (Bg hh d) m=some (o,j)/\DP c y o/\Met hh Q j
 | hh,Q,.int k,y,m,e,d,hd=>by
  obtain ⟨d,rfl⟩ : ∃ l,d=l+1:=⟨d-1,by omega⟩;subst e;exact ⟨[_],[],ES rfl,rfl,.nil⟩
 | hh,Q,.bool,y,m,e,d,hd=>by
  obtain ⟨d,rfl⟩ : ∃ l,d=l+1:=⟨d-1,by omega⟩;subst e;exact ⟨[_],[],ES rfl,rfl,.nil⟩
 | hh,Q,.str,y,m,e,d,hd=>by
  obtain ⟨d,rfl⟩ : ∃ l,d=l+1:=⟨d-1,by omega⟩;subst e;exact ⟨[_],[],ES rfl,rfl,.nil⟩
 | hh,Q,.unit,y,m,e,d,hd=>by subst e;exact ⟨[],[],rfl,rfl,.nil⟩
 | hh,Q,.pair a b,y,m,⟨p,q,e,D,n⟩,d,hd=>by
  subst e;have u:(Ty.pair a b).depth=Nat.max a.depth b.depth:=rfl;rw [u] at hd;have C:=Nat.le_max_left a.depth b.depth;have N:=Nat.le_max_right a.depth b.depth;obtain ⟨z,F,r,w,x⟩:=Ke D d (by have:a.depth<=Nat.max a.depth b.depth:=C;omega);obtain ⟨B,G,M,L,E⟩:=Ke n d (by have:b.depth<=Nat.max a.depth b.depth:=N;omega);exact ⟨z++B,F++G,I2 r M,⟨z,B,rfl,w,L⟩,x.append E⟩
 | hh,Q,.sl g c,y,m,⟨p,e,h⟩,d,hd=>by
  subst e;have u:(Ty.sl g c).depth=c.depth+1:=rfl;rw [u] at hd;obtain ⟨d,rfl⟩ : ∃ l,d=l+1:=⟨d-1,by omega⟩;rcases h with ⟨rfl,rfl⟩ | ⟨f,es,rfl,n⟩ | ⟨pid,off,len,es,ex,fz,rfl,n,A,K,O,J⟩
  ·exact ⟨[.nils],[],ES rfl,⟨_,rfl,.inl ⟨rfl,rfl⟩⟩,.nil⟩
  ·exact ⟨[.lst f es],[],ES rfl,⟨_,rfl,.inr ⟨f,es,rfl,n⟩⟩,.nil⟩
  ·obtain ⟨o,j,r,w,x⟩:=RX (λy e I=>Ue (d:=d) (λt l s=>Ke t l s) (by omega) I) J;refine ⟨[.lst false o],pid::j,ES ?_,⟨_,rfl,.inr ⟨false,o,rfl,w⟩⟩,λi hi => ?_⟩
   ·simp only [Bg,A];rw [show Nat.ble (off+len) es.length=true from by simpa using K];simp only [cond_true,r];rfl
   ·rcases List.mem_cons.1 hi with rfl | hi
    ·exact ⟨n,es,ex,fz,A⟩
    ·exact x i hi
theorem YL : ∀ {hh:Hp} {Q m:Nat->Prop} {c:Ty} {y:c.den} {l:List PV},DX hh Q m c y l->(∀ i,m i->Q i) -> ∀ d,2*c.depth+1<=d -> ∃ o j,AS (Bg hh d) l=some (o,j)/\DP c y o/\Met hh Q j
 | hh,Q,m,.int k,y,l,e,f,d,hd=>Ke (c:=.int k) e d hd
 | hh,Q,m,.bool,y,l,e,f,d,hd=>Ke (c:=.bool) e d hd
 | hh,Q,m,.str,y,l,e,f,d,hd=>Ke (c:=.str) e d hd
 | hh,Q,m,.unit,y,l,e,f,d,hd=>Ke (c:=.unit) e d hd
 | hh,Q,m,.pair a b,y,l,⟨p,q,e,E,n⟩,f,d,hd=>by
  subst e;have u:(Ty.pair a b).depth=Nat.max a.depth b.depth:=rfl;rw [u] at hd;have D:=Nat.le_max_left a.depth b.depth;have O:=Nat.le_max_right a.depth b.depth;obtain ⟨A,G,r,x,z⟩:=YL E f d (by have:a.depth<=Nat.max a.depth b.depth:=D;omega);obtain ⟨C,I,N,M,F⟩:=YL n f d (by have:b.depth<=Nat.max a.depth b.depth:=O;omega);exact ⟨A++C,G++I,I2 r N,⟨A,C,rfl,x,M⟩,z.append F⟩
 | hh,Q,m,.sl g c,y,l,⟨p,e,h⟩,f,d,hd=>by
  subst e;have u:(Ty.sl g c).depth=c.depth+1:=rfl;rw [u] at hd;obtain ⟨d,rfl⟩ : ∃ w,d=w+1:=⟨d-1,by omega⟩;rcases h with ⟨rfl,rfl⟩ | ⟨f,es,rfl,n⟩ | ⟨pid,off,len,es,ex,fz,rfl,n,B,L,P,K⟩
  ·exact ⟨[.nils],[],ES rfl,⟨_,rfl,.inl ⟨rfl,rfl⟩⟩,.nil⟩
  ·exact ⟨[.lst f es],[],ES rfl,⟨_,rfl,.inr ⟨f,es,rfl,n⟩⟩,.nil⟩
  ·obtain ⟨o,j,r,x,z⟩:=RX (λy e J=>Ue (d:=d) (λt w s=>Ke t w s) (by omega) J) K;refine ⟨[.lst false o],pid::j,ES ?_,⟨_,rfl,.inr ⟨false,o,rfl,x⟩⟩,λi hi => ?_⟩
   ·simp only [Bg,B];rw [show Nat.ble (off+len) es.length=true from by simpa using L];simp only [cond_true,r];rfl
   ·rcases List.mem_cons.1 hi with rfl | hi
    ·exact ⟨n,es,ex,fz,B⟩
    ·exact (z.mono f) i hi
theorem cq {hh:Hp} {Q n:Nat->Prop} {g:Bool} {c:Ty} {y:c.den} {e:PV} (f : ∀ i,n i->Q i) (h:EP g (DX hh Q n c) y e) {d:Nat} (s:2*c.depth+2<=d) :
  ∃ q a,Bg hh d e=some (q,a)/\EP g (DP c) y q/\Met hh Q a:=by
 cases g with
 | true =>
  obtain ⟨cs,rfl,h⟩:=h;obtain ⟨d,rfl⟩ : ∃ r,d=r+1:=⟨d-1,by omega⟩;obtain ⟨j,a,b,k,o⟩:=YL h f d (by omega);exact ⟨.agg j,a,by simp only [Bg,b];rfl,⟨j,rfl,k⟩,o⟩
 | false =>
  obtain ⟨j,a,b,k,o⟩:=YL (show DX hh Q n c y [e] from h) f d (by omega);simp only [AS] at b;split at b
  ·rename_i q l p m e1 e2;cases e2;cases b;exact ⟨q,l,e1,k,by simpa using o⟩
  ·cases b
theorem Em : ∀ {l:List Nat} {hh:Hp} {Q:Nat->Prop},Met hh Q l -> ∃ h',Pi.freeze hh l=some h'/\h'.nx=hh.nx /\ ∀ q,h'.get q=if q∈l then (match hh.get q with
  | some (.row es ex _)=>some (.row es ex true)
  | b=>b) else hh.get q
 | [],hh,Q,m=>⟨hh,rfl,rfl,λq=>by simp⟩
 | i::l,hh,Q,m=>by
  obtain ⟨_,es,ex,fz,hi⟩:=m i (by simp);obtain ⟨o,e1⟩:=Do hh i (.row es ex true);have g:=(Hp.get_set e1).1
  have n:Met o Q l:=λj k=>by
   obtain ⟨h,es',d,f,e⟩:=m j (by simp [k]);refine ⟨h,?_⟩;rw [g];by_cases c:j=i
   ·subst c;rw [if_pos rfl];exact ⟨es,ex,true,rfl⟩
   ·rw [if_neg c];exact ⟨es',d,f,e⟩
  obtain ⟨h',e2,e3,p⟩:=Em n;refine ⟨h',by simp only [Pi.freeze,hi,e1];exact e2,by rw [e3];exact (Hp.get_set e1).2,λq => ?_⟩;rw [p,g];by_cases a:q=i
  ·subst a;simp only [if_true,List.mem_cons,true_or,hi];split<;>rfl
  ·simp only [a,if_false,List.mem_cons,false_or]
theorem Kf : ∀ {l:List Nat} {h h':H},(∀ i∈l,i<1048575)->GB h l=some h'->(∀ i∈l,∃ g c y ex fz s,h.get i=some (.row g c y ex fz s))/\(∀ i b',h'.get i=some b'->h.get i=some b' \/ ∃ g c y ex fz s,i∈l/\h.get i=some (.row g c y ex fz s)/\b' = .row g c y ex true false) /\
  (∀ i∈l,∀ g c y ex fz s,h'.get i=some (.row g c y ex fz s)->fz=true) /\ ∀ i b,h.get i=some b->b.locked=true->h'.get i=some b
 | [],h,h',t,e=>by cases e;exact ⟨λi hi=>by simp at hi,λi b' t => .inl t,λi hi=>by simp at hi,λi b hi _=>hi⟩
 | j::l,h,h',t,e=>by
  unfold GB at e;split at e
  ·rename_i g c y ex fz s r;replace e:=Fj e;rcases e with ⟨J,e⟩ | ⟨J,e⟩
   ·subst J;obtain ⟨C,A,F,D⟩:=Kf (λi hi=>t i (by simp [hi])) e;refine ⟨λi hi => ?_,λi b' q => ?_,λi hi M N L B I G m => ?_,D⟩
    ·rcases List.mem_cons.1 hi with rfl | hi
     ·exact ⟨_,_,_,_,_,_,r⟩
     ·exact C i hi
    ·rcases A i b' q with a | ⟨x,w,u,f,k,n,a,o,p⟩
     ·exact .inl a
     ·exact .inr ⟨x,w,u,f,k,n,by simp [a],o,p⟩
    ·rcases List.mem_cons.1 hi with rfl | hi
     ·rcases A _ _ m with a | ⟨x,w,u,f,k,n,a,o,p⟩
      ·rw [r] at a;cases a;rfl
      ·cases p;rfl
     ·exact F i hi _ _ _ _ _ _ m
   ·replace e:=DL e;obtain ⟨E,e⟩:=e;subst E;have z:=t j (by simp);obtain ⟨C,A,F,D⟩:=Kf (λi hi=>t i (by simp [hi])) e;refine ⟨λi hi => ?_,λi b' q => ?_,λi hi M N L B I G m => ?_,λi b hi K => ?_⟩
    ·rcases List.mem_cons.1 hi with rfl | hi
     ·exact ⟨_,_,_,_,_,_,r⟩
     ·by_cases d:i=j
      ·subst d;exact ⟨_,_,_,_,_,_,r⟩
      ·have:=C i hi;rw [Au z,if_neg d] at this;exact this
    ·rcases A i b' q with a | ⟨x,w,u,f,k,n,a,o,p⟩
     ·rw [Au z] at a;by_cases d:i=j
      ·subst d;rw [if_pos rfl] at a;cases a;exact .inr ⟨g,c,y,ex,fz,false,by simp,r,rfl⟩
      ·rw [if_neg d] at a;exact .inl a
     ·rw [Au z] at o;by_cases d:i=j
      ·subst d;rw [if_pos rfl] at o;cases o;exact .inr ⟨g,c,y,ex,fz,false,by simp,r,p⟩
      ·rw [if_neg d] at o;exact .inr ⟨x,w,u,f,k,n,by simp [a],o,p⟩
    ·rcases List.mem_cons.1 hi with rfl | hi
     ·rcases A _ _ m with a | ⟨x,w,u,f,k,n,a,o,p⟩
      ·rw [Au z,if_pos rfl] at a;cases a;rfl
      ·cases p;rfl
     ·exact F i hi _ _ _ _ _ _ m
    ·refine D i b ?_ K;rw [Au z,if_neg]
     ·exact hi
     ·intro hh;subst hh;rw [r] at hi;cases hi;cases K
  ·cases e
theorem RH.frozen (r:RH X h n) (hn:n<=1048575) {l lP:List Nat} {h':H} {j:Hp} (hl : ∀ i∈l,∃ a,X.π i=some a) (e:GB h l=some h') (F:j.nx=X.h.nx) (W : ∀ q,j.get q=if q∈lP then (match X.h.get q with
  | some (.row es ex _)=>some (.row es ex true)
  | b=>b) else X.h.get q) (hm : ∀ q∈lP,X.O q -> ∃ i∈l,∃ m,X.π i=some (.blk q m)) (id idP:Nat) :
  ∃ Y:Cx,Y.π=X.π/\Y.O=X.O/\MD X h n id idP h' j Y:=by
 have hb : ∀ i∈l,i<1048575:=λi hi=>by obtain ⟨a,ha⟩:=hl i hi;have:=r.dom _ _ ha;omega
 obtain ⟨k1,k2,k3,k4⟩:=Kf hb e
 let Y:Cx:={ π:=X.π,h:=j,O:=X.O }
 have o : ∀ q es ex fz,X.h.get q=some (.row es ex fz) -> ∃ s,j.get q=some (.row es ex s)/\(q ∉ lP->s=fz):=λq es ex fz x=>by
  rw [W];by_cases hi:q∈lP
  ·rw [if_pos hi,x];exact ⟨true,rfl,λh=>absurd hi h⟩
  ·rw [if_neg hi];exact ⟨fz,x,λ_=>rfl⟩
 have f : ∀ q,(∀ es ex fz,X.h.get q≠some (.row es ex fz))->j.get q=X.h.get q:=λq x=>by
  rw [W];split
  ·split
   ·rename_i es ex fz he;exact absurd he (x _ _ _)
   ·rfl
  ·rfl
 have u:Up X Y:=⟨λ_ _ h=>h,λq es ex fz x hg=>⟨by obtain ⟨s,B,_⟩:=o _ _ _ _ hg;exact ⟨s,B⟩,x⟩⟩
 have live : ∀ {i:Nat} {b':BA},h'.get i=some b'->b'.live -> ∃ b,h.get i=some b/\b.live:=λhi hv=>by
  rcases k2 _ _ hi with B | ⟨g1,c1,y1,S,Z,lk1,B,I,h3⟩
  ·exact ⟨_,B,hv⟩
  ·exact ⟨_,I,trivial⟩
 refine ⟨Y,rfl,rfl,rfl,⟨λi b' hi => ?_,λi i' b b' q m1 m2 hi C l1 l2 a1 a2 => ?_,r.dom,λq x => ?_,λq x=>by
  show j.get q≠none;rw [W];have:=r.ob _ x;split
  ·split<;>simp_all
  ·exact this⟩,⟨u,F,λ_ _ h=>h,λq x G => ?_,k4,λq st pe nt t P U K d x => ?_⟩⟩
 ·
  rcases k2 _ _ hi with B | ⟨g1,c1,y1,S,Z,lk1,B,I,h3⟩
  ·have hB:=r.blk _ _ B;cases b' with
   | row g c y ex fz lk =>
    rcases hB with ⟨pid,len,es,s,z,w,p,A,E,p7,L⟩ | hB | hB
    ·obtain ⟨D,q1,q2⟩:=o _ _ _ _ p;refine .inl ⟨pid,len,es,D,z,w,q1,λJ => ?_,E,p7,EDR.mono u L⟩;by_cases N:pid∈lP
     ·obtain ⟨i',C,m,M⟩:=hm _ N w;obtain ⟨g2,c2,y2,ex2,fz3,lk2,h4⟩:=k1 _ C;have:=r.inj _ _ _ _ _ _ _ B h4 trivial trivial z M;subst this;have:=k3 _ C _ _ _ _ _ _ hi;rw [this] at J;cases J
     ·rw [q2 N];exact A J
    ·exact .inr (.inl hB)
    ·exact .inr (.inr hB)
   | box cs fz lk =>
    obtain ⟨pid,m,P,s,z,w,p,A,E⟩:=hB;exact ⟨pid,m,P,s,z,w,by show j.get pid=_;rw [f _ (by rw [p];intros;simp),p],A,E.mono u⟩
   | mp k g c y lk =>
    obtain ⟨pid,m,es,z,w,p,A⟩:=hB;exact ⟨pid,m,es,z,w,by show j.get pid=_;rw [f _ (by rw [p];intros;simp),p],A.mono λ_ _ m=>⟨m.1,m.2.mono λ_ _ k=>DR.mono u.rows k⟩⟩
   | lp st pend nt t P U K d =>
    obtain ⟨pid,m,tP,dP,m2,z,w,p,A,E,L⟩:=hB;exact ⟨pid,m,tP,dP,m2,z,w,by show j.get pid=_;rw [f _ (by rw [p];intros;simp),p],A.mono u,E,L⟩
   | df ds =>
    obtain ⟨pid,m,dsP,z,w,p,A⟩:=hB;refine ⟨pid,m,dsP,z,w,by show j.get pid=_;rw [f _ (by rw [p];intros;simp),p],?_⟩;split at A
    ·trivial
    ·exact A.mono λ_ _ m=>m.mono u
    ·exact A.elim
   | dead =>
    intro pid m e;obtain ⟨w,p⟩:=hB pid m e;exact ⟨w,by show j.get pid=_;rw [f _ (by rw [p];intros;simp),p]⟩
  ·subst h3;rcases r.blk _ _ I with ⟨pid,len,es,s,z,w,p,A,E,p7,L⟩ | hB | ⟨es,z,w,p,A⟩
   ·obtain ⟨D,q1,q2⟩:=o _ _ _ _ p;exact .inl ⟨pid,len,es,D,z,w,q1,λJ=>(by cases J),E,p7,EDR.mono u L⟩
   ·exact .inr (.inl hB)
   ·exact .inr (.inr ⟨es,z,w,.inl rfl,A⟩)
 ·obtain ⟨b1,B,v1⟩:=live hi l1;obtain ⟨b2,I,v2⟩:=live C l2;exact r.inj _ _ _ _ _ _ _ B I v1 v2 a1 a2
 ·show j.get q=none;rw [f]
  ·exact r.fresh _ (by rw [<- F];exact x)
  ·rw [r.fresh _ (by rw [<- F];exact x)];intros;simp
 ·show j.get q=none;rw [f _ (by rw [G];intros;simp),G]
 ·show j.get q=_;rw [f _ (by rw [x];intros;simp),x]
end
end Go.Proofs.YtfilfloanndddaaGreat.Sv
namespace Go.Proofs.YtfilfloanndddaaGreat.Sv
variable [Pi.Gl]
open Go.Proofs.YtfilfloanndddaaGreat.Pi (PV T Hp Blk DF UM PE A5 BM AS Bg CH)
section
variable {X:Cx} {h:H} {n id idP:Nat} {β:Type} {x:β} {P:Program}
def MetA (X:Cx) (l lP:List Nat):Prop := ∀ i∈lP,(X.Q i \/ ∃ id∈l,∃ m,X.π id=some (.blk i m)) /\ ∃ es ex fz,X.h.get i=some (.row es ex fz)
theorem MetA.append {l m lP f:List Nat} (a:MetA X l lP) (b:MetA X m f):MetA X (l++m) (lP++f):=λi hi=>by
 rcases List.mem_append.1 hi with hi | hi
 ·obtain ⟨e,d⟩:=a i hi;exact ⟨e.imp id λ⟨j,c,k⟩=>⟨j,List.mem_append_left _ c,k⟩,d⟩
 ·obtain ⟨e,d⟩:=b i hi;exact ⟨e.imp id λ⟨j,c,k⟩=>⟨j,List.mem_append_right _ c,k⟩,d⟩
theorem MetA.nil {l:List Nat}:MetA X l []:=λ_ hi=>by cases hi
def Kn (X:Cx) (l:List Nat):Prop := ∀ i∈l,∃ a,X.π i=some a
theorem Kn.append {l m:List Nat} (a:Kn X l) (b:Kn X m):Kn X (l++m):=λi hi=>(List.mem_append.1 hi).elim (a i) (b i)
theorem Kn.nil:Kn X []:=λ_ hi=>by cases hi
theorem Met.toA {l:List Nat} (m:Met X.h X.Q l):MetA X [] l:=λi hi=>⟨.inl (m i hi).1,(m i hi).2⟩
theorem PF {pid off len:Nat} {es:List PV} {ex fz:Bool} {g:Bool} {c:Ty} {l:List c.den} {d:Nat} (q:X.h.get pid=some (.row es ex fz)) (m:off+len<=es.length) (k:L2 (EP g (DR X.h X.Q c)) l ((es.drop off).take len)) (s:2*c.depth+3<=d) :
  ∃ b a,Bg X.h d (.own pid off len)=some (.lst false b,pid::a)/\L2 (EP g (DP c)) l b/\Met X.h X.Q a:=by
 obtain ⟨d,rfl⟩ : ∃ i,d=i+1:=⟨d-1,by omega⟩;obtain ⟨b,a,p,n,o⟩:=RX (λy e r=>Ue (d:=d) (λj i f=>Ke j i f) (by omega) r) k;refine ⟨b,a,?_,n,o⟩;simp only [Bg,q];rw [show Nat.ble (off+len) es.length=true from by simpa using m];simp only [cond_true,p];rfl
theorem Js (hh:Hp) (d:Nat) (cs:List PV):Bg hh (d+1) (.agg cs)=(AS (Bg hh d) cs).map λ(x,l)=>(.agg x,l):=rfl
theorem Sn (hh:Hp) (d:Nat) (cs:List PV):Bg hh (d+1) (.tup cs)=(AS (Bg hh d) cs).map λ(x,l)=>(.tup x,l):=rfl
theorem So (hh:Hp) (d:Nat) (t:TypeId) (v:PV):Bg hh (d+1) (.ifc t v)=(Bg hh d v).map λ(x,l)=>(.ifc t x,l):=rfl
theorem WD (hh:Hp) (d:Nat) (f:Fn) (a b:List PV):Bg hh (d+1) (.fn f a b)=(match AS (Bg hh d) a,AS (Bg hh d) b with
   | some (a,l),some (b,m)=>some (.fn f a b,l++m)
   | _,_=>none):=rfl
mutual
theorem Sp (r:RH X h n) : ∀ (d:Nat) {v:V} {p:PV} {K:V->List Nat->Option β},VR X v p->purA h d v K=some x ->
  ∃ S l q lP,K S l=some x/\Bg X.h (d+6) p=some (q,lP)/\VR Cx.pure S q/\MetA X l lP/\Kn X l
 | 0,_,_,_,_,e=>by simp [purA] at e
 | d+1,v,p,K,hv,e=>by
  have b:d+1+6=(d+6)+1:=by omega
  unfold purA at e;split at e
  ·obtain ⟨M,rfl,t⟩:=hv.agg_inv;obtain ⟨vs,l,o,lP,e1,w,k,u,y⟩:=Kg r d t e;refine ⟨_,l,.agg o,lP,e1,?_,by simp only [VR];exact ⟨o,rfl,k⟩,u,y⟩;rw [b,Js,w];rfl
  ·simp only [VR] at hv;obtain ⟨M,rfl,t⟩:=hv;obtain ⟨vs,l,o,lP,e1,w,k,u,y⟩:=Kg r d t e;refine ⟨_,l,.tup o,lP,e1,?_,by simp only [VR];exact ⟨o,rfl,k⟩,u,y⟩;rw [b,Sn,w];rfl
  ·simp only [VR] at hv;obtain ⟨q,rfl,t⟩:=hv;obtain ⟨S,l,q',lP,e1,w,k,u,y⟩:=Sp r d t e;refine ⟨_,l,.ifc _ q',lP,e1,?_,by simp only [VR];exact ⟨q',rfl,k⟩,u,y⟩;rw [b,So,w];rfl
  ·simp only [VR] at hv;obtain ⟨a',b',rfl,ha,hb⟩:=hv;obtain ⟨vs,l,o,lP,e1,w,k,u,y⟩:=Kg r d ha e;obtain ⟨ws,m,rs,mP,e2,B,C,D,k4⟩:=Kg r d hb e1;refine ⟨_,l++m,.fn _ o rs,lP++mP,e2,?_,by simp only [VR];exact ⟨o,rs,rfl,k,C⟩,u.append D,y.append k4⟩;rw [b,WD,w,B]
  ·rename_i f g c l;replace e:=BD e;obtain ⟨G,e⟩:=e;have s:2*c.depth+3<=d+7:=Nat.le_of_ble_eq_true G;simp only [VR] at hv;rcases hv with ⟨rfl,rfl⟩ | ⟨z,es,rfl,hf,k⟩ | ⟨pid,off,len,es,ex,fz,rfl,hf,k,u,y,h8,h5⟩
   ·exact ⟨_,[],.nils,[],e,by rw [b];rfl,by simp [VR],.nil,.nil⟩
   ·exact ⟨_,[],.lst z es,[],e,by rw [b];rfl,by simp only [VR];exact .inr (.inl ⟨z,es,rfl,by simp,k⟩),.nil,.nil⟩
   ·obtain ⟨o,I,B,C,D⟩:=PF (d:=d+7) u y h5 s;refine ⟨_,[],_,_,e,B,by simp only [VR];exact .inr (.inl ⟨false,o,rfl,by simp,C⟩),λi hi => ?_,.nil⟩;rcases List.mem_cons.1 hi with rfl | hi
    ·exact ⟨.inl k,es,ex,fz,u⟩
    ·exact D.toA i hi
  ·simp only [VR] at hv;rcases hv with ⟨rfl,rfl⟩ | ⟨z,es,rfl,k⟩
   ·exact ⟨_,[],.nils,[],e,by rw [b];rfl,by simp [VR],.nil,.nil⟩
   ·exact ⟨_,[],.lst z es,[],e,by rw [b];rfl,by simp only [VR];exact .inr ⟨z,es,rfl,k⟩,.nil,.nil⟩
  ·rename_i id;split at e
   ·rename_i g c l ex fz lk Y;replace e:=BD e;obtain ⟨G,e⟩:=e;have s:2*c.depth+3<=d+7:=Nat.le_of_ble_eq_true G;simp only [VR] at hv;have hB:=r.blk _ _ Y;cases j:X.π id with
    | none=>rw [j] at hv;exact hv.elim
    | some a =>
     rw [j] at hv hB;have A:Kn X [id]:=λi hi=>by rw [List.mem_singleton.1 hi];exact ⟨a,j⟩
     rcases hB with ⟨pid,len,es,E,F,O,L,p4,p5,p7,N⟩ | ⟨F,_,O⟩ | ⟨es,F,_,_,O⟩
     ·cases F;simp only at hv;subst hv;obtain ⟨o,I,B,C,D⟩:=PF (d:=d+7) (off:=0) (len:=len) L (by omega) (by rw [List.drop_zero,List.take_of_length_le (by omega)];exact N) s;refine ⟨_,[id],_,_,e,B,by simp only [VR];exact .inr (.inl ⟨false,o,rfl,by simp,C⟩),λi hi => ?_,A⟩;rcases List.mem_cons.1 hi with rfl | hi
      ·exact ⟨.inr ⟨id,by simp,len,j⟩,es,ex,E,L⟩
      ·obtain ⟨q1,U⟩:=D i hi;exact ⟨.inl q1,U⟩
     ·cases F;subst O;simp only at hv;subst hv;exact ⟨_,[id],.nils,[],e,by rw [b];rfl,by simp [VR],.nil,A⟩
     ·cases F;simp only at hv;subst hv;exact ⟨_,[id],.lst true es,[],e,by rw [b];rfl,by simp only [VR];exact .inr (.inl ⟨true,es,rfl,by simp,O⟩),.nil,A⟩
   ·cases e
  ·rename_i id off len;split at e
   ·rename_i g c l ex fz lk Y;replace e:=BD e;obtain ⟨G,e⟩:=e;have s:2*c.depth+3<=d+7:=Nat.le_of_ble_eq_true G;replace e:=Ax e;obtain ⟨P,e⟩:=e;simp only [VR] at hv;obtain ⟨pid,m,j,rfl⟩:=hv;obtain ⟨es,E,L,_,p5,_,N⟩:=r.rowAt j Y;obtain ⟨o,I,B,C,D⟩:=PF (d:=d+7) (off:=off) (len:=len) L (by rw [<- N.length];simpa [BP,Ag,AA] using P) (Si N off len) s;refine ⟨_,[id],_,_,e,B,by simp only [VR];exact .inr (.inl ⟨false,o,rfl,by simp,C⟩),λi hi => ?_,λi hi=>by rw [List.mem_singleton.1 hi];exact ⟨_,j⟩⟩;rcases List.mem_cons.1 hi with rfl | hi
    ·exact ⟨.inr ⟨id,by simp,m,j⟩,es,ex,E,L⟩
    ·obtain ⟨q1,U⟩:=D i hi;exact ⟨.inl q1,U⟩
   ·cases e
  ·cases e
  ·cases e
  ·cases e
  ·cases e
  ·cases e
  ·cases e
  ·cases e
  ·rename_i n1 n2 n3 n4 n5 n5b n6 n7 n8 n9 n9b n10 J Z W;cases v with
   | agg | tup | ifc | fn | lf | pl | ow | own | ptr | view | pv | ept | aptr | yl | mp =>
    exfalso
    first | exact J _ _ _ _ rfl | exact n1 _ rfl | exact n2 _ rfl | exact n3 _ _ rfl | exact n4 _ _ _ rfl | exact n5 _ _ _ _ rfl | exact n5b _ _ _ rfl | exact n6 _ rfl | exact n7 _ _ _ rfl | exact n8 _ _ rfl | exact n9 _ rfl | exact n9b _ rfl | exact n10 _ _ _ rfl | exact Z _ rfl | exact W _ rfl
   | exl f es =>
    simp only [VR] at hv;obtain ⟨z,M,rfl,w,k⟩:=hv;exact ⟨_,[],.lst z M,[],e,by rw [b];rfl,by simp only [VR];exact ⟨z,M,rfl,w,k⟩,.nil,.nil⟩
   | _ =>
    simp only [VR] at hv;subst hv;exact ⟨_,[],_,[],e,by rw [b];rfl,by simp only [VR],.nil,.nil⟩
theorem Kg (r:RH X h n) : ∀ (d:Nat) {vs:List V} {f:List PV} {K:List V->List Nat->Option β},VRL X vs f->purA.purAs (purA h d) vs K=some x ->
  ∃ a l c lP,K a l=some x/\AS (Bg X.h (d+6)) f=some (c,lP)/\VRL Cx.pure a c/\MetA X l lP/\Kn X l
 | d,[],_,K,hv,e=>by rw [hv.nil_inv];exact ⟨[],[],[],[],e,rfl,.nil,.nil,.nil⟩
 | d,v::vs,_,K,hv,e=>by
  obtain ⟨p,c,rfl,y,i⟩:=hv.cons_inv;unfold purA.purAs at e;obtain ⟨k,l,q,lP,e1,A,w,z,s⟩:=Sp r d y e;obtain ⟨a,m,b,o,e2,j,t,g,u⟩:=Kg r d i e1;exact ⟨k::a,l++m,q::b,lP++o,e2,by simp [AS,A,j],.cons w t,z.append g,s.append u⟩
end
theorem Uf (r:RH X h n) : ∀ {vs:List V} {d:List PV} {K:List V->List Nat->Option β},VRL X vs d->X9 h vs K=some x ->
  ∃ a l c lP,K a l=some x/\CH X.h d=some (c,lP)/\VRL Cx.pure a c/\MetA X l lP/\Kn X l
 | [],_,K,hv,e=>by rw [hv.nil_inv];exact ⟨[],[],[],[],e,rfl,.nil,.nil,.nil⟩
 | v::vs,_,K,hv,e=>by
  obtain ⟨p,c,rfl,w,g⟩:=hv.cons_inv;unfold X9 at e;obtain ⟨j,l,q,lP,e1,z,u,y,o⟩:=Sp r 6 w e;obtain ⟨a,m,b,k,e2,i,s,f,t⟩:=Uf r g e1;refine ⟨j::a,l++m,q::b,lP++k,e2,?_,.cons u s,y.append f,o.append t⟩;simp only [CH,show Pi.BQ=6+6 from rfl,z,i]
theorem RH.mark (r:RH X h n) (c:n<=1048575) {l lP:List Nat} {h':H} (b:MetA X l lP) (s:Kn X l) (e:GB h l=some h') (id idP:Nat) :
  ∃ a Y,Pi.freeze X.h lP=some a/\Y.π=X.π/\Y.O=X.O/\MD X h n id idP h' a Y:=by
 obtain ⟨a,p,d,k⟩:=Em (Q:=λi=>X.Q i \/ ∃ id∈l,∃ m,X.π id=some (.blk i m)) b
 obtain ⟨Y,j,o,g⟩:=r.frozen c s e d k (λq f t=>by
  rcases (b q f).1 with h1 | h1
  ·exact absurd t h1
  ·exact h1) id idP
 exact ⟨a,Y,p,j,o,g⟩
def pk (X:Cx):List (Nat×Nat×List V)->List (Nat×Nat×List PV)->Prop:=L2 λa b=>a.1=b.1/\a.2.1=b.2.1/\VRL X a.2.2 b.2.2
theorem N5 : ∀ {pl:List (Nat×Nat×List V)} {c:List (Nat×Nat×List PV)} {cs out:List V} {b:List PV},pk X pl c->VRL X cs b->Pf cs pl=some out -> ∃ a,Pi.Le b c=some a/\VRL X out a
 | [],_,cs,out,b,h,hc,e=>by rw [L2.nil_inv h];cases e;exact ⟨b,rfl,hc⟩
 | (off,m,vs)::pl,_,cs,out,b,h,hc,e=>by
  obtain ⟨⟨g,p,j⟩,t,rfl,⟨i,f,d⟩,l⟩:=L2.cons_inv h;simp only at i f d;subst i;subst f;unfold Pf at e;replace e:=BD e;obtain ⟨k,e⟩:=e;obtain ⟨a,o,n⟩:=N5 l (hc.fput d off) e;refine ⟨a,?_,n⟩;unfold Pi.Le;rw [<- d.length,<- hc.length,k];exact o
theorem NE {g:Array Field} : ∀ {d:List (Nat×V)} {b:List (Nat×PV)} {out:List (Nat×Nat×List V)},nJ X d b->LM P g d=some out -> ∃ a,Pi.I8 P g b=some a/\pk X out a
 | [],_,out,h,e=>by rw [L2.nil_inv h];cases e;exact ⟨[],rfl,.nil⟩
 | (i,v)::l,_,out,h,e=>by
  obtain ⟨⟨y,p⟩,t,rfl,⟨k,j⟩,q⟩:=L2.cons_inv h;simp only at k j;subst k;unfold LM at e;split at e
  ·rename_i f r o x;obtain ⟨s,w,u⟩:=NE q x;split at e
   ·rename_i m c;replace e:=BD e;obtain ⟨n,e⟩:=e;cases e;refine ⟨(f.offset,m,p.cells)::s,?_,.cons ⟨rfl,rfl,j.cells⟩ u⟩;simp only [Pi.I8,o,w,c,n,cond_true]
   ·cases e
  ·cases e
theorem Lm {a:Nat} : ∀ {c:List (Nat×V)} {b:List (Nat×PV)},nJ X c b->pk X (L4 a c) (Pi.K5 a b)
 | [],_,h=>by rw [L2.nil_inv h];exact .nil
 | (i,v)::l,_,h=>by
  obtain ⟨⟨g,p⟩,t,rfl,⟨e,d⟩,f⟩:=L2.cons_inv h;simp only at e d;subst e;exact .cons ⟨rfl,rfl,d.cells⟩ (Lm f)
theorem RY {c:Nat} : ∀ {g:List (Nat×V)} {d:List (Nat×PV)} {es out:List V} {b:List PV},nJ X g d->VRL X es b->SY c es g=some out -> ∃ a,Pi.Lf c b d=some a/\VRL X out a
 | [],_,es,out,b,h,hc,e=>by rw [L2.nil_inv h];cases e;exact ⟨b,rfl,hc⟩
 | (i,v)::l,_,es,out,b,h,hc,e=>by
  obtain ⟨⟨q,p⟩,t,rfl,⟨j,f⟩,m⟩:=L2.cons_inv h;simp only at j f;subst j;unfold SY at e;replace e:=BD e;obtain ⟨k,e⟩:=e;obtain ⟨a,o,n⟩:=RY m (hc.lset i f) e;refine ⟨a,?_,n⟩;unfold Pi.Lf;rw [<- f.cells.length,<- hc.length,k];exact o
theorem Ug {c:Bool} {z:List V} {a:List PV} {v:V} (h:VRL X z a) (e:YA c z=some v) : ∃ p,Pi.Ta c a=some p/\VR X v p:=by
 unfold YA at e;rcases Fj e with ⟨b,e⟩ | ⟨b,e⟩
 ·subst b;cases e;exact ⟨.agg a,rfl,by simp only [VR];exact ⟨a,rfl,h⟩⟩
 ·subst b;split at e
  ·cases e;obtain ⟨p,g,rfl,f,d⟩:=h.cons_inv;rw [d.nil_inv];exact ⟨p,rfl,f⟩
  ·cases e
theorem ZX {ty:TypeId} {p:List (Nat×V)} {f:List (Nat×PV)} {K:V->Option β} (r:nJ X p f) (e:V4 P ty p K=some x) : ∃ v q,K v=some x/\Pi.FP P X.h ty f=some (.val q X.h)/\VR X v q:=by
 unfold V4 at e;split at e
 ·rename_i z A k j;replace e:=BD e;obtain ⟨l,e⟩:=e;obtain ⟨u,b,d⟩:=Fp (X:=X) k;split at e
  ·rename_i pl i;obtain ⟨t,s,w⟩:=NE r i;replace e:=AZ e;obtain ⟨cs,c,e⟩:=e;obtain ⟨a,o,n⟩:=N5 w d c;refine ⟨_,.agg a,e,?_,by simp only [VR];exact ⟨a,rfl,n⟩⟩;unfold Pi.FP;simp only [b,j,l,cond_true,s,o];rfl
  ·cases e
 ·rename_i z m B k j;obtain ⟨u,b,d⟩:=Fp (X:=X) k;split at e
  ·rename_i y g;replace e:=BD e;obtain ⟨l,e⟩:=e;replace e:=AZ e;obtain ⟨cs,c,e⟩:=e;obtain ⟨a,o,n⟩:=N5 (Lm r) d c;refine ⟨_,.agg a,e,?_,by simp only [VR];exact ⟨a,rfl,n⟩⟩;unfold Pi.FP;simp only [b,j,g,l,cond_true,o];rfl
  ·cases e
 ·cases e
theorem Pv (r:RH X h n) (w:n<=1048575) {ty:TypeId} {len:Nat} {k:List (Nat×V)} {b:List (Nat×PV)} {K:RA->Option β} (F:nJ X k b) (e:KZ P h ty len k K=some x) :
  VOk X h n id idP K x (Pi.By P X.h ty len b):=by
 unfold KZ at e;split at e
 ·rename_i S s;split at e
  ·rename_i N I z c j u;obtain ⟨M,d,a⟩:=Fp (X:=X) u;split at e
   ·rename_i O g;obtain ⟨y,t,G⟩:=Ug a g;replace e:=DL e;obtain ⟨m,e⟩:=e;rw [a.length] at m;replace e:=AZ e;obtain ⟨es,i,e⟩:=e;obtain ⟨D,E,C⟩:=RY F (VRL.rep G len) i;replace e:=Uf r C e;obtain ⟨p,l,o,lP,e,n1,n2,n3,n4⟩:=e;replace e:=AZ e;obtain ⟨h',A,e⟩:=e;obtain ⟨f,Y,q,J,L,B⟩:=r.mark w n3 n4 A id idP;refine ⟨_,h',.lst true o,f,Y,e,?_,B,by simp only [VR];exact ⟨true,o,rfl,λ_=>rfl,n2⟩⟩;unfold Pi.By;simp only [s,c,j,d,t,m,cond_false,E,n1,q];rfl
   ·cases e
  ·cases e
 ·cases e
theorem cr (r:RH X h n) (w:Nw X n id idP) {ty:TypeId} {same:Bool} {l c:V} {lP m:PV} {K:RA->Option β} (hs:same=true->lP=m) (hl:VR X l lP) (hc:VR X c m) (e:cY P h id ty same l c K=some x) :
  VOk X h n id idP K x (Pi.Hr P X.h idP ty lP m):=by
 unfold cY at e;split at e
 ·rename_i et N;split at e
  ·rename_i sz ag z ti o C S q;obtain ⟨zP,p,f⟩:=Fp (X:=X) S;replace e:=AZ e;obtain ⟨⟨g,ct⟩,G,e⟩:=e;replace e:=BD e;obtain ⟨D,e⟩:=e;simp only [Bool.and_eq_true] at D;obtain ⟨⟨I,U⟩,F⟩:=D;rw [f.length] at F;replace e:=AZ e;obtain ⟨z1,u,e⟩:=e;obtain ⟨Z,O,k2⟩:=Ug f u;replace e:=Kd k2 e;obtain ⟨y,e,W⟩:=e;replace e:=RU hl e;obtain ⟨A,e,d⟩:=e;replace e:=RU hc e;obtain ⟨i,e,a⟩:=e
   have b:Nat.ble A i=true->Nat.ble i 1048576=true -> ∀ {v:V},K (.val v (Ai h id (.row g ct (D2 i y) true false false)))=some x->(∀ Y:Cx,Y.π id=some (.blk idP i)->VR Y v (.own idP 0 A))->VOk X h n id idP K x (Pi.Hr P X.h idP ty lP m):=by
    intro B j v e M;obtain ⟨t,Y,J,L,y3,E⟩:=ER (g:=g) (ex:=true) (fz:=false) r w (L2.replicate W i) (λh=>by cases h);rw [List.length_replicate] at E;refine ⟨_,_,.own idP 0 A,t,Y,e,?_,L,M Y E⟩;unfold Pi.Hr;simp only [N,d,a,o,C,p,q,O,B,j,I,U,F,show Pi.EO=1048576 from rfl,Bool.and_self,cond_true,J];rfl
   rcases Fj e with ⟨k,e⟩ | ⟨k,e⟩
   ·have:=hs k;subst this;rw [d] at a;cases a;replace e:=Ax e;obtain ⟨j,e⟩:=e;exact b (by simp) j e λY s=>by simp only [VR,s]
   ·replace e:=Ax e;obtain ⟨B,e⟩:=e;replace e:=Ax e;obtain ⟨j,e⟩:=e;exact b B j e λY s=>by simp only [VR];exact ⟨_,_,s,rfl⟩
  ·cases e
 ·cases e
end
end Go.Proofs.YtfilfloanndddaaGreat.Sv
namespace Go.Proofs.YtfilfloanndddaaGreat.Sv
variable [Pi.Gl]
open Go.Proofs.YtfilfloanndddaaGreat.Pi (PV T Hp Blk DF UM PE A5 BM AS Bg CH)
section
variable {X:Cx} {h:H} {n id idP:Nat} {β:Type} {x:β} {P:Program}
theorem Pw {α:Type} {R:α->PV->Prop} {l:List α} {es:List PV} {off len a b:Nat} (h:L2 R l ((es.drop off).take len)) (c:b<=len):L2 R (EI l a b) ((es.drop (off+a)).take (b-a)):=by
 have:=(h.drop a).take (b-a);rw [List.drop_take,List.take_take,List.drop_drop] at this;unfold EI;rw [show min (b-a) (len-a)=b-a from by omega] at this;exact this
theorem VRO.isSome {o:Option V} {p:Option PV} (h:VRO X o p):p.isSome=o.isSome:=by
 cases o with
 | none=>cases h;rfl
 | some v=>obtain ⟨q,rfl,_⟩:=h;rfl
def WOk (X:Cx) (h:H) (n id idP:Nat) (K:V->Option β) (x:β) (o:Option Pi.R):Prop :=
 ∃ v p a Y,K v=some x/\o=some (.val p a)/\MD X h n id idP h a Y/\VR Y v p
theorem WOk.same (r:RH X h n) {K:V->Option β} {o:Option Pi.R} {v:V} {p:PV} (e:K v=some x) (b:o=some (.val p X.h)) (a:VR X v p):WOk X h n id idP K x o :=
 ⟨v,p,X.h,X,e,b,⟨rfl,r,St.refl _ _ _ _⟩,a⟩
theorem Sq {d:Nat}:Pi.GV d none=some d:=rfl
theorem WE {d:Nat} {p:PV}:Pi.GV d (some p)=Pi.Lg p:=rfl
theorem nl {a b:Nat} (h : ¬ a<b):Nat.blt a b=false:=by
 cases c:Nat.blt a b with
 | false=>rfl
 | true=>exact absurd (by simpa using c) h
theorem np {a b:Nat} (h:Nat.blt a b=false) : ¬ a<b:=λc=>by
 rw [show Nat.blt a b=true from by simpa using c] at h;cases h
theorem ZY (r:RH X h n) (hn:n<=1048575) {ty:TypeId} {a:V} {p:PV} {lo hi mx:Option V} {loP W mxP:Option PV} {K:V->Option β} (B:VR X a p) (O:VRO X lo loP) (D:VRO X hi W) (F:VRO X mx mxP)
  (e:V5 P h ty a lo hi mx K=some x):WOk X h n id idP K x (Pi.B7 P X.h ty p loP W mxP):=by
 unfold V5 at e;split at e
 ·rename_i s A;split at e
  ·cases F;simp only [VR] at B;subst B;replace e:=C0 D e;obtain ⟨hh,e,w⟩:=e;replace e:=C0 O e;obtain ⟨l,e,q⟩:=e;replace e:=Ax e;obtain ⟨G,e⟩:=e;replace e:=Ax e;obtain ⟨I,e⟩:=e;refine .same r e (p:=.str ((s.drop l).take (hh-l))) ?_ (by simp [VR,nV]);unfold Pi.B7;simp only [Gc] at w G;simp only [BP] at G I;simp only [A,w,q,G,I,Bool.and_self,cond_true]
  ·cases e
 ·rename_i et A;replace e:=AZ e;obtain ⟨sz,k,e⟩:=e;simp only [VR] at B;subst B;split at e
  ·cases F;replace e:=C0 D e;obtain ⟨hh,e,w⟩:=e;replace e:=C0 O e;obtain ⟨l,e,q⟩:=e;replace e:=Ax e;obtain ⟨G,e⟩:=e;replace e:=Ax e;obtain ⟨I,e⟩:=e;have:hh=0:=by simpa [neq] using G
   subst this;have:l=0:=by simpa [neq] using I
   subst this;refine .same r e (p:=.nils) ?_ (by simp [VR]);unfold Pi.B7;simp only [A,k,w,q,Sq];rfl
  ·rename_i m;obtain ⟨mP,rfl,hm⟩:=F;replace e:=DL e;obtain ⟨S,e⟩:=e;have E:W.isSome=true:=by rw [D.isSome];simpa using S
   replace e:=C0 D e;obtain ⟨hh,e,w⟩:=e;replace e:=C0 O e;obtain ⟨l,e,q⟩:=e;replace e:=H0 hm e;obtain ⟨mn,e,h3⟩:=e;replace e:=Ax e;obtain ⟨G,e⟩:=e;replace e:=Ax e;obtain ⟨I,e⟩:=e;replace e:=Ax e;obtain ⟨g3,e⟩:=e;have:hh=0:=by simpa [neq] using G
   subst this;have:l=0:=by simpa [neq] using I
   subst this;have:mn=0:=by simpa [neq] using g3
   subst this;refine .same r e (p:=.nils) ?_ (by simp [VR]);unfold Pi.B7;simp only [A,k,w,q,WE,h3,E];rfl
 ·rename_i et f g c es A;replace e:=AZ e;obtain ⟨sz,k,e⟩:=e;replace e:=DL e;obtain ⟨u,e⟩:=e;have u:sz=c.wd:=by simpa using u
  subst u;replace e:=C0 O e;obtain ⟨l,e,w⟩:=e;replace e:=C0 D e;obtain ⟨hh,e,q⟩:=e;split at e
  ·cases F;replace e:=Ax e;obtain ⟨G,e⟩:=e;replace e:=Ax e;obtain ⟨I,e⟩:=e;have b:hh<=es.length:=by simpa [BP,AA] using G
   have y:l<=hh:=by simpa [BP] using I
   simp only [VR] at B;unfold Pi.B7;rcases B with ⟨rfl,rfl⟩ | ⟨f',o,rfl,hf,C⟩ | ⟨pid,off,len,o,ex,fz,rfl,hf,C,k2,k3,k4,k5⟩
   ·have:hh=0:=by simpa using b
    subst this;have:l=0:=by omega
    subst this;refine .same r e (p:=.nils) ?_ (by simp [VR,EI]);simp only [AA,List.length_nil] at q;simp only [A,k,w,q,Sq];rfl
   ·rw [C.length] at b;refine .same r e (p:=.lst (f'&&Nat.beq hh o.length) ((o.drop l).take (hh-l))) ?_ (by simp only [VR];exact .inr (.inl ⟨_,_,rfl,by simp,(C.drop l).take (hh-l)⟩));simp only [AA,C.length] at q;simp only [A,k,Ca rfl (EPL.up (hh:=X.h) (Q:=X.Q) C),Bool.not_true,cond_false,w,q];rw [show Nat.ble hh o.length=true from by simpa using b,show Nat.ble l hh=true from by simpa using y];rfl
   ·have N:((o.drop off).take len).length=len:=by simp;omega
    rw [k5.length,N] at b;simp only [AA,k5.length,N] at q;have U:Nat.ble l hh=true:=by simpa using y
    have b2:Nat.ble (off+hh) o.length=true:=by simp;omega
    by_cases z:off+l<o.length
    ·refine .same r e (p:=.own pid (off+l) (hh-l)) ?_ (by simp only [VR];exact .inr (.inr ⟨pid,off+l,hh-l,o,ex,fz,rfl,by simp,C,k2,by omega,k4,Pw k5 b⟩));simp only [A,k,k2,k4,Bool.not_true,cond_false,w,q,U,b2,Bool.or_self];rw [show Nat.blt (off+l) o.length=true from by simpa using z];rfl
    ·have hes:EI es l hh=[]:=by
      have:=(Pw (a:=l) k5 b).length;simp at this;exact List.length_eq_zero_iff.1 (by omega)
     refine .same r e (p:=.lst false []) ?_ (by rw [hes];simp only [VR];exact .inr (.inl ⟨false,[],rfl,by simp,.nil⟩));simp only [A,k,k2,k4,Bool.not_true,cond_false,w,q,U,b2,Bool.or_self]
     rw [show Nat.blt (off+l) o.length=false from by
      cases hq:Nat.blt (off+l) o.length with
      | false=>rfl
      | true=>exact absurd (by simpa using hq) z];rfl
  ·rename_i m;obtain ⟨mP,rfl,hm⟩:=F;replace e:=DL e;obtain ⟨z,e⟩:=e;simp only [Bool.or_eq_false_iff,Bool.not_eq_false',Option.isNone_eq_false_iff] at z;obtain ⟨S,hb2⟩:=z;have E:W.isSome=true:=by rw [D.isSome];exact S
   replace e:=H0 hm e;obtain ⟨mn,e,h3⟩:=e;replace e:=Ax e;obtain ⟨G,e⟩:=e;replace e:=Ax e;obtain ⟨g3,e⟩:=e;replace e:=Ax e;obtain ⟨I,e⟩:=e;have:hh=mn:=by simpa [neq] using g3
   subst this;have b:hh<=es.length:=by simpa [BP,AA] using G
   have y:l<=hh:=by simpa [BP] using I
   have U:Nat.ble l hh=true:=by simpa using y
   simp only [VR] at B;unfold Pi.B7;rcases B with ⟨rfl,rfl⟩ | ⟨f',o,rfl,hf,C⟩ | ⟨pid,off,len,o,ex,fz,rfl,hf,C,k2,k3,k4,k5⟩
   ·have:hh=0:=by simpa using b
    subst this;have:l=0:=by omega
    subst this;refine .same r e (p:=.nils) ?_ (by simp [VR,EI]);simp only [AA,List.length_nil] at q;simp only [A,k,w,q,WE,h3,E];rfl
   ·rw [C.length] at b;refine .same r e (p:=.lst true ((o.drop l).take (hh-l))) ?_ (by simp only [VR];exact .inr (.inl ⟨_,_,rfl,by simp,(C.drop l).take (hh-l)⟩));simp only [AA,C.length] at q;simp only [A,k,Ca rfl (EPL.up (hh:=X.h) (Q:=X.Q) C),Bool.not_true,cond_false,w,q,h3,E,U];have M:Nat.ble hh hh=true:=by simp
    have J:Nat.beq hh hh=true:=by simp
    rw [show Nat.ble hh o.length=true from by simpa using b,M,J];rfl
   ·have N:((o.drop off).take len).length=len:=by simp;omega
    rw [k5.length,N] at b;simp only [AA,k5.length,N] at q;have b2:Nat.ble (off+hh) o.length=true:=by simp;omega
    simp only [A,k,k2,k4,Bool.not_true,cond_false,w,q,U,b2,Bool.or_self,h3,E];cases hex:(ex&&Nat.beq (off+hh) o.length) with
    | true =>
     simp only [Bool.and_eq_true,Nat.beq_eq] at hex;obtain ⟨rfl,hend⟩:=hex;by_cases z:off+l<o.length
     ·refine .same r e (p:=.own pid (off+l) (hh-l)) ?_ (by simp only [VR];exact .inr (.inr ⟨pid,off+l,hh-l,o,true,fz,rfl,λ_=>⟨rfl,by omega⟩,C,k2,by omega,k4,Pw k5 b⟩));have M:Nat.ble hh hh=true:=by simp
      have J:Nat.beq (off+hh) o.length=true:=by simp [hend]
      rw [show Nat.blt (off+l) o.length=true from by simpa using z,M,J];rfl
     ·have hes:EI es l hh=[]:=by
       have:=(Pw (a:=l) k5 b).length;simp at this;exact List.length_eq_zero_iff.1 (by omega)
      refine .same r e (p:=.lst true []) ?_ (by rw [hes];simp only [VR];exact .inr (.inl ⟨true,[],rfl,by simp,.nil⟩))
      rw [show Nat.blt (off+l) o.length=false from by
       cases hq:Nat.blt (off+l) o.length with
       | false=>rfl
       | true=>exact absurd (by simpa using hq) z]
      have M:Nat.ble hh hh=true:=by simp
      have J:Nat.beq (off+hh) o.length=true:=by simp [hend]
      rw [M,J];rfl
    | false =>
     have hd:c.depth<=4:=Nat.le_of_ble_eq_true hb2;obtain ⟨qs,ids,p1,p2,p3⟩:=PF (d:=12) (off:=off+l) (len:=hh-l) k2 (by omega) (Pw k5 b) (by omega)
     have hmA:MetA X [] (pid::ids):=λi hi=>by
      rcases List.mem_cons.1 hi with rfl | hi
      ·exact ⟨.inl C,o,ex,fz,k2⟩
      ·exact p3.toA i hi
     obtain ⟨hP',Y,f1,y1,y2,y3⟩:=r.mark hn hmA .nil rfl id idP;refine ⟨_,.lst true qs,hP',Y,e,?_,y3,by simp only [VR];exact .inr (.inl ⟨true,qs,rfl,by simp,p2⟩)⟩;have M:Nat.ble hh hh=true:=by simp
     have J:Nat.beq hh hh=true:=by simp
     have hc:(true&&Nat.ble hh hh&&ex&&Nat.beq (off+hh) o.length)=false:=by rw [M];simpa using hex
     rw [hc];simp only [cond_false,Pi.Ib,show Pi.BQ=12 from rfl,p1,f1,J];rfl
 ·rename_i et g c es A;replace e:=AZ e;obtain ⟨sz,k,e⟩:=e;replace e:=DL e;obtain ⟨u,e⟩:=e;have u:sz=c.wd:=by simpa using u
  subst u;replace e:=C0 O e;obtain ⟨l,e,w⟩:=e;replace e:=C0 D e;obtain ⟨hh,e,q⟩:=e;split at e
  ·cases F;replace e:=Ax e;obtain ⟨G,e⟩:=e;replace e:=Ax e;obtain ⟨I,e⟩:=e;have b:hh<=es.length:=by simpa [BP,AA] using G
   have y:l<=hh:=by simpa [BP] using I
   simp only [VR] at B;unfold Pi.B7;rcases B with ⟨rfl,rfl⟩ | ⟨f',o,rfl,C⟩
   ·have:hh=0:=by simpa using b
    subst this;have:l=0:=by omega
    subst this;refine .same r e (p:=.nils) ?_ (by simp [VR,EI]);simp only [AA,List.length_nil] at q;simp only [A,k,w,q,Sq];rfl
   ·rw [C.length] at b;refine .same r e (p:=.lst (f'&&Nat.beq hh o.length) ((o.drop l).take (hh-l))) ?_ (by simp only [VR];exact .inr ⟨_,_,rfl,(C.drop l).take (hh-l)⟩);simp only [AA,C.length] at q;simp only [A,k,Ca rfl (EPL.up (hh:=X.h) (Q:=X.Q) C),Bool.not_true,cond_false,w,q];rw [show Nat.ble hh o.length=true from by simpa using b,show Nat.ble l hh=true from by simpa using y];rfl
  ·rename_i m;obtain ⟨mP,rfl,hm⟩:=F;replace e:=DL e;obtain ⟨z,e⟩:=e;simp only [Bool.or_eq_false_iff,Bool.not_eq_false',Option.isNone_eq_false_iff] at z;obtain ⟨S,hb2⟩:=z;have E:W.isSome=true:=by rw [D.isSome];exact S
   replace e:=H0 hm e;obtain ⟨mn,e,h3⟩:=e;replace e:=Ax e;obtain ⟨G,e⟩:=e;replace e:=Ax e;obtain ⟨g3,e⟩:=e;replace e:=Ax e;obtain ⟨I,e⟩:=e;have:hh=mn:=by simpa [neq] using g3
   subst this;have b:hh<=es.length:=by simpa [BP,AA] using G
   have y:l<=hh:=by simpa [BP] using I
   have U:Nat.ble l hh=true:=by simpa using y
   simp only [VR] at B;unfold Pi.B7;rcases B with ⟨rfl,rfl⟩ | ⟨f',o,rfl,C⟩
   ·have:hh=0:=by simpa using b
    subst this;have:l=0:=by omega
    subst this;refine .same r e (p:=.nils) ?_ (by simp [VR,EI]);simp only [AA,List.length_nil] at q;simp only [A,k,w,q,WE,h3,E];rfl
   ·rw [C.length] at b;refine .same r e (p:=.lst true ((o.drop l).take (hh-l))) ?_ (by simp only [VR];exact .inr (.inl ⟨_,_,rfl,by simp,(C.drop l).take (hh-l)⟩));simp only [AA,C.length] at q;simp only [A,k,Ca rfl (EPL.up (hh:=X.h) (Q:=X.Q) C),Bool.not_true,cond_false,w,q,h3,E,U];have M:Nat.ble hh hh=true:=by simp
    have J:Nat.beq hh hh=true:=by simp
    rw [show Nat.ble hh o.length=true from by simpa using b,M,J];rfl
 ·rename_i et j A;split at e
  ·rename_i g c es ex lk hg;replace e:=AZ e;obtain ⟨sz,k,e⟩:=e;replace e:=DL e;obtain ⟨u,e⟩:=e;have u:sz=c.wd:=by simpa using u
   subst u;replace e:=C0 O e;obtain ⟨l,e,w⟩:=e;replace e:=C0 D e;obtain ⟨hh,e,q⟩:=e;split at e
   ·cases F;replace e:=Ax e;obtain ⟨G,e⟩:=e;replace e:=Ax e;obtain ⟨I,e⟩:=e;have b:hh<=es.length:=by simpa [BP,AA] using G
    have y:l<=hh:=by simpa [BP] using I
    have U:Nat.ble l hh=true:=by simpa using y
    simp only [VR] at B;have hB:=r.blk _ _ hg;cases L:X.π j with
    | none=>rw [L] at B;exact B.elim
    | some t =>
     rw [L] at B hB;unfold Pi.B7;rcases hB with ⟨pid,len,o,fz',p1,p2,p3,p4,p5,p7,Z⟩ | ⟨p1,_,p2⟩ | ⟨qs,p1,_,p2,p3⟩
     ·cases p1;simp only at B;subst B;have hl:es.length=len:=by rw [Z.length,p5]
      simp only [AA,hl] at q;rw [hl] at b;have b2:Nat.ble (0+hh) o.length=true:=by simp;omega
      replace e:=Ew e;rcases e with ⟨z,e⟩ | ⟨z,e⟩
      ·have hb':l<len:=by simpa [C7,AA,hl] using z
       refine .same r e (p:=.own pid (0+l) (hh-l)) ?_ (by simp only [VR];exact ⟨pid,len,L,by simp [SV]⟩);simp only [A,k,p3,Ca rfl Z,Bool.not_true,cond_false,w,q,U,b2,Bool.or_self];rw [show Nat.blt (0+l) o.length=true from by simp;omega];rfl
      ·have hb' : ¬ l<len:=np (by rw [<- hl];exact z);refine .same r e (p:=.lst false []) ?_ (by simp only [VR];exact .inr (.inl ⟨false,[],rfl,by simp,.nil⟩));simp only [A,k,p3,Ca rfl Z,Bool.not_true,cond_false,w,q,U,b2,Bool.or_self];rw [nl (by omega)];rfl
     ·cases p1;subst p2;simp only at B;subst B;have:hh=0:=by simpa using b
      subst this;have:l=0:=by omega
      subst this;replace e:=Ew e;rcases e with ⟨z,e⟩ | ⟨z,e⟩
      ·simp [C7,AA] at z
      ·refine .same r e (p:=.nils) ?_ (by simp [VR]);simp only [AA,List.length_nil] at q;simp only [A,k,w,q,Sq];rfl
     ·rcases p2 with p2 | p2
      ·cases p2
      ·subst p2;cases p1;have:=p3.nil_inv;subst this;simp only at B;subst B;have:hh=0:=by simpa using b
       subst this;have:l=0:=by omega
       subst this;replace e:=Ew e;rcases e with ⟨z,e⟩ | ⟨z,e⟩
       ·simp [C7,AA] at z
       ·refine .same r e (p:=.lst true []) ?_ (by simp only [VR];exact .inr (.inl ⟨true,[],rfl,by simp,.nil⟩));simp only [AA,List.length_nil] at q;simp only [A,k,w,List.length_nil,q,show Pi.HD c.wd []=true from rfl,Bool.not_true,cond_false];rfl
   ·cases e
  ·cases e
 ·rename_i et j off len A;split at e
  ·rename_i g c es ex fz lk hg;replace e:=AZ e;obtain ⟨sz,k,e⟩:=e;replace e:=DL e;obtain ⟨u,e⟩:=e;have u:sz=c.wd:=by simpa using u
   subst u;replace e:=C0 O e;obtain ⟨l,e,w⟩:=e;replace e:=C0 D e;obtain ⟨hh,e,q⟩:=e;split at e
   ·cases F;replace e:=Ax e;obtain ⟨G,e⟩:=e;replace e:=Ax e;obtain ⟨I,e⟩:=e;have b:off+hh<=es.length:=by simpa [BP,AA,Ag] using G
    have y:l<=hh:=by simpa [BP] using I
    have U:Nat.ble l hh=true:=by simpa using y
    simp only [VR] at B;obtain ⟨pid,m,L,rfl⟩:=B;obtain ⟨o,fz',p3,_,p5,_,Z⟩:=r.rowAt L hg;rw [Z.length] at b;have b2:Nat.ble (off+hh) o.length=true:=by simpa using b
    unfold Pi.B7;replace e:=Ew e;rcases e with ⟨z,e⟩ | ⟨z,e⟩
    ·have hb':off+l<o.length:=by simpa [C7,AA,Ag,Z.length] using z
     refine .same r e (p:=.own pid (off+l) (hh-l)) ?_ (by simp only [VR];exact ⟨pid,m,L,rfl⟩);simp only [A,k,p3,Ca rfl Z,Bool.not_true,cond_false,w,q,U,b2,Bool.or_self];rw [show Nat.blt (off+l) o.length=true from by simpa using hb'];rfl
    ·have hb' : ¬ off+l<o.length:=np (by rw [<- Z.length];exact z);refine .same r e (p:=.lst false []) ?_ (by simp only [VR];exact .inr (.inl ⟨false,[],rfl,by simp,.nil⟩));simp only [A,k,p3,Ca rfl Z,Bool.not_true,cond_false,w,q,U,b2,Bool.or_self];rw [nl hb'];rfl
   ·rename_i m;obtain ⟨mP,rfl,hm⟩:=F;replace e:=DL e;obtain ⟨z,e⟩:=e;simp only [Bool.or_eq_false_iff,Bool.not_eq_false',Option.isNone_eq_false_iff] at z;obtain ⟨⟨hb0,S⟩,hb2⟩:=z;have E:W.isSome=true:=by rw [D.isSome];exact S
    have hl0:l=0:=by
     cases lo with
     | none=>cases O;cases w;rfl
     | some v=>cases hb0
    subst hl0;subst hb2;replace e:=H0 hm e;obtain ⟨mn,e,h3⟩:=e;replace e:=Ax e;obtain ⟨G,e⟩:=e;replace e:=Ax e;obtain ⟨I,e⟩:=e;replace e:=Ax e;obtain ⟨g3,e⟩:=e;simp only [VR] at B;obtain ⟨pid,m',L,rfl⟩:=B;obtain ⟨o,fz',p3,_,p5,_,Z⟩:=r.rowAt L hg;have b:hh<=mn:=by simpa [BP] using G
    have y:off+mn=o.length:=by rw [<- Z.length];simpa [neq,Ag,AA] using I
    have g3':off<o.length:=by rw [<- Z.length];simpa [C7,AA] using g3
    have b2:Nat.ble (off+hh) o.length=true:=by simp;omega
    have b3:Nat.ble hh mn=true:=by simpa using b
    have b4:Nat.beq (off+mn) o.length=true:=by simpa using y
    have b5:Nat.blt off o.length=true:=by simpa using g3'
    unfold Pi.B7;refine .same r e (p:=.own pid off hh) ?_ (by simp only [VR];exact ⟨pid,m',L,rfl⟩);simp only [A,k,p3,Ca rfl Z,Bool.not_true,cond_false,w,q,h3,E,b2,b3,b4,Nat.add_zero,Nat.sub_zero,b5,Bool.or_self,show Nat.ble 0 hh=true from by simp];rfl
  ·cases e
 ·cases e
theorem Px {hh:Hp} {ty:TypeId} {u:TypeDesc} {v:PV} {b:Bool} (d:P.underlying ty=some u) (c : ∀ m,u = .interface m->False):Pi.Dh P hh ty v b=(match v with
  | .ifc u a=>bif Nat.beq u ty then some (.val (Pi.I9 b a) hh) else bif b then (match Pi.E3 P ty with
   | some z=>some (.val (.tup [z,.bool false]) hh)
   | none=>none) else none
  | .nili=>bif b then (match Pi.E3 P ty with
   | some z=>some (.val (.tup [z,.bool false]) hh)
   | none=>none) else none
  | _=>none):=by
 unfold Pi.Dh;rw [d];cases u<;>first | rfl | exact (c _ rfl).elim
theorem Q3 {t:TypeId} {u:TypeDesc} {A B C:FuncId->Option Pi.R} (f:P.underlying t=some u) (c : ∀ m,u = .pointer m->False) {b:Bool} {a:Option (FuncId×Bool)} {g:FuncId}:b=true->a=some (g,false) ->
  (match b,a,P.underlying t with
   | true,some (g,true),some (.pointer _)=>A g
   | true,some (g,false),some (.pointer _)=>C g
   | true,some (g,false),some _=>B g
   | _,_,_=>none)=B g:=by
 intro e d;subst e;subst d;rw [f];cases u<;>first | rfl | exact (c _ rfl).elim
theorem WF (r:RH X h n) {ty:TypeId} {a:V} {p:PV} {c:Bool} {K:V->Option β} (b:VR X a p) (e:Sb P ty a c K=some x) : ∃ v q,K v=some x/\Pi.Dh P X.h ty p c=some (.val q X.h)/\VR X v q:=by
 have g : ∀ {K:V->Option β},(bif c then HC (Hz P ty) λz=>K (.tup [z,.bool false]) else none)=some x -> ∃ v q,K v=some x/\(bif c then (match Pi.E3 P ty with
    | some z=>some (Pi.R.val (.tup [z,.bool false]) X.h)
    | none=>none) else none)=some (Pi.R.val q X.h)/\VR X v q:=by
  clear e;intro K e;replace e:=BD e;obtain ⟨j,e⟩:=e;subst j;replace e:=AZ e;obtain ⟨z,w,e⟩:=e;obtain ⟨C,A,D⟩:=L9 (X:=X) w;exact ⟨_,.tup [C,.bool false],e,by simp [A],by simp only [VR];exact ⟨_,rfl,.cons D (.cons (by simp [VR]) .nil)⟩⟩
 have d : ∀ {v:V} {q:PV},VR X v q->VR X (LO c v) (Pi.I9 c q):=by
  intro v q h;cases c
  ·exact h
  ·simp only [LO,Pi.I9,cond_true,VR];exact ⟨_,rfl,.cons h (.cons (by simp [VR]) .nil)⟩
 have f := @g;unfold Sb at e;split at e
 ·rename_i t s;unfold Pi.Dh;simp only [s];split at e
  ·rename_i u a;have o:=b;simp only [VR] at b;obtain ⟨q,rfl,b⟩:=b;split at e
   ·rename_i i hi;simp only [hi];split at e
    ·rename_i k;exact ⟨_,_,e,by simp only [k],d o⟩
    ·rename_i y k;simp only [k];exact g e
   ·cases e
  ·simp only [VR] at b;subst b;exact g e
  ·cases e
 ·rename_i u s m;clear g;rw [Px m s];split at e
  ·rename_i E a;simp only [VR] at b;obtain ⟨q,rfl,b⟩:=b;replace e:=Fj e;rcases e with ⟨l,e⟩ | ⟨l,e⟩
   ·exact ⟨_,_,e,by simp only [l,cond_true],d b⟩
   ·obtain ⟨v,B,e1,e2,e3⟩:=f e;exact ⟨v,B,e1,by simp only [l,cond_false];exact e2,e3⟩
  ·simp only [VR] at b;subst b;exact f e
  ·cases e
 ·cases e
theorem YM {α:Type} {c:Bool} {a b:α} (h:c=true):(bif c then a else b)=a:=by subst h;rfl
theorem Jt {f:Fn} {first cap args:List V} {a b argsP:List PV} {K:RA->Option β} (s:VRL X first a) (A:VRL X cap b) (y:VRL X args argsP) (e:LN P f first cap args K=some x) :
  ∃ g w r,K (.call g w)=some x/\Pi.F8 P f a b argsP=some (.call g r)/\VRL X w r:=by
 unfold LN at e;unfold Pi.F8;split at e
 ·split at e
  ·rename_i F D;replace e:=BD e;obtain ⟨d,e⟩:=e;refine ⟨_,_,_,e,?_,(s.append y).append A⟩;simp only [D,d,cond_true]
  ·cases e
 ·split at e
  ·rename_i t v rest n;have c:=s.append y;rw [n] at c;obtain ⟨p,E,B,h,z⟩:=c.cons_inv;simp only [VR] at h;obtain ⟨q,rfl,h⟩:=h;rw [B];split at e
   ·rename_i i hi;simp only [hi];split at e
    ·rename_i m C;simp only [C];split at e
     ·rename_i g k l o;replace e:=BD e;obtain ⟨d,e⟩:=e;refine ⟨_,_,_,e,?_,.cons h z⟩;simp only [k,l,o];exact YM d
     ·cases e
     ·rename_i g u j k l o;replace e:=BD e;obtain ⟨d,e⟩:=e;refine ⟨_,_,_,e,?_,.cons h z⟩;exact (Q3 o j k l).trans (YM d)
     ·cases e
    ·cases e
   ·cases e
  ·cases e
 ·cases e
end
end Go.Proofs.YtfilfloanndddaaGreat.Sv
namespace Go.Proofs.YtfilfloanndddaaGreat.Sv
variable [Pi.Gl]
open Go.Proofs.YtfilfloanndddaaGreat.Pi (PV T Hp Blk DF UM PE A5 BM AS Bg CH)
section
variable {X:Cx} {h:H} {n id idP:Nat} {β:Type} {x:β} {P:Program}
inductive EvOk (X:Cx) (h:H) (n id idP:Nat) (K:RA->Option β) (x:β):Option Pi.R->Prop where
 | val {v:V} {h':H} {p:PV} {hP':Hp} {Y:Cx} (e:K (.val v h')=some x) (ok:MD X h n id idP h' hP' Y) (hv:VR Y v p):EvOk X h n id idP K x (some (.val p hP'))
 | skip {h':H} {hP':Hp} {Y:Cx} (e:K (.skip h')=some x) (ok:MD X h n id idP h' hP' Y):EvOk X h n id idP K x (some (.skip hP'))
 | call {f:FuncId} {as:List V} {ps:List PV} (e:K (.call f as)=some x) (ha:VRL X as ps):EvOk X h n id idP K x (some (.call f ps))
 | yield {l lP m:Nat} {as:List V} {ps:List PV} (e:K (.yield l as)=some x) (hl:X.π l=some (.blk lP m)) (ha:VRL X as ps):EvOk X h n id idP K x (some (.yield lP ps))
 | pan {v:V} {p:PV} (e:K (.pan v)=some x) (hv:VR X v p):EvOk X h n id idP K x (some (.pan p))
 | rcv (e:K .rcv=some x):EvOk X h n id idP K x (some .rcv)
 | dfr {d:DFA} {dP:DF} (e:K (.dfr d)=some x) (hd:DFR X d dP):EvOk X h n id idP K x (some (.dfr dP))
theorem EvOk.ofV (r:RH X h n) {K:RA->Option β} {o:Option Pi.R} {v:V} {p:PV} (e:K (.val v h)=some x) (b:o=some (.val p X.h)) (a:VR X v p):EvOk X h n id idP K x o:=by
 subst b;exact .val e ⟨rfl,r,St.refl _ _ _ _⟩ a
theorem VOk.ev {K:RA->Option β} {o:Option Pi.R} (k:VOk X h n id idP K x o):EvOk X h n id idP K x o:=by
 obtain ⟨v,h',p,a,Y,e,rfl,c,b⟩:=k;exact .val e c b
theorem SO (r:RH X h n) (w:Nw X n id idP) {cs:List V} {a:List PV} {K:RA->Option β} (hc:VRL X cs a) (e:K (.val (.ptr id 0) (Ai h id (.box cs false false)))=some x) :
  EvOk X h n id idP K x ((X.h.new idP (.box a false)).map λh => .val (.ptr idP 0) h):=by
 obtain ⟨g,e1⟩:=MC X.h idP (.box a false) w.hp
 obtain ⟨Y,f,d,c,i⟩:=r.new (m:=0) (b:=.box cs false false) w.small w.lt w.pi w.hlt e1 (λY f d c u =>
  ⟨idP,0,a,false,rfl,(c _).2 (.inr rfl),by rw [d,(Hp.get_new e1).2.1,if_pos rfl],λ_=>rfl,hc.mono u⟩)
 rw [e1];refine .val e ⟨d,c,i⟩ ?_;simp only [VR];exact ⟨idP,0,by rw [f];exact if_pos rfl,rfl⟩
theorem cu {t:T V} {tP:T PV} (r:RH X h n) (w:Nw X n id idP) (z:TR X t tP) {o:Oper} {K:RA->Option β} (e:pL P t h id o K=some x):EvOk X h n id idP K x (Pi.BC P tP X.h idP o):=by
 unfold pL at e;unfold Pi.BC;split at e
 ·rename_i a l;simp only [l];replace e:=A6 z e;obtain ⟨v,p,e,y,j⟩:=e;exact .ofV r e (DC y) j
 ·rename_i a l;simp only [l];replace e:=A6 z e;obtain ⟨v,p,e,y,j⟩:=e;exact .ofV r e (DC y) j
 ·rename_i c a b l;simp only [l,Pi.e3];replace e:=A6 z e;obtain ⟨vc,pc,e,c1,c2⟩:=e;replace e:=A6 z e;obtain ⟨va,pa,e,a1,a2⟩:=e;replace e:=A6 z e;obtain ⟨vb,pb,e,b1,b2⟩:=e;simp only [c1,a1,b1];split at e
  ·simp only [VR] at c2;subst c2;replace e:=Ew e;rcases e with ⟨hc,e⟩ | ⟨hc,e⟩
   ·subst hc;exact .ofV r e rfl a2
   ·subst hc;exact .ofV r e rfl b2
  ·cases e
 ·rename_i ty l;simp only [l];replace e:=AZ e;obtain ⟨cs,W,e⟩:=e;obtain ⟨C,L,N⟩:=Fp (X:=X) W;unfold Pi.HU;simp only [L];exact SO r w N e
 ·rename_i ty a l;simp only [l,Pi.e1];replace e:=A6 z e;obtain ⟨v,p,e,y,j⟩:=e;simp only [y];split at e
  ·cases e
  ·rename_i F
   have hp:Pi.Lh X.h idP p=(X.h.new idP (.box p.cells false)).map λh => .val (.ptr idP 0) h:=by
    cases p with
    | tup C =>
     exfalso;cases v with
     | tup=>exact F _ rfl
     | ow i =>
      simp only [VR] at j;split at j<;>first | (cases j;done) | exact j
     | lf =>
      simp only [VR] at j;rcases j with ⟨j,_⟩ | ⟨_,_,j,_⟩ | ⟨_,_,_,_,_,_,j,_⟩<;>cases j
     | view =>
      simp only [VR] at j;rcases j with ⟨_,j,_⟩ | ⟨_,_,_,_,_,_,_,j,_⟩<;>cases j
     | agg=>obtain ⟨_,B,_⟩:=j.agg_inv;cases B
     | exl=>simp only [VR] at j;obtain ⟨_,_,j,_⟩:=j;cases j
     | pl=>simp only [VR] at j;rcases j with ⟨j,_⟩ | ⟨_,_,j,_⟩<;>cases j
     | pv=>simp only [VR] at j;obtain ⟨_,j,_⟩:=j;cases j
     | own=>simp only [VR] at j;obtain ⟨_,_,_,j⟩:=j;cases j
     | ptr=>simp only [VR] at j;obtain ⟨_,_,_,j⟩:=j;cases j
     | ept=>simp only [VR] at j;obtain ⟨_,_,_,j⟩:=j;cases j
     | aptr=>simp only [VR] at j;obtain ⟨_,_,_,j,_⟩:=j;cases j
     | fn=>simp only [VR] at j;obtain ⟨_,_,j,_⟩:=j;cases j
     | yl=>simp only [VR] at j;obtain ⟨_,_,_,j⟩:=j;cases j
     | mp=>simp only [VR] at j;obtain ⟨_,_,_,j⟩:=j;cases j
     | ifc=>simp only [VR] at j;obtain ⟨_,j,_⟩:=j;cases j
     | _=>simp only [VR] at j;cases j
    | _=>rfl
   rw [hp];exact SO r w j.cells e
 ·rename_i ty I l;simp only [l];replace e:=Kc z e;obtain ⟨vs,C,e,y,j⟩:=e;simp only [y];obtain ⟨v,q,e1,e2,e3⟩:=ZX (X:=X) j e;exact .ofV r e1 e2 e3
 ·rename_i ty len I l;simp only [l];replace e:=Kc z e;obtain ⟨vs,C,e,y,j⟩:=e;simp only [y];exact (Pv r w.big j e).ev
 ·rename_i ty a l;simp only [l,Pi.e1];replace e:=A6 z e;obtain ⟨v,p,e,y,j⟩:=e;simp only [y];obtain ⟨v,q,e1,e2,e3⟩:=cg r j e;exact .ofV r e1 e2 e3
 ·rename_i ty a b l;simp only [l,Pi.e2];replace e:=A6 z e;obtain ⟨v,p,e,y,j⟩:=e;replace e:=A6 z e;obtain ⟨G,J,e,B,A⟩:=e;simp only [y,B];obtain ⟨h',D,Y,e1,e2,e3⟩:=ZU r w.big j A id idP e;rw [e2];exact .skip e1 e3
 ·rename_i a l;simp only [l,Pi.e1];replace e:=A6 z e;obtain ⟨v,p,e,y,j⟩:=e;simp only [y];obtain ⟨v,q,e1,e2,e3⟩:=kO (h:=X.h) j e;exact .ofV r e1 e2 e3
 ·rename_i op ty a b ty2 l;simp only [l,Pi.e2];replace e:=A6 z e;obtain ⟨v,p,e,y,j⟩:=e;replace e:=A6 z e;obtain ⟨G,J,e,B,A⟩:=e;simp only [y,B];obtain ⟨v,q,e1,e2,e3⟩:=kM (h:=X.h) j A e;exact .ofV r e1 e2 e3
 ·rename_i op ty a l;simp only [l,Pi.e1];replace e:=A6 z e;obtain ⟨v,p,e,y,j⟩:=e;simp only [y];obtain ⟨v,q,e1,e2,e3⟩:=mS j e;exact .ofV r e1 (DC e2) e3
 ·rename_i s d a l;simp only [l,Pi.e1];replace e:=A6 z e;obtain ⟨v,p,e,y,j⟩:=e;simp only [y];obtain ⟨v,q,e1,e2,e3⟩:=UX (h:=X.h) j e;exact .ofV r e1 e2 e3
 ·rename_i ty a l;simp only [l,Pi.e1];replace e:=A6 z e;obtain ⟨v,p,e,y,j⟩:=e;simp only [y];obtain ⟨v,q,e1,e2,e3⟩:=kN (h:=X.h) j e;exact .ofV r e1 e2 e3
 ·rename_i f first cap l
  simp only [l];replace e:=NA z e;obtain ⟨vs,C,e,y,j⟩:=e;replace e:=NA z e;obtain ⟨vs',E,e,B,A⟩:=e;simp only [y,B];split at e
  ·cases e
  ·rename_i f' F;refine .ofV r e (p:=.fn f C E) ?_ (by simp only [VR];exact ⟨_,_,rfl,j,A⟩);unfold Pi.DK;split
   ·exact absurd rfl (F _)
   ·rfl
 ·rename_i ty l;simp only [l];unfold UQ at e;split at e
  ·split at e
   ·rename_i k g c hk hc;obtain ⟨D,e1⟩:=MC X.h idP (.mp []) w.hp
    obtain ⟨Y,y1,S,y3,y4⟩:=r.new (m:=0) (b:=.mp k g c [] false) w.small w.lt w.pi w.hlt e1 (λY y1 S y3 u =>
     ⟨idP,0,[],rfl,(y3 _).2 (.inr rfl),by rw [S,(Hp.get_new e1).2.1,if_pos rfl],.nil⟩)
    rw [e1];refine .val e ⟨S,y3,y4⟩ ?_;simp only [VR];exact ⟨idP,0,by rw [y1];exact if_pos rfl,rfl⟩
   ·cases e
  ·cases e
 ·rename_i ty a b l;simp only [l,Pi.e2];replace e:=A6 z e;obtain ⟨v,p,e,y,j⟩:=e;replace e:=A6 z e;obtain ⟨G,J,e,B,A⟩:=e;simp only [y,B];refine (cr r w (λhs => ?_) j A e).ev;unfold YB at hs;split at hs
  ·have:=Nat.eq_of_beq_eq_true hs;subst this;rw [y] at B;exact Option.some.inj B
  ·cases hs
 ·rename_i ty a lo hi mx l;simp only [l,Pi.e1];replace e:=Sf z e;obtain ⟨vl,pl,e,l1,l2⟩:=e;replace e:=Sf z e;obtain ⟨vh,ph,e,i1,i2⟩:=e;replace e:=Sf z e;obtain ⟨vm,pm,e,m1,m2⟩:=e;replace e:=A6 z e;obtain ⟨v,p,e,y,j⟩:=e;simp only [l1,i1,m1,y];obtain ⟨v,q,D,Y,e1,e2,e3,e4⟩:=ZY (id:=id) (idP:=idP) r w.big j l2 i2 m2 e;rw [e2];exact .val e1 e3 e4
 ·rename_i s a f l;simp only [l,Pi.e1];replace e:=A6 z e;obtain ⟨v,p,e,y,j⟩:=e;simp only [y];obtain ⟨v,q,e1,e2,e3⟩:=Qz j e;exact .ofV r e1 e2 e3
 ·rename_i ty a f l;simp only [l,Pi.e1];replace e:=A6 z e;obtain ⟨v,p,e,y,j⟩:=e;simp only [y];obtain ⟨v,q,e1,e2,e3⟩:=ZT (h:=X.h) j e;exact .ofV r e1 e2 e3
 ·rename_i ty a b l;simp only [l,Pi.e2];replace e:=A6 z e;obtain ⟨v,p,e,y,j⟩:=e;replace e:=A6 z e;obtain ⟨G,J,e,B,A⟩:=e;simp only [y,B];obtain ⟨v,q,e1,e2,e3⟩:=Q0 r j A e;exact .ofV r e1 e2 e3
 ·rename_i ty a b l;simp only [l,Pi.e2];replace e:=A6 z e;obtain ⟨v,p,e,y,j⟩:=e;replace e:=A6 z e;obtain ⟨G,J,e,B,A⟩:=e;simp only [y,B];obtain ⟨v,q,e1,e2,e3⟩:=ZW (X:=X) j A e;exact .ofV r e1 e2 e3
 ·rename_i ty a b ok l;simp only [l,Pi.e2];replace e:=A6 z e;obtain ⟨v,p,e,y,j⟩:=e;replace e:=A6 z e;obtain ⟨G,J,e,B,A⟩:=e;simp only [y,B];obtain ⟨v,q,e1,e2,e3⟩:=WC r j A e;exact .ofV r e1 e2 e3
 ·rename_i ty a k b l;simp only [l,Pi.e3];replace e:=A6 z e;obtain ⟨v,p,e,y,j⟩:=e;replace e:=A6 z e;obtain ⟨G,J,e,B,A⟩:=e;replace e:=A6 z e;obtain ⟨v'',p'',e,Z,h6⟩:=e;simp only [y,B,Z];obtain ⟨h',D,Y,e1,e2,e3⟩:=Ll r w.big j A h6 id idP e;rw [e2];exact .skip e1 e3
 ·rename_i ty a k b l;simp only [l,Pi.e3];replace e:=A6 z e;obtain ⟨v,p,e,y,j⟩:=e;replace e:=A6 z e;obtain ⟨G,J,e,B,A⟩:=e;replace e:=A6 z e;obtain ⟨v'',p'',e,Z,h6⟩:=e;simp only [y,B,Z];obtain ⟨h',D,Y,e1,e2,e3⟩:=Ll r w.big j A h6 id idP e;rw [e2];exact .skip e1 e3
 ·rename_i a ty1 ty ok l;simp only [l,Pi.e1];replace e:=A6 z e;obtain ⟨v,p,e,y,j⟩:=e;simp only [y];obtain ⟨v,q,e1,e2,e3⟩:=WF r j e;exact .ofV r e1 e2 e3
 ·rename_i a i l;simp only [l,Pi.e1];replace e:=A6 z e;obtain ⟨v,p,e,y,j⟩:=e;simp only [y];split at e
  ·replace e:=AZ e;obtain ⟨v,hv,e⟩:=e;simp only [VR] at j;obtain ⟨C,rfl,j⟩:=j;obtain ⟨q,q1,q2⟩:=j.lget hv;exact .ofV r e (DC q1) q2
  ·cases e
 ·rename_i a l;simp only [l,Pi.e1];replace e:=A6 z e;obtain ⟨v,p,e,y,j⟩:=e;simp only [y];split at e
  ·have O:=j;simp only [VR] at j;obtain ⟨q,rfl,j⟩:=j;exact .pan e O
  ·cases e
 ·rename_i c l;simp only [l];replace e:=NA z e;obtain ⟨vs,C,e,y,j⟩:=e;simp only [y];split at e
  ·rename_i b U;simp only [U];rcases Ud r w j e with k | ⟨v,p,e1,e2,e3⟩ | ⟨e1,e2⟩
   ·exact k.ev
   ·rw [e2];exact .pan e1 e3
   ·rw [e2];exact .rcv e1
  ·rename_i f M;simp only [M,Pi.e1];replace e:=A6 z e;obtain ⟨v,p,e,B,A⟩:=e;simp only [B];split at e
   ·simp only [VR] at A;obtain ⟨a',b',rfl,L,N⟩:=A;obtain ⟨g,as,E,e1,e2,e3⟩:=Jt L N j e;show EvOk X h n id idP K x (Pi.F8 P _ a' b' C);rw [e2];exact .call e1 e3
   ·simp only [VR] at A;obtain ⟨pid,m,L,rfl⟩:=A;exact .yield e L j
   ·cases e
  ·rename_i recv name M;simp only [M,Pi.e1];replace e:=A6 z e;obtain ⟨v,p,e,B,A⟩:=e;simp only [B];obtain ⟨g,as,E,e1,e2,e3⟩:=Jt (.cons A .nil) .nil j e;rw [e2];exact .call e1 e3
 ·rename_i c l;simp only [l];replace e:=NA z e;obtain ⟨vs,C,e,y,j⟩:=e;simp only [y];split at e
  ·rename_i b U;simp only [U];exact .dfr e ⟨C,rfl,j⟩
  ·rename_i f M;simp only [M,Pi.e1];replace e:=A6 z e;obtain ⟨v,p,e,B,A⟩:=e;simp only [B];split at e
   ·have h4':=A;simp only [VR] at A;obtain ⟨a',b',rfl,L,N⟩:=A;exact .dfr e ⟨_,C,rfl,h4',j⟩
   ·cases e
  ·cases e
 ·cases e
end
end Go.Proofs.YtfilfloanndddaaGreat.Sv
namespace Go.Proofs.YtfilfloanndddaaGreat.Sv
variable [Pi.Gl]
open Go.Proofs.YtfilfloanndddaaGreat.Pi (PV T Hp Blk DF UM PE A5 BM AS Bg CH)
def tZ (X:Cx) (a:PEA) (b:PE):Prop:=VR X a.v b.v/\a.recovered=b.recovered
def UMR (X:Cx):Option UMA->Option UM->Prop
 | none,u=>u=none
 | some .ret,u=>u=some .ret
 | some (.pan ch),u => ∃ c,u=some (.pan c)/\L2 (tZ X) ch c
def ROR (X:Cx):Option Nat->Option Nat->Prop
 | none,r=>r=none
 | some l,r => ∃ p m,X.π l=some (.blk p m)/\r=some p
structure FR (X:Cx) (fr:FrA) (fp:Pi.Fr):Prop where
 t:TR X fr.t fp.t
 nt:fp.nt=fr.nt
 big:fr.nt<1048575
 ds:L2 (DFR X) fr.ds fp.ds
 up:UMR X fr.up fp.up
 ro:ROR X fr.ro fp.ro
def Vi (X:Cx):ExA->Pi.Ex->Prop
 | .normal,e=>e = .normal
 | .exit i,e=>e = .exit i
 | .goto i,e=>e = .goto i
 | .ret,e=>e = .ret
 | .panic v,e => ∃ p,e = .panic p/\VR X v p
def WG (X:Cx):OutA->Pi.Out->Prop
 | .ret v,o => ∃ p,o = .ret p/\VR X v p
 | .pan ch,o => ∃ c,o = .pan c/\L2 (tZ X) ch c
theorem UMR.mono {X Y:Cx} (u:Up X Y) {a:Option UMA} {b:Option UM} (h:UMR X a b):UMR Y a b:=by
 cases a with
 | none=>exact h
 | some a=>cases a with
  | ret=>exact h
  | pan f=>obtain ⟨c,e,d⟩:=h;exact ⟨c,e,d.mono λ_ _ k=>⟨k.1.mono u,k.2⟩⟩
theorem ROR.mono {X Y:Cx} (u:Up X Y) {a b:Option Nat} (h:ROR X a b):ROR Y a b:=by
 cases a with
 | none=>exact h
 | some l=>obtain ⟨p,m,d,c⟩:=h;exact ⟨p,m,u.pi _ _ d,c⟩
theorem FR.mono {X Y:Cx} (u:Up X Y) {fr:FrA} {fp:Pi.Fr} (h:FR X fr fp):FR Y fr fp :=
 ⟨h.t.mono u,h.nt,h.big,h.ds.mono λ_ _ k=>k.mono u,h.up.mono u,h.ro.mono u⟩
def Cx.low (X:Cx) (b:Nat):Cx:={ X with π:=λi=>if i<b then X.π i else none }
theorem Cx.low_eq {X:Cx} {b i:Nat} (h:i<b):(X.low b).π i=X.π i:=if_pos h
theorem Cx.low_ge {X:Cx} {b i:Nat} (h : ¬ i<b):(X.low b).π i=none:=if_neg h
theorem Up.low (X:Cx) (b:Nat):Up (X.low b) X:=by
 refine ⟨λi a h => ?_,λ_ _ _ _ h k=>⟨⟨_,k⟩,h⟩⟩;by_cases c:i<b
 ·rw [Cx.low_eq c] at h;exact h
 ·rw [Cx.low_ge c] at h;cases h
theorem Up.toLow {X:Cx} {h:H} {n b:Nat} (r:RH X h n) (c:n<=b):Up X (X.low b):=by
 refine ⟨λi a h => ?_,λ_ _ _ _ h k=>⟨⟨_,k⟩,h⟩⟩;rw [Cx.low_eq (Nat.lt_of_lt_of_le (r.dom _ _ h) c)];exact h
theorem Up.lowLe {X:Cx} {b c:Nat} (d:b<=c):Up (X.low b) (X.low c):=by
 refine ⟨λi a h => ?_,λ_ _ _ _ h k=>⟨⟨_,k⟩,h⟩⟩;by_cases hi:i<b
 ·rw [Cx.low_eq hi] at h;rw [Cx.low_eq (by omega)];exact h
 ·rw [Cx.low_ge hi] at h;cases h
structure Ext (b bP:Nat) (X:Cx) (h:H) (Y:Cx) (h':H):Prop where
 up:Up (X.low b) Y
 pin : ∀ j,j<b->X.π j=none->Y.π j=none
 hpn : ∀ q,q<bP->X.h.get q=none->Y.h.get q=none
 nx:X.h.nx<=Y.h.nx
 lk : ∀ j c,h.get j=some c->c.locked=true->h'.get j=some c
 lps : ∀ q st pe nt t ps asg body d,X.h.get q=some (.lp st pe nt t ps asg body d) -> ∃ st' pe',Y.h.get q=some (.lp st' pe' nt t ps asg body d)
theorem Ext.refl (b bP:Nat) (X:Cx) (h:H):Ext b bP X h X h:=⟨Up.low X b,λ_ _ h=>h,λ_ _ h=>h,Nat.le_refl _,λ_ _ h _=>h,λ_ a c _ _ _ _ _ _ h=>⟨a,c,h⟩⟩
theorem Ext.trans {b bP:Nat} {X Y Z:Cx} {h h' h'':H} (a:Ext b bP X h Y h') (c:Ext b bP Y h' Z h''):Ext b bP X h Z h'' where
 up:=by
  have r:Up (X.low b) (Y.low b):=by
   refine ⟨λi x hi => ?_,a.up.rows⟩;by_cases e:i<b
   ·rw [Cx.low_eq e];exact a.up.pi _ _ hi
   ·rw [Cx.low_ge e] at hi;cases hi
  exact r.trans c.up
 pin:=λj g k=>c.pin j g (a.pin j g k)
 hpn:=λq f k=>c.hpn q f (a.hpn q f k)
 nx:=Nat.le_trans a.nx c.nx
 lk:=λj x k l=>c.lk j x (a.lk j x k l) l
 lps:=λq y w nt t u o m d k=>by
  obtain ⟨n,s,p⟩:=a.lps _ _ _ _ _ _ _ _ _ k;exact c.lps _ _ _ _ _ _ _ _ _ p
theorem Ext.le {b c bP d:Nat} (e:b<=c) (i:bP<=d) {X Y:Cx} {h h':H} (a:Ext c d X h Y h'):Ext b bP X h Y h' :=
 ⟨(Up.lowLe e).trans a.up,λj g k=>a.pin j (by omega) k,λq f k=>a.hpn q (by omega) k,a.nx,a.lk,a.lps⟩
theorem St.ext {b bP id idP:Nat} {X Y:Cx} {h h':H} (s:St X h id idP Y h') (i:b<=id) (n:bP<=idP):Ext b bP X h Y h' :=
 ⟨(Up.low X b).trans s.up,λj m k=>s.pin j (by omega) k,λq l k=>s.hpn q (by omega) k,Nat.le_of_eq s.nx.symm,s.lk,λq f e nt t g c a d k=>⟨f,e,s.lps _ _ _ _ _ _ _ _ _ k⟩⟩
theorem Ext.full {b bP n:Nat} {X Y:Cx} {h h':H} (a:Ext b bP X h Y h') (r:RH X h n) (c:n<=b):Up X Y:=(Up.toLow r c).trans a.up
def domX (hh:Hp) (Q b:Nat->Prop):(l:List (Bool×Ty))->AH l->List PV->Prop
 | [],_,ps=>ps=[]
 | [p],x,ps => ∃ a,ps=[a]/\EP p.1 (DX hh Q b p.2) x a
 | p::q::r,x,ps => ∃ a t,ps=a::t/\EP p.1 (DX hh Q b p.2) x.1 a/\domX hh Q b (q::r) x.2 t
def IZ:(l:List (Bool×Ty))->AH l->List PV->Prop
 | [],_,ps=>ps=[]
 | [p],x,ps => ∃ a,ps=[a]/\EP p.1 (DP p.2) x a
 | p::q::r,x,ps => ∃ a t,ps=a::t/\EP p.1 (DP p.2) x.1 a/\IZ (q::r) x.2 t
section
variable {X:Cx} {h:H} {n id idP:Nat} {β:Type} {x:β} {P:Program}
theorem FA (r:RH X h n) {Q:Nat->Prop} (d : ∀ pid,X.Q pid->Q pid) : ∀ {l:List (Bool×Ty)} {vs:List V} {b:List PV} {K:AH l->Option β},(∀ id pid m,id∈IG vs->X.π id=some (.blk pid m)->Q pid)->VRL X vs b->FV h l vs K=some x -> ∃ y,K y=some x/\domX X.h Q X.Q l y b
 | [],vs,b,K,hq,hv,e=>by
  unfold FV at e;split at e
  ·exact ⟨(),e,hv.nil_inv⟩
  ·cases e
 | [p],vs,b,K,hq,hv,e=>by
  unfold FV at e;split at e
  ·rename_i v;obtain ⟨a,i,rfl,g,f⟩:=hv.cons_inv;obtain ⟨y,e1,k⟩:=NC (Q:=Q) r (λid pid m hi c=>hq id pid m (by simpa [IG] using hi) c) d g e;exact ⟨y,e1,a,by rw [f.nil_inv],k⟩
  ·cases e
 | p::q::rr,vs,b,K,hq,hv,e=>by
  unfold FV at e;split at e
  ·rename_i v j;obtain ⟨a,i,rfl,g,f⟩:=hv.cons_inv;obtain ⟨y,e1,k⟩:=NC (Q:=Q) r (λid pid m hi c=>hq id pid m (by simp [IG,hi]) c) d g e
   obtain ⟨z,e2,o⟩:=FA r d (l:=q::rr) (λid pid m hi c=>hq id pid m (by
    simp only [IG,List.flatMap_cons,List.mem_append] at hi ⊢;exact .inr hi) c) f e1
   exact ⟨(y,z),e2,a,i,rfl,k,o⟩
  ·cases e
theorem Py {p:Bool×Ty} {l:List (Bool×Ty)} (h:Hi (p::l)=true):p.2.depth<=4/\(p.1=true\/p.2.leaf=true)/\Hi l=true:=by
 simp only [Hi,List.all_cons,Bool.and_eq_true,Bool.or_eq_true] at h ⊢;exact ⟨Nat.le_of_ble_eq_true h.1.1,h.1.2,h.2⟩
theorem JJ {hh:Hp} {Q x:Nat->Prop} (f : ∀ i,x i->Q i) : ∀ {l:List (Bool×Ty)} {y:AH l} {e:List PV},Hi l=true->domX hh Q x l y e -> ∃ z lP,CH hh e=some (z,lP)/\IZ l y z/\Met hh Q lP
 | [],y,e,k,h=>by rw [show e=[] from h];exact ⟨[],[],rfl,rfl,.nil⟩
 | [p],y,e,k,⟨a,s,n⟩=>by
  subst s;have g:=(Py k).1;obtain ⟨q,c,m,o,u⟩:=cq (d:=Pi.BQ) f n (by show _<=12;omega);exact ⟨[q],c++[],by simp only [CH,m],⟨q,rfl,o⟩,u.append .nil⟩
 | p::q::r,y,e,k,⟨a,t,s,n,D⟩=>by
  subst s;have g:=Py k;obtain ⟨b,c,m,o,u⟩:=cq (d:=Pi.BQ) f n (by show _<=12;omega);obtain ⟨w,j,B,C,A⟩:=JJ f (l:=q::r) g.2.2 D;exact ⟨b::w,c++j,by rw [CH,m,B],⟨b,w,rfl,o,C⟩,u.append A⟩
def O3 (hh:Hp):(l:List (Bool×Ty))->AH l->PV->Prop
 | [p],y,r=>EP p.1 (DX hh (λ_=>True) (λ_=>True) p.2) y r
 | l,y,r => ∃ rs,r = .tup rs/\domX hh (λ_=>True) (λ_=>True) l y rs
def kT:(l:List (Bool×Ty))->AH l->PV->Prop
 | [p],y,r=>EP p.1 (DP p.2) y r
 | l,y,r => ∃ rs,r = .tup rs/\IZ l y rs
theorem DP.flat : ∀ {c:Ty} {y:c.den} {f:List PV},c.hasSl=false->DP c y f->Pi.Dg f=true
 | .int _,_,_,_,e=>by subst e;rfl
 | .bool,_,_,_,e=>by subst e;rfl
 | .str,_,_,_,e=>by subst e;rfl
 | .unit,_,_,_,e=>by subst e;rfl
 | .pair a b,_,_,hs,⟨p,q,e,h,g⟩=>by
  subst e;simp only [Ty.hasSl,Bool.or_eq_false_iff] at hs;have d:=DP.flat hs.1 h;have i:=DP.flat hs.2 g;clear h g
  induction p with
  | nil=>exact i
  | cons a p j =>
   simp only [Pi.Dg,Bool.and_eq_true] at d;simp only [List.cons_append,Pi.Dg,d.1,Bool.true_and];exact j d.2
 | .sl _ _,_,_,hs,_=>by cases hs
theorem EP.flat {g:Bool} {c:Ty} {y:c.den} {e:PV} (hs:c.hasSl=false) (h:EP g (DP c) y e):Pi.flat e=true:=by
 cases g with
 | true=>obtain ⟨cs,rfl,h⟩:=h;exact DP.flat hs h
 | false =>
  have:=DP.flat hs (show DP c y [e] from h);simpa [Pi.Dg] using this
theorem N6 : ∀ {l:List (Bool×Ty)} {y:AH l} {d:List PV},Fi l=false->IZ l y d->Pi.Dg d=true
 | [],_,_,_,h=>by rw [show _=[] from h];rfl
 | [p],_,_,hs,⟨a,c,b⟩=>by
  subst c;have:p.2.hasSl=false:=by simpa [Fi] using hs
  simp [Pi.Dg,EP.flat this b]
 | p::q::r,_,_,hs,⟨a,t,c,b,f⟩=>by
  subst c;have e:p.2.hasSl=false/\Fi (q::r)=false:=by simpa [Fi] using hs
  simp only [Pi.Dg,EP.flat e.1 b,Bool.true_and];exact N6 e.2 f
theorem RZ {l:List (Bool×Ty)} {y:AH l} {r:PV} (hs:Fi l=false) (h:kT l y r):Pi.flat r=true:=by
 match l,y,h with
 | [],y,⟨rs,b,a⟩=>subst b;exact N6 hs a
 | [p],y,h=>exact EP.flat (by simpa [Fi] using hs) h
 | p::q::rr,y,⟨rs,b,a⟩=>subst b;exact N6 hs a
theorem JK : ∀ {l:List (Bool×Ty)} {y:AH l} {d:List PV},IZ l y d->VRL X (Jo l y) d
 | [],_,_,h=>by rw [show _=[] from h];exact .nil
 | [p],_,_,⟨a,c,b⟩=>by subst c;exact .cons (IL b) .nil
 | p::q::r,_,_,⟨a,t,c,b,e⟩=>by subst c;exact .cons (IL b) (JK e)
theorem NF {l:List (Bool×Ty)} {y:AH l} {r:PV} (h:kT l y r):VR X (cZ l y) r:=by
 match l,y,h with
 | [],y,⟨rs,d,e⟩ =>
  subst d;show VR X (.tup []) (.tup rs);have i:rs=[]:=e;subst i;simp only [VR];exact ⟨[],rfl,.nil⟩
 | [(true,c)],y,h=>exact IL (g:=true) h
 | [(false,.int k)],y,h=>exact IL (g:=false) (c:=.int k) h
 | [(false,.bool)],y,h=>exact IL (g:=false) (c:=.bool) h
 | [(false,.str)],y,h=>exact IL (g:=false) (c:=.str) h
 | [(false,.unit)],y,h=>exact IL (g:=false) (c:=.unit) h
 | [(false,.pair a b)],y,h=>exact IL (g:=false) (c:=.pair a b) h
 | [(false,.sl g c)],y,h =>
  show VR X (.lf false g c y) r;obtain ⟨p,j,d⟩:=(show DP (.sl g c) y [r] from h);have:r=p:=by simpa using j
  subst this;simp only [VR];rcases d with d | ⟨f,es,d,e⟩
  ·exact .inl d
  ·exact .inr (.inl ⟨f,es,d,(λh=>by cases h),e⟩)
 | p::q::rr,y,⟨rs,d,e⟩ =>
  subst d
  have m:cZ (p::q::rr) y = .tup (Jo (p::q::rr) y):=by
   obtain ⟨gg,c⟩:=p;cases gg<;>cases c<;>rfl
  rw [m];simp only [VR];exact ⟨rs,rfl,JK e⟩
theorem Pz : ∀ {f:PV->Option (PV×List Nat)} {d:List PV} {k:Nat} {c:List PV} {l:List Nat},AS f d=some (c,l) -> ∃ l',AS f (d.take k)=some (c.take k,l')
 | f,[],k,c,l,e=>by cases e;exact ⟨[],by simp [AS]⟩
 | f,p::d,0,c,l,e=>⟨[],by simp [AS]⟩
 | f,p::d,k+1,c,l,e=>by
  simp only [AS] at e;split at e
  ·rename_i q a h b e1 e2;cases e;obtain ⟨l',g⟩:=Pz (k:=k) e2;exact ⟨a++l',by simp [AS,e1,g]⟩
  ·cases e
theorem NG {hh:Hp} : ∀ {a:List PV},CH hh a=AS (Bg hh Pi.BQ) a
 | []=>rfl
 | p::a=>by
  rw [CH,AS,NG]
theorem RH.flag (r:RH X h n) (c:n<=1048575) {a:List Nat} {h':H} (l:Kn X a) (e:GB h a=some h') : ∃ Y:Cx,Y.π=X.π/\Y.O=X.O/\Y.h=X.h/\RH Y h' n /\ ∀ id idP,St X h id idP Y h':=by
 obtain ⟨Y,j,k,i,p,_⟩:=r.frozen (lP:=[]) c l e rfl (λq=>by simp) (λq b=>by cases b) 0 0
 have:Y=X:=by
  cases Y;cases X;simp only at j k i;subst j;subst k;subst i;rfl
 subst this;refine ⟨Y,rfl,rfl,rfl,p,λid idP => ?_⟩;obtain ⟨g,f,m,d,s,o⟩:=r.frozen (lP:=[]) c l e rfl (λq=>by simp) (λq b=>by cases b) id idP
 have:g=Y:=by
  cases g;cases Y;simp only at f m d;subst f;subst m;subst d;rfl
 subst this;exact o
theorem RH.borrow (r:RH X h n) {bP:Blk} {c:Hp} (B:idP<X.h.nx) (e:X.h.new idP bP=some c) (C : ∀ z w nt t s j f d,bP ≠ .lp z w nt t s j f d) : ∃ Y:Cx,Y.π=X.π/\Y.O=X.O/\Y.h=c/\RH Y h n /\ ∀ id,St X h id idP Y h:=by
 obtain ⟨l,g,x⟩:=Hp.get_new e
 let Y:Cx:={ π:=X.π,h:=c,O:=X.O }
 have y : ∀ q,X.O q->q≠idP:=λq a hh=>by subst hh;exact r.ob _ a l
 have u:Up X Y:=⟨λ_ _ h=>h,λq es ex fz a o=>⟨⟨fz,by
  show c.get q=_
  rw [g,if_neg (by intro hh;subst hh;rw [l] at o;cases o),o]⟩,a⟩⟩
 refine ⟨Y,rfl,rfl,rfl,⟨λi b hi=>(r.blk _ _ hi).keep u λq m a k=>⟨?_,k⟩,r.inj,r.dom,λq a => ?_,λq a => ?_⟩,λid=>⟨u,x,λ_ _ h=>h,λq a A => ?_,λ_ _ h _=>h,λq z w nt t s j f d a => ?_⟩⟩
 ·show c.get q=_;rw [g,if_neg (y _ k)]
 ·show c.get q=none;have p:X.h.nx<=q:=by rw [<- x];exact a
  rw [g,if_neg (by omega)];exact r.fresh _ p
 ·show c.get q≠none;rw [g,if_neg (y _ a)];exact r.ob _ a
 ·show c.get q=none;rw [g,if_neg a];exact A
 ·show c.get q=_;rw [g,if_neg (by intro hh;subst hh;rw [l] at a;cases a)];exact a
theorem YN {m:Hp} {l:List (Bool×Ty)} {y:AH l} {u:PV} (i:Hi l=true) (z:O3 m l y u) : ∃ q c,Bg m Pi.BQ u=some (q,c)/\kT l y q:=by
 have o : ∀ {rs:List PV},domX m (λ_=>True) (λ_=>True) l y rs -> ∃ e c,Bg m Pi.BQ (.tup rs)=some (.tup e,c)/\IZ l y e:=by
  intro rs C
  have : ∀ {l:List (Bool×Ty)} {y:AH l} {rs:List PV},Hi l=true->domX m (λ_=>True) (λ_=>True) l y rs -> ∃ e c,AS (Bg m 11) rs=some (e,c)/\IZ l y e:=by
   intro l
   induction l with
   | nil=>intro y rs _ h;rw [show rs=[] from h];exact ⟨[],[],rfl,rfl⟩
   | cons p l x =>
    intro y rs i h;cases l with
    | nil =>
     obtain ⟨a,rfl,j⟩:=h
     have k:p.2.depth<=4:=by
      have:Nat.ble p.2.depth 4=true:=by simp only [Hi,List.all_cons,List.all_nil,Bool.and_true,Bool.and_eq_true] at i;exact i.1
      exact Nat.le_of_ble_eq_true this
     obtain ⟨q,c,f,g,w⟩:=cq (d:=11) (λ_ h=>h) j (by omega);exact ⟨[q],c++[],by simp only [AS,f],q,rfl,g⟩
    | cons q r =>
     obtain ⟨a,t,rfl,j,A⟩:=h
     have k:p.2.depth<=4/\Hi (q::r)=true:=by
      simp only [Hi,List.all_cons,Bool.and_eq_true] at i ⊢;exact ⟨Nat.le_of_ble_eq_true i.1.1,i.2⟩
     obtain ⟨b,c,f,g,w⟩:=cq (d:=11) (λ_ h=>h) j (by omega);obtain ⟨e,n,D,B⟩:=x k.2 A;exact ⟨b::e,c++n,by rw [AS,f,D],b,e,rfl,g,B⟩
  obtain ⟨e,c,f,g⟩:=this i C;exact ⟨e,c,by rw [show Pi.BQ=11+1 from rfl,Sn,f];rfl,g⟩
 match l,y,z with
 | [],y,⟨rs,s,j⟩=>subst s;obtain ⟨e,c,f,g⟩:=o j;exact ⟨_,c,f,e,rfl,g⟩
 | [p],y,h =>
  have k:p.2.depth<=4:=by
   have:Nat.ble p.2.depth 4=true:=by simp only [Hi,List.all_cons,List.all_nil,Bool.and_true,Bool.and_eq_true] at i;exact i.1
   exact Nat.le_of_ble_eq_true this
  obtain ⟨q,c,f,g,w⟩:=cq (d:=Pi.BQ) (λ_ h=>h) h (by show _<=12;omega);exact ⟨q,c,f,g⟩
 | p::q::rr,y,⟨rs,s,j⟩=>subst s;obtain ⟨e,c,f,g⟩:=o j;exact ⟨_,c,f,e,rfl,g⟩
theorem Ju {f:PV->Option (PV×List Nat)} : ∀ {a:List PV} {b:List PV} {l:List Nat},AS f a=some (b,l)->b.length=a.length
 | [],b,l,h=>by cases h;rfl
 | p::a,b,l,h=>by
  simp only [AS] at h;split at h
  ·rename_i e2;cases h;simp [Ju e2]
  ·cases h
theorem GM {hh:Hp} : ∀ {d:Nat} {v q:PV} {l:List Nat},Bg hh d v=some (q,l)->q.cells.length=v.cells.length
 | 0,v,q,l,e=>by cases e
 | d+1,v,q,l,e=>by
  cases v with
  | agg cs =>
   rw [Js] at e;obtain ⟨⟨x,m⟩,g,c⟩:=Pi.AQ e;cases c;exact Ju g
  | tup cs =>
   rw [Sn] at e;obtain ⟨⟨x,m⟩,g,c⟩:=Pi.AQ e;cases c;rfl
  | ifc t v =>
   rw [So] at e;obtain ⟨⟨x,m⟩,g,c⟩:=Pi.AQ e;cases c;rfl
  | fn f a b =>
   rw [WD] at e;split at e
   ·cases e;rfl
   ·cases e
  | own id off len =>
   simp only [Bg] at e;split at e
   ·replace e:=BD e;obtain ⟨_,e⟩:=e;obtain ⟨⟨x,m⟩,g,c⟩:=Pi.AQ e;cases c;rfl
   ·cases e
  | ptr id off =>
   simp only [Bg] at e;split at e
   ·replace e:=BD e;obtain ⟨_,e⟩:=e;obtain ⟨⟨x,m⟩,g,c⟩:=Pi.AQ e;cases c;rfl
   ·cases e
  | ept id i off =>
   simp only [Bg] at e;split at e
   ·split at e
    ·replace e:=BD e;obtain ⟨_,e⟩:=e;obtain ⟨⟨x,m⟩,g,c⟩:=Pi.AQ e;cases c;rfl
    ·cases e
   ·cases e
  | yl | mp=>cases e
  | _=>cases e;rfl
theorem Ig (r:RH X h n) (hn:n<=1048575) (W:X.h.get idP=none) (hlt:idP<X.h.nx) {l:List (Bool×Ty)} {y:AH l} {hR:Hp} {rP:PV} {x lP:List Nat} {h':H} (U:Hi l=true) (hr:O3 hR l y rP)
  (hm:MetA X x lP) (hk:Kn X x) (J:(bif Fi l then GB h x else some h)=some h') (id:Nat) :
  ∃ q f Y,Pi.B9 idP lP X.h hR rP=some (q,f)/\MD X h n id idP h' f Y/\VR Y (cZ l y) q/\((US l=false \/ ∀ j o len,rP ≠ .own j o len)->f.get idP=none):=by
 have same : ∃ Y,MD X h n id idP h' X.h Y:=by
  cases hc:Fi l with
  | true =>
   rw [hc] at J;obtain ⟨Y,y1,S,K,y4,y5⟩:=r.flag hn hk J;exact ⟨Y,K,y4,y5 _ _⟩
  | false =>
   rw [hc] at J;cases J;exact ⟨X,rfl,r,St.refl _ _ _ _⟩
 have u:Fi l=true -> ∃ f Y,Pi.freeze X.h lP=some f/\MD X h n id idP h' f Y:=λhc=>by
  rw [hc] at J;obtain ⟨f,Y,B,y1,S,K⟩:=r.mark hn hm hk J id idP;exact ⟨f,Y,B,K⟩
 obtain ⟨q,pids,P,z⟩:=YN U hr;unfold Pi.B9;split
 ·rename_i len F ex hS;split at hS
  ·rename_i j C;split at hS
   ·rename_i es ex' hj;split at hS
    ·rename_i qs' l2 E;replace hS:=DL hS;obtain ⟨_,hS⟩:=hS;cases hS
     have N : ∃ g c,l=[(false,.sl g c)]:=by
      match l,y,hr with
      | [],y,⟨rs,w,h2⟩=>cases w
      | p::q::rr,y,⟨rs,w,h2⟩=>cases w
      | [(true,c)],y,⟨cs,w,h2⟩=>cases w
      | [(false,.sl g c)],y,_=>exact ⟨g,c,rfl⟩
      | [(false,.int _)],y,h=>cases (show [PV.own j 0 len]=_ from h)
      | [(false,.bool)],y,h=>cases (show [PV.own j 0 len]=_ from h)
      | [(false,.str)],y,h=>cases (show [PV.own j 0 len]=_ from h)
      | [(false,.unit)],y,h=>cases (show [PV.own j 0 len]=_ from h)
      | [(false,.pair a b)],y,h=>simp [Hi,Ty.leaf] at U
     obtain ⟨g,c,rfl⟩:=N;have hc:Fi [(false,Ty.sl g c)]=true:=rfl;have hr':DX hR (λ_=>True) (λ_=>True) (.sl g c) y [.own j 0 len]:=hr;obtain ⟨p0,I1,hrr⟩:=hr';have M:PV.own j 0 len=p0:=by simpa using I1
     subst M;rcases hrr with ⟨w,_⟩ | ⟨_,_,w,_⟩ | ⟨pid,off,len2,es2,ex2,fz2,w,_,h3,h4,h8,h5⟩
     ·cases w
     ·cases w
     ·cases w;rw [hj] at h3;cases h3
      have O:c.depth+1<=4:=by
       have:Nat.ble (Ty.sl g c).depth 4=true:=by simp only [Hi,List.all_cons,List.all_nil,Bool.and_true,Bool.and_eq_true] at U;exact U.1
       exact Nat.le_of_ble_eq_true this
      obtain ⟨qs2,ids2,k1,k2,k3⟩:=RX (λy e hE=>Ue (d:=Pi.BQ) (λhh' d' O=>Ke hh' d' O) (by show _<=12;omega) hE) h5;rw [NG] at E;obtain ⟨l',k4⟩:=Pz (k:=len) E;rw [List.drop_zero] at k1;rw [k1] at k4;cases k4;have D:F.length=es.length:=Ju E
      have hok:Pi.HD c.wd F=true:=by
       cases es with
       | nil=>cases F with
        | nil=>rfl
        | cons=>simp at D
       | cons e0 t =>
        simp only [AS] at E;split at E
        ·rename_i q0 a0 qs0 b0 B I;cases E;simp only [Pi.HD] at h8 ⊢;rw [GM B];exact h8
        ·cases E
      have L : ∀ {s:Hp} {Y:Cx},MD X h n id idP h' s Y->(s.get idP=none) -> ∃ q f Y,((s.new idP (.row F ex false)).map λh=>(PV.own idP 0 len,h))=some (q,f)/\MD X h n id idP h' f Y/\VR Y (cZ [(false,.sl g c)] y) q/\((US [(false,.sl g c)]=false \/ ∀ j' o C,PV.own j 0 len ≠ .own j' o C)->f.get idP=none):=by
       intro s Y ⟨y1,S,K⟩ hnone;obtain ⟨f,e1⟩:=MC s idP (.row F ex false) hnone;subst y1;obtain ⟨Z,z1,z2,z3,z4,z5⟩:=S.borrow (by rw [K.nx];exact hlt) e1 (by intros;simp)
       refine ⟨_,f,Z,by rw [e1];rfl,⟨z3,z4,K.trans (z5 id)⟩,?_,λhh=>by
        rcases hh with hh | hh
        ·cases hh
        ·exact absurd rfl (hh _ _ _)⟩
       show VR Z (.lf false g c y) (.own idP 0 len);simp only [VR];refine .inr (.inr ⟨idP,0,len,F,ex,false,rfl,by simp,λhO => ?_,by rw [z3,(Hp.get_new e1).2.1,if_pos rfl],by rw [D];exact h4,hok,by rw [List.drop_zero];exact EPL.up k2⟩);rw [z2] at hO;exact S.ob _ hO hnone
      cases G:Pi.Dg F with
      | true =>
       obtain ⟨Y,A⟩:=same;simp only [cond_true];exact L A W
      | false =>
       obtain ⟨s,Y,B,A⟩:=u hc;simp only [cond_false,B];refine L A ?_;rw [<- A.1];obtain ⟨hP3,I,f3,f4⟩:=Em (Q:=λi=>X.Q i \/ ∃ id∈x,∃ m,X.π id=some (.blk i m)) hm;rw [B] at I;cases I;rw [A.1,f4,W];split<;>rfl
    ·cases hS
   ·cases hS
  ·cases hS
 ·
  simp only [P];cases G:Pi.flat q with
  | true =>
   obtain ⟨Y,A⟩:=same;exact ⟨q,X.h,Y,rfl,A,NF z,λ_=>W⟩
  | false =>
   have hc:Fi l=true:=by
    cases hc:Fi l with
    | true=>rfl
    | false=>rw [RZ hc z] at G;cases G
   obtain ⟨s,Y,B,A⟩:=u hc;refine ⟨q,s,Y,by simp [B],A,NF z,λ_ => ?_⟩;obtain ⟨hP3,I,f3,f4⟩:=Em (Q:=λi=>X.Q i \/ ∃ id∈x,∃ m,X.π id=some (.blk i m)) hm;rw [B] at I;cases I;rw [f4,W];split<;>rfl
def cv (a:Hp) (g:Bool) (c:Ty) (y:List c.den) (r:PV):Prop :=
 (y=[]/\(r = .nils\/r = .lst true [])) \/ ∃ j es,r = .own j 0 es.length/\a.get j=some (.row es false false)/\0<es.length/\L2 (EP g (DR a (λq=>q≠j) c)) y es
theorem St.nw {X Y:Cx} {h h':H} {n id idP:Nat} (s:St X h id (idP+1) Y h') (w:Nw X n id idP) (a:Y.π id=none) (b:Y.h.get idP=none):Nw Y n id idP:=⟨a,w.lt,w.big,b,by rw [s.nx];exact w.hlt⟩
theorem Sr (r:RH X h n) (w:Nw X n id idP) {g:Bool} {c:Ty} {y:List c.den} {S:Hp} {rP:PV} {o lP:List Nat} {h':H} (hd:c.depth<=3) (M:cv S g c y rP)
  (hm:MetA X o lP) (hk:Kn X o) (B:(bif c.hasSl then GB h o else some h)=some h') :
  ∃ q b Y,Pi.B9 idP lP X.h S rP=some (q,b)/\MD X h n id idP (Ai h' id (.row g c y false false false)) b Y/\VR Y (.ow id) q/\(b.get idP=none\/Pi.AY q=[idP]):=by
 have same : ∃ Y,MD X h n id idP h' X.h Y/\Y.π=X.π:=by
  cases hc:c.hasSl with
  | true =>
   rw [hc] at B;obtain ⟨Y,k,A,p,y4,y5⟩:=r.flag w.big hk B;exact ⟨Y,⟨p,y4,y5 _ _⟩,k⟩
  | false =>
   rw [hc] at B;cases B;exact ⟨X,⟨rfl,r,St.refl _ _ _ _⟩,rfl⟩
 rcases M with ⟨rfl,M⟩ | ⟨j,es,rfl,hj,hpos,hl⟩
 ·obtain ⟨Y,⟨k,A,p⟩,x⟩:=same;have K:Nw Y n id idP:=⟨by rw [x];exact w.pi,w.lt,w.big,by rw [k];exact w.hp,by rw [k];exact w.hlt⟩;rcases M with rfl | rfl
  ·obtain ⟨Z,⟨I,E,G⟩,C⟩:=Sj A K (g:=g) (c:=c) (fz:=false);exact ⟨.nils,X.h,Z,rfl,⟨by rw [I,k],E,p.trans G⟩,C,.inl w.hp⟩
  ·obtain ⟨Z,⟨I,E,G⟩,C⟩:=Sk A K (g:=g) (c:=c) (fz:=false);exact ⟨.lst true [],X.h,Z,rfl,⟨by rw [I,k],E,p.trans G⟩,C,.inl w.hp⟩
 ·obtain ⟨z,F,L,k2,k3⟩:=RX (λy e hE=>Ue (d:=Pi.BQ) (λP d' O=>Ke P d' O) (by show _<=12;omega) hE) hl
  have t:F.any (Nat.beq j)=false:=by
   rw [List.any_eq_false];intro i hi N;have:=Nat.eq_of_beq_eq_true N;subst this;exact (k3 _ hi).1 rfl
  have s:z.length=es.length:=Ju L
  have u:c.hasSl=false->Pi.Dg z=true:=λhc=>by
   clear s L k3 t hl
   induction k2 with
   | nil=>rfl
   | cons a _ ih=>simp only [Pi.Dg,EP.flat hc a,Bool.true_and];exact ih
  have N:Pi.B9 idP lP X.h S (.own j 0 es.length)=(match (bif Pi.Dg z then some X.h else Pi.freeze X.h lP) with
   | some h=>(h.new idP (.row z false false)).map λh=>(.own idP 0 es.length,h)
   | none=>none):=by
   unfold Pi.B9;simp only [hj,NG,L,t,cond_false];rfl
  have D : ∀ {f:Hp} {Y:Cx},MD X h n id idP h' f Y->Y.π id=none->f.get idP=none -> ∃ q b Y,((f.new idP (.row z false false)).map λh=>(PV.own idP 0 es.length,h))=some (q,b)/\MD X h n id idP (Ai h' id (.row g c y false false false)) b Y/\VR Y (.ow id) q/\(b.get idP=none\/Pi.AY q=[idP]):=by
   intro f Y ⟨k,A,p⟩ hpi hnone;have K:Nw Y n id idP:=⟨hpi,w.lt,w.big,by rw [k];exact hnone,by rw [p.nx];exact w.hlt⟩;obtain ⟨b,Z,e1,⟨I,E,G⟩,C,_⟩:=ER A K (g:=g) (c:=c) (l:=y) (es:=z) (ex:=false) (EPL.up k2) (λ_=>by omega);rw [k] at e1;rw [s] at C;exact ⟨_,b,Z,by rw [e1];rfl,⟨I,E,p.trans G⟩,C,.inr rfl⟩
  rw [N];cases J:Pi.Dg z with
  | true =>
   obtain ⟨Y,hY,x⟩:=same;simp only [cond_true];exact D hY (by rw [x];exact w.pi) w.hp
  | false =>
   have hc:c.hasSl=true:=by
    cases hc:c.hasSl with
    | true=>rfl
    | false=>rw [u hc] at J;cases J
   rw [hc] at B;obtain ⟨f,Y,U,k,A,p⟩:=r.mark w.big hm hk B id idP
   have hz:f.get idP=none:=by
    obtain ⟨hP3,W,f3,f4⟩:=Em (Q:=λi=>X.Q i \/ ∃ id∈o,∃ m,X.π id=some (.blk i m)) hm;rw [U] at W;cases W;rw [f4,w.hp];split<;>rfl
   simp only [cond_false,U];refine D p ?_ hz;rw [k];exact w.pi
end
end Go.Proofs.YtfilfloanndddaaGreat.Sv
namespace Go.Proofs.YtfilfloanndddaaGreat.Sv
variable [Pi.Gl]
open Go.Proofs.YtfilfloanndddaaGreat.Pi (PV T Hp Blk DF UM PE A5 BM AS Bg CH)
def Bt (a:Jc) (f:FuncId):Bool:=(a f).isNone
def PD (P:Program) (a:Jc) (b:Pi.Tg) (up:Option UM) (args:List PV) (h:Hp) (r:Pi.Out×Option UM×Hp):Prop :=
 ∃ N,∀ F n,N<=F->N<=n->Pi.GA P (Bt a) F n b up args h=some r
def FnOK (P:Program) (a:Jc) (f:FuncId) (sg:Sg):Prop := ∀ x y,sg.fn x=some y -> ∀ b,IZ sg.dom x b -> ∃ r up c,PD P a (.fn f) none b I1 (.ret r,up,c)/\O3 c sg.cod y r
def RowOK (P:Program) (a:Jc) (f:FuncId) (dom:List (Bool×Ty)) (g:Bool) (c:Ty) (e:AH dom->Option (List c.den)):Prop := ∀ x y,e x=some y -> ∀ b,IZ dom x b -> ∃ r up d,PD P a (.fn f) none b I1 (.ret r,up,d)/\cv d g c y r
def WH:PV->PV
 | .agg cs => .view cs
 | v=>v
def NH:List (Bool×Ty)->List PV->List PV
 | p::l,v::vs=>(bif nI p then WH v else v)::NH l vs
 | _,vs=>vs
def FnP (P:Program) (a:Jc) (f:FuncId) (sg:Sg):Prop := ∀ x y,sg.fn x=some y -> ∀ b,IZ sg.dom x b -> ∃ r up c,PD P a (.fn f) none (NH sg.dom b) I1 (.ret r,up,c)/\O3 c sg.cod y r
def FnL (P:Program) (a:Jc) (f:FuncId) (sg:Sg):Prop := ∀ x y,sg.fn x=some y -> ∀ b,IZ sg.dom x b -> ∃ r up c,PD P a (.fn f) none b I1 (.ret r,up,c)/\O3 c sg.cod y r /\ ∀ j o len,r ≠ .own j o len
structure TabOK (P:Program) (tab:Jc):Prop where
 std : ∀ f sg,Nat.blt f GS=true->tab f=some (some sg)->FnOK P tab (lq f) sg
 row : ∀ f dom g c fn,Nat.blt f Hj=true->tab (f+GS)=some (some ⟨dom,[(false,.sl g c)],fn⟩)->RowOK P tab f dom g c fn
 ptr : ∀ f sg,Nat.blt f Hj=true->tab (f+Pn)=some (some sg)->FnP P tab f sg
 dat : ∀ f sg,Nat.blt f Hj=true->tab (f+V8)=some (some sg)->FnL P tab f sg
theorem IM {a b:Nat} (h:Nat.blt a b=true):a<b:=Nat.le_of_ble_eq_true h
theorem cw {a b:Nat} (h:a<b):Nat.blt a b=true:=Nat.ble_eq_true_of_le h
theorem mU {a b:Nat} (h:b<=a):Nat.blt a b=false:=by
 cases c:Nat.blt a b with
 | false=>rfl
 | true=>exact absurd (IM c) (Nat.not_lt.2 h)
theorem YO:GS=Hj+Hj:=rfl
theorem mV {f:Nat} (h:Nat.blt f Hj=true):lq f=f:=by unfold lq;rw [h];rfl
theorem kU (o f:Nat):(bif Nat.blt (f+o) o then f+o else f+o-o)=f:=by
 rw [mU (Nat.le_add_left _ _)];exact Nat.add_sub_cancel f o
theorem mW (f:Nat):lq (f+Hj)=f:=kU Hj f
theorem TabOK.get {P:Program} {a:Jc} (T:TabOK P a) {f:FuncId} {sg:Sg} (b:Nat.blt f Hj=true) (h:a f=some (some sg)):FnOK P a f sg:=by
 have:=T.std f sg (cw (Nat.lt_of_lt_of_le (IM b) (by rw [YO];exact Nat.le_add_left _ _))) h
 rwa [mV b] at this
theorem TabOK.getD {P:Program} {a:Jc} (T:TabOK P a) {f:FuncId} {sg:Sg} (h:getD a f=some sg):FnOK P a f sg:=by
 unfold Sv.getD at h;replace h:=BD h;obtain ⟨c,h⟩:=h;split at h
 ·rename_i r b;subst h;exact T.get c b
 ·split at h
  ·rename_i r b;subst h;have:=T.std _ sg (cw (by rw [YO];exact Nat.add_lt_add_right (IM c) _)) b
   rwa [mW] at this
  ·cases h
theorem TabOK.getR {P:Program} {a:Jc} (T:TabOK P a) {f:FuncId} {dom:List (Bool×Ty)} {g:Bool} {c:Ty} {b:AH dom->Option (List c.den)} (h:getR a f=some ⟨dom,[(false,.sl g c)],b⟩):RowOK P a f dom g c b:=by
 unfold Sv.getR at h;replace h:=BD h;obtain ⟨e,h⟩:=h;split at h
 ·rename_i r d;subst h;exact T.row _ _ _ _ _ e d
 ·cases h
theorem TabOK.getL {P:Program} {a:Jc} (T:TabOK P a) {f:FuncId} {sg:Sg} (h:getL a f=some sg):FnL P a f sg:=by
 unfold Sv.getL at h;replace h:=BD h;obtain ⟨b,h⟩:=h;split at h
 ·rename_i r c;subst h;exact T.dat _ _ b c
 ·cases h
theorem TabOK.getP {P:Program} {a:Jc} (T:TabOK P a) {f:FuncId} {sg:Sg} (h:getP a f=some sg):FnP P a f sg:=by
 unfold Sv.getP at h;replace h:=BD h;obtain ⟨b,h⟩:=h;split at h
 ·rename_i r c;subst h;exact T.ptr _ _ b c
 ·cases h
structure BI (b bP:Nat) (X:Cx) (h:H) (nx:Nat) (Y:Cx) (h':H) (nx':Nat) (hP':Hp):Prop where
 hp:Y.h=hP'
 rh:RH Y h' nx'
 big:nx'<=1048575
 le:nx<=nx'
 ext:Ext b bP X h Y h'
structure RecAOK (P:Program) (tab:Jc) (rec:Po):Prop where
 fn : ∀ {β:Type} {x:β} {f up args h nx K},rec β (.fn f) up args h nx K=some x -> ∀ {X upP ps},RH X h nx->nx<=1048575->VRL X args ps->UMR X up upP ->
  ∃ o up' h' nx' Y oP upP' hP',K o up' h' nx'=some x/\PD P tab (.fn f) upP ps X.h (oP,upP',hP')/\BI nx X.h.nx X h nx Y h' nx' hP'/\WG Y o oP/\UMR Y up' upP'
 yl : ∀ {β:Type} {x:β} {l args h nx K},rec β (.yl l) none args h nx K=some x -> ∀ {X lP m ps},RH X h nx->nx<=1048575->X.π l=some (.blk lP m)->VRL X args ps ->
  ∃ o up' h' nx' Y oP upP' hP',K o up' h' nx'=some x/\PD P tab (.yl lP) none ps X.h (oP,upP',hP')/\BI nx X.h.nx X h nx Y h' nx' hP'/\WG Y o oP/\UMR Y up' upP'
section
variable {P:Program} {tab:Jc} {rec:Po} {β:Type} {x:β}
theorem P0 {X:Cx} {args:List V} {c:List PV} (l:VRL X args c):Kn X (IG args):=by
 intro i hi
 have : ∀ {vs:List V} {c:List PV},VRL X vs c -> ∀ i∈La vs,∃ a,X.π i=some a:=by
  intro vs
  induction vs with
  | nil=>intro c _ i hi;cases hi
  | cons v vs f =>
   intro c hv i hi;obtain ⟨p,n,rfl,d,e⟩:=hv.cons_inv;cases v with
   | ow j =>
    rcases List.mem_cons.1 hi with rfl | hi
    ·simp only [VR] at d;cases h:X.π i with
     | none=>rw [h] at d;exact d.elim
     | some a=>exact ⟨a,rfl⟩
    ·exact f e i hi
   | own j a b =>
    rcases List.mem_cons.1 hi with rfl | hi
    ·simp only [VR] at d;obtain ⟨pid,m,o,_⟩:=d;exact ⟨_,o⟩
    ·exact f e i hi
   | _=>exact f e i hi
 unfold IG at hi;obtain ⟨v,hv,hi⟩:=List.mem_flatMap.1 hi
 have g : ∀ {vs:List V} {c:List PV},VRL X vs c->v∈vs -> ∃ p,VR X v p:=by
  intro vs
  induction vs with
  | nil=>intro c _ hv;cases hv
  | cons u vs f =>
   intro c k hv;obtain ⟨p,n,rfl,d,e⟩:=k.cons_inv;rcases List.mem_cons.1 hv with rfl | hv
   ·exact ⟨p,d⟩
   ·exact f e hv
 obtain ⟨p,h⟩:=g l hv;exact this h.cells i hi
theorem H2 : ∀ {L:List Nat} {h a:Hp},Pi.freeze h L=some a -> ∀ x,(h.get x=none->a.get x=none)/\(h.get x≠none->a.get x≠none)
 | [],h,a,e,x=>by simp [Pi.freeze] at e;subst e;exact ⟨λh=>h,λh=>h⟩
 | j::L,h,a,e,x=>by
  unfold Pi.freeze at e
  have step : ∀ {b b0:Blk},h.get j=some b0->(match h.set j b with
    | some h=>Pi.freeze h L
    | none=>none)=some a->(h.get x=none->a.get x=none)/\(h.get x≠none->a.get x≠none):=by
   intro b b0 l e;obtain ⟨n,i⟩:=Do h j b;rw [i] at e;obtain ⟨m,k⟩:=H2 e x;have g:=(Hp.get_set i).1 x;by_cases d:x=j
   ·subst d;rw [if_pos rfl] at g;exact ⟨λc=>(by rw [l] at c;cases c),λ_=>k (by rw [g];simp)⟩
   ·rw [if_neg d] at g;exact ⟨λc=>m (by rw [g];exact c),λc=>k (by rw [g];exact c)⟩
  split at e
  ·rename_i cs fz f;exact step f e
  ·rename_i es ex fz f;exact step f e
  ·cases e
theorem Ss {id:Nat} {l:List Nat} {h j a:Hp} {g q:PV} (c:h.get id=none) (e:Pi.B9 id l h j g=some (q,a)):a.get id=none\/Pi.AY q=[id]:=by
 unfold Pi.B9 at e;split at e
 ·split at e
  ·obtain ⟨_,_,b⟩:=Pi.AQ e;cases b;exact .inr rfl
  ·cases e
 ·split at e
  ·rename_i i _ _;cases d:Pi.flat i with
   | true=>rw [d] at e;simp only [cond_true] at e;cases e;exact .inl c
   | false =>
    rw [d] at e;simp only [cond_false] at e;obtain ⟨k,f,b⟩:=Pi.AQ e;cases b;exact .inl ((H2 f id).1 c)
  ·cases e
theorem Ot {X:Cx} {h:H} {n id idP:Nat} (r:RH X h n) (w:Nw X n id idP) {f:FuncId} {sg:Sg} (T:FnOK P tab f sg) {args:List V} {t:List PV} {K:V->H->Option β} (A:VRL X args t) (e:Ik h sg args K=some x) :
  ∃ v h' q a Y c lP i up g,K v h'=some x/\CH X.h t=some (c,lP)/\PD P tab (.fn f) none c I1 (.ret i,up,g)/\Pi.B9 idP lP X.h g i=some (q,a)/\(∀ y∈lP,X.h.get y≠none)/\MD X h n id idP h' a Y/\VR Y v q/\((US sg.cod=false->a.get idP=none)/\(a.get idP=none\/Pi.AY q=[idP])):=by
 unfold Ik at e;replace e:=DL e;obtain ⟨B,e⟩:=e;simp only [Bool.or_eq_false_iff,Bool.not_eq_false'] at B;obtain ⟨l,p⟩:=B
 let Q:Nat->Prop:=λpid=>X.Q pid \/ ∃ id∈IG args,∃ m,X.π id=some (.blk pid m)
 have O:=e;replace e:=FA (Q:=Q) r (λ_ h => .inl h) (λid pid m hi M => .inr ⟨id,hi,m,M⟩) A e;obtain ⟨y,e,o⟩:=e;replace e:=AZ e;obtain ⟨h',j,e⟩:=e;replace e:=LP e;obtain ⟨z,D,e⟩:=e;obtain ⟨c,lP,k,s,b⟩:=JJ (λ_ h => .inl h) l o;obtain ⟨i,up,g,⟨N,I⟩,d⟩:=T y z D c s;have E:Kn X (IG args):=P0 A;obtain ⟨q,a,Y,u,C,F,L⟩:=Ig r w.big w.hp w.hlt p d b E j id;exact ⟨_,h',q,a,Y,c,lP,i,up,g,e,k,⟨N,I⟩,u,λy G=>(by obtain ⟨_,es,ex,fz,J⟩:=b y G;rw [J];simp),C,F,λh=>L (.inl h),Ss w.hp u⟩
theorem Uh {X:Cx} {h:H} {n id idP:Nat} (r:RH X h n) (w:Nw X n id idP) {f:FuncId} {sg:Sg} (T:FnL P tab f sg) {args:List V} {u:List PV} {K:V->H->Option β} (A:VRL X args u) (e:Ik h sg args K=some x) :
  ∃ v h' q a Y c lP i up g,K v h'=some x/\CH X.h u=some (c,lP)/\PD P tab (.fn f) none c I1 (.ret i,up,g)/\Pi.B9 idP lP X.h g i=some (q,a)/\(∀ y∈lP,X.h.get y≠none)/\MD X h n id idP h' a Y/\VR Y v q/\a.get idP=none:=by
 unfold Ik at e;replace e:=DL e;obtain ⟨B,e⟩:=e;simp only [Bool.or_eq_false_iff,Bool.not_eq_false'] at B;obtain ⟨l,p⟩:=B
 let Q:Nat->Prop:=λpid=>X.Q pid \/ ∃ id∈IG args,∃ m,X.π id=some (.blk pid m)
 have S:=e;replace e:=FA (Q:=Q) r (λ_ h => .inl h) (λid pid m hi O => .inr ⟨id,hi,m,O⟩) A e;obtain ⟨y,e,o⟩:=e;replace e:=AZ e;obtain ⟨h',j,e⟩:=e;replace e:=LP e;obtain ⟨z,E,e⟩:=e;obtain ⟨c,lP,k,t,b⟩:=JJ (λ_ h => .inl h) l o;obtain ⟨i,up,g,⟨N,J⟩,d,s⟩:=T y z E c t;have F:Kn X (IG args):=P0 A;obtain ⟨q,a,Y,D,C,G,M⟩:=Ig r w.big w.hp w.hlt p d b F j id;exact ⟨_,h',q,a,Y,c,lP,i,up,g,e,k,⟨N,J⟩,D,λy I=>(by obtain ⟨_,es,ex,fz,L⟩:=b y I;rw [L];simp),C,G,M (.inr s)⟩
theorem Ou {X:Cx} {h:H} {n id idP:Nat} (r:RH X h n) (w:Nw X n id idP) {f:FuncId} {sg:Sg} (T : ∀ dom g c t,sg=⟨dom,[(false,.sl g c)],t⟩->RowOK P tab f dom g c t) {args:List V} {B:List PV} {K:V->H->Option β} (C:VRL X args B) (e:UR h id sg args K=some x) :
  ∃ v h' q a Y d lP k up j,K v h'=some x/\CH X.h B=some (d,lP)/\PD P tab (.fn f) none d I1 (.ret k,up,j)/\Pi.B9 idP lP X.h j k=some (q,a)/\(∀ y∈lP,X.h.get y≠none)/\MD X h n id idP h' a Y/\VR Y v q/\(a.get idP=none\/Pi.AY q=[idP]):=by
 unfold UR at e;split at e
 ·rename_i dom g c t;replace e:=DL e;obtain ⟨D,e⟩:=e;simp only [Bool.or_eq_false_iff,Bool.not_eq_false'] at D;obtain ⟨p,u⟩:=D
  let Q:Nat->Prop:=λpid=>X.Q pid \/ ∃ id∈IG args,∃ m,X.π id=some (.blk pid m)
  replace e:=FA (Q:=Q) r (λ_ h => .inl h) (λid pid m hi S => .inr ⟨id,hi,m,S⟩) C e;obtain ⟨y,e,s⟩:=e;replace e:=AZ e;obtain ⟨h',l,e⟩:=e;replace e:=LP e;obtain ⟨z,G,e⟩:=e;obtain ⟨d,lP,o,A,b⟩:=JJ (λ_ h => .inl h) p s;obtain ⟨k,up,j,⟨N,L⟩,i⟩:=T _ _ _ _ rfl y z G d A;obtain ⟨q,a,Y,F,E,I,O⟩:=Sr r w (Nat.le_of_ble_eq_true u) i b (P0 C) l;exact ⟨_,_,q,a,Y,d,lP,k,up,j,e,o,⟨N,L⟩,F,λy J=>(by obtain ⟨_,es,ex,fz,M⟩:=b y J;rw [M];simp),E,I,O⟩
 ·cases e
theorem cx {X:Cx} {h:H} {n id idP:Nat} (r:RH X h n) (w:Nw X n id idP) {f:FuncId} {sg:Sg} (T : ∀ dom g c j,sg=⟨dom,[(false,.sl g c)],j⟩->RowOK P tab f dom g c j) (d:Bt tab f=false) {args:List V} {i:List PV} {K:V->H->Option β} (u:VRL X args i) (e:UR h id sg args K=some x) :
  ∃ v h' q a Y,K v h'=some x/\(∃ N,∀ F n,N<=F->N<=n->Pi.C6 (Bt tab) (Pi.GA P (Bt tab) F n) idP f i X.h=some (.ret q,a))/\MD X h n id idP h' a Y/\VR Y v q:=by
 obtain ⟨v,h',q,a,Y,A,lP,y,up,z,e1,b,⟨N,o⟩,t,_,s,k,_⟩:=Ou r w T u e;refine ⟨v,h',q,a,Y,e1,⟨N,λF n p l => ?_⟩,s,k⟩;unfold Pi.C6;simp only [d,cond_false,b];rw [show ({ m:=.lf,nx:=0 }:Hp)=I1 from rfl,o F n p l];simp only [t];rfl
theorem cy {X:Cx} {h:H} {n id idP:Nat} (r:RH X h n) (w:Nw X n id idP) {f:FuncId} {sg:Sg} (T:FnOK P tab f sg) (c:Bt tab f=false) {args:List V} {d:List PV} {K:V->H->Option β} (p:VRL X args d) (e:Ik h sg args K=some x) :
  ∃ v h' q a Y,K v h'=some x/\(∃ N,∀ F n,N<=F->N<=n->Pi.C6 (Bt tab) (Pi.GA P (Bt tab) F n) idP f d X.h=some (.ret q,a))/\MD X h n id idP h' a Y/\VR Y v q:=by
 obtain ⟨v,h',q,a,Y,u,lP,s,up,t,e1,b,⟨N,j⟩,o,_,l,g,_⟩:=Ot r w T p e;refine ⟨v,h',q,a,Y,e1,⟨N,λF n k i => ?_⟩,l,g⟩;unfold Pi.C6;simp only [c,cond_false,b];rw [show ({ m:=.lf,nx:=0 }:Hp)=I1 from rfl,j F n k i];simp only [o];rfl
theorem kV {X:Cx} {fr:FrA} {fp:Pi.Fr} (f:FR X fr fp) {d:Option Nat} {v:V} {p:PV} {K:FrA->Option β} (h:VR X v p) (e:Ny fr d v K=some x) : ∃ a b,K a=some x/\fp.put d p=some b/\FR X a b:=by
 unfold Ny at e;unfold Pi.Fr.put;split at e
 ·exact ⟨fr,fp,e,rfl,f⟩
 ·rename_i d;replace e:=BD e;obtain ⟨c,e⟩:=e;have g:d<fr.nt:=by simpa using c
  have i:=f.big;exact ⟨_,{ fp with t:=T.put 20 fp.t d p },e,by simp only [f.nt,c,cond_true],⟨f.t.put (by omega) h,f.nt,f.big,f.ds,f.up,f.ro⟩⟩
theorem Ra {X:Cx} {ops:List Oper} {t:T V} {q:T PV} (m:TR X t q) {nt:Nat} (s:nt<1048575) (i : ∀ o∈ops,∀ d,o.dst=some d->d<nt) {g:Option (Nat×Bool)} {h A:T V->Option β} (e:Sd ops t g h A=some x) :
  ∃ y,TR X y q/\((h y=some x/\Pi.Cz ops q g=true)\/(A y=some x/\Pi.Cz ops q g=false)):=by
 unfold Sd at e;unfold Pi.Cz;split at e
 ·exact ⟨t,m,.inl ⟨e,rfl⟩⟩
 ·rename_i j a;split at e
  ·rename_i o w;simp only [w];split at e
   ·rename_i d z;simp only [z]
    have B:d<1048575:=by
     exact Nat.lt_trans (i o (by rw [A5] at w;exact List.mem_of_getElem? w) d z) s
    split at e
    ·rename_i b u;obtain ⟨p,r,n⟩:=m _ _ u;simp only [VR] at n;subst n;simp only [r]
     have same : ∀ c:Bool,b=c->TR X (T.put 20 t d (.bool c)) q:=by
      intro c hc;subst hc;intro k v l;have C:(2:Nat) ^ 20-1=1048575:=by decide
      rw [T.get_put 20 t d _ k (by omega)] at l;by_cases f:k=d
      ·rw [if_pos f] at l;cases l;rw [f];exact ⟨_,r,by simp [VR]⟩
      ·rw [if_neg f] at l;exact m _ _ l
     replace e:=Ew e;rcases e with ⟨hc,e⟩ | ⟨hc,e⟩
     ·subst hc;refine ⟨_,same true rfl,?_⟩;cases a with
      | true=>exact .inl ⟨e,rfl⟩
      | false=>exact .inr ⟨e,rfl⟩
     ·subst hc;refine ⟨_,same false rfl,?_⟩;cases a with
      | true=>exact .inr ⟨e,rfl⟩
      | false=>exact .inl ⟨e,rfl⟩
    ·rename_i u;obtain ⟨p,r,n⟩:=m _ _ u;simp only [VR,VRL] at n;obtain ⟨D,rfl,rfl⟩:=n;simp only [r];exact ⟨t,m,.inr ⟨e,by first | rfl | trivial⟩⟩
    ·cases e
   ·cases e
  ·cases e
def Im (X:Cx) (base baseP i k:Nat):Prop := ∀ j,i<=j->j<i+k->X.π (base+j)=none/\X.h.get (baseP+j)=none
theorem WI (R : RecAOK P tab rec) (T : TabOK P tab) {base baseP b bP : Nat} (hb : b <= base) (hbP : bP <= baseP) {all : List Oper} :
    ∀ {ops : List Oper} {i : Nat} {X : Cx} {fr : FrA} {fp : Pi.Fr} {h : H} {nx : Nat} {K : KA β}, Ev P tab rec base all (Pi.Nh i ops) fr h nx K = some x ->
      RH X h nx -> nx <= 1048575 -> FR X fr fp -> (∀ o ∈ all, ∀ d, o.dst = some d -> d < fr.nt) -> Im X base baseP i ops.length -> base + i + ops.length <= nx -> baseP + i + ops.length <= X.h.nx ->
      ∃ ex fr' h' nx' Y exP fp' hP', K ex fr' h' nx' = some x /\ (∃ N, ∀ F n, N <= F -> N <= n -> Pi.Bl P (Bt tab) (Pi.GA P (Bt tab) F n) baseP all (Pi.Nh i ops) fp X.h = some (exP, fp', hP')) /\ BI b bP X h nx Y h' nx' hP' /\ FR Y fr' fp' /\ Vi Y ex exP := by
  intro ops
  induction ops with
  | nil =>
    intro i X fr fp h nx K e r hn f _ _ _ _;exact ⟨.normal, fr, h, nx, X, .normal, fp, X.h, e, ⟨0, fun _ _ _ _ => rfl⟩, ⟨rfl, r, hn, Nat.le_refl _, Ext.refl _ _ _ _⟩, f, rfl⟩
  | cons o ops ih =>
    intro i X fr fp h nx K e r hn f hall hfr hlen hlenP;simp only [List.length_cons] at hlen hlenP hfr;have hfr0 := hfr i (Nat.le_refl _) (by omega);have w : Nw X nx (base + i) (baseP + i) := ⟨hfr0.1, by omega, hn, hfr0.2, by omega⟩
    have go : ∀ {v : V} {p : PV} {h1 : H} {nx1 : Nat} {X1 : Cx} {fr1 : FrA} {fp1 : Pi.Fr}, Ny fr1 o.dst v (fun fr => Ev P tab rec base all (Pi.Nh (i + 1) ops) fr h1 nx1 K) = some x -> RH X1 h1 nx1 -> nx1 <= 1048575 -> nx <= nx1 -> FR X1 fr1 fp1 -> fr1.nt = fr.nt -> VR X1 v p -> Ext b bP X h X1 h1 -> Im X1 base baseP (i + 1) ops.length ->
        (∀ {rr : Pi.Ex × Pi.Fr × Hp}, (∃ N, ∀ F n, N <= F -> N <= n -> (match fp1.put o.dst p with
          | some fr => Pi.Bl P (Bt tab) (Pi.GA P (Bt tab) F n) baseP all (Pi.Nh (i + 1) ops) fr X1.h
          | none => none) = some rr) -> ∃ N, ∀ F n, N <= F -> N <= n -> Pi.Bl P (Bt tab) (Pi.GA P (Bt tab) F n) baseP all (Pi.Nh i (o :: ops)) fp X.h = some rr) ->
        ∃ ex fr' h' nx' Y exP fp' hP', K ex fr' h' nx' = some x /\ (∃ N, ∀ F n, N <= F -> N <= n -> Pi.Bl P (Bt tab) (Pi.GA P (Bt tab) F n) baseP all (Pi.Nh i (o :: ops)) fp X.h = some (exP, fp', hP')) /\ BI b bP X h nx Y h' nx' hP' /\ FR Y fr' fp' /\ Vi Y ex exP := by
      intro v p h1 nx1 X1 fr1 fp1 e r1 hn1 hle f1 hnt hv hext hfr1 hP;obtain ⟨fr2, fp2, e2, Ai, f2⟩ := kV f1 hv e
      have hnt2 : fr2.nt = fr.nt := by rw [<- f2.nt, <- hnt, <- f1.nt]; unfold Pi.Fr.put at Ai; split at Ai
                                       · cases Ai; rfl
                                       · have := BD Ai; cases this.2; rfl
      obtain ⟨ex, fr', h', nx', Y, exP, fp', hP', k1, k2, k3, k4, k5⟩ := ih e2 r1 hn1 f2 (fun o ho d hd => by rw [hnt2]; exact hall o ho d hd) hfr1 (by omega) (by have := hext.nx; omega);refine ⟨ex, fr', h', nx', Y, exP, fp', hP', k1, hP ?_, ⟨k3.hp, k3.rh, k3.big, Nat.le_trans hle k3.le, hext.trans k3.ext⟩, k4, k5⟩;obtain ⟨N, hN⟩ := k2;exact ⟨N, fun F n hF hn => by rw [Ai]; exact hN F n hF hn⟩
    have idxc : Pi.Nh i (o :: ops) = (i, o) :: Pi.Nh (i + 1) ops := rfl;rw [idxc] at e;unfold Ev at e;have fg := Ra (nt := fr.nt) f.t f.big hall e;obtain ⟨t', ht', hcase⟩ := fg;have f' : FR X { fr with t := t' } fp := ⟨ht', f.nt, f.big, f.ds, f.up, f.ro⟩
    rcases hcase with ⟨e, hw⟩ | ⟨e, hw⟩
    ·
      have ev := cu r w ht' e
      have hP : ∀ F n, Pi.Bl P (Bt tab) (Pi.GA P (Bt tab) F n) baseP all (Pi.Nh i (o :: ops)) fp X.h = (match Pi.BC P fp.t X.h (baseP + i) o with
        | some (.val v h) => match fp.put o.dst v with
          | some fr => Pi.Bl P (Bt tab) (Pi.GA P (Bt tab) F n) baseP all (Pi.Nh (i + 1) ops) fr h
          | none => none
        | some (.skip h) => match fp.put o.dst (.tup []) with
          | some fr => Pi.Bl P (Bt tab) (Pi.GA P (Bt tab) F n) baseP all (Pi.Nh (i + 1) ops) fr h
          | none => none
        | some (.dfr d) => match fp.ro with
          | none => (match ({ fp with ds := d :: fp.ds } : Pi.Fr).put o.dst (.tup []) with
            | some fr => Pi.Bl P (Bt tab) (Pi.GA P (Bt tab) F n) baseP all (Pi.Nh (i + 1) ops) fr X.h
            | none => none)
          | some _ => none
        | some (.call f args) => match Pi.C6 (Bt tab) (Pi.GA P (Bt tab) F n) (baseP + i) f args X.h with
          | some (.ret v, h) => (match fp.put o.dst v with
            | some fr => Pi.Bl P (Bt tab) (Pi.GA P (Bt tab) F n) baseP all (Pi.Nh (i + 1) ops) fr h
            | none => none)
          | some (.pan [{ v := e, recovered := false }], h) => some (.panic e, fp, h)
          | _ => none
        | some (.yield l args) => match Pi.GA P (Bt tab) F n (.yl l) none args X.h with
          | some (.ret v, _, h) => (match fp.put o.dst v with
            | some fr => Pi.Bl P (Bt tab) (Pi.GA P (Bt tab) F n) baseP all (Pi.Nh (i + 1) ops) fr h
            | none => none)
          | _ => none
        | some (.pan v) => some (.panic v, fp, X.h)
        | some .rcv => match fp.ro with
          | some _ => none
          | none => match fp.up with
            | some (.pan ({ v, recovered := false } :: older)) => (match ({ fp with up := some (.pan ({ v, recovered := true } :: older)) } : Pi.Fr).put o.dst v with
              | some fr => Pi.Bl P (Bt tab) (Pi.GA P (Bt tab) F n) baseP all (Pi.Nh (i + 1) ops) fr X.h
              | none => none)
            | _ => (match fp.put o.dst .nili with
              | some fr => Pi.Bl P (Bt tab) (Pi.GA P (Bt tab) F n) baseP all (Pi.Nh (i + 1) ops) fr X.h
              | none => none)
        | none => none) := by
        intro F n;rw [idxc, Pi.Bl, hw]; rfl
      generalize Pi.BC P fp.t X.h (baseP + i) o = op at ev hP
      have fresh1 : ∀ {Y : Cx} {h1 : H}, St X h (base + i) (baseP + i) Y h1 -> Im Y base baseP (i + 1) ops.length := fun s j h1 h2 => by
        obtain ⟨a1, a2⟩ := hfr j (by omega) (by omega);exact ⟨s.pin _ (by omega) a1, s.hpn _ (by omega) a2⟩
      cases ev with
      | val e ok hv =>
        obtain ⟨y1, y2, y3⟩ := ok;refine go e y2 hn (Nat.le_refl _) (f'.mono y3.up) rfl hv (y3.ext (by omega) (by omega)) (fresh1 y3) ?_;rintro rr ⟨N, hN⟩;refine ⟨N, fun F n hF hn => ?_⟩;rw [hP];simp only;rw [<- y1]; exact hN F n hF hn
      | skip e ok =>
        obtain ⟨y1, y2, y3⟩ := ok;refine go e y2 hn (Nat.le_refl _) (f'.mono y3.up) rfl (p := .tup []) (by simp only [VR]; exact ⟨[], rfl, .nil⟩) (y3.ext (by omega) (by omega)) (fresh1 y3) ?_;rintro rr ⟨N, hN⟩;refine ⟨N, fun F n hF hn => ?_⟩;rw [hP];simp only;rw [<- y1]; exact hN F n hF hn
      | dfr e hd =>
        dsimp only at e;split at e
        · rename_i hro
          have hroP : fp.ro = none := by have := f.ro; rw [hro] at this; exact this
          refine go (fp1 := { fp with ds := _ :: fp.ds }) e r hn (Nat.le_refl _) ⟨ht', f.nt, f.big, .cons hd f.ds, f.up, f.ro⟩ rfl (p := .tup []) (by simp only [VR]; exact ⟨[], rfl, .nil⟩) (Ext.refl _ _ _ _) (fun j h1 h2 => hfr j (by omega) (by omega)) ?_
          rintro rr ⟨N, hN⟩;refine ⟨N, fun F n hF hn => ?_⟩;rw [hP];simp only [hroP];have := hN F n hF hn;simp only [hroP] at this;exact this
        · cases e
      | @call g as ps e ha =>
        dsimp only at e;split at e
        · cases e
        · rename_i sg hsg
          replace e := DL e; obtain ⟨hlt, e⟩ := e;have hlt : Nat.blt g Hj = true := by simpa using hlt
          have hsh : Bt tab g = false := by unfold Bt; rw [hsg]; rfl
          split at e
          · rename_i sg' hR
            obtain ⟨v, h1, q, hP1, Y, e1, ⟨N0, hN0⟩, ⟨y1, y2, y3⟩, hv⟩ := cx r w (fun dom g' c fn hh => T.getR (by rw [<- hh]; exact hR)) hsh ha e;refine go e1 y2 hn (Nat.le_refl _) (f'.mono y3.up) rfl hv (y3.ext (by omega) (by omega)) (fresh1 y3) ?_;rintro rr ⟨N, hN⟩;refine ⟨max N0 N, fun F n hF hn => ?_⟩;rw [hP];simp only [hN0 F n (by omega) (by omega)];rw [<- y1]; exact hN F n (by omega) (by omega)
          · obtain ⟨v, h1, q, hP1, Y, e1, ⟨N0, hN0⟩, ⟨y1, y2, y3⟩, hv⟩ := cy r w (T.get hlt hsg) hsh ha e
            refine go e1 y2 hn (Nat.le_refl _) (f'.mono y3.up) rfl hv (y3.ext (by omega) (by omega)) (fresh1 y3) ?_;rintro rr ⟨N, hN⟩;refine ⟨max N0 N, fun F n hF hn => ?_⟩;rw [hP];simp only [hN0 F n (by omega) (by omega)];rw [<- y1]; exact hN F n (by omega) (by omega)
        · rename_i hsg
          obtain ⟨o', up', h1, nx1, Y, oP, upP', hP1, e1, ⟨N0, hN0⟩, run, ho, hu⟩ := R.fn e r hn ha (show UMR X none none from rfl)
          have hcall : ∀ F n, N0 <= F -> N0 <= n -> Pi.C6 (Bt tab) (Pi.GA P (Bt tab) F n) (baseP + i) g ps X.h = some (oP, hP1) := fun F n hF hn => by
            unfold Pi.C6;have hsh : Bt tab g = true := by unfold Bt; rw [hsg]; rfl
            simp only [hsh, cond_true, hN0 F n hF hn]
          have hup := run.ext.full r (Nat.le_refl _);have hext : Ext b bP X h Y h1 := run.ext.le (by omega) (by omega)
          have hfr1 : Im Y base baseP (i + 1) ops.length := fun j h1 h2 => by
            obtain ⟨a1, a2⟩ := hfr j (by omega) (by omega);exact ⟨run.ext.pin _ (by omega) a1, run.ext.hpn _ (by omega) a2⟩
          cases o' with
          | ret v =>
            dsimp only at e1;obtain ⟨p, rfl, hv⟩ := ho;refine go e1 run.rh run.big run.le (f'.mono hup) rfl hv hext hfr1 ?_;rintro rr ⟨N, hN⟩;refine ⟨max N0 N, fun F n hF hn => ?_⟩;rw [hP];simp only [hcall F n (by omega) (by omega)];rw [<- run.hp]; exact hN F n (by omega) (by omega)
          | pan ch =>
            obtain ⟨c, rfl, hch⟩ := ho
            match ch, hch, e1 with
            | [{ v := v, recovered := false }], hch, e1 =>
              obtain ⟨⟨vP, rP⟩, c', rfl, ⟨h3, h4⟩, h5⟩ := L2.cons_inv hch;rw [L2.nil_inv h5] at hcall;simp only at h3 h4; subst h4;refine ⟨_, _, h1, nx1, Y, .panic vP, fp, hP1, e1, ⟨N0, fun F n hF hn => ?_⟩, ⟨run.hp, run.rh, run.big, run.le, hext⟩, f'.mono hup, ⟨vP, rfl, h3⟩⟩;rw [hP];simp only [hcall F n hF hn]
            | [], _, e1 => cases e1
            | [{ v := v, recovered := true }], _, e1 => cases e1
            | ⟨av, ar⟩ :: b :: c, _, e1 => cases ar <;> cases e1
      | @yield l lP m as ps e hl ha =>
        dsimp only at e;obtain ⟨o', up', h1, nx1, Y, oP, upP', hP1, e1, ⟨N0, hN0⟩, run, ho, hu⟩ := R.yl e r hn hl ha;have hup := run.ext.full r (Nat.le_refl _);have hext : Ext b bP X h Y h1 := run.ext.le (by omega) (by omega)
        have hfr1 : Im Y base baseP (i + 1) ops.length := fun j h1 h2 => by
          obtain ⟨a1, a2⟩ := hfr j (by omega) (by omega);exact ⟨run.ext.pin _ (by omega) a1, run.ext.hpn _ (by omega) a2⟩
        cases o' with
        | ret v =>
          dsimp only at e1;obtain ⟨p, rfl, hv⟩ := ho;refine go e1 run.rh run.big run.le (f'.mono hup) rfl hv hext hfr1 ?_;rintro rr ⟨N, hN⟩;refine ⟨max N0 N, fun F n hF hn => ?_⟩;rw [hP];simp only [hN0 F n (by omega) (by omega)];rw [<- run.hp]; exact hN F n (by omega) (by omega)
        | pan ch => cases e1
      | pan e hv =>
        refine ⟨_, _, h, nx, X, .panic _, fp, X.h, e, ⟨0, fun F n _ _ => by rw [hP]⟩, ⟨rfl, r, hn, Nat.le_refl _, Ext.refl _ _ _ _⟩, f', ⟨_, rfl, hv⟩⟩
      | rcv e =>
        dsimp only at e;split at e
        · cases e
        · rename_i hro
          have hroP : fp.ro = none := by have := f.ro; rw [hro] at this; exact this
          split at e
          · rename_i v older hup
            have hu := f.up;rw [hup] at hu;obtain ⟨c, hc, hch⟩ := hu;obtain ⟨⟨vP, rP⟩, c', rfl, ⟨h3, h4⟩, h5⟩ := L2.cons_inv hch;simp only at h3 h4; subst h4;refine go (fp1 := { fp with up := some (.pan ({ v := vP, recovered := true } :: c')) }) e r hn (Nat.le_refl _) ⟨ht', f.nt, f.big, f.ds, ⟨_, rfl, .cons ⟨h3, rfl⟩ h5⟩, f.ro⟩ rfl h3 (Ext.refl _ _ _ _) (fun j h1 h2 => hfr j (by omega) (by omega)) ?_
            rintro rr ⟨N, hN⟩;refine ⟨N, fun F n hF hn => ?_⟩;rw [hP];simp only [hroP, hc];have := hN F n hF hn;simp only [hroP] at this;exact this
          · rename_i hne
            refine go e r hn (Nat.le_refl _) f' rfl (p := .nili) (by simp [VR]) (Ext.refl _ _ _ _) (fun j h1 h2 => hfr j (by omega) (by omega)) ?_;rintro rr ⟨N, hN⟩;refine ⟨N, fun F n hF hn => ?_⟩;rw [hP];simp only [hroP];have := hN F n hF hn;have hu := f.up;cases hfu : fr.up with
            | none =>
              rw [hfu] at hu;rw [show fp.up = none from hu]; exact this
            | some u =>
              rw [hfu] at hu;cases u with
              | ret => rw [show fp.up = some .ret from hu]; exact this
              | pan ch =>
                obtain ⟨c, hc, hch⟩ := hu;rw [hc];cases hch with
                | nil => exact this
                | cons a t =>
                  rename_i a1 b1 l1 m1;obtain ⟨bv, br⟩ := b1;cases br with
                  | true => exact this
                  | false =>
                    obtain ⟨av, ar⟩ := a1;have : ar = false := a.2;subst this;exact absurd hfu (hne _ _)
    ·
      refine go e r hn (Nat.le_refl _) f' rfl (p := .tup []) (by simp only [VR]; exact ⟨[], rfl, .nil⟩) (Ext.refl _ _ _ _) (fun j h1 h2 => hfr j (by omega) (by omega)) ?_;rintro rr ⟨N, hN⟩;refine ⟨N, fun F n hF hn => ?_⟩;rw [idxc, Pi.Bl, hw];exact hN F n hF hn
end
end Go.Proofs.YtfilfloanndddaaGreat.Sv
namespace Go.Proofs.YtfilfloanndddaaGreat.Sv
variable [Pi.Gl]
open Go.Proofs.YtfilfloanndddaaGreat.Pi (PV T Hp Blk DF UM PE A5 BM AS Bg CH)
structure Kp (W:List Nat) (a b:Pi.Fr):Prop where
 t : ∀ k,k ∉ W->b.t.get k=a.t.get k
 nt:b.nt=a.nt
 ro:b.ro=a.ro
 up:a.up=none->b.up=none
 ds : ∃ p,b.ds=p++a.ds
theorem Kp.refl (W:List Nat) (a:Pi.Fr):Kp W a a:=⟨λ_ _=>rfl,rfl,rfl,λh=>h,[],rfl⟩
theorem Kp.trans {W:List Nat} {a b c:Pi.Fr} (h:Kp W a b) (k:Kp W b c):Kp W a c:=by
 obtain ⟨p,d⟩:=h.ds;obtain ⟨q,f⟩:=k.ds;exact ⟨λi hi=>(k.t i hi).trans (h.t i hi),k.nt.trans h.nt,k.ro.trans h.ro,λe=>k.up (h.up e),q++p,by rw [f,d,List.append_assoc]⟩
theorem Kp.mono {W V:List Nat} (c : ∀ k∈W,k∈V) {a b:Pi.Fr} (h:Kp W a b):Kp V a b:=⟨λk d=>h.t k λhh=>d (c k hh),h.nt,h.ro,h.up,h.ds⟩
theorem Kp.put {W:List Nat} {a b:Pi.Fr} (f:a.nt<1048575) {d:Option Nat} (c : ∀ i,d=some i->i∈W) {v:PV} (e:a.put d v=some b):Kp W a b:=by
 unfold Pi.Fr.put at e;split at e
 ·cases e;exact Kp.refl _ _
 ·rename_i i;replace e:=BD e;obtain ⟨hi,e⟩:=e;cases e;have g:i<a.nt:=by simpa using hi
  have j:(2:Nat) ^ 20-1=1048575:=by decide
  refine ⟨λk l => ?_,rfl,rfl,λh=>h,[],rfl⟩;show (T.put 20 a.t i v).get k=_;rw [T.get_put 20 a.t i v k (by omega),if_neg];intro hh;subst hh;exact l (c k rfl)
section
variable {P:Program} {sh:FuncId->Bool} {rec:Pi.OZ}
theorem Rb {base:Nat} {all:List Oper} {W:List Nat} : ∀ {l:List (Nat×Oper)} {fr d:Pi.Fr} {h h':Hp} {ex:Pi.Ex},fr.nt<1048575->(∀ p∈l,∀ i,p.2.dst=some i->i∈W)->Pi.Bl P sh rec base all l fr h=some (ex,d,h')->Kp W fr d
 | [],fr,d,h,h',ex,hnt,hW,e=>by cases e;exact Kp.refl _ _
 | (i,o)::l,fr,d,h,h',ex,hnt,hW,e=>by
  have k : ∀ p∈l,∀ i,p.2.dst=some i->i∈W:=λp c=>hW p (by simp [c]);have q : ∀ j,o.dst=some j->j∈W:=hW (i,o) (by simp)
  have f : ∀ {a b:Pi.Fr} {v:PV} {hh:Hp},Kp W fr a->a.put o.dst v=some b->Pi.Bl P sh rec base all l b hh=some (ex,d,h')->Kp W fr d:=λm n e=>by
   have g:=Kp.put (W:=W) (by rw [m.nt];exact hnt) q n;exact (m.trans g).trans (Rb (by rw [g.nt,m.nt];exact hnt) k e)
  unfold Pi.Bl at e;replace e:=Fj e;rcases e with ⟨_,e⟩ | ⟨_,e⟩
  ·split at e
   ·split at e
    ·rename_i c;exact f (Kp.refl _ _) c e
    ·cases e
   ·split at e
    ·rename_i c;exact f (Kp.refl _ _) c e
    ·cases e
   ·split at e
    ·split at e
     ·rename_i c;exact f (a:={ fr with ds:=_::fr.ds }) ⟨λ_ _=>rfl,rfl,rfl,λh=>h,[_],rfl⟩ c e
     ·cases e
    ·cases e
   ·split at e
    ·split at e
     ·rename_i c;exact f (Kp.refl _ _) c e
     ·cases e
    ·cases e;exact Kp.refl _ _
    ·cases e
   ·split at e
    ·split at e
     ·rename_i c;exact f (Kp.refl _ _) c e
     ·cases e
    ·cases e
   ·cases e;exact Kp.refl _ _
   ·split at e
    ·cases e
    ·split at e
     ·rename_i r;split at e
      ·rename_i c;exact f (a:={ t:=fr.t,nt:=fr.nt,ds:=fr.ds,up:=some _,ro:=fr.ro }) ⟨λ_ _=>rfl,rfl,rfl,λh=>(by rw [r] at h;cases h),[],rfl⟩ c e
      ·cases e
     ·split at e
      ·rename_i c;exact f (Kp.refl _ _) c e
      ·cases e
   ·cases e
  ·split at e
   ·rename_i c;exact f (Kp.refl _ _) c e
   ·cases e
theorem IN {base nt:Nat} {all:List Oper} {W:List Nat} (b:nt<1048575) : ∀ {i:Nat} {ops:List Oper} {l:List Pi.Mk} {a:List (Nat×List Nat×List Nat)} {t f:T PV} {h h':Hp},(∀ o∈ops,∀ i,o.dst=some i->i∈W)->Pi.Bh P rec base nt all i ops l a t h=some (f,h') -> ∀ k,k ∉ W->f.get k=t.get k
 | i,[],l,a,t,f,h,h',hW,e,k,hk=>by
  have:(t,h)=(f,h'):=by cases l<;>simpa [Pi.Bh] using e
  cases this;rfl
 | i,o::ops,[],a,t,f,h,h',hW,e,k,hk=>by cases e
 | i,o::ops,m::l,a,t,f,h,h',hW,e,k,hk=>by
  have c : ∀ o∈ops,∀ i,o.dst=some i->i∈W:=λp q=>hW p (by simp [q]);have n:(2:Nat) ^ 20-1=1048575:=by decide
  have put : ∀ {d:Nat} {v:PV},o.dst=some d->Nat.blt d nt=true->(T.put 20 t d v).get k=t.get k:=λg j=>by
   have r:=Nat.le_of_ble_eq_true j;rw [T.get_put 20 t _ _ k (by omega),if_neg];intro hh;subst hh;exact hk (hW o (by simp) _ g)
  unfold Pi.Bh at e;replace e:=Fj e;rcases e with ⟨_,e⟩ | ⟨_,e⟩
  ·split at e
   ·replace e:=BD e;obtain ⟨_,e⟩:=e;split at e
    ·rename_i d g;replace e:=BD e;obtain ⟨j,e⟩:=e;rw [IN b c e k hk,put g j]
    ·exact IN b c e k hk
   ·cases e
  ·split at e
   ·rename_i d g;replace e:=BD e;obtain ⟨j,e⟩:=e;rw [IN b c e k hk,put g j]
   ·exact IN b c e k hk
theorem YP : ∀ {l:List Oper} {i:Nat} {p:Nat×Oper},p∈Pi.Nh i l->p.2∈l
 | [],i,p,h=>by cases h
 | o::l,i,p,h=>by
  rcases List.mem_cons.1 h with rfl | h
  ·simp
  ·exact List.mem_cons_of_mem _ (YP h)
theorem GC : ∀ {n:Nat} {c:Code} {fr f:Pi.Fr} {h h':Hp} {ex:Pi.Ex},fr.nt<1048575->Pi.exec P sh rec n c fr h=some (ex,f,h')->Kp (FW c) fr f
 | 0,_,_,_,_,_,_,_,e=>by cases e
 | n+1,c,fr,f,h,h',ex,hnt,e=>by
  cases c with
  | skip=>cases e;exact Kp.refl _ _
  | label l=>cases e;exact Kp.refl _ _
  | seq a b =>
   simp only [Pi.exec] at e;split at e
   ·rename_i fr1 t e1;have q:=GC hnt e1;have C:=GC (by rw [q.nt];exact hnt) e;exact (q.mono λk d=>List.mem_append_left _ d).trans (C.mono λk d=>List.mem_append_right _ d)
   ·exact (GC hnt e).mono λk d=>List.mem_append_left _ d
  | cond c a b =>
   simp only [Pi.exec] at e;split at e
   ·exact (GC hnt e).mono λk d=>List.mem_append_left _ d
   ·exact (GC hnt e).mono λk d=>List.mem_append_right _ d
   ·cases e
  | block id b =>
   simp only [Pi.exec] at e;split at e
   ·rename_i j fr1 t e1;have q:=GC hnt e1;replace e:=Fj e;rcases e with ⟨_,e⟩ | ⟨_,e⟩<;>(cases e;exact q)
   ·exact GC (c:=b) hnt e
  | loop b =>
   simp only [Pi.exec] at e;split at e
   ·rename_i fr1 t e1;have q:=GC hnt e1;exact q.trans (GC (c:=.loop b) (by rw [q.nt];exact hnt) e)
   ·exact GC (c:=b) hnt e
  | scope b =>
   simp only [Pi.exec] at e;split at e
   ·cases e
   ·exact GC (c:=b) hnt e
  | exit id=>cases e;exact Kp.refl _ _
  | goto l=>cases e;exact Kp.refl _ _
  | ret=>cases e;exact Kp.refl _ _
  | refuse w=>cases e
  | region id ops s =>
   simp only [Pi.exec] at e;have y : ∀ o∈ops.toList,∀ i,o.dst=some i->i∈FW (.region id ops s):=λo A i hi=>List.mem_filterMap.2 ⟨o,A,hi⟩;replace e:=Fj e;rcases e with ⟨_,e⟩ | ⟨_,e⟩
   ·replace e:=BD e;obtain ⟨_,e⟩:=e;split at e
    ·rename_i fr1 t e1;cases e;unfold Pi.drawn at e1;split at e1
     ·split at e1
      ·rename_i D t e2;cases e1;exact ⟨IN hnt y e2,rfl,rfl,λh=>h,[],rfl⟩
      ·cases e1
     ·cases e1
    ·cases e
   ·exact Rb hnt (λp B i hi=>y p.2 (YP B) i hi) e
  | rangeFunc g z x r =>
   simp only [Pi.exec] at e;have u : ∀ {m:List DF},Kp (FW (.rangeFunc g z x r)) fr { fr with ds:=m++fr.ds }:=fun {m}=>⟨λ_ _=>rfl,rfl,rfl,λh=>h,m,rfl⟩
   split at e
   ·split at e
    ·split at e
     ·split at e
      ·split at e
       ·split at e
        ·replace e:=DL e;obtain ⟨_,e⟩:=e;split at e
         ·split at e<;>first | (cases e;exact u) | cases e
         ·cases e
        ·cases e
       ·cases e
      ·cases e
     ·cases e
    ·cases e
   ·cases e
end
end Go.Proofs.YtfilfloanndddaaGreat.Sv
