/- A part of the evaluator over typed open values for any program, and of the proof that it is sound. No condition. -/
import Derived.Test.YtfceigpbgndbgaaGreatDoorPs2
import Derived.RowKit3
import Derived.WalkKit
import Derived.ProofKit
import Derived.OpenShut
import Derived.ReadAgain
import Derived.ChangeStays
import Derived.IntWalk
set_option linter.all false
open List renaming any_eq_false->aT, append_nil->aL, cons_append->bc, drop_drop->bZ, getElem?_append_left->bF, getElem?_append_right->ba, getElem?_eq_some_iff->ab, length_append->bH, length_cons->aR, map_cons->cB, mem_append->an, mem_append_left->ao, mem_append_right->am, mem_cons->ai, mem_cons_of_mem->aB, mem_of_getElem?->bV, mem_of_mem_drop->cD, mem_of_mem_take->cE, mem_singleton->aw, nil_append->cq, take_add->dk
open Nat renaming add_assoc->aH, add_right_cancel->aK, beq->aa, ble->ah, blt->af, blt_eq->bR, eq_of_beq_eq_true->aj, le_add_left->aS, le_of_ble_eq_true->aq, le_refl->ad, le_trans->ax, not_lt->bp, zero_le->bD
open Option renaming getD_some->aE, map_some->ap
open Bool renaming and_eq_true->ac, cond_eq_ite->az, not_eq_false'->ay, not_eq_true'->bf, not_true->au, or_eq_false_iff->ak, or_eq_true->bB, or_self->aJ
open Option renaming some->zo, none->zn
open Bool renaming true->zt, false->zf
namespace Go.Proofs.YtfceigpbgndbgaaGreatDoor.Sv
section
variable[Pi.Gl]
open Pi (PV T Hp Blk DF UM PE AN AT AB AV Ao)
theorem Im{X:Cx}:∀ {args:List V} {c:List PV} {i:Nat} {t:T V} {b:T PV},VRL X args c->TR X t b->i+args.length<=1048575->TR X (Gt i args t) (Pi.Bl i c b)
 |[],c,i,t,b,hv,ht,_=>by
  rw[hv.nil_inv];exact ht
 |a::l,c,i,t,b,hv,ht,hb=>by
  obtain⟨p,g,rfl,e,f⟩:=hv.cons_inv;simp only[aR]at hb;show TR X (Gt (i+1) l (T.put 20 t i a)) (Pi.Bl (i+1) g (T.put 20 b i p));exact Im f (ht.put (d:=i) (by omega) e) (by omega)
theorem VRL.len{X:Cx}{vs:List V}{a:List PV}(h:VRL X vs a):a.length=vs.length:=h.length.symm
theorem CY{X:Cx}{nt:Nat}(h:nt<1048575):∀ {l:List Nat} {args:List V} {f:List PV} {t g:T V} {c:T PV},VRL X args f->TR X t c->EW nt l args t=zo g -> ∃ b,Pi.Bx nt l f c=zo b/\TR X g b
 |[],[],f,t,g,c,hv,ht,e=>by
  rw[hv.nil_inv];cases e;exact⟨c,rfl,ht⟩
 |p::l,a::args,f,t,g,c,hv,ht,e=>by
  obtain⟨q,r,rfl,i,j⟩:=hv.cons_inv;unfold EW at e;replace e:=AK e;obtain⟨k,e⟩:=e;have m:p<nt:=by simpa using k
  obtain⟨b,n,o⟩:=CY h j (ht.put (d:=p) (by omega) i) e
  grind [Pi.Bx]
 |[],_::_,_,_,_,_,_,_,e=>by cases e
 |_::_,[],_,_,_,_,_,_,e=>by cases e
section
variable{P:Program}{tab:EF}{rec:H4}
theorem FT{β:Type}{x:β}{X:Cx}{h:H}{n:Nat}(r:RH X h n){t:T V}{z:T PV}(d:TR X t z):∀ {l:List ResultVar} {K:List V->Option β},Je P h t l K=zo x -> ∃ vs b,K vs=zo x/\Pi.I2 P X.h z l=zo b/\VRL X vs b
 |[],K,e=>⟨[],[],e,rfl,.nil⟩
 |.tmp k::l,K,e=>by
  unfold Je at e;replace e:=AD e;obtain⟨v,o,e⟩:=e;obtain⟨p,i,c⟩:=d _ _ o;obtain⟨vs,b,e,f,g⟩:=FT r d e;exact⟨v::vs,p::b,e,by simp[Pi.I2,Pi.QM,i,f],.cons c g⟩
 |.cell a ty::l,K,e=>by
  unfold Je at e;split at e
  ·rename_i j off o;obtain⟨p,i,c⟩:=d _ _ o;split at e
   ·rename_i cs fz L B;replace e:=AD e;obtain⟨v,s,e⟩:=e;obtain⟨pid,m,b,A,C,I,D,J,E⟩:=r.blk _ _ B;simp only[VR]at c;obtain⟨y,M,w,rfl⟩:=c;rw[C]at w;cases w;obtain⟨q,F,G⟩:=Bd (E.drop off) s;obtain⟨vs,u,e,f,g⟩:=FT r d e;exact⟨v::vs,q::u,e,by simp[Pi.I2,Pi.QM,i,D,F,f],.cons G g⟩
   ·cases e
  ·cases e
theorem GC {X : Cx} {fn : Func} {tP : T PV} {ps : List PV} (h1 : Pi.I2 P X.h tP fn.results.toList = some ps) : ∀ {vs : List V}, VRL X vs ps -> ∃ pv, Pi.results P fn X.h tP = some pv /\ VR X (match vs with
            |[v]=>v
            |vs=>.tup vs) pv:=by
          intro vs h2;unfold Pi.results;rw[h1]
          match vs,ps,h2 with
          |[],[],_=>simp_all[VR]
          |[v],[p],h2=>exact⟨p,rfl,by obtain⟨_,_,h,h3,_⟩:=h2.cons_inv;simp_all⟩
          |a :: b :: c,p :: q :: s,h2=>simp_all[VR]
          |[],_ :: _,h2=>cases h2.nil_inv
          |_ :: _,[],h2=>obtain⟨_,_,h,_⟩:=h2.cons_inv;cases h
          |[_],_ :: _ :: _,h2=>obtain⟨_,_,h,_,h3⟩:=h2.cons_inv;cases h;cases h3.nil_inv
          |_ :: _ :: _,[_],h2=>obtain⟨_,_,h,_,h3⟩:=h2.cons_inv;cases h;obtain⟨_,_,h,_⟩:=h3.cons_inv;cases h
theorem HQ{X:Cx}{u:UMA}{uP:UM}(h:UMR X (zo u) (zo uP)):UMR X (zo (N7 u)) (zo (Pi.Ko uP)):=by
 cases u with
 |ret=>
  have:zo uP=zo UM.ret:=h;cases this;exact h
 |pan d=>
  obtain⟨c,g,e⟩:=h;cases g;cases d with
  |nil=>rw[L2.nil_inv e];exact⟨[],rfl,.nil⟩
  |cons a d=>
   obtain⟨⟨k,br⟩,t,rfl,f,i⟩:=L2.cons_inv e;obtain⟨j,b⟩:=a;have:b=br:=f.2;subst this;cases b with
   |true=>rfl
   |false=>exact⟨_,rfl,.cons f i⟩
theorem Oe(R:RecAOK P tab rec){fn:Func}{β:Type}{x:β}:∀ {n:Nat} {ds:List DFA} {u:UMA} {t:T V} {h:H} {nx:Nat} {K:OutA->H->Nat->Option β},EN P rec fn β n ds u t h nx K=zo x ->
  ∀ {X:Cx} {b bP:Nat} {G:List DF} {uP:UM} {tP:T PV},RH X h nx->nx<=1048575->L2 (DFR X) ds G->UMR X (zo u) (zo uP)->TR X t tP->b<=nx->bP<=X.h.nx ->
   ∃ o h' w Y D s,K o h' w=zo x/\(∃ N,∀ m F k,N<=m->N<=F->N<=k->Pi.leave P (Pi.B4 P (Ad tab) F k) fn m G uP tP X.h=zo (D,s))/\Run b bP X h nx Y h' w s/\MJ Y o D:=by
 intro n
 induction n with
 |zero=>intro ds u t h nx K e;cases e
 |succ n ih=>
  intro ds u t h nx K e X b bP G uP tP r M C hu ht L y;unfold EN at e;split at e
  ·have:=L2.nil_inv C;subst this;split at e
   ·have:zo uP=zo UM.ret:=hu;cases this;replace e:=FT r ht e;obtain⟨vs,ps,e,A,B⟩:=e;obtain⟨pv,O,k2⟩:=GC A B;refine⟨_,h,nx,X,.ret pv,X.h,e,⟨1,λm F k hm _ _=> ?_⟩,⟨rfl,r,M,ad _,Ext.refl _ _ _ _⟩,⟨pv,rfl,k2⟩⟩;obtain⟨m,rfl⟩:∃ z,m=z+1:=⟨m-1,by omega⟩;unfold Pi.leave;rw[O]
   ·obtain⟨c,A,B⟩:=hu;cases A;refine⟨_,h,nx,X,.pan c,X.h,e,⟨1,λm F k hm _ _=> ?_⟩,⟨rfl,r,M,ad _,Ext.refl _ _ _ _⟩,⟨c,rfl,B⟩⟩;obtain⟨m,rfl⟩:∃ z,m=z+1:=⟨m-1,by omega⟩;rfl
  ·rename_i id W;obtain⟨dP,E,rfl,A,B⟩:=L2.cons_inv C;obtain⟨pid,m0,O,rfl⟩:=A;split at e
   ·rename_i l hg;obtain⟨pid',z,q,b1,b2,b3,b4⟩:=r.blk _ _ hg;rw[O]at b1;cases b1;cases q with
    |none=>grind
    |some lP=>
     simp only at b4;obtain⟨hq,e1⟩:=BI X.h pid (.df zn);obtain⟨Y,y1,y2,y3,y4,y5⟩:=r.set (b':=.df zn) (by have:=r.dom _ _ O;omega) hg trivial rfl O b3 (λ_ _ _ _ _ _ _ _=>by simp) e1 (λY z1 z2 z3 u=>⟨pid,m0,zn,O,by grind,by rw[z2,(Hp.get_set e1).1,zy rfl],trivial⟩) X.h.nx;have u:=(y5 nx).up;obtain⟨o,h',w,Z,D,s,S,⟨N,c2⟩,d,U⟩:=ih e (b:=b) (bP:=bP) y4 M ((b4.append B).mono λ_ _ k=>k.mono u) (hu.mono u) (ht.mono u) L (by rw[y2,(Hp.get_set e1).2];exact y);refine⟨o,h',w,Z,D,s,S,⟨N+1,λm F k hm hF hk=> ?_⟩,⟨d.hp,d.rh,d.big,d.le,((y5 nx).ext L y).trans d.ext⟩,U⟩;obtain⟨m,rfl⟩:∃ z,m=z+1:=⟨m-1,by omega⟩
     grind [Pi.leave]
   ·cases e
  ·rename_i b0 ats ty0 args W;obtain⟨dP,E,rfl,A,B⟩:=L2.cons_inv C;obtain⟨ps,rfl,h3⟩:=A;split at e
   ·rename_i j ty hty;obtain⟨p,qs,rfl,h4,h5⟩:=h3.cons_inv;have:=h5.nil_inv;subst this;split at e
    ·rename_i kt et kk g c l hu1 hg;simp only[VR]at h4;obtain⟨pid,m,hpi,rfl⟩:=h4;have hbr:=r.blk _ _ hg;rw[hpi]at hbr;obtain⟨_,_,es,k2,k3,k4,k6⟩:=hbr;cases k2;obtain⟨hP1,Y,e1,y1⟩:=r.mapSet M hg hpi k4 (l':=[]) (es':=[]) .nil;obtain⟨z1,z2,z3⟩:=y1 nx X.h.nx;have u:=z3.up;obtain⟨o,h',w,Z,D,s,S,⟨N,c2⟩,d,U⟩:=ih e (b:=b) (bP:=bP) z2 M (B.mono λ_ _ k=>k.mono u) (hu.mono u) (ht.mono u) L (by rw[z3.nx];exact y);refine⟨o,h',w,Z,D,s,S,⟨N+1,λm F k hm hF hk=> ?_⟩,⟨d.hp,d.rh,d.big,d.le,(z3.ext L y).trans d.ext⟩,U⟩;obtain⟨m,rfl⟩:∃ z,m=z+1:=⟨m-1,by omega⟩;rw[Pi.leave];simp only[Pi.AH,hty,hu1,k4,e1,ap]
     grind
    ·cases e
   ·cases e
  ·rename_i f args W;obtain⟨dP,E,rfl,A,B⟩:=L2.cons_inv C;obtain⟨fP,ps,rfl,h3,h4⟩:=A;split at e
   ·rename_i g a b';simp only[VR]at h3;obtain⟨aP,bP',rfl,h5,h6⟩:=h3;obtain⟨g',as,qs,e1,hinv,I⟩:=EL h5 h6 h4 e;obtain⟨o',up',h',w,Y,D,upP',s,e2,⟨N1,hN1⟩,i,ho,J⟩:=R.fn e1 r M I hu;have hup:=i.ext.full r (ad _);split at e2
    ·rename_i v u';obtain⟨vP,rfl,hv⟩:=ho;cases upP' with
     |none=>cases u' with
      |ret=>cases J
      |pan=>obtain⟨_,h,_⟩:=J;cases h
     |some uP'=>
      obtain⟨o,h'',nx'',Z,D,hP'',S,⟨N,c2⟩,d,U⟩:=ih e2 (b:=b) (bP:=bP) i.rh i.big (B.mono λ_ _ k=>k.mono hup) (HQ J) (ht.mono hup) (ax L i.le) (ax y i.ext.nx);refine⟨o,h'',nx'',Z,D,hP'',S,⟨max N N1+1,λm F k hm hF hk=> ?_⟩,⟨d.hp,d.rh,d.big,ax i.le d.le,(i.ext.le L y).trans d.ext⟩,U⟩;obtain⟨m,rfl⟩:∃ z,m=z+1:=⟨m-1,by omega⟩;rw[Pi.leave];simp only[hinv,hN1 F k (by omega) (by omega)];rw[<- i.hp]
      grind
    ·cases e2
   ·cases e
theorem TR.lf(X:Cx):TR X .lf .lf:=λk v e=>by cases e
theorem E3{β:Type}{x:β}{X:Cx}{h:H}{nx l lP m b bP:Nat}{a:Option Code}{K:OutA->Option UMA->H->Nat->Option β}(r:RH X h nx)(z:nx<=1048575)(y:X.π l=zo (.blk lP m))(e:Ch h nx l a K=zo x) :
  ∃ o i h' Y q c g,K o i h' nx=zo x/\Pi.A9 X.h lP a=zo (q,c,g)/\Run b bP X h nx Y h' nx g/\MJ Y o q/\UMR Y i c:=by
 unfold Ch at e;split at e
 ·rename_i S P nt t u n f d w;have s:=r.blk _ _ w;obtain⟨pid,O,C,p,N,A,I,D,J,L,M⟩:=s;rw[y]at A;cases A
  have B:∀ k:Nat,K (.ret (.bool a.isNone)) zn (AG h l (.lp k a nt t u n f d)) nx=zo x->(∀ j,X.h.set lP (.lp k a nt C u n f p)=zo j->Pi.A9 X.h lP a=zo (.ret (.bool a.isNone),zn,j)) ->
    ∃ o i h' Y q c g,K o i h' nx=zo x/\Pi.A9 X.h lP a=zo (q,c,g)/\Run b bP X h nx Y h' nx g/\MJ Y o q/\UMR Y i c:=λk e1 e2=>by
   obtain⟨j,es⟩:=BI X.h lP (.lp k a nt C u n f p);obtain⟨Z,U,E,W,z4,F,G⟩:=r.setLp z w y D es b bP;exact⟨_,_,_,Z,.ret (.bool a.isNone),zn,j,e1,e2 _ es,⟨E,F,z,ad _,G⟩,⟨_,rfl,by simp[VR]⟩,rfl⟩
  grind [Pi.A9]
 ·cases e
theorem QE{β:Type}{x:β}{X:Cx}{h:H}{n:Nat}(r:RH X h n)(G:n<=1048575){p:Pi.Pr}{args:List V}{C:List PV}(s:VRL X args C){K:V->H->Option β}(e:QD P p args h K=zo x) :
  ∃ v h' q d Y,K v h'=zo x/\Pi.On P p C X.h=zo (q,d)/\FW X h n n X.h.nx h' d Y/\VR Y v q:=by
 have same:FW X h n n X.h.nx h X.h X:=⟨rfl,r,St.refl _ _ _ _⟩;unfold QD at e;split at e
 ·split at e
  ·rename_i u a v b;replace e:=AK e;obtain⟨F,e⟩:=e;obtain⟨A,o,rfl,f,k⟩:=s.cons_inv;obtain⟨B,o,rfl,j,l⟩:=k.cons_inv;rw[l.nil_inv];simp only[VR]at f j;obtain⟨_,rfl,rfl⟩:=f;obtain⟨_,rfl,rfl⟩:=j;refine⟨_,h,.bool zt,X.h,X,e,?_,same,by simp[VR]⟩;simp only[Pi.On,Pi.S1,F,zb,ap]
  ·cases e
 ·split at e
  ·obtain⟨A,o,rfl,f,k⟩:=s.cons_inv;obtain⟨B,o,rfl,j,l⟩:=k.cons_inv;rw[l.nil_inv];simp only[VR]at f;subst f;exact⟨_,h,.bool zf,X.h,X,e,rfl,same,by simp[VR]⟩
  ·rename_i u a N id off;replace e:=AD e;obtain⟨L,E,e⟩:=e;obtain⟨A,o,rfl,f,k⟩:=s.cons_inv;obtain⟨B,o,rfl,j,l⟩:=k.cons_inv;rw[l.nil_inv];simp only[VR]at f j;obtain⟨O,rfl,i⟩:=f;obtain⟨S,rfl,pid,m,w,rfl⟩:=j;replace e:=BV e;rcases e with⟨z,e⟩|⟨z,e⟩
   ·split at e
    ·rename_i y;have g:=i;simp only[VR]at i;obtain⟨cs,rfl,t⟩:=i;obtain⟨c,D,rfl,M,J⟩:=t.cons_inv;rw[J.nil_inv]at g ⊢;obtain⟨h',d,Y,e1,e2,e3⟩:=Jk r G (a:=.ptr id off) (by simp only[VR];exact⟨pid,m,w,rfl⟩) g n X.h.nx e;refine⟨_,h',.bool zt,d,Y,e1,?_,e3,by simp[VR]⟩
     simp_all[Pi.On,Pi.SA,zb,ap]
    ·cases e
   ·replace e:=AK e;obtain⟨I,e⟩:=e;refine⟨_,h,.bool zf,X.h,X,e,?_,same,by simp[VR]⟩;simp only[Pi.On,Pi.SA,E,z,I,zb,zj,ap]
  ·cases e
 ·split at e
  ·rw[s.nil_inv];exact⟨_,h,.bool _,X.h,X,e,rfl,same,by simp[VR]⟩
  ·cases e
 ·cases e
theorem IF(T:TabOK P tab)(D:DrawnAOK P tab){ann:H3}{F0:Nat}:∀ n,RecAOK P tab (NN P tab ann F0 n)
 |0=>⟨λe=>(by cases e),λe=>(by cases e)⟩
 |n+1=>by
  have R:=IF T D (ann:=ann) (F0:=F0) n;constructor
  ·intro β x f up args h nx K e X upP F r hn ha hu;simp only[NN]at e;split at e
   ·rename_i p hpr;split at e
    ·obtain⟨v,h',q,j,Y,e1,e2,⟨y1,y2,y3⟩,e4⟩:=QE r hn ha e;have E:upP=zn:=by simpa[UMR]using hu
     subst E;refine⟨.ret v,zn,h',nx,Y,.ret q,zn,j,e1,⟨1,λd a hF B=> ?_⟩,⟨y1,y2,hn,ad _,y3.ext (ad _) (ad _)⟩,⟨_,rfl,e4⟩,rfl⟩;obtain⟨a,rfl⟩:∃ m',a=m'+1:=⟨a-1,by omega⟩
     simp_all[Pi.B4,Pi.PL,ap]
    ·cases e
   rename_i hpr;replace e:=AD e;obtain⟨J,hf,e⟩:=e;replace e:=AD e;obtain⟨c,hc,e⟩:=e;replace e:=AK e;obtain⟨hb,e⟩:=e;have hb2:=hb;simp only[ac]at hb2;have hlen:args.length<=J.ntmps:=aq hb2.1;have hnt:J.ntmps<1048575:=by simp_all
   have hlP:F.length=args.length:=VRL.len ha;obtain⟨ex,C,h',k,Y,I,A,j,G,⟨N,q2⟩,s,q4,q5⟩:=Md R T D F0 c e (fp:={ t:=Pi.Bl 0 F .lf,nt:=J.ntmps,ds:=[],up:=upP,ro:=zn }) r hn ⟨Im ha (TR.lf X) (by omega),rfl,hnt,.nil,hu,rfl⟩ (ad _) (ad _)
   have go:∀ {u:UMA} {uP:UM} {o:OutA->H->Nat->Option β},EN P (NN P tab ann F0 n) J β F0 C.ds u C.t h' k (λo h nx=>K o C.up h nx)=zo x->UMR Y (zo u) (zo uP) ->
     (∀ d a,N<=d->N<=a -> ∀ {y:Pi.Out} {U:Hp},Pi.leave P (Pi.B4 P (Ad tab) d a) J d A.ds uP A.t j=zo (y,U)->Pi.B4 P (Ad tab) d (a+1) (.fn f) upP F X.h=zo (y,A.up,U)) ->
     ∃ o z h' k Y y g j,K o z h' k=zo x/\PD P tab (.fn f) upP F X.h (y,g,j)/\Run nx X.h.nx X h nx Y h' k j/\MJ Y o y/\UMR Y z g:=fun {u uP _} e hu U=>by
    obtain⟨o,h2,nx2,Z,y,hP2,c1,⟨N2,c2⟩,W,c4⟩:=Oe R e (b:=k) (bP:=Y.h.nx) s.rh s.big q4.ds hu q4.t (ad _) (ad _);have E:=W.ext.full s.rh (ad _);refine⟨o,C.up,h2,nx2,Z,y,A.up,hP2,c1,⟨max N N2+1,λd a hF B=> ?_⟩,⟨W.hp,W.rh,W.big,ax s.le W.le,s.ext.trans (W.ext.le s.le s.ext.nx)⟩,c4,q4.up.mono E⟩;obtain⟨a,rfl⟩:∃ m',a=m'+1:=⟨a-1,by omega⟩;refine U d a (by omega) (by omega) ?_;rw[<- s.hp]
    grind
   have head:∀ d a,Pi.B4 P (Ad tab) d (a+1) (.fn f) upP F X.h=(match (Pi.exec P (Ad tab) (Pi.B4 P (Ad tab) d a) d c { t:=Pi.Bl 0 F .lf,nt:=J.ntmps,ds:=[],up:=upP,ro:=zn } X.h)with
     |some (.normal,fr,h)|some (.ret,fr,h)=>(match Pi.leave P (Pi.B4 P (Ad tab) d a) J d fr.ds .ret fr.t h with
      |some (o,h)=>zo (o,fr.up,h)
      |none=>zn)
     |some (.panic e,fr,h)=>(match Pi.leave P (Pi.B4 P (Ad tab) d a) J d fr.ds (.pan [{ v:=e,recovered:=zf }]) fr.t h with
      |some (o,h)=>zo (o,fr.up,h)
      |none=>zn)
     |_=>zn):=λd a=>by
    rw[Pi.B4];simp only[Pi.PL,hpr,hf,hc,hlP,hb,zb];rfl
   cases ex with
   |normal=>
    have:I=.normal:=q5;subst this
    exact go (o:=λ_ _ _=>zn) G (show UMR Y (zo .ret) (zo .ret)from rfl) λd a hF B y U L=>by
     grind
   |ret=>
    have:I=.ret:=q5;subst this
    exact go (o:=λ_ _ _=>zn) G (show UMR Y (zo .ret) (zo .ret)from rfl) λd a hF B y U L=>by
     grind
   |panic v=>
    obtain⟨p,rfl,hv⟩:=q5
    exact go (o:=λ_ _ _=>zn) G (uP:=.pan [{ v:=p,recovered:=zf }]) (show UMR Y (zo (.pan [{ v:=v,recovered:=zf }])) (zo (.pan [{ v:=p,recovered:=zf }]))from⟨_,rfl,.cons ⟨hv,rfl⟩ .nil⟩) λd a hF B y U L=>by
     grind
   |_=>cases G
  ·intro β x l args h nx K e X lP m F r hn L ha;simp only[NN]at e;split at e
   ·rename_i st0 pd0 nt t psl asg O d0 hg;replace e:=AD e;obtain⟨t1,ht1,e⟩:=e;obtain⟨pid,n',tP,dP,m',k1,k2,k3,k4,k5,k6⟩:=r.blk _ _ hg;rw[L]at k1;cases k1;obtain⟨tP1,s1,s2⟩:=CY k6 ha k4 ht1;obtain⟨ex,C,h',k,Y,I,A,j,G,⟨N,q2⟩,s,q4,q5⟩:=Md R T D F0 asg e (fp:={ t:=tP1,nt:=nt,ds:=[],up:=zn,ro:=zo lP }) r hn ⟨s2,rfl,k6,.nil,rfl,⟨_,_,L,rfl⟩⟩ (ad _) (ad _);cases ex with
    |normal=>
     have:I=.normal:=q5;subst this;simp only at G;have E:=s.ext.full r (ad _);have hlY:=E.pi _ _ L;split at G
     ·rename_i pend nt2 t2 ps2 asg2 S d2 hg2;obtain⟨pid,n',tP2,dP2,m2,j1,j2,j3,j4,j5,j6⟩:=s.rh.blk _ _ hg2;rw[hlY]at j1;cases j1;obtain⟨hP2,es⟩:=BI Y.h lP (.lp 1 pend nt2 tP2 ps2 asg2 S dP2);obtain⟨Z,z1,z2,z3,z4,z5,z6⟩:=s.rh.setLp s.big hg2 hlY j3 es nx X.h.nx;obtain⟨ex3,fr3,h3,nx3,Y3,w,fp3,hP3,w1,⟨N3,w2⟩,w3,w4,w5⟩:=Md R T D F0 O G (fp:=A) z5 s.big (q4.mono z4) (ad _) (bP:=X.h.nx) (by rw[z2,(Hp.get_set es).2];exact s.ext.nx);have x3:=(s.ext.trans z6).trans (w3.ext.le (b:=nx) (bP:=X.h.nx) s.le (ad _));have hl3:Y3.π l=zo (.blk lP m):=x3.up.pi _ _ (by rw[Cx.low_eq (r.dom _ _ L)];exact L)
      have fin:∀ {M:Option Code},Ch h3 nx3 l M K=zo x ->
        (∀ {rr},Pi.A9 hP3 lP M=zo rr -> ∀ d a,max N N3<=d->max N N3<=a->Pi.B4 P (Ad tab) d (a+1) (.yl lP) zn F X.h=zo rr) ->
        ∃ o z h' k Y y g j,K o z h' k=zo x/\PD P tab (.yl lP) zn F X.h (y,g,j)/\Run nx X.h.nx X h nx Y h' k j/\MJ Y o y/\UMR Y z g:=λe hh=>by
       obtain⟨o,z,h4,Y4,y,g,hP4,v1,v2,v3,v4,v5⟩:=E3 (b:=nx) (bP:=X.h.nx) w3.rh w3.big hl3 e;rw[w3.hp]at v2;refine⟨o,z,h4,nx3,Y4,y,g,hP4,v1,⟨max N N3+1,λd a hF B=> ?_⟩,⟨v3.hp,v3.rh,v3.big,ax s.le (ax w3.le v3.le),x3.trans v3.ext⟩,v4,v5⟩;obtain⟨a,rfl⟩:∃ m',a=m'+1:=⟨a-1,by omega⟩
       grind
      have head:∀ d a,max N N3<=d->max N N3<=a->Pi.B4 P (Ad tab) d (a+1) (.yl lP) zn F X.h=(match zo (w,fp3,hP3)with
        |some (.normal,_,h)=>Pi.A9 h lP zn
        |some (.ret,_,h)=>Pi.A9 h lP (zo .ret)
        |some (.exit id,_,h)=>Pi.A9 h lP (zo (.exit id))
        |some (.goto id,_,h)=>Pi.A9 h lP (zo (.goto id))
        |_=>zn):=λd a hF B=>by
       have a1:=q2 d d a (by omega) (by omega) (by omega);rw[<- s.hp]at a1;have a2:=w2 d d a (by omega) (by omega) (by omega);rw[z2]at a2;rw[Pi.B4];simp only[Pi.PL,k3,s1,a1,j3,es,a2];rfl
      cases ex3 with
      |normal=>
       have:w=.normal:=w5
       grind
      |ret=>
       have:w=.ret:=w5
       grind
      |exit i=>
       have:w=.exit i:=w5
       grind
      |goto i=>
       have:w=.goto i:=w5
       grind
      |panic=>cases w1
     ·cases G
    |_=>cases G
   ·cases e
theorem DX.wide{hh:Hp}{Q f:Nat->Prop}:∀ {c:Ty} {x:c.den} {d:List PV},DX hh Q f c x d->DX hh (λ_=>True) (λ_=>True) c x d
 |.int _,_,_,e=>e
 |.bool,_,_,e=>e
 |.str,_,_,e=>e
 |.unit,_,_,e=>e
 |.pair _ _,_,_,⟨p,q,e,a,b⟩=>⟨p,q,e,DX.wide a,DX.wide b⟩
 |.sl _ _,_,_,⟨p,e,h⟩=>⟨p,e,by
  rcases h with h|h|⟨pid,off,len,es,ex,fz,a,b,g,i,j,l⟩
  ·exact .inl h
  ·simp_all
  ·exact .inr (.inr ⟨pid,off,len,es,ex,fz,a,trivial,g,i,j,l.mono λ_ _ k=>k.mono λ_ _ k=>DR.mono (λq es ex fz n m=>⟨⟨fz,m⟩,trivial⟩) k⟩)⟩
theorem domX.wide{hh:Hp}{Q e:Nat->Prop}:∀ {l:List (Bool×Ty)} {y:AP l} {d:List PV},domX hh Q e l y d->domX hh (λ_=>True) (λ_=>True) l y d
 |[],_,_,h=>h
 |[p],_,_,⟨a,b,c⟩=>⟨a,b,c.mono λ_ _ k=>k.wide⟩
 |p::q::r,_,_,⟨a,t,b,c,f⟩=>⟨a,t,b,c.mono λ_ _ k=>k.wide,domX.wide f⟩
def Sf:Cx:={ π:=λ_=>zn,h:=D1,O:=λ_=>False }
theorem TM:RH Sf .lf 0:=⟨λ_ _ h=>(by cases h),λ_ _ _ _ _ _ _ h=>(by cases h),λ_ _ h=>(by cases h),λ_ _=>rfl,λ_ h=>h.elim⟩
theorem H0(T:TabOK P tab)(D:DrawnAOK P tab){ann:H3}{F0 n:Nat}{f:FuncId}{dom g:List (Bool×Ty)}{x:AP dom}{y:AP g}(e:Ou P tab ann F0 n f dom g x=zo y){w:List PV}(E:Dj dom x w) :
  ∃ r up A,PD P tab (.fn f) zn w D1 (.ret r,up,A)/\Hq A g y r:=by
 unfold Ou at e;obtain⟨o,K,h',I,Y,L,q,s,e1,J,j,G,_⟩:=(IF T D n).fn e TM (bD _) (Dy E) (show UMR Sf zn zn from rfl);split at e1
 ·rename_i v;obtain⟨p,rfl,k⟩:=G;refine⟨p,q,s,J,?_⟩;rw[<- j.hp]
  have b:∀ (vs:List V) (i:List PV),VRL Y vs i->Bu h' g vs zo=zo y->domX Y.h (λ_=>True) (λ_=>True) g y i:=λvs i t F=>by
   obtain⟨z,u,B⟩:=Bq (Q:=λ_=>True) j.rh (λ_ _=>trivial) (λ_ _ _ _ _=>trivial) t F;cases u;exact B.wide
  match g,y,e1,b with
  |[],y,e1,b=>
   simp only at e1;split at e1
   ·simp only[VR]at k;obtain⟨i,rfl,m⟩:=k;exact⟨i,rfl,b _ _ m e1⟩
   ·cases e1
  |[c],y,e1,b=>
   obtain⟨a,C,m⟩:=b _ _ (.cons k .nil) e1;cases C;exact m
  |c::d::l,y,e1,b=>
   simp only at e1;split at e1
   ·simp only[VR]at k;obtain⟨i,rfl,m⟩:=k;exact⟨i,rfl,b _ _ m e1⟩
   ·unfold Bu at e1;simp only at e1;replace e1:=GO (Q:=λ_=>True) j.rh (λ_ _ _ _ _=>trivial) (λ_ _=>trivial) k e1;obtain⟨z,u,B⟩:=e1;cases l<;>cases u
 ·cases e1
theorem QP(T:TabOK P tab)(D:DrawnAOK P tab){ann:H3}{F0 n:Nat}{f:FuncId}{dom:List (Bool×Ty)}{g:Bool}{c:Ty}{x:AP dom}{y:List c.den}(e:QO P tab ann F0 n f dom g c x=zo y){k:List PV}(t:Dj dom x k) :
  ∃ r up l,PD P tab (.fn f) zn k D1 (.ret r,up,l)/\Hq l [(zf,.sl g c)] y r /\ ∀ j o len,r ≠ .own j o len:=by
 unfold QO at e;obtain⟨o,I,h',F,Y,J,d,i,e1,G,b,w,_⟩:=(IF T D n).fn e TM (bD _) (Dy t) (show UMR Sf zn zn from rfl);split at e1
 ·rename_i v;obtain⟨p,rfl,A⟩:=w;refine⟨p,d,i,G,?_⟩;rw[<- b.hp]
  have m:GN h' zf (.sl g c) v zo=zo y->Hq Y.h [(zf,.sl g c)] y p:=λu=>by
   obtain⟨z,C,E⟩:=GO (Q:=λ_=>True) b.rh (λ_ _ _ _ _=>trivial) (λ_ _=>trivial) A u;cases C;have B:domX Y.h (λ_=>True) Y.Q [(zf,.sl g c)] y [p]:=⟨p,rfl,E⟩;obtain⟨a,q,s⟩:=B.wide;cases q;exact s
  grind [VR]
 ·cases e1
theorem MD{X:Cx}{p:Bool×Ty}{y:p.2.den}{a:PV}(h:EP p.1 (DP p.2) y a):VR X (bif SU p then Sa (elP p.1 p.2 y)else elP p.1 p.2 y) (bif SU p then MK a else a):=by
 cases d:SU p with
 |false=>exact DJ h
 |true=>
  obtain⟨g,c⟩:=p;cases g with
  |false=>cases d
  |true=>
   have b:=DJ (X:=Cx.pure) h;obtain⟨j,rfl,_⟩:=h;simp only[elP,zb,VR]at b;obtain⟨f,e,i⟩:=b;cases e;show VR X (.pv _) (.view _)
   simp_all[VR]
theorem JE{X:Cx}:∀ {l:List (Bool×Ty)} {y:AP l} {d:List PV},Dj l y d->VRL X (Qc l (EZ l y)) (Gv l d)
 |[],_,_,h=>by rw[show _=[]from h];exact .nil
 |[p],_,_,⟨a,b,c⟩=>by subst b;exact .cons (MD c) .nil
 |p::q::r,_,_,⟨a,t,b,c,e⟩=>by subst b;exact .cons (MD c) (JE e)
theorem QR(T:TabOK P tab)(D:DrawnAOK P tab){ann:H3}{F0 n:Nat}{f:FuncId}{dom g:List (Bool×Ty)}{x:AP dom}{y:AP g}(e:QQ P tab ann F0 n f dom g x=zo y){w:List PV}(E:Dj dom x w) :
  ∃ r up A,PD P tab (.fn f) zn (Gv dom w) D1 (.ret r,up,A)/\Hq A g y r:=by
 unfold QQ at e;obtain⟨o,K,h',I,Y,L,q,s,e1,J,j,G,_⟩:=(IF T D n).fn e TM (bD _) (JE E) (show UMR Sf zn zn from rfl);split at e1
 ·rename_i v;obtain⟨p,rfl,k⟩:=G;refine⟨p,q,s,J,?_⟩;rw[<- j.hp]
  have b:∀ (vs:List V) (i:List PV),VRL Y vs i->Bu h' g vs zo=zo y->domX Y.h (λ_=>True) (λ_=>True) g y i:=λvs i t F=>by
   obtain⟨z,u,B⟩:=Bq (Q:=λ_=>True) j.rh (λ_ _=>trivial) (λ_ _ _ _ _=>trivial) t F;cases u;exact B.wide
  match g,y,e1,b with
  |[],y,e1,b=>
   simp only at e1;split at e1
   ·simp only[VR]at k;obtain⟨i,rfl,m⟩:=k;exact⟨i,rfl,b _ _ m e1⟩
   ·cases e1
  |[c],y,e1,b=>
   obtain⟨a,C,m⟩:=b _ _ (.cons k .nil) e1;cases C;exact m
  |c::d::l,y,e1,b=>
   simp only at e1;split at e1
   ·simp only[VR]at k;obtain⟨i,rfl,m⟩:=k;exact⟨i,rfl,b _ _ m e1⟩
   ·unfold Bu at e1;simp only at e1;replace e1:=GO (Q:=λ_=>True) j.rh (λ_ _ _ _ _=>trivial) (λ_ _=>trivial) k e1;obtain⟨z,u,B⟩:=e1;cases l<;>cases u
 ·cases e1
theorem QT(T:TabOK P tab)(D:DrawnAOK P tab){ann:H3}{F0 n:Nat}{f:FuncId}{dom:List (Bool×Ty)}{g:Bool}{c:Ty}{x:AP dom}{y:List c.den}(e:QS P tab ann F0 n f dom g c x=zo y)(X:y≠[]){w:List PV}(K:Dj dom x w) :
  ∃ r up A,PD P tab (.fn f) zn w D1 (.ret r,up,A)/\O6 A g c y r:=by
 unfold QS at e;obtain⟨o,S,h',N,Y,oP,d,m,e1,O,b,L,_⟩:=(IF T D n).fn e TM (bD _) (Dy K) (show UMR Sf zn zn from rfl);split at e1
 ·rename_i j;obtain⟨p,rfl,h⟩:=L;refine⟨p,d,m,O,?_⟩;rw[<- b.hp];split at e1
  ·rename_i W U l Z s;replace e1:=AK e1;obtain⟨t,e1⟩:=e1;have:=eq_of_beq t;subst this;obtain⟨hc,e1⟩:=A7 e1;subst hc;cases e1;have B:=b.rh.blk _ _ s;simp only[VR]at h;cases u:Y.π j with
   |none=>simp_all
   |some a=>
    rw[u]at h B;rcases B with⟨pid,len,es,C,z,i,E,F,G,J,I⟩|⟨_,_,i⟩|⟨es,z,_,i,_⟩
    ·cases z;simp only at h;subst h;have:=F rfl;subst this;subst G;exact .inr ⟨pid,es,rfl,E,J rfl,I.mono λ_ _ k=>k.mono λ_ _ k=>DR.mono (λq es ex fz M s=>⟨⟨fz,s⟩,λhh=>M (hh ▸ i)⟩) k⟩
    all_goals simp_all
  ·cases e1
 ·cases e1
end
end
section
variable[Pi.Gl]
open Pi (PV T Hp Blk DF UM PE AN AT AB AV Ao)
def re(hs:Hp):Pi.R->Pi.R
 |.val v _=>.val v hs
 |.skip _=>.skip hs
 |r=>r
section
variable{P:Program}{h hs:Hp}
theorem Ec{o:Option PV}:Pi.vl o hs=(Pi.vl o h).map (re hs):=by cases o<;>rfl
theorem Ki{c:Bool}{v:PV}:(bif c then zo (Pi.R.val v hs)else zn)=(bif c then zo (Pi.R.val v h)else zn).map (re hs):=by cases c<;>rfl
theorem RQ{c a b:PV}:Pi.Dk hs c a b=(Pi.Dk h c a b).map (re hs):=by unfold Pi.Dk;split<;>rfl
theorem QH{ty:TypeId}{a:List (Nat×PV)}:Pi.Bv P hs ty a=(Pi.Bv P h ty a).map (re hs):=by
 unfold Pi.Bv;split
 ·cases hc:(Array.toList _).all _ with
  |true=>simp only[zb];split<;>(try rfl);rename_i pl _;cases Pi.Fc _ pl<;>rfl
  |false=>rfl
 ·split
  ·rename_i n _;cases af 0 n with
   |true=>simp only[zb];cases Pi.Fc _ _<;>rfl
   |false=>rfl
  ·rfl
 ·rfl
theorem SE{p:PV}:Pi.Er hs p=(Pi.Er h p).map (re hs):=by unfold Pi.Er;split<;>rfl
theorem SC{c:BinOp}{ty:TypeId}{x y:Operand}{a b:PV}:Pi.Dd P hs c ty x y a b=(Pi.Dd P h c ty x y a b).map (re hs):=by
 unfold Pi.Dd;split
 ·cases Pi.CS x||Pi.CS y<;>simp only[zb,zj]
  ·rfl
  ·exact Ec
 ·cases P.eqGuardType P.depth ty<;>simp only[zb,zj]
  ·exact Ec
  ·rfl
 ·exact Ec
theorem M4{s d:TypeId}{x:PV}:Pi.BJ P hs s d x=(Pi.BJ P h s d x).map (re hs):=by
 unfold Pi.BJ;split
 ·rfl
 ·rfl
 ·split<;>rfl
 ·rfl
theorem SD{ty:TypeId}{v:PV}:Pi.Ea P hs ty v=(Pi.Ea P h ty v).map (re hs):=by unfold Pi.Ea;split<;>rfl
theorem Lx{f:Fn}{a b:List PV}:Pi.BF hs f a b=(Pi.BF h f a b).map (re hs):=by unfold Pi.BF;split<;>rfl
theorem Kj{s:TypeId}{x:PV}{f:Nat}:Pi.Av P hs s x f=(Pi.Av P h s x f).map (re hs):=by
 unfold Pi.Av;split
 ·split
  ·split
   ·rename_i n _;cases aa n 0 with
    |true=>rfl
    |false=>simp only[zj];split<;>rfl
   ·rfl
  ·rfl
 ·rfl
theorem QJ{s:TypeId}{x:PV}{f:Nat}:Pi.B6 P hs s x f=(Pi.B6 P h s x f).map (re hs):=by
 unfold Pi.B6;split
 ·split
  ·exact Ec
  ·rfl
 ·rfl
theorem QK{s:TypeId}{x i:PV}:Pi.Bw P hs s x i=(Pi.Bw P h s x i).map (re hs):=by
 unfold Pi.Bw;split
 ·rename_i len e cs k _ _;cases af k len with
  |true=>
   simp only[zb];split
   ·exact Ec
   ·rfl
  |false=>rfl
 ·split<;>rfl
 ·rfl
theorem Oq{ty:TypeId}{v:PV}{b:Bool}:Pi.BK P hs ty v b=(Pi.BK P h ty v b).map (re hs):=by
 have z:∀ {e:TypeId},(bif b then(match Pi.Bt P e with
   |some z=>zo (Pi.R.val (.tup [z,.bool zf]) hs)
   |none=>zn)else zn)=(bif b then(match Pi.Bt P e with
   |some z=>zo (Pi.R.val (.tup [z,.bool zf]) h)
   |none=>zn)else zn).map (re hs):=by
  intro e;cases b with
  |true=>simp only[zb];split<;>rfl
  |false=>rfl
 unfold Pi.BK;split
 ·split
  ·split
   ·split
    ·rfl
    ·exact z
   ·rfl
  ·exact z
  ·rfl
 ·split
  ·rename_i u a;cases aa u ty with
   |true=>rfl
   |false=>exact z
  ·exact z
  ·rfl
 ·rfl
theorem M5{x:PV}{i:Nat}:Pi.Be hs x i=(Pi.Be h x i).map (re hs):=by
 unfold Pi.Be;split
 ·exact Ec
 ·rfl
theorem RP{ty:TypeId}{p:PV}(a:∀ q∈Pi.AE p,hs.get q=h.get q):Pi.CD P hs ty p=(Pi.CD P h ty p).map (re hs):=by
 unfold Pi.CD;cases p with
 |ptr j off=>
  simp only;rw[a j (by simp[Pi.AE])];split
  ·exact Ec
  ·rfl
 |view cs=>exact Ec
 |ept j i off=>
  simp only;rw[a j (by simp[Pi.AE])];split
  ·split
   ·exact Ec
   ·rfl
  ·rfl
 |_=>rfl
theorem Kk{ty:TypeId}{x i:PV}(b:∀ q∈Pi.AE x,hs.get q=h.get q):Pi.Ap P hs ty x i=(Pi.Ap P h ty x i).map (re hs):=by
 unfold Pi.Ap;split
 ·rename_i e k _ _;split
  ·rename_i n _;split
   ·split
    ·rename_i a _;cases aa a.cells.length n<;>rfl
    ·rfl
   ·rename_i j off len;rw[b j (by simp[Pi.AE])];cases af k len with
    |true=>
     simp only[zb];split
     ·split
      ·rename_i a _;cases aa a.cells.length n<;>rfl
      ·rfl
     ·rfl
    |false=>rfl
   ·rfl
  ·rfl
 ·rename_i len e k _ _;split
  ·cases af k len with
   |true=>simp only[zb];split<;>rfl
   |false=>rfl
  ·rfl
 ·rfl
theorem QL{ty:TypeId}{x:PV}{lo hi:Option PV}(a:¬ (lo=zn/\hi=zn))(b:∀ q∈Pi.AE x,hs.get q=h.get q):Pi.Af P hs ty x lo hi zn=(Pi.Af P h ty x lo hi zn).map (re hs):=by
 unfold Pi.Af;split
 ·split
  ·exact Ki
  ·rfl
 ·split
  ·rfl
  ·rename_i n _;split
   ·split
    ·rename_i hh _ _ _;cases(zn:Option PV).isSome && !hi.isSome<;>rfl
    ·rfl
   ·rename_i full es;cases !Pi.Ce n es with
    |true=>rfl
    |false=>
     simp only[zj];split
     ·rename_i l hh _ _;cases ah hh es.length&&ah l hh<;>rfl
     ·rfl
   ·rename_i j off len;rw[b j (by simp[Pi.AE])];split
    ·rename_i es ex fz _;cases !Pi.Ce n es with
     |true=>rfl
     |false=>
      simp only[zj];split
      ·rename_i l hh _ _;cases !ah l hh || !ah (off+hh) es.length with
       |true=>rfl
       |false=>
        simp only[zj];cases af (off+l) es.length<;>rfl
      ·rfl
    ·rfl
   ·rfl
 ·split
  ·exact absurd ⟨rfl,rfl⟩ a
  ·rfl
 ·rfl
theorem Ot{ty:TypeId}{x:PV}{lo hi mx:Option PV}(c:mx≠zn)(d:∀ j a b,x ≠ .own j a b):Pi.Af P hs ty x lo hi mx=(Pi.Af P h ty x lo hi mx).map (re hs):=by
 unfold Pi.Af;split
 ·split
  ·exact Ki
  ·rfl
 ·split
  ·rfl
  ·rename_i n _;split
   ·split
    ·cases mx.isSome && !hi.isSome<;>rfl
    ·rfl
   ·rename_i full es;cases !Pi.Ce n es with
    |true=>rfl
    |false=>
     simp only[zj];split
     ·cases mx with
      |none=>exact Ki
      |some m=>
       dsimp only;split
       ·exact Ki
       ·rfl
     ·rfl
   ·exact absurd rfl (d _ _ _)
   ·rfl
 ·split
  ·exact absurd rfl c
  ·rfl
 ·rfl
theorem Fk{t:T PV}{x:Operand}{k a:PV->Option Pi.R}(f:∀ p,Pi.B1 t x=zo p->a p=(k p).map (re hs)):Pi.e1 t x a=(Pi.e1 t x k).map (re hs):=by
 unfold Pi.e1;split
 ·rename_i p b;exact f p b
 ·rfl
theorem QI{t:T PV}{x y:Operand}{k a:PV->PV->Option Pi.R}(f:∀ p q,Pi.B1 t x=zo p->Pi.B1 t y=zo q->a p q=(k p q).map (re hs)):Pi.e2 t x y a=(Pi.e2 t x y k).map (re hs):=by
 unfold Pi.e2;split
 ·rename_i p q b c;exact f p q b c
 ·rfl
theorem S2{t:T PV}{x y z:Operand}{k a:PV->PV->PV->Option Pi.R}(f:∀ p q r,a p q r=(k p q r).map (re hs)):Pi.e3 t x y z a=(Pi.e3 t x y z k).map (re hs):=by
 unfold Pi.e3;split
 ·exact f _ _ _
 ·rfl
theorem NU{t:T PV}{x:Operand}{l:List Operand}{p:PV}(a:Pi.B1 t x=zo p):∀ q∈Pi.AE p,q∈Pi.A3 t (x::l):=λq b=>by
 simp only[Pi.A3,a];exact ao _ b
theorem Mz{id:Nat}{b:Builtin}{a:Array TypeId}{args:List PV}(c:b=.len\/b=.cap\/b=.max\/b=.min)(e:b=.len -> ∀ p∈args,∀ q∈Pi.Fe p,hs.get q=h.get q)(d:b ≠ .len -> ∀ p∈args,∀ q∈Pi.AE p,hs.get q=h.get q):Pi.AH P hs id b a args=(Pi.AH P h id b a args).map (re hs):=by
 unfold Pi.AH;rcases c with rfl|rfl|rfl|rfl
 ·simp only;split
  ·rename_i x t _;split
   ·rename_i j _;rw[e rfl (.mp j) (by simp) j (by simp[Pi.Fe])];split<;>rfl
   all_goals rfl
  ·rfl
 ·simp only;split
  ·rename_i x t _;split
   ·rename_i j off f _;rw[d (by simp) (.own j off f) (by simp) j (by simp[Pi.AE])];split<;>rfl
   all_goals rfl
  ·rfl
 ·simp only;split
  ·cases Pi.B8 _ _ _ _<;>rfl
  ·rfl
  ·rfl
 ·simp only;split
  ·cases Pi.B8 _ _ _ _<;>rfl
  ·rfl
  ·rfl
theorem J1{t:T PV}:∀ {l:List Operand} {b:List PV},Pi.MF t l=zo b -> ∀ p∈b,∀ q∈Pi.AE p,q∈Pi.A3 t l
 |[],b,e,p,hp,q,hq=>by cases e;cases hp
 |o::l,b,e,p,hp,q,hq=>by
  unfold Pi.MF at e;split at e
  ·rename_i a f c d;cases e;rcases ai.1 hp with rfl|hp
   ·simp only[Pi.A3,c];exact ao _ hq
   ·simp only[Pi.A3,c];exact am _ (J1 d p hp q hq)
  ·cases e
theorem LH{t:T PV}:∀ {l:List Operand} {b:List PV},Pi.MF t l=zo b -> ∀ p∈b,∀ q∈Pi.Fe p,q∈Pi.DL t l
 |[],b,e,p,hp,q,hq=>by cases e;cases hp
 |o::l,b,e,p,hp,q,hq=>by
  unfold Pi.MF at e;split at e
  ·rename_i a f c d;cases e;rcases ai.1 hp with rfl|hp
   ·simp only[Pi.DL,c];exact ao _ hq
   ·simp only[Pi.DL,c];exact am _ (LH d p hp q hq)
  ·cases e
theorem OU{t:T PV}{id:Nat}{o:Oper}(hc:AO o.op<=1)(j:∀ q∈Pi.Au t h o.op,hs.get q=h.get q):Pi.AQ P t hs id o=(Pi.AQ P t h id o).map (re hs):=by
 unfold Pi.AQ;generalize o.op=B at hc j;cases B with
 |move x=>exact Ec
 |assign x=>exact Ec
 |pick c a b=>exact S2 λ_ _ _=>RQ
 |build ty D=>
  simp only;split
  ·exact QH
  ·rfl
 |nilCheck x=>exact Fk λ_ _=>SE
 |binOp _ _ x y _=>exact QI λ_ _ _ _=>SC
 |unOp _ _ x=>exact Fk λ_ _=>Ec
 |convert _ _ x=>exact Fk λ_ _=>M4
 |makeInterface _ x=>exact Fk λ_ _=>SD
 |makeFunc f a b=>
  simp only;split
  ·exact Lx
  ·rfl
 |fieldAddr _ x _=>exact Fk λ_ _=>Kj
 |field _ x _=>exact Fk λ_ _=>QJ
 |index _ x y=>exact QI λ_ _ _ _=>QK
 |typeAssert x _ _ _=>exact Fk λ_ _=>Oq
 |extract x _=>exact Fk λ_ _=>M5
 |load _ x=>exact Fk λp g=>RP λq i=>j q (NU g q i)
 |indexAddr _ x y=>exact QI λp C g _=>Kk λq i=>j q (NU g q i)
 |slice ty x lo hi mx=>
  cases mx with
  |some _=>simp[AO]at hc
  |none=>
   simp only;split
   ·rename_i z l A u w n;cases n
    have m:¬ (z=zn/\l=zn):=λ⟨a,b⟩=>by
     subst a;subst b;cases lo with
     |some o=>
      simp only[Pi.Mb]at u;cases s:Pi.B1 t o<;>rw[s]at u<;>cases u
     |none=>cases hi with
      |some o=>
       simp only[Pi.Mb]at w;cases s:Pi.B1 t o<;>rw[s]at w<;>cases w
      |none=>simp[AO]at hc
    refine Fk λp g=>QL m λq i=>j q ?_
    have k:(lo.isNone&&hi.isNone)=zf:=by
     cases lo with
     |some _=>rfl
     |none=>cases hi with
      |some _=>rfl
      |none=>simp[AO]at hc
    show q∈(bif (zn:Option Operand).isSome||(lo.isNone&&hi.isNone)then Pi.CM t h [x]else Pi.A3 t [x])
    rw[k];exact NU g q i
   ·rfl
 |call c=>
  simp only;split
  ·rename_i args e;cases d:c.callee with
   |builtin b=>
    simp only[AO,d]at hc;simp only[Pi.Au,d]at j;refine Mz ?_ (λk p g q i=>j q ?_) λk p g q i=>j q ?_
    ·cases b<;>simp at hc ⊢
    ·subst k;exact LH e p g q i
    ·cases b<;>first|exact absurd rfl k|exact J1 e p g q i
   |value _=>simp[AO,d]at hc
   |invoke _ _=>simp[AO,d]at hc
  ·rfl
 |makeMap _ r=>cases r<;>simp[AO]at hc
 |_=>simp[AO]at hc
theorem KU{id:Nat}{b:Blk}{d:Hp}(c:h.get id=zn->hs.get id=zn)(e:h.new id b=zo d):∃ a,hs.new id b=zo a:=
 F7 hs id b (c (Hp.get_new e).1)
theorem O1{ty:TypeId}{p v:PV}{r:Pi.R}(l:∀ q∈Pi.AE p,hs.get q=h.get q)(e:Pi.A2 P h ty p v=zo r):∃ a,Pi.A2 P hs ty p v=zo (.skip a):=by
 have k:∀ (j:Nat) (b:Blk),∃ a,(hs.set j b).map Pi.R.skip=zo (.skip a):=λj b=>by
  obtain⟨o,e⟩:=BI hs j b;exact⟨o,by rw[e];rfl⟩
 unfold Pi.A2 at e ⊢;split at e
 ·rename_i n s
  try simp only[s]
  replace e:=BE e;obtain⟨d,e⟩:=e;rw[d];simp only[zj];cases p with
  |ptr j off=>
   simp only at e ⊢;rw[l j (by simp[Pi.AE])];split at e
   ·rename_i cs g
    try simp only[g]
    replace e:=AK e;obtain⟨d,e⟩:=e;rw[d];simp only[zb];exact k _ _
   ·cases e
  |ept j i off=>
   simp only at e ⊢;rw[l j (by simp[Pi.AE])];split at e
   ·rename_i es ex g
    try simp only[g]
    split at e
    ·rename_i m f
     try simp only[f]
     replace e:=AK e;obtain⟨d,e⟩:=e;rw[d];simp only[zb];cases m with
     |agg cs=>exact k _ _
     |_=>
      dsimp only at e ⊢;split at e
      ·rename_i c hc;replace e:=AK e;obtain⟨d,e⟩:=e
       try simp only[hc]
       rw[d];simp only[zb];cases c<;>first|exact k _ _|cases e
      ·cases e
    ·cases e
   ·cases e
  |_=>cases e
 ·cases e
theorem Ma{t:T PV}{id:Nat}{o:Oper}{r:Pi.R}(hc:AO o.op<=3)(m:∀ q∈Pi.Au t h o.op,hs.get q=h.get q)(s:h.get id=zn->hs.get id=zn)(e:Pi.AQ P t h id o=zo r) :
  (∀ v f,r=.val v f -> ∃ D d,Pi.AQ P t hs id o=zo (.val D d))/\(∀ f,r=.skip f -> ∃ d,Pi.AQ P t hs id o=zo (.skip d)):=by
 have l:AO o.op<=1\/AO o.op=2\/AO o.op=3:=by omega
 rcases l with hc|hc|hc
 ·have:=OU (P:=P) (id:=id) hc m;rw[e]at this;exact⟨λv f i=>⟨v,hs,by rw[this,i];rfl⟩,λf i=>⟨hs,by rw[this,i];rfl⟩⟩
 ·have nw:∀ {b:Blk} {g:Hp->Pi.R},(h.new id b).map g=zo r->(∃ v,∀ h,g h=.val v h)->(∀ v f,r=.val v f -> ∃ D d,(hs.new id b).map g=zo (.val D d))/\(∀ f,r=.skip f -> ∃ d,(hs.new id b).map g=zo (.skip d)):=fun {b g} e ⟨v,E⟩=>by
   cases u:h.new id b with
   |none=>rw[u]at e;cases e
   |some f=>
    rw[u]at e;cases e;obtain⟨d,e1⟩:=KU s u;exact⟨λ_ _ _=>⟨v,d,by rw[e1];simp[E]⟩,λ_ i=>by rw[E]at i;cases i⟩
  unfold Pi.AQ at e ⊢;generalize o.op=B at hc m e;cases B with
  |alloc ty=>
   dsimp only at e ⊢;unfold Pi.Cj at e ⊢;split at e
   ·rename_i cs A
    try simp only[A]
    exact nw e ⟨_,λ_=>rfl⟩
   ·cases e
  |box _ x=>
   simp only[Pi.e1]at e ⊢;split at e
   ·rename_i v w
    try simp only[w]
    unfold Pi.Fa at e ⊢;split at e
    ·cases e
    ·exact nw e ⟨_,λ_=>rfl⟩
   ·cases e
  |makeMap _ r=>
   cases r with
   |none=>exact nw e ⟨_,λ_=>rfl⟩
   |some _=>simp[AO]at hc
  |makeSlice _ x y=>
   simp only[Pi.e2]at e ⊢;split at e
   ·rename_i a b G n
    try simp only[G,n]
    unfold Pi.C0 at e ⊢;split at e
    ·split at e
     ·split at e
      ·rename_i z A
       try simp only[A]
       replace e:=AK e;obtain⟨n,e⟩:=e;rw[n];simp only[zb];exact nw e ⟨_,λ_=>rfl⟩
      ·cases e
     ·cases e
    ·cases e
   ·cases e
  |slice _ _ lo hi mx=>cases mx<;>cases lo<;>cases hi<;>simp[AO]at hc
  |call c=>
   simp only[AO]at hc;split at hc
   ·split at hc<;>cases hc
   ·cases hc
  |_=>simp[AO]at hc
 ·unfold Pi.AQ at e ⊢;generalize o.op=B at hc m e;cases B with
  |store ty a x=>
   simp only[Pi.e2]at e ⊢;split at e
   ·rename_i p v F w
    try simp only[F,w]
    have:=O1 (hs:=hs) (λq I=>m q (NU F q I)) e;refine⟨λv f i=> ?_,λ_ _=>this⟩;exfalso;subst i
    have C:∀ {j:Nat} {b:Blk},(h.set j b).map Pi.R.skip=zo (.val v f)->False:=fun {j b} e=>by
     cases k:h.set j b with
     |none=>rw[k]at e;cases e
     |some _=>rw[k]at e;cases e
    unfold Pi.A2 at e;split at e
    ·replace e:=BE e;obtain⟨_,e⟩:=e;split at e
     ·split at e
      ·replace e:=AK e;exact C e.2
      ·cases e
     ·split at e
      ·split at e
       ·replace e:=AK e;obtain⟨_,e⟩:=e;split at e
        ·exact C e
        ·split at e
         ·replace e:=AK e;obtain⟨_,e⟩:=e;split at e
          ·cases e
          ·cases e
          ·exact C e
         ·cases e
       ·cases e
      ·cases e
     ·cases e
    ·cases e
   ·cases e
  |slice _ _ lo hi mx=>cases mx<;>cases lo<;>cases hi<;>simp[AO]at hc
  |makeMap _ r=>cases r<;>simp[AO]at hc
  |call c=>
   simp only[AO]at hc;split at hc
   ·split at hc<;>cases hc
   ·cases hc
  |_=>simp[AO]at hc
end
end
section
variable[Pi.Gl]
open Pi (PV T Hp Blk DF UM PE AN AT AB AV Ao)
def CF(o:Option Pi.R):Prop:=∃ v h,o=zo (.val v h)
section
variable{P:Program}{h hs:Hp}
theorem JI{p:PV}(a:∀ q∈Pi.AE p,hs.get q=h.get q):Pi.BX hs p=Pi.BX h p:=by
 unfold Pi.BX
 grind [id,Pi.AE]
theorem FL{id:Nat}{b:Blk}{v:PV}(a:h.get id=zn->hs.get id=zn)(e:CF ((h.new id b).map λh=>.val v h)):CF ((hs.new id b).map λh=>.val v h):=by
 obtain⟨i,f,e⟩:=e;cases d:h.new id b with
 |none=>simp_all
 |some g=>
  obtain⟨c,e2⟩:=KU a d;exact⟨v,c,by rw[e2];rfl⟩
theorem JS{j:Nat}{b:Blk}{v:PV}(e:CF ((h.set j b).map λh=>.val v h)):CF ((hs.set j b).map λh=>.val v h):=by
 obtain⟨a,e2⟩:=BI hs j b;exact⟨v,a,by rw[e2];rfl⟩
theorem Am(e:CF zn){α:Prop}:α:=by obtain⟨_,_,e⟩:=e;cases e
theorem Az{c:Bool}{a b d b':Option Pi.R}(e:CF (bif c then a else b))(f:c=zt->CF a->CF d)(g:c=zf->CF b->CF b'):CF (bif c then d else b'):=by
 grind
theorem P6{id g:Nat}{s x:PV}(c:∀ q∈Pi.AE s,hs.get q=h.get q)(n:∀ q∈Pi.AE x,hs.get q=h.get q)(a:h.get id=zn->hs.get id=zn)(e:CF (Pi.Ef P h id g s x)):CF (Pi.Ef P hs id g s x):=by
 unfold Pi.Ef at e ⊢;split at e
 ·rename_i u m
  try simp only[m]
  rw[JI n];split at e
  ·rename_i y A new z o p r t
   try simp only[o,p,r,t]
   refine Az e (λ_ e=>Am e) λ_ e=> ?_;cases s with
   |nils=>
    simp only at e ⊢;exact Az e (λ_ _=>⟨_,_,rfl⟩) λ_ e=>Az e (λ_ e=>FL a e) λ_ e=>Am e
   |lst f es=>
    cases f with
    |true=>
     simp only at e ⊢;exact Az e (λ_ _=>⟨_,_,rfl⟩) λ_ e=>Az e (λ_ e=>FL a e) λ_ e=>Am e
    |false=>omega
   |own j off len=>
    simp only at e ⊢;rw[c j (by simp[Pi.AE])];split at e
    ·rename_i es ex fz i
     try simp only[i]
     refine Az e (λ_ e=>Am e) λ_ e=> ?_;refine Az e (λ_ e=> ?_) λ_ e=> ?_
     ·refine Az e (λ_ _=>⟨_,_,rfl⟩) λ_ e=>Az e (λ_ e=> ?_) λ_ e=>FL a e;exact Az e (λ_ e=>Am e) λ_ e=>JS e
     ·refine Az e (λ_ e=> ?_) λ_ e=>Am e;obtain⟨w,d⟩:=BI h j .dead;obtain⟨k,b⟩:=BI hs j .dead;rw[d]at e;rw[b];simp only at e ⊢;refine FL (λl=> ?_) e;rw[(Hp.get_set d).1]at l;rw[(Hp.get_set b).1]
      grind
    omega
   |_=>omega
  omega
 omega
theorem Ok{id:Nat}{a:Array TypeId}{args:List PV}(d:∀ p∈args,∀ q∈Pi.AE p,hs.get q=h.get q)(e:CF (Pi.AH P h id .copy a args)):CF (Pi.AH P hs id .copy a args):=by
 simp only[Pi.AH]at e ⊢;split at e
 ·rename_i j off len x t b
  try simp only[b]
  rw[d (.own j off len) (by simp) j (by simp[Pi.AE]),JI (d x (by simp))];split at e
  ·rename_i f es ex new g i k
   try simp only[g,i,k]
   split at e
   ·rename_i l c
    try simp only[c]
    exact Az e (λ_ e=>Am e) λ_ e=>JS e
   omega
  omega
 omega
theorem DM:∀ {L:List Nat} {h hs d:Hp},(∀ x∈L,hs.get x=h.get x)->Pi.freeze h L=zo d -> ∃ a,Pi.freeze hs L=zo a /\ ∀ x,hs.get x=h.get x->a.get x=d.get x
 |[],h,hs,d,_,e=>by simp_all[Pi.freeze]
 |j::L,h,hs,d,hl,e=>by
  unfold Pi.freeze at e ⊢;rw[hl j (by simp)]
  have step:∀ {b:Blk},(match h.set j b with
    |some h=>Pi.freeze h L
    |none=>zn)=zo d -> ∃ a,(match hs.set j b with
    |some h=>Pi.freeze h L
    |none=>zn)=zo a /\ ∀ x,hs.get x=h.get x->a.get x=d.get x:=by
   intro b e;obtain⟨l,g⟩:=BI h j b;obtain⟨m,i⟩:=BI hs j b;rw[g]at e;rw[i];simp only at e ⊢
   have c:∀ x,hs.get x=h.get x->m.get x=l.get x:=λx k=>by
    rw[(Hp.get_set g).1,(Hp.get_set i).1]
    simp_all
   obtain⟨a,e1,n⟩:=DM (λx k=>c x (hl x (aB _ k))) e
   simp_all
  split at e
  ·rename_i cs fz f
   try simp only[f]
   exact step e
  ·rename_i es ex fz f
   try simp only[f]
   exact step e
  ·cases e
theorem Ic{f g:PV->Option (PV×List Nat)}:∀ {i c:List PV} {l:List Nat},(∀ p q l',f p=zo (q,l')->(∀ x∈l',x∈l)->g p=zo (q,l'))->AB f i=zo (c,l)->AB g i=zo (c,l)
 |[],c,l,_,e=>e
 |p::i,c,l,hfg,e=>by
  unfold AB at e ⊢;split at e
  ·rename_i q a n b j k;cases e;rw[hfg _ _ _ j λx d=>ao _ d,Ic (λp q l' h m=>hfg p q l' h λx d=>am _ (m x d)) k]
  ·cases e
theorem Hx:∀ (n:Nat) (p:PV) (q:PV) (l:List Nat),(∀ x∈l,hs.get x=h.get x)->AV h n p=zo (q,l)->AV hs n p=zo (q,l)
 |0,p,q,l,hl,e=>by simp[AV]at e
 |n+1,p,q,l,hl,e=>by
  have B:∀ {k m:List PV} {l':List Nat},(∀ x∈l',x∈l)->AB (AV h n) k=zo (m,l')->AB (AV hs n) k=zo (m,l'):=λu e=>
   Ic (λp q z o r=>Hx n p q z (λx d=>hl x (u x (r x d))) o) e
  cases p with
  |agg cs=>simp only[AV]at e ⊢;obtain⟨⟨x,l'⟩,d,c⟩:=Pi.AA e;grind
  |tup cs=>simp only[AV]at e ⊢;obtain⟨⟨x,l'⟩,d,c⟩:=Pi.AA e;grind
  |ifc t x=>simp only[AV]at e ⊢;obtain⟨⟨y,l'⟩,w,c⟩:=Pi.AA e;cases c;rw[Hx n _ _ _ hl w];rfl
  |fn f a b=>
   grind [AV,ao,am]
  |own j off len=>
   simp only[AV]at e ⊢;split at e
   ·rename_i es ex fz g;replace e:=AK e;obtain⟨hc,e⟩:=e;obtain⟨⟨x,l'⟩,d,c⟩:=Pi.AA e;grind
   ·cases e
  |ptr j off=>
   simp only[AV]at e ⊢;split at e
   ·rename_i cs fz g;replace e:=AK e;obtain⟨hc,e⟩:=e;obtain⟨⟨x,l'⟩,d,c⟩:=Pi.AA e;grind
   ·cases e
  |ept j i off=>
   simp only[AV]at e ⊢;split at e
   ·rename_i es ex fz g;split at e
    ·rename_i A s;replace e:=AK e;obtain⟨hc,e⟩:=e;obtain⟨⟨x,l'⟩,d,c⟩:=Pi.AA e;grind
    ·cases e
   ·cases e
  |yl _=>simp[AV]at e
  |mp _=>simp[AV]at e
  |_=>exact e
theorem E2:∀ {f c:List PV} {l:List Nat},(∀ x∈l,hs.get x=h.get x)->Ao h f=zo (c,l)->Ao hs f=zo (c,l)
 |[],c,l,_,e=>e
 |p::f,c,l,hl,e=>by
  unfold Ao at e ⊢;split at e
  ·rename_i q a j b g i;cases e;rw[Hx _ _ _ _ (λx d=>hl x (ao _ d)) g,E2 (λx d=>hl x (am _ d)) i]
  ·cases e
theorem Fp{v:Value}{p:PV}(e:Pi.Cz v=zo p)(n:Nat):AV h (n+1) p=zo (p,[]):=by
 unfold Pi.Cz at e;split at e<;>first|cases e|skip
 all_goals first
  |rfl
  |(split at e<;>cases e;rfl)
theorem El:∀ {vs:List Value} {a:List PV},Pi.cellsOf vs=zo a -> ∀ n,AB (AV h (n+1)) a=zo (a,[])
 |[],a,e,n=>by cases e;rfl
 |v::vs,a,e,n=>by
  unfold Pi.cellsOf at e;split at e
  ·rename_i p d b c;cases e;unfold AB;rw[Fp b,El c];rfl
  ·cases e
theorem Qg{t:TypeId}{z:List PV}{d:Bool}{e:PV}(b:Pi.zeroCells P t=zo z)(a:Pi.Lg d z=zo e)(n:Nat):∃ q,AV h (n+2) e=zo (q,[]):=by
 unfold Pi.zeroCells at b;split at b
 ·split at b
  ·have f:=λn=>El (h:=h) b n;unfold Pi.Lg at a;cases d with
   |true=>
    simp only[zb,Option.some.injEq]at a;subst a;refine⟨.agg z,?_⟩;show(AB (AV h (n+1)) z).map _=_
    grind
   |false=>
    simp only[zj]at a;split at a
    ·rename_i c;cases a;have:=f (n+1)
     grind [AB,Option.some.injEq,Prod.mk.injEq]
    ·cases a
  ·cases b
 ·cases b
theorem JL:∀ {n:Nat} {a:List (Nat×PV)} {es es':List PV},Pi.Fb n es a=zo es' -> ∀ e∈es',e∈es \/ ∃ i,(i,e)∈a
 |n,[],es,es',e,x,hx=>by simp_all[Pi.Fb,Option.some.injEq]
 |n,(i,v)::r,es,es',e,x,hx=>by
  unfold Pi.Fb at e;replace e:=AK e;obtain⟨_,e⟩:=e;rcases JL e x hx with h|⟨j,h⟩
  ·grind [Pi.AT]
  grind
theorem Lu:∀ {es c:List PV} {l:List Nat},Ao h es=zo (c,l) -> ∀ x∈l,∃ e∈es,∃ q l',AV h Pi.AS e=zo (q,l')/\x∈l'
 |[],c,l,e,x,hx=>by cases e;cases hx
 |p::ps,c,l,e,x,hx=>by
  unfold Ao at e;split at e
  ·rename_i q a f b g d;cases e;rcases an.1 hx with hx|hx
   ·grind
   ·obtain⟨e,i,k⟩:=Lu d x hx
    grind
  ·cases e
theorem Gk{t:T PV}:∀ {l:List (Nat×Operand)} {b:List (Nat×PV)},Pi.CA t l=zo b -> ∀ i p,(i,p)∈b -> ∀ q m,AV h Pi.AS p=zo (q,m) -> ∀ x∈m,x∈Pi.CM t h (l.map (·.2))
 |[],b,e,i,p,hp,_,_,_,_,_=>by cases e;cases hp
 |(j,o)::l,b,e,i,p,hp,q,m,hm,x,hx=>by
  unfold Pi.CA at e;split at e
  ·rename_i a f c d;cases e;simp only[cB,Pi.CM,c];rcases ai.1 hp with hp|hp
   ·simp_all
   ·have:=Gk d i p hp q m hm x hx
    grind
  ·cases e
theorem IA{ty:TypeId}{len:Nat}{j:List (Nat×PV)}(G:∀ i p,(i,p)∈j -> ∀ q m,AV h Pi.AS p=zo (q,m) -> ∀ x∈m,hs.get x=h.get x)(e:CF (Pi.Ah P h ty len j)):CF (Pi.Ah P hs ty len j):=by
 unfold Pi.Ah at e ⊢;split at e
 ·rename_i D u
  try simp only[u]
  split at e
  ·rename_i n C z y A s
   try simp only[y,A,s]
   split at e
   ·rename_i J f
    try simp only[f]
    refine Az e (λ_ e=>Am e) λ_ e=> ?_;split at e
    ·rename_i es c
     try simp only[c]
     split at e
     ·rename_i B l d
      have o:∀ x∈l,hs.get x=h.get x:=λx w=>by
       obtain⟨a,t,q,l',k,E⟩:=Lu d x w;rcases JL c a t with r|⟨i,r⟩
       ·have:=List.eq_of_mem_replicate r;subst this;obtain⟨I,F⟩:=Qg (h:=h) s f 10;have b:AV h (10+2) a=zo (q,l'):=k
        simp_all
       grind
      rw[E2 o d];obtain⟨_,_,e⟩:=e;obtain⟨k,g,_⟩:=Pi.AA e;obtain⟨b,e1,_⟩:=DM o g;show CF ((Pi.freeze hs l).map λh=>Pi.R.val (.lst zt B) h);rw[e1];exact⟨_,b,rfl⟩
     ·exact Am e
    ·exact Am e
   ·exact Am e
  ·exact Am e
 ·exact Am e
theorem LG{t:T PV}{id:Nat}{o:Oper}(w:∀ ty x lo hi m,o.op=.slice ty x lo hi (zo m) -> ∀ p,Pi.B1 t x=zo p -> ∀ j a b,p ≠ .own j a b)(u:∀ ty x,o.op=.slice ty x zn zn zn -> ∀ p,Pi.B1 t x=zo p -> ∃ j a,p=.ptr j a)(hc:AO o.op=4)(f:∀ q∈Pi.Au t h o.op,hs.get q=h.get q)(D:h.get id=zn->hs.get id=zn)(e:CF (Pi.AQ P t h id o)):CF (Pi.AQ P t hs id o):=by
 unfold Pi.AQ at e ⊢;generalize o.op=S at hc f e w u;cases S with
 |buildSlice ty len G=>
  simp only at e ⊢;split at e
  ·rename_i Y s
   try simp only[s]
   exact IA (λi p g q m E x M=>f x (Gk s i p g q m E x M)) e
  omega
 |call c=>
  simp only at e ⊢;split at e
  ·rename_i args d
   try simp only[d]
   cases k:c.callee with
   |builtin b=>
    simp only[AO,k]at hc;simp only[k]at e ⊢
    replace f:∀ q∈Pi.A3 t c.args.toList,hs.get q=h.get q:=by
     grind [Pi.Au]
    have l:∀ p∈args,∀ q∈Pi.AE p,hs.get q=h.get q:=λp g q z=>f q (J1 d p g q z);cases b with
    |append=>
     simp only[Pi.AH]at e ⊢;split at e
     ·rename_i p q t Z n
      try simp only[n]
      exact Az e (λ_ e=>P6 (l p (by simp)) (l q (by simp)) D e) λ_ e=>Am e
     omega
    |copy=>exact Ok l e
    |_=>simp at hc
   |value _=>simp_all
   |invoke _ _=>simp_all
  omega
 |slice ty x lo hi mx=>
  cases mx with
  |none=>
   cases lo with
   |some _=>cases hi<;>simp[AO]at hc
   |none=>cases hi with
    |some _=>simp[AO]at hc
    |none=>
     simp only[Pi.Mb]at e ⊢;obtain⟨v,J,e⟩:=e;obtain⟨p,g,e⟩:=Pi.AY e;obtain⟨j,a,rfl⟩:=u _ _ rfl p g;replace f:∀ q∈Pi.CM t h [x],hs.get q=h.get q:=f;simp only[Pi.CM,g]at f;unfold Pi.e1;rw[g];simp only at e ⊢;unfold Pi.Af at e ⊢;split at e
     ·cases ‹_=PV.str _›
     ·split at e<;>cases e
     ·rename_i X;simp only at e ⊢;unfold Pi.DE at e ⊢;split at e
      ·split at e
       ·rename_i K z;rw[z]at f;simp only[aL]at f;rw[Hx _ _ _ _ f z];simp only[K];refine Az ⟨_,_,e⟩ (λ_ e=> ?_) λ_ e=>Am e;obtain⟨_,_,e⟩:=e;obtain⟨U,B,_⟩:=Pi.AA e;obtain⟨W,e3,_⟩:=DM f B;rw[e3];exact⟨_,_,rfl⟩
       ·cases e
      ·cases e
     ·cases e
  |some m=>
   simp only at e ⊢;split at e
   ·rename_i F C y N O A
    have E:y≠zn:=λI=>by
     subst I;simp only[Pi.Mb]at A;cases L:Pi.B1 t m<;>rw[L]at A<;>cases A
    try simp only[N,O,A]
    obtain⟨v,J,e⟩:=e;obtain⟨p,g,e⟩:=Pi.AY e;have:=Ot (P:=P) (hs:=hs) (h:=h) (ty:=ty) (lo:=F) (hi:=C) (mx:=y) E (w _ _ _ _ _ rfl p g);rw[e]at this;unfold Pi.e1;rw[g];exact⟨v,hs,this⟩
   omega
 |makeMap _ r=>cases r<;>simp[AO]at hc
 |_=>simp[AO]at hc
theorem KF{id:Nat}{l:List Nat}{h':Hp}{r q:PV}{o:Hp}(m:∀ x∈l,hs.get x=h.get x)(t:h.get id=zn->hs.get id=zn)(e:Pi.Ag id l h h' r=zo (q,o)):∃ d,Pi.Ag id l hs h' r=zo (q,d):=by
 unfold Pi.Ag at e ⊢;split at e
 ·rename_i len n ex u
  try dsimp only
  split at e
  ·rename_i k b;obtain⟨z,f,g⟩:=Pi.AA e;cases g
   have:∃ a,(bif Pi.BP n then zo hs else Pi.freeze hs l)=zo a/\(k.get id=zn->a.get id=zn):=by
    cases c:Pi.BP n with
    |true=>
     simp_all
    |false=>
     rw[c]at b;obtain⟨a,e3,j⟩:=DM m b;refine⟨a,e3,λf=> ?_⟩;by_cases s:h.get id=zn
     ·simp_all
     ·exact absurd f ((C6 b id).2 s)
   obtain⟨a,e3,j⟩:=this;obtain⟨p,y⟩:=KU j f
   simp_all
  ·cases e
 ·rename_i u
  try dsimp only
  split at e
  ·rename_i w A i
   try simp only[i]
   cases c:Pi.flat w with
   |true=>
    simp_all
   |false=>
    rw[c]at e;simp only[zj]at e ⊢;obtain⟨k,b,g⟩:=Pi.AA e;cases g;obtain⟨a,e3,_⟩:=DM m b
    simp_all
  ·cases e
theorem Mx:∀ (n:Nat) (p q:PV) (l:List Nat),AV h n p=zo (q,l) -> ∀ x∈l,h.get x≠zn
 |0,p,q,l,e,x,hx=>by simp[AV]at e
 |n+1,p,q,l,e,x,hx=>by
  have w:∀ {g k:List PV} {l':List Nat},AB (AV h n) g=zo (k,l') -> ∀ x∈l',h.get x≠zn:=by
   intro g
   induction g with
   |nil=>intro k l' e x hx;cases e;cases hx
   |cons p g r=>
    intro k l' e x hx;unfold AB at e;split at e
    ·rename_i q a s b o u;cases e;rcases an.1 hx with hx|hx
     ·exact Mx n _ _ _ o x hx
     simp_all
    ·cases e
  cases p with
  |agg cs=>simp only[AV]at e;obtain⟨⟨y,l'⟩,d,c⟩:=Pi.AA e;grind
  |tup cs=>simp only[AV]at e;obtain⟨⟨y,l'⟩,d,c⟩:=Pi.AA e;grind
  |ifc t v=>simp only[AV]at e;obtain⟨⟨y,l'⟩,d,c⟩:=Pi.AA e;cases c;exact Mx n _ _ _ d x hx
  |fn f a b=>
   grind [AV]
  |own j off len=>
   simp only[AV]at e;split at e
   ·rename_i es ex fz m;replace e:=AK e;obtain⟨_,e⟩:=e;obtain⟨⟨y,l'⟩,d,c⟩:=Pi.AA e;grind
   ·cases e
  |ptr j off=>
   simp only[AV]at e;split at e
   ·rename_i cs fz m;replace e:=AK e;obtain⟨_,e⟩:=e;obtain⟨⟨y,l'⟩,d,c⟩:=Pi.AA e;grind
   ·cases e
  |ept j i off=>
   simp only[AV]at e;split at e
   ·rename_i es ex fz m;split at e
    ·replace e:=AK e;obtain⟨_,e⟩:=e;obtain⟨⟨y,l'⟩,d,c⟩:=Pi.AA e;grind
    ·cases e
   ·cases e
  |yl _=>simp[AV]at e
  |mp _=>simp[AV]at e
  |_=>cases e;cases hx
theorem Dx{t:T PV}:∀ {l:List Operand},∀ x∈Pi.CM t h l,h.get x≠zn
 |[],x,hx=>by cases hx
 |o::l,x,hx=>by
  unfold Pi.CM at hx;split at hx
  ·split at hx
   ·rename_i q m a;rcases an.1 hx with hx|hx
    ·exact Mx _ _ _ _ a x hx
    ·exact Dx x hx
   ·exact Dx x hx
  ·exact Dx x hx
end
end
section
variable[Pi.Gl]
open Pi (PV T Hp Blk DF UM PE AN AT AB AV Ao)
section
variable{P:Program}{h hs:Hp}
theorem Hw(c:Hp):∀ (l:List Nat) (h:Hp),∃ a,Pi.over c l h=zo a/\a.nx=h.nx
 |[],h=>⟨h,rfl,rfl⟩
 |j::l,h=>by
  unfold Pi.over;split
  ·rename_i b f;obtain⟨e,e3⟩:=BI h j b;obtain⟨a,e2,d⟩:=Hw c l e;exact⟨a,by rw[e3];exact e2,by rw[d];exact(Hp.get_set e3).2⟩
  ·exact Hw c l h
theorem Ai{h:Hp}:∀ {l:List Nat} {x:Nat},x∈Pi.BB h l->x∈l
 |[],x,hx=>by simp[Pi.BB]at hx
 |j::l,x,hx=>by
  unfold Pi.BB at hx;split at hx
  ·exact aB _ (Ai hx)
  ·exact aB _ (Ai hx)
  ·rcases ai.1 hx with rfl|hx
   ·simp
   ·exact aB _ (Ai hx)
theorem I8{o:Op}(a:Pi.As o=zt):(AO o<=1->Pi.quiet o=zt)/\(AO o=2\/AO o=3->Pi.quiet o=zf/\Pi.Eb o=zf)/\(AO o=0\/AO o=2 -> ∀ t h,Pi.Au t h o=[])/\(AO o=4->Pi.quiet o=zf):=by
 cases o with
 |slice _ _ lo hi mx=>cases mx<;>cases lo<;>cases hi<;>simp[AO,Pi.quiet,Pi.Eb,Pi.Au]
 |makeMap _ r=>cases r<;>simp[AO,Pi.quiet,Pi.Eb,Pi.Au]
 |call c=>
  cases hc:c.callee with
  |builtin b=>cases b<;>simp[AO,Pi.quiet,Pi.Eb,hc]
  |_=>simp[AO,hc]
 |_=>simp[AO,Pi.quiet,Pi.Eb,Pi.Au]
theorem IH{t:T PV}{id:Nat}{o:Oper}{r:Pi.R}(L:∀ ty x lo hi m,o.op=.slice ty x lo hi (zo m) -> ∀ p,Pi.B1 t x=zo p -> ∀ j a b,p ≠ .own j a b)(K:∀ ty x,o.op=.slice ty x zn zn zn -> ∀ p,Pi.B1 t x=zo p -> ∃ j a,p=.ptr j a)(g:Pi.As o.op=zt)(s:h.get id=zn)(e:Pi.AQ P t h id o=zo r) :
  (∀ v d,r=.val v d->AO o.op<=2\/AO o.op=4 -> ∃ f wr,(∀ rec,Pi.Ax P rec t h id o=zo (v,f,id::Pi.Au t h o.op,wr))/\(∀ q,f.get q=d.get q)/\f.nx=h.nx/\(AO o.op<=1->wr=[]/\d=h) /\ ∀ w∈wr,w∈id::Pi.Au t h o.op) /\
  (∀ d,r=.skip d->AO o.op=3 -> ∃ f wr,(∀ rec,Pi.Ax P rec t h id o=zo (.tup [],f,id::Pi.Au t h o.op,wr))/\(∀ q,f.get q=d.get q)/\f.nx=h.nx /\ ∀ w∈wr,w∈id::Pi.Au t h o.op):=by
 have i:∀ q∈id::Pi.Au t h o.op,(h.cut (id::Pi.Au t h o.op)).get q=h.get q:=λq n=>by
  rw[Pi.Db,zy ⟨n,by omega⟩]
 have low:=λhc=>Ma (P:=P) (hs:=h.cut (id::Pi.Au t h o.op)) hc (λq n=>i q (aB _ n)) (λ_=>by rw[i id (by simp)];exact s) e;have sub:Pi.Ee (h.cut (id::Pi.Au t h o.op)) h:=λx b hb=>(Pi.Dv hb).2;have z:af id (id+1)=zt:=by simp
 have n:=I8 g
 have k:∀ {c d:Hp},Pi.Lay (h.cut (id::Pi.Au t h o.op)) h c d id -> ∃ f,Pi.over c (id::Pi.Au t h o.op) h=zo f/\(∀ q,f.get q=d.get q)/\f.nx=h.nx:=fun {c d} l=>by
  obtain⟨f,e2,U⟩:=Hw c (id::Pi.Au t h o.op) h;refine⟨f,e2,λq=> ?_,U⟩;rw[Pi.Cw e2 q,l.get q];by_cases G:q∈id::Pi.Au t h o.op
  ·rw[zy G]
   all_goals (cases c.get q<;>rfl)
  ·rw[zx G];cases S:c.get q with
   |none=>rfl
   |some b=>
    rcases l.keys q b S with⟨b0,hb⟩|hb
    ·exact absurd (Pi.Dv hb).1 G
    ·exact absurd (by simp[hb]) G
 refine⟨λv d A hc=> ?_,λd A hc=> ?_⟩
 ·obtain⟨O,c,B⟩:∃ O c,Pi.AQ P t (h.cut (id::Pi.Au t h o.op)) id o=zo (.val O c):=by
   rcases hc with hc|hc
   ·exact(low (by omega)).1 v d A
   ·exact LG L K hc (λq n=>i q (aB _ n)) (λ_=>by rw[i id (by simp)];exact s) ⟨v,d,by rw[e,A]⟩
  have lay:=Pi.Cf sub (λ_=>s) g B;obtain⟨f,F,M⟩:=lay;rw[e,A]at F;cases F;by_cases C:AO o.op<=1
  ·have E:=n.1 C;have:=Pi.GU E g (by rw[e,A]);refine⟨h,[],λrec=> ?_,λq=>by rw[this],rfl,λ_=>⟨rfl,this⟩,λ_ y=>by cases y⟩;unfold Pi.Ax;simp only[g,z,au,aJ,zj,B,E,zb]
  ·have u:Pi.quiet o.op=zf:=by
    rcases hc with hc|hc
    ·exact(n.2.1 (.inl (by omega))).1
    ·exact n.2.2.2 hc
   obtain⟨J,e3,I,N⟩:=k M;refine⟨J,bif Pi.Eb o.op then id::Pi.Au t h o.op else Pi.BB h (id::Pi.Au t h o.op),λrec=> ?_,I,N,λh=>absurd h C,λw y=> ?_⟩
   ·unfold Pi.Ax;simp only[g,z,au,aJ,zj,B,u,e3,ap]
   ·cases D:Pi.Eb o.op with
    |true=>rw[D]at y;exact y
    |false=>rw[D]at y;exact Ai y
 ·obtain⟨c,B⟩:=(low (by omega)).2 d A;have lay:=Pi.Cf sub (λ_=>s) g B;obtain⟨f,F,M⟩:=lay;rw[e,A]at F;cases F;have u:=n.2.1 (.inr hc);obtain⟨J,e3,I,N⟩:=k M;refine⟨J,Pi.BB h (id::Pi.Au t h o.op),λrec=> ?_,I,N,λw y=>Ai y⟩;unfold Pi.Ax;simp only[g,z,au,aJ,zj,B,u.1,u.2,e3,ap]
theorem BR.there{X:Cx}{c:BA}{pid m:Nat}(d:BR X c (zo (.blk pid m)))(e:c.live):X.h.get pid≠zn:=by
 cases c with
 |box=>obtain⟨_,_,_,_,a,_,b,_⟩:=d;cases a;rw[b];simp
 |row=>
  rcases d with⟨_,_,_,_,a,_,b,_⟩|⟨a,_⟩|⟨_,a,_⟩
  ·cases a;rw[b];simp
  ·cases a
  ·cases a
 |mp=>obtain⟨_,_,_,a,_,b,_⟩:=d;cases a;rw[b];simp
 |lp=>obtain⟨_,_,_,_,_,a,_,b,_⟩:=d;cases a;rw[b];simp
 |df=>obtain⟨_,_,_,a,_,b,_⟩:=d;cases a;rw[b];simp
 |dead=>exact e.elim
theorem D4{X:Cx}{h:H}{n id pid m:Nat}(r:RH X h n)(a:Gc h id=zt)(f:X.π id=zo (.blk pid m)):X.h.get pid≠zn:=by
 unfold Gc at a;split at a
 ·cases a
 ·rename_i c d e
  have b:c.live:=by
   cases c<;>first|trivial|exact absurd e (by simpa using d)
  exact(f ▸ r.blk _ _ e).there b
 ·cases a
theorem Pa{X:Cx}{h:H}{n:Nat}(r:RH X h n){v:V}{p:PV}(d:VR X v p)(s:Rf h v=zt):∀ q∈Pi.AE p,X.h.get q≠zn:=by
 intro q j;cases v with
 |ow id=>
  simp only[VR]at d;cases w:X.π id with
  |none=>rw[w]at d;exact d.elim
  |some a=>
   rw[w]at d;cases a with
   |blk pid len=>simp only at d;subst d;simp only[Pi.AE,aw]at j;subst j;exact D4 r s w
   |nil=>simp only at d;subst d;simp[Pi.AE]at j
   |fz es=>simp only at d;subst d;simp[Pi.AE]at j
 |own id off len=>simp only[VR]at d;obtain⟨pid,m,o,rfl⟩:=d;simp only[Pi.AE,aw]at j;subst j;exact D4 r s o
 |ptr id off=>simp only[VR]at d;obtain⟨pid,m,o,rfl⟩:=d;simp only[Pi.AE,aw]at j;subst j;exact D4 r s o
 |aptr id off k n=>simp only[VR]at d;obtain⟨pid,m,o,rfl,_⟩:=d;simp only[Pi.AE,aw]at j;subst j;exact D4 r s o
 |ept id i off=>simp only[VR]at d;obtain⟨pid,m,o,rfl⟩:=d;simp only[Pi.AE,aw]at j;subst j;exact D4 r s o
 |mp id=>simp only[VR]at d;obtain⟨pid,m,o,rfl⟩:=d;simp only[Pi.AE,aw]at j;subst j;exact D4 r s o
 |lf full g c l=>
  simp only[VR]at d;rcases d with⟨o,_⟩|⟨f,es,o,_⟩|⟨pid,off,len,es,ex,fz,o,y,x,u,_⟩
  ·subst o;simp[Pi.AE]at j
  ·subst o;simp[Pi.AE]at j
  ·subst o;simp only[Pi.AE,aw]at j;subst j;rw[u];simp
 |view cs=>
  simp only[VR]at d;rcases d with⟨z,rfl,_⟩|⟨pid,i,off,es,ex,fz,e,rfl,x,u,_⟩
  ·simp[Pi.AE]at j
  ·simp only[Pi.AE,aw]at j;subst j;rw[u];simp
 |exl f es=>simp only[VR]at d;obtain⟨_,_,rfl,_⟩:=d;simp[Pi.AE]at j
 |pl g c l=>simp only[VR]at d;rcases d with⟨rfl,_⟩|⟨_,_,rfl,_⟩<;>simp[Pi.AE]at j
 |pv cs=>simp only[VR]at d;obtain⟨_,rfl,_⟩:=d;simp[Pi.AE]at j
 |agg cs=>simp only[VR]at d;obtain⟨_,rfl,_⟩:=d;simp[Pi.AE]at j
 |tup cs=>simp only[VR]at d;obtain⟨_,rfl,_⟩:=d;simp[Pi.AE]at j
 |fn f a b=>simp only[VR]at d;obtain⟨_,_,rfl,_⟩:=d;simp[Pi.AE]at j
 |yl id=>simp only[VR]at d;obtain⟨_,_,_,rfl⟩:=d;simp[Pi.AE]at j
 |ifc t v=>simp only[VR]at d;obtain⟨_,rfl,_⟩:=d;simp[Pi.AE]at j
 |_=>simp only[VR]at d;subst d;simp[Pi.AE]at j
theorem K9{v:Value}{p:PV}(e:Pi.Cz v=zo p):Pi.AE p=[]:=by
 unfold Pi.Cz at e;split at e<;>first|cases e|skip
 all_goals first|rfl|(cases e;rfl)|(replace e:=AK e;cases e.2;rfl)|(split at e<;>first|(cases e;rfl)|cases e)
theorem F8{v:Value}{p:PV}(e:Pi.D9 v=zo p):Pi.AE p=[]:=by
 unfold Pi.D9 at e;split at e
 ·obtain⟨x,_,rfl⟩:=Pi.AA e;rfl
 ·replace e:=AK e;cases e.2;rfl
 ·split at e
  ·cases e;rfl
  ·cases e
 ·exact K9 e
theorem IP{X:Cx}{h:H}{n:Nat}(r:RH X h n){t:T V}{i:T PV}(d:TR X t i):∀ {l:List Operand},Ge h t l=zt -> ∀ q∈Pi.A3 i l,X.h.get q≠zn
 |[],_,q,hq=>by simp[Pi.A3]at hq
 |o::l,hl,q,hq=>by
  unfold Pi.A3 at hq
  have j:Ge h t l=zt:=by
   cases o with
   |tmp k=>simp only[Ge,ac]at hl;exact hl.2
   |_=>exact hl
  split at hq
  ·rename_i p a;rcases an.1 hq with hq|hq
   ·cases o with
    |tmp k=>
     simp only[Ge,ac]at hl;have b:=hl.1;split at b
     ·rename_i v m;obtain⟨s,c,e⟩:=d _ _ m;simp only[Pi.B1,c,aE,Option.some.injEq]at a;subst a;exact Pa r e b q hq
     ·cases b
    |const v=>rw[F8 a]at hq;cases hq
    |func f=>simp only[Pi.B1,Option.some.injEq]at a;subst a;simp[Pi.AE]at hq
    |global g=>
     simp only[Pi.B1]at a;obtain⟨cs,_,rfl⟩:=Pi.AA a;simp[Pi.AE]at hq
   ·exact IP r d j q hq
  ·exact IP r d j q hq
theorem Fy{t:T PV}{q:Nat}:∀ {l:List Operand},q∈Pi.DL t l->q∈Pi.A3 t l
 |[],h=>h
 |o::l,h=>by
  unfold Pi.DL at h;unfold Pi.A3;split at h
  ·rename_i p a
   try rw[a]
   try simp only
   rcases an.1 h with h|h
   ·refine ao _ ?_;cases p<;>first|exact h|(simp[Pi.Fe]at h)
   ·exact am _ (Fy h)
  ·rename_i a
   try rw[a]
   exact Fy h
theorem NV{X:Cx}{h:H}{n:Nat}(r:RH X h n){t:T V}{e:T PV}(s:TR X t e){o:Op}(hc:AO o<=4)(i:Pi.As o=zt)(m:Ge h t (Pi.Aw o)=zt):∀ q∈Pi.Au e X.h o,X.h.get q≠zn:=by
 intro q d;have:=IP r s m;cases o with
 |load _ _=>exact this q d
 |indexAddr _ _ _=>exact this q d
 |store _ _ _=>exact this q d
 |slice ty x lo hi mx=>
  cases mx with
  |some _=>exact Dx q (by simpa[Pi.Au]using d)
  |none=>
   cases f:(lo.isNone&&hi.isNone)with
   |true=>
    refine Dx (t:=e) (l:=[x]) q ?_;have:q∈(bif (zn:Option Operand).isSome||(lo.isNone&&hi.isNone)then Pi.CM e X.h [x]else Pi.A3 e [x]):=d
    rw[f]at this;exact this
   |false=>
     refine this q ?_;replace d:q∈(bif (zn:Option Operand).isSome||(lo.isNone&&hi.isNone)then Pi.CM e X.h [x]else Pi.A3 e [x]):=d
     rw[f]at d;replace d:q∈Pi.A3 e [x]:=d
     have g:∀ {a b:List Operand},q∈Pi.A3 e a->q∈Pi.A3 e (a++b):=by
      intro a b
      induction a with
      |nil=>intro h;simp[Pi.A3]at h
      |cons o a k=>
       intro h;simp only[bc,Pi.A3]at h ⊢;split at h
       ·rename_i p j
        try rw[j]
        try simp only
        rcases an.1 h with h|h
        ·exact ao _ h
        ·exact am _ (k h)
       ·rename_i j
        try rw[j]
        exact k h
     exact g (a:=[x]) d
 |call c=>
  simp only[Pi.Au]at d;split at d
  ·rename_i b f;simp only[Pi.Aw,f]at this;refine this q ?_;split at d
   ·exact Fy d
   ·exact d
  ·cases d
 |buildSlice _ _ _=>exact Dx q d
 |lookup _ _ _ _=>cases i
 |mapUpdate _ _ _ _=>cases i
 |insert _ _ _ _=>cases i
 |_=>simp[Pi.Au]at d
end
end
section
variable[Pi.Gl]
open Pi (PV T Hp Blk DF UM PE AN AT AB AV Ao)
section
variable{P:Program}{tab:EF}
def Cx.with(X:Cx)(a:Hp):Cx:={ X with h:=a }
theorem EY{X:Cx}{a:Hp}(g:∀ q,a.get q=X.h.get q):Up X (X.with a):=⟨λ_ _ h=>h,λq es ex fz b c=>⟨⟨fz,by show a.get q=_;simp_all⟩,b⟩⟩
theorem RH.with{X:Cx}{h:H}{n:Nat}{a:Hp}(r:RH X h n)(g:∀ q,a.get q=X.h.get q)(e:a.nx=X.h.nx):RH (X.with a) h n:=
 ⟨λi c hi=>(r.blk i c hi).keep (EY g) λ_ _ _ d=>⟨g _,d⟩,r.inj,r.dom,λq b=>by show a.get q=zn;rw[g];exact r.fresh q (by have:a.nx<=q:=b;omega),λq b=>by show a.get q≠zn;rw[g];exact r.ob q b⟩
theorem St.with{X Y:Cx}{h h':H}{id idP:Nat}{a:Hp}(s:St X h id idP Y h')(g:∀ q,a.get q=Y.h.get q)(e:a.nx=Y.h.nx):St X h id idP (Y.with a) h':=
 ⟨s.up.trans (EY g),by show a.nx=_;rw[e];exact s.nx,s.pin,λq f k=>by show a.get q=zn;rw[g];exact s.hpn q f k,s.lk,λq l i nt t j c b d k=>by show a.get q=_;rw[g];exact s.lps _ _ _ _ _ _ _ _ _ k⟩
def FpA(X:Cx)(l:List Nat×Bool)(q:Nat):Prop:=(∃ j∈l.1,∃ m,X.π j=zo (.blk q m))\/(l.2=zt/\X.Q q /\ ∃ es ex fz,X.h.get q=zo (.row es ex fz))
theorem FpA.mono{X Y:Cx}(u:Up X Y){l:List Nat×Bool}{q:Nat}(h:FpA X l q):FpA Y l q:=by
 rcases h with⟨j,g,m,i⟩|⟨b,c,es,ex,fz,d⟩
 ·exact .inl ⟨j,g,m,u.pi _ _ i⟩
 ·obtain⟨⟨a,e⟩,f⟩:=u.rows _ _ _ _ c d;exact .inr ⟨b,f,es,ex,a,e⟩
def OB(X:Cx)(own:Nat)(f:Option (List Nat×Bool))(rd:List Nat):Prop:=∀ l,f=zo l -> ∀ q∈rd,q=own\/FpA X l q
def FpP(X:Cx)(own:Nat)(f:Option (List Nat×Bool))(rd:List Nat):Prop:=∀ l,f=zo l -> ∀ q∈rd,(q=own/\X.h.get q=zn)\/FpA X l q
def PastE(X:Cx)(baseP i len:Nat)(a:Nat×Nat×Option (List Nat×Bool))(b:Nat×List Nat×List Nat):Prop:=
 a.1=b.1/\b.1<i/\(∀ w∈b.2.2,w∈b.2.1)/\(a.2.1<=1->b.2.2=[])/\(∀ q∈b.2.1,∀ k,i<=k->k<len->q≠baseP+k)/\(a.2.1=0->b.2.1=[baseP+b.1]/\X.h.get (baseP+b.1)=zn)/\FpP X (baseP+b.1) a.2.2 b.2.1
theorem BD:∀ {a b:List Nat},(∀ x∈a,x ∉ b)->Pi.Ca a b=zf
 |[],b,_=>rfl
 |x::a,b,h=>by
  simp only[Pi.Ca,ak,aT];refine⟨λy e d=> ?_,BD λz c=>h z (by simp[c])⟩
  simp_all
theorem Le:∀ {a b:List Nat},Pi.Ca a b=zf -> ∀ x∈a,x ∉ b
 |[],_,_,x,hx=>by cases hx
 |y::a,b,h,x,hx=>by
  simp only[Pi.Ca,ak,aT]at h;rcases ai.1 hx with rfl|hx
  ·intro c;exact h.1 x c (by simp)
  ·exact Le h.2 x hx
theorem HG{h:H}:∀ {l:List Nat},LW h l=zt -> ∀ j∈l,Gc h j=zt
 |[],_,j,hj=>by cases hj
 |k::l,hl,j,hj=>by
  simp only[LW,ac]at hl;rcases ai.1 hj with rfl|hj
  ·exact hl.1
  ·exact HG hl.2 j hj
theorem HF{h:H}{id:Nat}(a:Gc h id=zt):∃ b,h.get id=zo b/\b.live:=by
 unfold Gc at a;split at a
 ·cases a
 ·rename_i c d e;exact⟨c,e,by cases c<;>first|trivial|exact absurd e (by simpa using d)⟩
 ·cases a
theorem HJ{h:H}:∀ {l:List Nat},Ls h l=zt -> ∀ j∈l,∃ b,h.get j=zo b
 |[],_,j,hj=>by cases hj
 |k::l,hl,j,hj=>by
  simp only[Ls,ac]at hl;rcases ai.1 hj with rfl|hj
  ·exact Option.isSome_iff_exists.1 hl.1
  ·exact HJ hl.2 j hj
theorem EA{X:Cx}{h:H}{n:Nat}(z:RH X h n){baseP i len A c:Nat}{f:Option (List Nat×Bool)}{rd wr:List Nat}(hf:OB X (baseP+i) f rd)(hi:i<len)(hw:∀ w∈wr,w∈rd)(h1:c<=1->wr=[])(K:c=0\/c=2->rd=[baseP+i])(L:∀ q∈rd,q=baseP+i\/X.h.get q≠zn) :
  ∀ {pa:List (Nat×Nat×Option (List Nat×Bool))} {pp:List (Nat×List Nat×List Nat)},L2 (PastE X baseP i len) pa pp->DS h A c f pa=zt->Pi.Fz A rd wr pp=zt
 |[],pp,t,_=>by rw[L2.nil_inv t];rfl
 |(j,d,g)::pa,pp,t,ho=>by
  obtain⟨⟨j',r,w⟩,pp',rfl,⟨e1,e2,e3,J,U,W,Y⟩,N⟩:=L2.cons_inv t;simp only at e1 e2 e3 J U W Y;subst e1;simp only[DS,ac,bB]at ho;simp only[Pi.Fz,ac,bB,bf];refine⟨?_,EA z hf hi hw h1 K L N ho.2⟩;have own:∀ x∈r,x≠baseP+i:=λx e=>U x e i (ad _) hi;rcases ho.1 with hb|hb|hb|hb|hb|hb
  ·grind
  ·have hc:=aj hb;refine .inr ?_;rw[K (.inl hc),h1 (by omega)];exact ak.2 ⟨BD λx e k=>own x (e3 x e) (by grind),rfl⟩
  ·have hc:=aj hb;have hr:=K (.inr hc);refine .inr (ak.2 ⟨BD λx e k=>own x (e3 x e) (by simp_all),BD λx e k=>own x k (by grind)⟩)
  ·have hd:=aj hb;obtain⟨f1,f2⟩:=W hd;refine .inr (ak.2 ⟨by rw[J (by omega)];rfl,BD λx e k=> ?_⟩)
   grind
  ·have hc:=aj hb.1;have hd:=aj hb.2;exact .inr (ak.2 ⟨by rw[J (by omega)];rfl,by rw[h1 (by omega)];rfl⟩)
  ·unfold Sl at hb;split at hb
   ·rename_i a b;simp only[ac,bf]at hb;obtain⟨k,hpq,B,C⟩:=hb
    have D:∀ {l:List Nat} {j q m:Nat},LW h l=zt->j∈l->X.π j=zo (.blk q m)->X.O q:=λt M F=>by
     obtain⟨I,y,G⟩:=HF (HG t _ M);exact(F ▸ z.blk _ _ y).own G
    have E:∀ {l:List Nat} {j q m:Nat},Ls h l=zt->j∈l->X.π j=zo (.blk q m)->X.O q:=λt M F=>by
     obtain⟨I,y⟩:=HJ t _ M;have hB:=z.blk _ _ y;cases I with
     |dead=>exact(hB _ _ F).1
     |_=>exact(F ▸ hB).own trivial
    have no:∀ x∈rd,x ∉ r:=λx e hr=>by
     rcases hf a rfl x e with hh|h1
     ·grind
     ·rcases Y b rfl x hr with⟨hh,hh2⟩|h2
      ·grind
      ·rcases h1 with⟨j1,s,m1,u⟩|⟨q1,P,_⟩
       ·rcases h2 with⟨j2,o,m2,p⟩|⟨_,P,_⟩
        ·obtain⟨I,y,G⟩:=HF (HG B j1 s);obtain⟨S,Z⟩:=HJ C j2 o
         have l2:S.live:=by
          cases S with
          |dead=>exact absurd ((z.blk _ _ Z) _ _ p).2 ((u ▸ z.blk _ _ y).nd G)
          |_=>trivial
         have:=z.inj _ _ _ _ _ _ _ y Z G l2 u p;subst this;exact Le k _ s o
        ·exact P (D B s u)
       ·rcases h2 with⟨j2,o,m2,p⟩|⟨q3,_,_⟩
        ·exact P (E C o p)
        simp_all
    exact .inr (ak.2 ⟨BD λx e k=>no x k (e3 x e),BD λx e k=>no x (hw x e) k⟩)
   ·cases hb
theorem FpP.mono{X Y:Cx}(u:Up X Y){own:Nat}(c:X.h.get own=zn->Y.h.get own=zn){f:Option (List Nat×Bool)}{rd:List Nat}(h:FpP X own f rd):FpP Y own f rd:=λl a q b=>by
 rcases h l a q b with⟨rfl,h1⟩|h1
 ·simp_all
 ·exact .inr (h1.mono u)
theorem PastE.next{X Y:Cx}{h h':H}{baseP base i len:Nat}{a:Nat×Nat×Option (List Nat×Bool)}{b:Nat×List Nat×List Nat}(s:St X h (base+i) (baseP+i) Y h')(k:PastE X baseP i len a b):PastE Y baseP (i+1) len a b:=by
 obtain⟨e1,e2,e3,e,f,c,g⟩:=k;exact⟨e1,by omega,e3,e,λq m k n j=>f q m k (by omega) j,λd=>⟨(c d).1,s.hpn _ (by omega) (c d).2⟩,g.mono s.up λl=>s.hpn _ (by omega) l⟩
theorem CR{X:Cx}{t:T V}{C:T PV}(w:TR X t C):∀ {ops:List Operand} {l:List Nat×Bool},NW t ops=zo l -> ∀ q∈Pi.A3 C ops,FpA X l q
 |[],_,_,q,hq=>by simp[Pi.A3]at hq
 |o::ops,l,e,q,hq=>by
  unfold Pi.A3 at hq;cases o with
  |tmp k=>
   unfold NW at e
   have z:∀ {v:V},t.get k=zo v -> ∃ p,Pi.B1 C (.tmp k)=zo p/\VR X v p:=λr=>by
    obtain⟨U,I,d⟩:=w _ _ r
    simp_all[Pi.B1,aE]
   have u:∀ {v:V} {id:Nat},t.get k=zo v->(∀ p,VR X v p -> ∀ q∈Pi.AE p,∃ m,X.π id=zo (.blk q m))->((NW t ops).map (λa=>(id::a.1,a.2))=zo l)->FpA X l q:=fun {v id} r A e=>by
    obtain⟨p,s,d⟩:=z r;rw[s]at hq;obtain⟨l',y,rfl⟩:=Pi.AA e;rcases an.1 hq with hq|hq
    ·obtain⟨m,B⟩:=A p d q hq;exact .inl ⟨id,by simp,m,B⟩
    ·rcases CR w y q hq with⟨j,G,m,B⟩|hq
     ·exact .inl ⟨j,by simp[G],m,B⟩
     ·exact .inr hq
   have D:∀ {v:V},t.get k=zo v->(∀ p,VR X v p -> ∀ q∈Pi.AE p,X.Q q /\ ∃ es ex fz,X.h.get q=zo (.row es ex fz))->((NW t ops).map (λa=>(a.1,zt))=zo l)->FpA X l q:=fun {v} r A e=>by
    obtain⟨p,s,d⟩:=z r;rw[s]at hq;obtain⟨l',y,rfl⟩:=Pi.AA e;rcases an.1 hq with hq|hq
    ·exact .inr ⟨rfl,A p d q hq⟩
    ·rcases CR w y q hq with h|hq
     ·exact .inl h
     ·exact .inr ⟨rfl,hq.2⟩
   split at e
   ·rename_i id r;refine u r (λp d q hq=> ?_) e
    grind [VR,Pi.AE,aw]
   ·rename_i id off len r;refine u r (λp d q hq=> ?_) e
    grind [VR,Pi.AE,aw]
   ·rename_i id off r;refine u r (λp d q hq=> ?_) e
    grind [VR,Pi.AE,aw]
   ·rename_i id i off r;refine u r (λp d q hq=> ?_) e
    grind [VR,Pi.AE,aw]
   ·rename_i id off k len r;refine u r (λp d q hq=> ?_) e
    grind [VR,Pi.AE,aw]
   ·rename_i id r;refine u r (λp d q hq=> ?_) e
    grind [VR,Pi.AE,aw]
   ·grind [VR,Pi.AE,aw]
   ·rename_i cs r;refine D r (λp d q hq=> ?_) e;simp only[VR]at d;rcases d with⟨W,rfl,_⟩|⟨pid,i,off,es,ex,fz,e,rfl,E,F,_⟩
    ·simp[Pi.AE]at hq
    ·simp only[Pi.AE,aw]at hq;subst hq;exact⟨E,_,_,_,F⟩
   ·rename_i v J N O P K L S M r;obtain⟨p,s,d⟩:=z r;rw[s]at hq;rcases an.1 hq with hq|hq
    ·exfalso;cases v with
     |ow id=>exact J _ rfl
     |own id off len=>grind
     |ptr id off=>grind
     |ept id i off=>grind
     |aptr id off k n=>grind
     |mp id=>exact L _ rfl
     |lf full g c l=>grind
     |view cs=>exact M _ rfl
     |pl g c l=>simp only[VR]at d;rcases d with⟨rfl,_⟩|⟨_,_,rfl,_⟩<;>simp[Pi.AE]at hq
     |pv cs=>grind [VR,Pi.AE]
     |exl f es=>simp only[VR]at d;obtain⟨_,_,rfl,_⟩:=d;simp[Pi.AE]at hq
     |agg cs=>simp only[VR]at d;obtain⟨_,rfl,_⟩:=d;simp[Pi.AE]at hq
     |tup cs=>grind [VR,Pi.AE]
     |fn f a b=>simp only[VR]at d;obtain⟨_,_,rfl,_⟩:=d;simp[Pi.AE]at hq
     |yl id=>simp only[VR]at d;obtain⟨_,_,_,rfl⟩:=d;simp[Pi.AE]at hq
     |ifc t v=>simp only[VR]at d;obtain⟨_,rfl,_⟩:=d;simp[Pi.AE]at hq
     |_=>simp only[VR]at d;subst d;simp[Pi.AE]at hq
    ·exact CR w e q hq
   ·cases e
  |const v=>
   have x:NW t ops=zo l:=e;split at hq
   ·rename_i p s;rcases an.1 hq with hq|hq
    ·rw[F8 s]at hq;cases hq
    ·exact CR w x q hq
   ·exact CR w x q hq
  |func f=>
   have x:NW t ops=zo l:=e;split at hq
   ·rename_i p s;rcases an.1 hq with hq|hq
    ·simp only[Pi.B1,Option.some.injEq]at s;subst s;simp[Pi.AE]at hq
    ·exact CR w x q hq
   ·exact CR w x q hq
  |global g=>
   have x:NW t ops=zo l:=e;split at hq
   ·rename_i p s;simp only[Pi.B1]at s;obtain⟨cs,_,rfl⟩:=Pi.AA s;rcases an.1 hq with hq|hq
    ·simp[Pi.AE]at hq
    ·exact CR w x q hq
   ·exact CR w x q hq
theorem HA{t:T PV}{q:Nat}{b:List Operand}:∀ {a:List Operand},q∈Pi.A3 t a->q∈Pi.A3 t (a++b)
 |[],h=>by simp[Pi.A3]at h
 |o::a,h=>by
  simp only[bc,Pi.A3]at h ⊢;split at h
  ·rename_i p c
   try rw[c]
   try simp only
   rcases an.1 h with h|h
   ·simp_all
   ·exact am _ (HA h)
  ·rename_i c
   try rw[c]
   exact HA h
theorem Ia{f:PV->Option (PV×List Nat)}:∀ {a b:List PV} {d:List PV} {c:List Nat},AB f (a++b)=zo (d,c) -> ∃ i e j g,AB f a=zo (i,e)/\AB f b=zo (j,g)/\c=e++g
 |[],b,d,c,h=>⟨[],[],d,c,rfl,h,rfl⟩
 |p::a,b,d,c,h=>by
  simp only[bc,AB]at h;split at h
  ·rename_i q l m l' n k;cases h;obtain⟨i,e,j,g,o,r,rfl⟩:=Ia k
   grind [AB]
  ·cases h
theorem ES{f:PV->Option (PV×List Nat)}{p:PV}{b:List PV}{a:List Nat}(h:AB f [p]=zo (b,a)):∃ q,f p=zo (q,a):=by
 grind [AB]
theorem HI{f:PV->Option (PV×List Nat)}{p q:PV}{a:List Nat}(h:f p=zo (q,a)):AB f [p]=zo ([q],a):=by
 simp only[AB,h,aL]
theorem DQ{f:PV->Option (PV×List Nat)}{T:Nat->Prop}:∀ {es:List PV},(∀ e∈es,∀ q l,f e=zo (q,l) -> ∀ i∈l,T i) -> ∀ {b:List PV} {a:List Nat},AB f es=zo (b,a) -> ∀ i∈a,T i
 |[],_,b,a,h,i,hi=>by cases h;cases hi
 |e::es,hf,b,a,h,i,hi=>by
  simp only[AB]at h;split at h
  ·rename_i q l g l' j c;cases h;rcases an.1 hi with hi|hi
   ·simp_all
   ·exact DQ (λe d=>hf e (by simp[d])) c i hi
  ·cases h
theorem Ml{α:Type}{R:α->PV->Prop}{l:List α}{es:List PV}(h:L2 R l es):∀ e∈es,∃ y,R y e:=by
 induction h<;>grind
def O5(hh:Hp)(Q:Nat->Prop)(i:Nat):Prop:=Q i /\ ∃ es ex fz,hh.get i=zo (.row es ex fz)
theorem Fu{hh:Hp}{Q:Nat->Prop}:∀ {c:Ty} {x:c.den} {z:List PV},DR hh Q c x z -> ∀ {d:Nat} {m:List PV} {k:List Nat},AB (AV hh d) z=zo (m,k) -> ∀ i∈k,O5 hh Q i
 |.int _,_,_,e,d,m,k,h,i,hi=>by
  subst e;obtain⟨q,h⟩:=ES h;cases d<;>cases h;cases hi
 |.bool,_,_,e,d,m,k,h,i,hi=>by
  subst e;obtain⟨q,h⟩:=ES h;cases d<;>cases h;cases hi
 |.str,_,_,e,d,m,k,h,i,hi=>by
  subst e;obtain⟨q,h⟩:=ES h;cases d<;>cases h;cases hi
 |.unit,_,_,e,d,m,k,h,i,hi=>by subst e;cases h;cases hi
 |.pair a b,_,_,⟨p,q,e,A,o⟩,d,m,k,h,i,hi=>by
  subst e;obtain⟨M,K,N,L,I,J,rfl⟩:=Ia h;rcases an.1 hi with hi|hi
  ·exact Fu A I i hi
  ·exact Fu o J i hi
 |.sl g c,_,_,⟨p,e,F⟩,d,m,k,h,i,hi=>by
  subst e;obtain⟨q,h⟩:=ES h;rcases F with⟨rfl,_⟩|⟨f,es,rfl,_⟩|⟨pid,off,len,es,ex,fz,rfl,o,t,_,_,B⟩
  ·cases d<;>cases h;cases hi
  ·cases d<;>cases h;cases hi
  ·cases d with
   |zero=>cases h
   |succ d=>
    simp only[AV,t]at h;replace h:=AK h;obtain⟨_,h⟩:=h;obtain⟨⟨xs,l⟩,E,G⟩:=Pi.AA h;cases G;rcases ai.1 hi with rfl|hi
    ·exact⟨o,es,ex,fz,t⟩
    ·refine DQ (λe D q l n j w=> ?_) E i hi;obtain⟨y,u⟩:=Ml B e D;cases g with
     |true=>
      obtain⟨cs,rfl,C⟩:=u;cases d with
      |zero=>cases n
      |succ d=>
       rw[EV]at n;obtain⟨⟨O,l'⟩,r,s⟩:=Pi.AA n;cases s;exact Fu C r j w
     |false=>exact Fu (show DR hh Q c y [e]from u) (HI n) j w
theorem PR{hh:Hp}{Q:Nat->Prop}{g:Bool}{c:Ty}{y:c.den}{e q:PV}{d:Nat}{l:List Nat}(h:EP g (DR hh Q c) y e)(a:AV hh d e=zo (q,l)):∀ j∈l,O5 hh Q j:=by
 intro j i;cases g with
 |true=>
  obtain⟨cs,rfl,k⟩:=h;cases d with
  |zero=>cases a
  |succ d=>
   rw[EV]at a;obtain⟨⟨m,l'⟩,b,f⟩:=Pi.AA a;cases f;exact Fu k b j i
 |false=>exact Fu (show DR hh Q c y [e]from h) (HI a) j i
theorem Mh{X:Cx}{f:V->Option (List Nat×Bool)}{d:Nat}(s:∀ {v:V} {p:PV} {l:List Nat×Bool},VR X v p->f v=zo l -> ∀ {q:PV} {c:List Nat},AV X.h d p=zo (q,c) -> ∀ i∈c,FpA X l i) :
  ∀ {vs:List V} {k:List PV} {l:List Nat×Bool},VRL X vs k->Sk f vs=zo l -> ∀ {r:List PV} {c:List Nat},AB (AV X.h d) k=zo (r,c) -> ∀ i∈c,FpA X l i
 |[],k,l,hv,e,r,c,h,i,hi=>by rw[hv.nil_inv]at h;cases h;cases hi
 |v::vs,k,l,hv,e,r,c,h,i,hi=>by
  obtain⟨p,A,rfl,t,u⟩:=hv.cons_inv;unfold Sk at e;split at e
  ·rename_i a b w x;cases e;simp only[AB]at h;split at h
   ·rename_i q l B l' y z;cases h;rcases an.1 hi with hi|hi
    ·rcases s t w y i hi with⟨j,g,m,n⟩|⟨g,o⟩
     ·exact .inl ⟨j,ao _ g,m,n⟩
     ·exact .inr ⟨by simp[g],o⟩
    ·rcases Mh s u x z i hi with⟨j,g,m,n⟩|⟨g,o⟩
     ·exact .inl ⟨j,am _ g,m,n⟩
     ·exact .inr ⟨by simp[g],o⟩
   ·cases h
  ·cases e
theorem Jv{hh:Hp}{Q:Nat->Prop}:∀ {c:Ty} {x:c.den} {d:List PV},c.hasSl=zf->DR hh Q c x d->DR hh (λ_=>False) c x d
 |.int _,_,_,_,h=>h
 |.bool,_,_,_,h=>h
 |.str,_,_,_,h=>h
 |.unit,_,_,_,h=>h
 |.pair a b,_,_,hs,⟨p,q,e,f,i⟩=>by
  simp only[Ty.hasSl,ak]at hs;exact⟨p,q,e,Jv hs.1 f,Jv hs.2 i⟩
 |.sl g c,_,_,hs,_=>by cases hs
theorem PS{hh:Hp}{Q:Nat->Prop}{g:Bool}{c:Ty}{y:c.den}{e q:PV}{d:Nat}{l:List Nat}(hs:c.hasSl=zf)(b:EP g (DR hh Q c) y e)(i:AV hh d e=zo (q,l)):∀ j∈l,False:=by
 intro j h
 have a:EP g (DR hh (λ_=>False) c) y e:=by
  cases g with
  |true=>obtain⟨cs,rfl,f⟩:=b;exact⟨cs,rfl,Jv hs f⟩
  |false=>exact Jv hs b
 exact(PR a i j h).1
theorem Jg{X:Cx}{h:H}{n:Nat}(r:RH X h n){id off len pid m d:Nat}{q:PV}{u:List Nat}(E:X.π id=zo (.blk pid m))(P:Gc h id=zt)(a:AV X.h d (.own pid off len)=zo (q,u)):∀ i∈u,FpA X ([id],QN h id) i:=by
 intro i hi;obtain⟨b,O,A⟩:=HF P;have p:=r.blk _ _ O;rw[E]at p;cases d with
 |zero=>cases a
 |succ d=>
  simp only[AV]at a;split at a
  ·rename_i es ex fz s;replace a:=AK a;obtain⟨_,a⟩:=a;obtain⟨⟨xs,l⟩,D,S⟩:=Pi.AA a;cases S;rcases ai.1 hi with rfl|hi
   ·exact .inl ⟨id,by simp,m,E⟩
   ·cases b with
    |row g c l L N G=>
     rcases p with⟨J,F,es',M,f,Y,o,Z,h5,h7,C⟩|⟨f,_⟩|⟨_,f,_⟩
     ·cases f;rw[s]at o;cases o;cases hs:c.hasSl with
      |true=>
       refine .inr ⟨by unfold QN;simp_all,DQ (T:=O5 X.h X.Q) (λe x U l' k j z=> ?_) D i hi⟩;obtain⟨y,w⟩:=Ml C e (cD (cE x));exact PR w k j z
      |false=>
       exact(DQ (T:=λ_=>False) (λe x U l' k j z=>by
        obtain⟨y,w⟩:=Ml C e (cD (cE x))
        exact PS hs w k j z) D i hi).elim
     all_goals simp_all
    |box cs fz G=>obtain⟨_,_,_,_,f,_,o,_⟩:=p;simp_all
    |mp kk g c l G=>obtain⟨_,_,_,f,_,o,_⟩:=p;simp_all
    |lp st I nt t ps K B d=>obtain⟨_,_,_,_,_,f,_,o,_⟩:=p;simp_all
    |df W=>obtain⟨_,_,_,f,_,o,_⟩:=p;simp_all
    |dead=>exact A.elim
  ·cases a
theorem Ll{X:Cx}{hh:Hp}:∀ {vs:List V} {a:List PV},vs.all IV=zt->VRL X vs a -> ∀ e∈a,∀ (d:Nat) (q:PV) (l:List Nat),AV hh d e=zo (q,l)->l=[]
 |[],a,_,h,e,he,_,_,_,_=>by
  have:=h.nil_inv;subst this;cases he
 |v::vs,a,hn,h,e,he,d,q,l,hq=>by
  obtain⟨p,f,rfl,b,c⟩:=h.cons_inv;rw[List.all_cons,ac]at hn;rcases ai.1 he with rfl|he
  ·have:=(Lk hn.1 b).2.2;cases d with
   |zero=>cases hq
   |succ d=>rw[this hh d]at hq;cases hq;rfl
  ·exact Ll hn.2 c e he d q l hq
theorem Mi{X:Cx}{h:H}{n0:Nat}(r:RH X h n0):∀ {n:Nat} {v:V} {p:PV} {l:List Nat×Bool},VR X v p->Sn h n v=zo l -> ∀ {d:Nat} {q:PV} {t:List Nat},AV X.h d p=zo (q,t) -> ∀ i∈t,FpA X l i
 |0,_,_,_,_,e,_,_,_,_,_,_=>by cases e
 |n+1,v,p,l,hv,e,d,q,t,o,i,hi=>by
  cases v with
  |bool b=>simp only[VR]at hv;subst hv;cases d<;>cases o;cases hi
  |int k b=>simp only[VR]at hv;subst hv;cases d<;>cases o;cases hi
  |str b=>simp only[VR]at hv;subst hv;cases d<;>cases o;cases hi
  |nils=>simp only[VR]at hv;subst hv;cases d<;>cases o;cases hi
  |pl g c l=>simp only[VR]at hv;rcases hv with⟨rfl,_⟩|⟨_,_,rfl,_⟩<;>cases d<;>cases o<;>cases hi
  |exl f es=>simp only[VR]at hv;obtain⟨_,_,rfl,_⟩:=hv;cases d<;>cases o;cases hi
  |lf f g c ll=>
   cases e
   have B:DR X.h X.Q (.sl g c) ll [p]:=by
    simp only[VR]at hv;refine⟨p,rfl,?_⟩;rcases hv with h|⟨f,es,s,_,w⟩|⟨pid,off,len,es,ex,fz,s,_,w,G,A,S,I⟩
    ·exact .inl h
    ·grind
    ·exact .inr (.inr ⟨pid,off,len,es,ex,fz,s,w,G,A,S,I⟩)
   obtain⟨s,w⟩:=Fu B (HI o) i hi;exact .inr ⟨rfl,s,w⟩
  |ow id=>
   replace e:=AK e;obtain⟨u,e⟩:=e;cases e;simp only[VR]at hv;cases z:X.π id with
   |none=>simp_all
   |some a=>
    rw[z]at hv;cases a with
    |blk pid len=>simp only at hv;subst hv;exact Jg r z u o i hi
    |nil=>simp only at hv;subst hv;cases d<;>cases o;cases hi
    |fz es=>simp only at hv;subst hv;cases d<;>cases o;cases hi
  |own id off len=>
   replace e:=AK e;obtain⟨u,e⟩:=e;cases e;simp only[VR]at hv;obtain⟨pid,m,s,rfl⟩:=hv;exact Jg r s u o i hi
  |ptr id off=>
   unfold Sn at e;simp only at e;split at e
   ·rename_i cs f lk W;replace e:=AK e;obtain⟨y,e⟩:=e;cases e;simp only[VR]at hv;obtain⟨pid,m,s,rfl⟩:=hv;have J:=r.blk _ _ W;rw[s]at J;obtain⟨L,m',ps,N,w,G,A,I,P⟩:=J;cases w;cases d with
    |zero=>cases o
    |succ d=>
     simp only[AV]at o;split at o
     ·rename_i M O x;rw[A]at x;cases x;replace o:=AK o;obtain⟨_,o⟩:=o;obtain⟨⟨xs,l⟩,Y,Z⟩:=Pi.AA o;cases Z;rcases ai.1 hi with rfl|hi
      ·exact .inl ⟨id,by simp,m,s⟩
      ·exact(DQ (T:=λ_=>False) (λe U q' l' D j K=>by
        rw[Ll y (P.drop off) e U d q' l' D]at K;cases K) Y i hi).elim
     ·cases o
   ·cases e
  |agg cs=>
   obtain⟨ps,rfl,F⟩:=hv.agg_inv;cases d with
   |zero=>cases o
   |succ d=>
    rw[EV]at o;obtain⟨⟨ys,l'⟩,C,E⟩:=Pi.AA o;cases E;exact Mh (fun {v p l} hv e {q t} o i hi=>Mi r hv e o i hi) F e C i hi
  |_=>cases e
theorem MQ{v:Value}{p q:PV}{hh:Hp}{d:Nat}{a:List Nat}(e:Pi.Cz v=zo p)(h:AV hh d p=zo (q,a)):a=[]:=by
 cases d with
 |zero=>cases h
 |succ d=>rw[Fp e]at h;cases h;rfl
theorem Oi{v:Value}{p q:PV}{hh:Hp}{a:List Nat}(e:Pi.D9 v=zo p)(h:AV hh Pi.AS p=zo (q,a)):a=[]:=by
 unfold Pi.D9 at e;split at e
 ·obtain⟨x,c,rfl⟩:=Pi.AA e;rw[show Pi.AS=11+1 from rfl,EV,El c 10]at h;cases h;rfl
 ·replace e:=AK e;cases e.2;cases h;rfl
 ·split at e
  ·rename_i d b;cases e;rw[show Pi.AS=11+1 from rfl,Kg,Fp b 10]at h;cases h;rfl
  ·cases e
 ·exact MQ e h
theorem FpA.left{X:Cx}{a b:List Nat×Bool}{q:Nat}(h:FpA X a q):FpA X (a.1++b.1,a.2||b.2) q:=by
 rcases h with⟨j,c,m,d⟩|⟨c,e⟩
 ·exact .inl ⟨j,ao _ c,m,d⟩
 ·exact .inr ⟨by simp[c],e⟩
theorem FpA.right{X:Cx}{a b:List Nat×Bool}{q:Nat}(h:FpA X b q):FpA X (a.1++b.1,a.2||b.2) q:=by
 rcases h with⟨j,c,m,d⟩|⟨c,e⟩
 ·exact .inl ⟨j,am _ c,m,d⟩
 ·exact .inr ⟨by simp[c],e⟩
theorem C1{X:Cx}{h:H}{n0:Nat}(r:RH X h n0){t:T V}{u:T PV}(c:TR X t u):∀ {ops:List Operand} {l:List Nat×Bool},Qh h t ops=zo l -> ∀ q∈Pi.CM u X.h ops,FpA X l q
 |[],_,_,q,hq=>by simp[Pi.CM]at hq
 |o::ops,l,e,q,hq=>by
  unfold Pi.CM at hq;cases o with
  |tmp k=>
   unfold Qh at e;split at e
   ·rename_i v A;split at e
    ·rename_i a b y w;cases e;obtain⟨B,z,s⟩:=c _ _ A;have n:Pi.B1 u (.tmp k)=zo B:=by grind [Pi.B1]
     rw[n]at hq;simp only at hq;split at hq
     ·rename_i x m i;rcases an.1 hq with hq|hq
      ·exact(Mi r s y i q hq).left
      ·exact(C1 r c w q hq).right
     ·exact(C1 r c w q hq).right
    ·cases e
   ·cases e
  |const v=>
   have d:Qh h t ops=zo l:=e;split at hq
   ·rename_i p j;split at hq
    ·rename_i x m i;rcases an.1 hq with hq|hq
     ·rw[Oi j i]at hq;cases hq
     ·exact C1 r c d q hq
    ·exact C1 r c d q hq
   ·exact C1 r c d q hq
  |func f=>
   have d:Qh h t ops=zo l:=e;simp only[Pi.B1]at hq;split at hq
   ·rename_i x m i;rcases an.1 hq with hq|hq
    ·have:m=[]:=by
      rw[show Pi.AS=11+1 from rfl,My]at i;simp only[AB,aL,Option.some.injEq,Prod.mk.injEq]at i;exact i.2.symm
     rw[this]at hq;cases hq
    ·exact C1 r c d q hq
   ·exact C1 r c d q hq
  |global g=>
   have d:Qh h t ops=zo l:=e;split at hq
   ·rename_i p j;simp only[Pi.B1]at j;obtain⟨cs,_,rfl⟩:=Pi.AA j;have:Pi.AV X.h Pi.AS (.view cs)=zo (.view cs,[]):=rfl;rw[this]at hq;exact C1 r c d q (by grind)
   ·exact C1 r c d q hq
theorem EK{X:Cx}{t:T V}{w:T PV}(i:TR X t w):∀ {ops:List Operand} {l:List Nat×Bool},Qy t ops=zo l -> ∀ q∈Pi.DL w ops,FpA X l q
 |[],_,_,q,hq=>by simp[Pi.DL]at hq
 |o::ops,l,e,q,hq=>by
  unfold Pi.DL at hq;cases o with
  |tmp k=>
   unfold Qy at e;split at e
   ·rename_i id z;obtain⟨l',x,rfl⟩:=Pi.AA e;obtain⟨u,y,h⟩:=i _ _ z;have r:Pi.B1 w (.tmp k)=zo u:=by grind [Pi.B1]
    rw[r]at hq;simp only at hq;simp only[VR]at h;obtain⟨pid,m,A,rfl⟩:=h;rcases an.1 hq with hq|hq
    ·simp only[Pi.Fe,aw]at hq;subst hq;exact .inl ⟨id,by simp,m,A⟩
    ·rcases EK i x q hq with⟨j,B,m,C⟩|hq
     ·exact .inl ⟨j,by simp[B],m,C⟩
     ·exact .inr hq
   ·rename_i v D z;obtain⟨u,y,h⟩:=i _ _ z;have r:Pi.B1 w (.tmp k)=zo u:=by grind [Pi.B1]
    rw[r]at hq;simp only at hq;rcases an.1 hq with hq|hq
    ·exfalso;cases u with
     |mp pid=>
      cases v with
      |mp id=>simp_all
      |ow id=>
       grind [VR]
      |lf f g c l=>simp_all[VR]
      |pl g c l=>simp_all[VR]
      |view cs=>simp_all[VR]
      |exl f es=>simp_all[VR]
      |agg cs=>simp_all[VR]
      |tup cs=>simp_all[VR]
      |pv cs=>simp_all[VR]
      |fn f a b=>simp_all[VR]
      |yl id=>simp_all[VR]
      |ifc t v=>simp_all[VR]
      |own a b c=>simp_all[VR]
      |ptr a b=>simp_all[VR]
      |ept a b c=>simp_all[VR]
      |aptr a b c d=>simp_all[VR]
      |_=>simp only[VR]at h;cases h
     |_=>simp[Pi.Fe]at hq
    ·exact EK i e q hq
   ·cases e
  |const v=>
   have n:Qy t ops=zo l:=e;split at hq
   ·rename_i p s;rcases an.1 hq with hq|hq
    ·have:=F8 s;cases p<;>first|(simp[Pi.Fe]at hq;done)|(simp[Pi.AE]at this)
    ·exact EK i n q hq
   ·exact EK i n q hq
  |func f=>
   have n:Qy t ops=zo l:=e;split at hq
   ·rename_i p s;rcases an.1 hq with hq|hq
    ·grind [Pi.B1,Option.some.injEq,Pi.Fe]
    ·exact EK i n q hq
   ·exact EK i n q hq
  |global g=>
   have n:Qy t ops=zo l:=e;split at hq
   ·rename_i p s;simp only[Pi.B1]at s;obtain⟨cs,_,rfl⟩:=Pi.AA s;rcases an.1 hq with hq|hq
    ·simp[Pi.Fe]at hq
    ·exact EK i n q hq
   ·exact EK i n q hq
theorem Rd{X:Cx}{h:H}{n:Nat}(r:RH X h n){t:T V}{f:T PV}(e:TR X t f){o:Op}(own:Nat):OB X own (fp h t o) (own::Pi.Au f X.h o):=by
 intro l d q hq;rcases ai.1 hq with hq|hq
 ·omega
 refine .inr ?_;unfold fp at d;cases o with
 |load _ _=>exact CR e d q hq
 |indexAddr _ _ _=>exact CR e d q hq
 |store _ _ _=>exact CR e d q hq
 |buildSlice _ _ parts=>exact C1 r e d q hq
 |slice ty x lo hi mx=>
  cases mx with
  |some _=>exact C1 r e d q (by simpa[Pi.Au]using hq)
  |none=>
   simp only at d;cases g:(lo.isNone&&hi.isNone)with
   |true=>
    rw[g]at d;replace hq:q∈(bif (zn:Option Operand).isSome||(lo.isNone&&hi.isNone)then Pi.CM f X.h [x]else Pi.A3 f [x]):=hq
    rw[g]at hq;exact C1 r e d q hq
   |false=>
    rw[g]at d;replace hq:q∈(bif (zn:Option Operand).isSome||(lo.isNone&&hi.isNone)then Pi.CM f X.h [x]else Pi.A3 f [x]):=hq
    rw[g]at hq;replace hq:q∈Pi.A3 f [x]:=hq;exact CR e d q (HA (a:=[x]) hq)
 |call c=>
  simp only[Pi.Au]at hq;simp only at d;split at hq
  ·rename_i b g;simp only[g]at d;cases b<;>first|exact EK e d q hq|exact CR e d q hq|cases d
  ·cases hq
 |alloc _=>simp[Pi.Au]at hq
 |box _ _=>simp[Pi.Au]at hq
 |makeSlice _ _ _=>simp[Pi.Au]at hq
 |makeMap _ r=>simp[Pi.Au]at hq
 |_=>cases d
theorem RF{t:T PV}{h i:Hp}{id:Nat}{o:Oper}{v:PV}(g:h.get id=zn)(l:Pi.As o.op=zt)(hc:AO o.op=2\/AO o.op=4)(e:Pi.AQ P t h id o=zo (.val v i)):i.get id=zn\/Pi.AE v=[id]:=by
 unfold Pi.AQ at e;generalize o.op=u at l hc e
 have nw:∀ {b:Blk} {h:Hp} {k:PV},Pi.AE k=[id]->(h.new id b).map (λh=>Pi.R.val k h)=zo (.val v i)->i.get id=zn\/Pi.AE v=[id]:=λA e=>by
  simp_all
 have fr:∀ {L:List Nat} {k:PV},(Pi.freeze h L).map (λh=>Pi.R.val k h)=zo (.val v i)->i.get id=zn\/Pi.AE v=[id]:=λe=>by
  obtain⟨s,m,r⟩:=Pi.AA e;cases r;exact .inl ((C6 m id).1 g)
 have w:∀ {j:Nat} {b b0:Blk} {k:PV},h.get j=zo b0->(h.set j b).map (λh=>Pi.R.val k h)=zo (.val v i)->i.get id=zn\/Pi.AE v=[id]:=λz e=>by
  obtain⟨s,m,r⟩:=Pi.AA e;cases r;refine .inl ?_;rw[(Hp.get_set m).1,zx (λhh=>by simp_all)];exact g
 cases u with
 |alloc _=>
  simp only at e;unfold Pi.Cj at e;split at e
  ·exact nw rfl e
  ·cases e
 |box _ x=>
  obtain⟨p,_,e⟩:=Pi.AY e;unfold Pi.Fa at e;split at e
  ·cases e
  ·exact nw rfl e
 |makeMap ty rs=>
  cases rs with
  |none=>exact nw rfl e
  |some _=>cases e
 |makeSlice _ x y=>
  obtain⟨p,q,_,_,e⟩:=Pi.CO e;unfold Pi.C0 at e;simp only[az]at e
  repeat' split at e
  all_goals first|(cases e;done)|exact nw rfl e
 |buildSlice ty n B=>
  simp only at e;split at e
  ·unfold Pi.Ah at e;simp only[az]at e
   repeat' split at e
   all_goals first|(cases e;done)|exact fr e
  ·cases e
 |slice ty x lo hi mx=>
  simp only at e;split at e
  ·obtain⟨p,_,e⟩:=Pi.AY e;unfold Pi.Af Pi.DZ Pi.DE at e;simp only[az]at e
   repeat' split at e
   all_goals first|(cases e;done)|exact fr e|(cases e;exact .inl g)
  ·cases e
 |call c=>
  simp only at e;split at e
  ·cases d:c.callee with
   |builtin b=>
    simp only[AO,d]at hc;simp only[d]at e;cases b with
    |append=>
     simp only[Pi.AH,az]at e;split at e
     ·split at e
      ·unfold Pi.Ef at e;simp only[az]at e
       repeat' split at e
       all_goals first|(cases e;done)|exact nw rfl e|(cases e;exact .inl g)|(refine w (b0:=?_) ?_ e;rotate_left;assumption)
      ·cases e
     ·cases e
    |copy=>
     simp only[Pi.AH,az]at e
     grind
    |_=>simp at hc
   |value f=>simp[AO,d]at hc
   |invoke a b=>simp[AO,d]at hc
  ·cases e
 |_=>simp[AO]at hc
theorem IQ{X:Cx}{v:V}{p:PV}(d:VR X v p){own:Nat}{f:Option (List Nat×Bool)}{rd:List Nat}(hn:X.h.get own=zn\/Pi.AE p=[own])(F:OB X own f rd):FpP X own (JP v f) rd:=by
 intro l o q y;cases f with
 |none=>cases o
 |some a=>
  have D:∀ {b:Bool} {r:List Nat},(a.2=zt->b=zt)->(∀ j∈a.1,j∈r)->FpA X a q->FpA X (r,b) q:=λB hi h=>by
   rcases h with⟨j,u,m,C⟩|⟨u,y⟩
   ·exact .inl ⟨j,hi j u,m,C⟩
   ·exact .inr ⟨B u,y⟩
  have E:∀ x,FpA X a x->FpA X l x:=λx h=>by
   have D:∀ {b:Bool} {r:List Nat},(a.2=zt->b=zt)->(∀ j∈a.1,j∈r)->FpA X (r,b) x:=λB hi=>by
    rcases h with⟨j,u,m,C⟩|⟨u,y⟩
    ·exact .inl ⟨j,hi j u,m,C⟩
    ·exact .inr ⟨B u,y⟩
   unfold JP at o
   grind
  rcases F a rfl q y with rfl|h
  ·rcases hn with hn|hn
   ·simp_all
   ·refine .inr ?_;unfold JP at o;simp only at o;split at o
    ·rename_i id;cases o;simp only[VR]at d;cases w:X.π id with
     |none=>simp_all
     |some b=>
      rw[w]at d;cases b with
      |blk pid len=>simp only at d;subst d;simp only[Pi.AE,List.cons.injEq,and_true]at hn;subst hn;exact .inl ⟨id,by simp,len,w⟩
      |nil=>simp_all[Pi.AE]
      |fz es=>simp_all[Pi.AE]
    ·cases o;simp only[VR]at d;obtain⟨pid,m,s,rfl⟩:=d;simp only[Pi.AE,List.cons.injEq,and_true]at hn;subst hn;exact .inl ⟨_,by simp,m,s⟩
    ·cases o;simp only[VR]at d;obtain⟨pid,m,s,rfl⟩:=d;simp only[Pi.AE,List.cons.injEq,and_true]at hn;subst hn;exact .inl ⟨_,by simp,m,s⟩
    ·cases o;simp only[VR]at d;obtain⟨pid,m,s,rfl⟩:=d;simp only[Pi.AE,List.cons.injEq,and_true]at hn;subst hn;exact .inl ⟨_,by simp,m,s⟩
    ·cases o;simp only[VR]at d;obtain⟨pid,m,s,rfl,_⟩:=d;simp only[Pi.AE,List.cons.injEq,and_true]at hn;subst hn;exact .inl ⟨_,by simp,m,s⟩
    ·cases o;simp only[VR]at d;obtain⟨pid,m,s,rfl⟩:=d;simp only[Pi.AE,List.cons.injEq,and_true]at hn;subst hn;exact .inl ⟨_,by simp,m,s⟩
    ·cases o;simp only[VR]at d;rcases d with⟨rfl,_⟩|⟨_,_,rfl,_⟩|⟨pid,off,len,es,ex,fz,rfl,_,z,A,_⟩
     ·simp[Pi.AE]at hn
     ·simp[Pi.AE]at hn
     ·simp only[Pi.AE,List.cons.injEq,and_true]at hn;subst hn;exact .inr ⟨rfl,z,es,ex,fz,A⟩
    ·cases o;simp only[VR]at d;rcases d with⟨_,rfl,_⟩|⟨pid,i,off,es,ex,fz,e,rfl,z,A,_⟩
     ·simp[Pi.AE]at hn
     ·simp only[Pi.AE,List.cons.injEq,and_true]at hn;subst hn;exact .inr ⟨rfl,z,es,ex,fz,A⟩
    ·rename_i L G M I J N O K;exfalso;cases v with
     |ow id=>grind
     |own id off len=>exact G _ _ _ rfl
     |ptr id off=>simp_all
     |ept id i off=>exact I _ _ _ rfl
     |aptr id off k n=>grind
     |mp id=>grind
     |lf f g c l=>grind
     |view cs=>exact K _ rfl
     |pl g c l=>grind [VR,Pi.AE]
     |pv cs=>grind [VR,Pi.AE]
     |exl f es=>grind [VR,Pi.AE]
     |agg cs=>grind [VR,Pi.AE]
     |tup cs=>grind [VR,Pi.AE]
     |fn f a b=>simp only[VR]at d;obtain⟨_,_,rfl,_⟩:=d;simp[Pi.AE]at hn
     |yl id=>grind [VR,Pi.AE]
     |ifc t v=>grind [VR,Pi.AE]
     |_=>simp only[VR]at d;subst d;simp[Pi.AE]at hn
  simp_all
theorem FG{X:Cx}{h:H}{n0:Nat}(r:RH X h n0){args:List V}{b:List PV}(d:VRL X args b){c:List PV}{lP:List Nat}(a:Ao X.h b=zo (c,lP))(own:Nat):OB X own (BL h args) (own::lP):=by
 intro l f q hq;rcases ai.1 hq with hq|hq
 ·omega
 ·rw[Gq]at a;exact .inr (Mh (fun {v p l} hv e {q ids} a i hi=>Mi r hv e a i hi) d f a q hq)
theorem Io{h a:Hp}{j q:Nat}{b b0:Blk}(g:h.get j=zo b0)(c:h.get q=zn){r:Pi.R}(e:(h.set j b).map Pi.R.skip=zo r)(d:r=.skip a):a.get q=zn:=by
 subst d;obtain⟨f,e2,e3⟩:=Pi.AA e;cases e3;rw[(Hp.get_set e2).1,zx (λhh=>by simp_all)];exact c
theorem ND{h c:Hp}{ty:TypeId}{p v:PV}{q:Nat}(b:h.get q=zn)(e:Pi.A2 P h ty p v=zo (.skip c)):c.get q=zn:=by
 unfold Pi.A2 at e;split at e
 ·replace e:=BE e;obtain⟨_,e⟩:=e;split at e
  ·split at e
   ·rename_i a;replace e:=AK e;exact Io a b e.2 rfl
   ·cases e
  ·split at e
   ·rename_i a;split at e
    ·replace e:=AK e;obtain⟨_,e⟩:=e;split at e
     ·exact Io a b e rfl
     ·split at e
      ·replace e:=AK e;obtain⟨_,e⟩:=e;split at e
       ·cases e
       ·cases e
       ·exact Io a b e rfl
      ·cases e
    ·cases e
   ·cases e
  ·cases e
 ·cases e
theorem OL{t:T PV}{h b:Hp}{id q:Nat}{o:Oper}(hc:AO o.op=3)(d:h.get q=zn)(e:Pi.AQ P t h id o=zo (.skip b)):b.get q=zn:=by
 unfold Pi.AQ at e;generalize o.op=f at hc e;cases f with
 |store ty a x=>
  simp only[Pi.e2]at e;split at e
  ·exact ND d e
  ·cases e
 |slice _ _ lo hi mx=>cases mx<;>cases lo<;>cases hi<;>simp[AO]at hc
 |makeMap _ r=>cases r<;>simp[AO]at hc
 |call c=>
  grind [AO]
 |_=>simp[AO]at hc
theorem RO{β:Type}{x:β}{X:Cx}{t:T V}{c:T PV}(l:TR X t c){nt:Nat}(k:nt<1048575){a:Option Nat}{v:V}{p:PV}(m:VR X v p){K:T V->Option β}(e:Ho t nt a v K=zo x) :
  ∃ f b,K f=zo x/\TR X f b/\(∀ d,a=zo d->af d nt=zt/\b=T.put 20 c d p)/\(a=zn->b=c):=by
 unfold Ho at e;split at e
 ·rename_i d;replace e:=AK e;obtain⟨g,e⟩:=e;have i:d<nt:=by simpa using g
  exact⟨_,_,e,l.put (d:=d) (by omega) m,λn j=>(by simp_all),λh=>(by cases h)⟩
 grind
theorem DX.flat{hh:Hp}{Q h:Nat->Prop}:∀ {c:Ty} {y:c.den} {g:List PV},c.hasSl=zf->DX hh Q h c y g->Pi.BP g=zt
 |.int _,_,_,_,e=>by subst e;rfl
 |.bool,_,_,_,e=>by subst e;rfl
 |.str,_,_,_,e=>by subst e;rfl
 |.unit,_,_,_,e=>by subst e;rfl
 |.pair a b,_,_,hs,⟨p,q,e,d,f⟩=>by
  subst e;simp only[Ty.hasSl,ak]at hs;have j:=DX.flat hs.1 d;have i:=DX.flat hs.2 f;clear d f
  induction p with
  |nil=>exact i
  |cons a p k=>
   simp_all[Pi.BP,ac,bc,Bool.true_and]
 |.sl _ _,_,_,hs,_=>by cases hs
theorem Ly{d:Hp}{l:List (Bool×Ty)}{y:AP l}{r:PV}(hs:B3 l=zf)(h:Hq d l y r):∀ j a b,r ≠ .own j a b:=by
 intro j a b g;subst g
 match l,y,h with
 |[],y,⟨rs,c,_⟩=>cases c
 |[p],y,h=>
  have e:p.2.hasSl=zf:=by simpa[B3]using hs
  have h':EP p.1 (DX d (λ_=>True) (λ_=>True) p.2) y (.own j a b):=h;cases f:p.1 with
  |true=>rw[f]at h';obtain⟨cs,c,_⟩:=h';cases c
  |false=>
   rw[f]at h';have:=DX.flat e (show DX d _ _ p.2 y [.own j a b]from h');simp[Pi.BP,Pi.flat]at this
 |p::q::rr,y,⟨rs,c,_⟩=>cases c
theorem Ff{b:Hp}{l:List (Bool×Ty)}{y:AP l}{r:PV}(c:Co l=zt)(hs:B3 l=zf)(h:Hq b l y r):∃ q,(∀ (id:Nat) (lP:List Nat) (hh:Hp),Pi.Ag id lP hh b r=zo (q,hh))/\RV l y q/\Pi.flat q=zt:=by
 obtain⟨q,e,f,a⟩:=Nt c h;have d:=Jd hs a;refine⟨q,λid lP hh=> ?_,a,d⟩;unfold Pi.Ag;have g:=Ly hs h
 simp_all
theorem GK{a:T PV}{h h':Hp}{id:Nat}{o:Oper}(hc:CL o.op=zt):Pi.AQ P a h id o=Pi.AQ P a h' id o:=by
 unfold Pi.AQ;generalize o.op=b at hc;cases b with
 |call c=>
  grind [CL]
 |_=>cases hc
theorem Jw{X:Cx}{h:H}{n idP:Nat}(r:RH X h n){o:Oper}{I:T PV}{f:FuncId}{sg:Sg}(M:FnOK P tab f sg)(i:B3 sg.cod=zf){args:List V}{G:List PV}(A:Pi.As o.op=zt)(b:CL o.op=zt)(C:Pi.AQ P I X.h idP o=zo (.call f G)){β:Type}{x:β}{K:V->H->Option β}(ha:VRL X args G)(e:DW h sg args K=zo x) :
  ∃ v q rd,K v h=zo x/\VR X v q/\(∀ a∈rd,a=idP\/X.h.get a≠zn)/\OB X idP (BL h args) rd /\ ∃ N,∀ F m,N<=F->N<=m->Pi.Ax P (Pi.B4 P (Ad tab) F m) I X.h idP o=zo (q,X.h,rd,[]):=by
 unfold DW at e;replace e:=BE e;obtain⟨L,e⟩:=e;simp only[ak,ay]at L;obtain⟨t,u⟩:=L
 let Q:Nat->Prop:=λpid=>X.Q pid \/ ∃ id∈DN args,∃ m,X.π id=zo (.blk pid m)
 replace e:=Bq (Q:=Q) r (λ_ h=>.inl h) (λid pid m hi W=>.inr ⟨id,hi,m,W⟩) ha e;obtain⟨y,e,B⟩:=e;replace e:=AD e;obtain⟨h',j,e⟩:=e;rw[i]at j;cases j;replace e:=FA e;obtain⟨z,Z,e⟩:=e;obtain⟨J,lP,g,w,k⟩:=ED (λ_ h=>.inl h) t B;obtain⟨rP,up,hR,⟨N,S⟩,p⟩:=M y z Z J w;obtain⟨q,E,Y,D⟩:=Ff u i p
 have d:Pi.Au I X.h o.op=[]:=by
  generalize o.op=op at b;cases op with
  |call c=>
   grind [Pi.Au,CL]
  |_=>cases b
 refine⟨_,q,(idP::[])++lP,e,Gr Y,λa ha=> ?_,FG r ha g idP,N,λF m O U=> ?_⟩
 ·simp only[bc,cq,ai]at ha;rcases ha with ha|ha
  ·omega
  ·obtain⟨_,es,ex,fz,hg⟩:=k a ha
   simp_all
 ·unfold Pi.Ax;have s:af idP (idP+1)=zt:=by simp
  simp only[A,s,au,aJ,zj,d];rw[GK (h':=X.h) b,C];simp only[g];have l:Ao (X.h.cut (idP::lP)) G=zo (J,lP):=E2 (h:=X.h) (λx hx=>by simp_all[Pi.Db,zy]) g;unfold Pi.A8;simp only[zj,l];rw[show({ m:=.lf,nx:=0 }:Hp)=D1 from rfl,S F m O U];simp only[E,ap,D,zb]
theorem JA{X:Cx}{h:H}{n:Nat}(r:RH X h n):∀ {dom:List (Bool×Ty)} {args:List V} {f:List PV} {b:List V} {js:List Nat},VRL X args f->En h dom args=zo (b,js) ->
  ∃ d,VRL X b d /\ ∀ g c,Ao X.h d=zo (g,c) -> ∃ lP,Ao X.h f=zo (Gv dom g,lP) /\ ∀ i∈lP,i∈c \/ ∃ j∈js,∃ m,X.π j=zo (.blk i m)/\X.h.get i≠zn
 |[],args,f,b,js,hv,e=>by
  grind [En,Gv]
 |p::l,[],f,b,js,hv,e=>by
  unfold En at e;cases e;refine⟨f,hv,λg c h=>⟨c,?_,λi hi=>.inl hi⟩⟩;rw[hv.nil_inv]at h ⊢;cases h;rfl
 |p::l,v::vs,f,b,js,hv,e=>by
  obtain⟨q,qs,rfl,s,J⟩:=hv.cons_inv;unfold En at e;split at e
  ·rename_i a K;obtain⟨d,E,F⟩:=JA r J (show En h l vs=zo (a.1,a.2)from K);replace e:=BV e;rcases e with⟨S,e⟩|⟨S,e⟩
   ·split at e
    ·rename_i j off;split at e
     ·rename_i cs fz lk O;replace e:=AK e;obtain⟨D,e⟩:=e;cases e;simp only[VR]at s;obtain⟨pid,n',u,rfl⟩:=s;have B:=r.blk _ _ O;rw[u]at B;obtain⟨G,n'',A,I,t,L,M,N,k⟩:=B;cases t;have C:cs.length=A.length:=k.length;refine⟨.agg (A.drop off)::d,.cons (by simp only[VR];exact⟨_,rfl,k.drop off⟩) E,λg c hh=> ?_⟩;unfold Ao at hh;split at hh
      ·rename_i Y o z b' x y;cases hh;obtain⟨lP,U,W⟩:=F _ _ y;rw[show Pi.AS=11+1 from rfl,EV]at x;obtain⟨⟨Z,l'⟩,P,w⟩:=Pi.AA x;cases w;refine⟨(pid::o)++lP,?_,λi hi=> ?_⟩
       ·unfold Ao
        have e1:AV X.h Pi.AS (.ptr pid off)=zo (.view Z,pid::o):=by
         rw[show Pi.AS=11+1 from rfl];unfold AV
         grind
        simp_all[Gv,zb,MK]
       grind
      ·cases hh
     ·cases e
    ·cases e
   ·cases e;refine⟨q::d,.cons s E,λg c hh=> ?_⟩;unfold Ao at hh;split at hh
    ·rename_i Y o z b' x y;cases hh;obtain⟨lP,U,W⟩:=F _ _ y;refine⟨o++lP,?_,λi hi=> ?_⟩
     ·simp_all[Ao,Gv,zj]
     grind
    ·cases hh
  ·cases e
theorem Pb{X:Cx}{own:Nat}{js:List Nat}{f:Option (List Nat×Bool)}{rd lP:List Nat}(g:OB X own f rd)(h:∀ i∈lP,i∈rd \/ ∃ j∈js,∃ m,X.π j=zo (.blk i m)/\X.h.get i≠zn):OB X own (Sj js f) lP:=by
 intro l k q d;obtain⟨a,e,rfl⟩:=Pi.AA k;rcases h q d with d|⟨j,b,m,c,_⟩
 ·rcases g a e q d with h1|⟨j,b,m,c⟩|h1
  ·omega
  ·exact .inr (.inl ⟨j,am _ b,m,c⟩)
  ·exact .inr (.inr h1)
 ·exact .inr (.inl ⟨j,ao _ b,m,c⟩)
theorem LF{X:Cx}{h:H}{n idP:Nat}(r:RH X h n){o:Oper}{Y:T PV}{f:FuncId}{sg:Sg}(TO:FnP P tab f sg)(l:B3 sg.cod=zf){args:List V}{W:List PV}(I:Pi.As o.op=zt)(g:CL o.op=zt)(L:Pi.AQ P Y X.h idP o=zo (.call f W)){β:Type}{x:β}{K:V->H->Option β}{b:List V}{js:List Nat}(E:En h sg.dom args=zo (b,js))(ha:VRL X args W)(e:DW h sg b K=zo x) :
  ∃ v q rd,K v h=zo x/\VR X v q/\(∀ a∈rd,a=idP\/X.h.get a≠zn)/\OB X idP (Sj js (BL h b)) rd /\ ∃ N,∀ F m,N<=F->N<=m->Pi.Ax P (Pi.B4 P (Ad tab) F m) Y X.h idP o=zo (q,X.h,rd,[]):=by
 obtain⟨ps2,k,p⟩:=JA r ha E;unfold DW at e;replace e:=BE e;obtain⟨hd,e⟩:=e;simp only[ak,ay]at hd;obtain⟨C,D⟩:=hd
 let Q:Nat->Prop:=λpid=>X.Q pid \/ ∃ id∈DN b,∃ m,X.π id=zo (.blk pid m)
 replace e:=Bq (Q:=Q) r (λ_ h=>.inl h) (λid pid m hi hp=>.inr ⟨id,hi,m,hp⟩) k e;obtain⟨y,e,J⟩:=e;replace e:=AD e;obtain⟨h',s,e⟩:=e;rw[l]at s;cases s;replace e:=FA e;obtain⟨z,hz,e⟩:=e;obtain⟨Z,U,d,G,t⟩:=ED (λ_ h=>.inl h) C J;obtain⟨lP,u,S⟩:=p _ _ d;obtain⟨rP,up,hR,⟨N,hN⟩,A⟩:=TO y z hz Z G;obtain⟨q,O,hq,M⟩:=Ff D l A
 have j:Pi.Au Y X.h o.op=[]:=by
  generalize o.op=op at g;cases op with
  |call c=>
   grind [Pi.Au,CL]
  |_=>cases g
 refine⟨_,q,(idP::[])++lP,e,Gr hq,λa ha=> ?_,Pb (rd:=(idP::[])++U) (FG r k d idP) (λi hi=>by
   grind),N,λF m hF hm=> ?_⟩
 ·simp only[bc,cq,ai]at ha;rcases ha with ha|ha
  ·omega
  ·rcases S a ha with ha|⟨_,_,_,_,hg⟩
   ·obtain⟨_,es,ex,fz,hg⟩:=t a ha
    simp_all
   simp_all
 ·unfold Pi.Ax;have B:af idP (idP+1)=zt:=by simp
  simp only[I,B,au,aJ,zj,j];rw[GK (h':=X.h) g,L];simp only[u];have w:Ao (X.h.cut (idP::lP)) W=zo (Gv sg.dom Z,lP):=E2 (h:=X.h) (λx hx=>by simp_all[Pi.Db,zy]) u;unfold Pi.A8;simp only[zj,w];rw[show({ m:=.lf,nx:=0 }:Hp)=D1 from rfl,hN F m hF hm];simp only[O,ap,M,zb]
theorem Eo{X:Cx}{h:H}{n id idP:Nat}(r:RH X h n)(w:Nw X n id idP){o:Oper}{tP:T PV}{f:FuncId}{args:List V}{E:List PV}(J:Pi.As o.op=zt)(l:CL o.op=zt)(L:Pi.AQ P tP X.h idP o=zo (.call f E)){β:Type}{x:β}{K:V->H->Option β}(C:VRL X args E){T:Hp->PV->Prop}
  (e:∃ v h' q d Y A lP z up t,K v h'=zo x/\Ao X.h E=zo (A,lP)/\PD P tab (.fn f) zn A D1 (.ret z,up,t)/\Pi.Ag idP lP X.h t z=zo (q,d)/\(∀ y∈lP,X.h.get y≠zn)/\FW X h n id idP h' d Y/\VR Y v q/\T d q) :
  ∃ v q B Y k rd wr,K v B=zo x/\VR Y v q/\(∃ I,FW X h n id idP B I Y/\T I q)/\(∀ a∈wr,a∈rd)/\(∀ a∈rd,a=idP\/X.h.get a≠zn)/\OB X idP (BL h args) rd/\(∀ a,k.get a=Y.h.get a)/\k.nx=X.h.nx /\ ∃ N,∀ F m,N<=F->N<=m->Pi.Ax P (Pi.B4 P (Ad tab) F m) tP X.h idP o=zo (q,k,rd,wr):=by
 obtain⟨v,B,q,d,Y,A,lP,z,up,t,e1,g,⟨N,hN⟩,M,hmet,U,hv,hT⟩:=e
 have i:Pi.Au tP X.h o.op=[]:=by
  generalize o.op=op at l;cases op with
  |call c=>
   grind [Pi.Au,CL]
  |_=>cases l
 let hs:=X.h.cut (idP::lP)
 have p:∀ q∈idP::lP,hs.get q=X.h.get q:=λq hq=>by
  show(X.h.cut (idP::lP)).get q=_
  simp_all[Pi.Db,zy]
 have sub:Pi.Ee hs X.h:=λx b hb=>(Pi.Dv hb).2;obtain⟨G,u⟩:=KF (hs:=hs) (λx Z=>p x (aB _ Z)) (λ_=>by simp_all) M;have j:Ao hs E=zo (A,lP):=E2 (h:=X.h) (λx Z=>p x (aB _ Z)) g
 have O:∀ {hh k:Hp} {rec:Pi.GE},Ao hh E=zo (A,lP)->rec (.fn f) zn A { m:=.lf,nx:=0 }=zo (.ret z,up,t)->Pi.Ag idP lP hh t z=zo (q,k)->Pi.A8 (λ_=>zf) rec idP f E hh=zo (.ret q,k):=λB k h3=>by
  simp_all[Pi.A8,zj,ap]
 have c1:=O (rec:=λ_ _ _ _=>zo (.ret z,up,t)) j rfl u;have c2:=O (rec:=λ_ _ _ _=>zo (.ret z,up,t)) g rfl M;obtain⟨⟨h3,k1,lay⟩,kf,_⟩:=Pi.ID sub (λ_=>w.hp) c1;rw[c2]at k1;cases k1;obtain⟨_,kf2,_⟩:=Pi.ID (hs:=X.h) (h:=X.h) (λ_ _ h=>h) (λh=>h) c2;have hy:=U.1;cases W:Pi.flat q with
 |true=>
  have e0:=kf2 W;refine⟨v,q,B,Y,X.h,idP::lP,[],e1,hv,⟨d,U,hT⟩,λ_ h=>(by cases h),λa C=> ?_,FG r C g idP,λa=>(by rw[hy,e0]),rfl,N,λF m S D=> ?_⟩
  ·grind
  ·unfold Pi.Ax;have s:af idP (idP+1)=zt:=by simp
   simp only[J,s,au,aJ,zj,i];rw[GK (h':=X.h) l,L];simp only[g];have:=O (rec:=Pi.B4 P (Ad tab) F m) j (hN F m S D) u
   grind
 |false=>
  obtain⟨k,e2,n2⟩:=Hw G (idP::lP) X.h
  have g2:∀ a,k.get a=d.get a:=λa=>by
   rw[Pi.Cw e2 a,lay.get a];by_cases D:a∈idP::lP
   ·grind
   ·rw[zx D];cases hg:G.get a with
    |none=>rfl
    |some b=>
     rcases lay.keys a b hg with⟨b0,hb⟩|hb
     ·exact absurd (Pi.Dv hb).1 D
     simp_all
  refine⟨v,q,B,Y,k,idP::lP,Pi.BB X.h (idP::lP),e1,hv,⟨d,U,hT⟩,λa C=>Ai C,λa C=> ?_,FG r C g idP,λa=>by rw[hy,g2],n2,N,λF m S D=> ?_⟩
  ·grind
  ·unfold Pi.Ax;have s:af idP (idP+1)=zt:=by simp
   simp only[J,s,au,aJ,zj,i];rw[GK (h':=X.h) l,L];simp only[g];have:=O (rec:=Pi.B4 P (Ad tab) F m) j (hN F m S D) u
   grind
theorem LD(TO:TabOK P tab){base baseP b bP nt nx:Nat}(hb:b<=base)(hbP:bP<=baseP)(hnt:nt<1048575)(hn:nx<=1048575){all:List Oper}(hall:∀ o∈all,∀ d,o.dst=zo d->d<nt){β:Type}{x:β}{len:Nat} :
  ∀ {ops:List Oper} {i:Nat} {ms:List Pi.Mk} {pa:List (Nat×Nat×Option (List Nat×Bool))} {pp:List (Nat×List Nat×List Nat)} {t:T V} {h:H} {K:T V->H->Option β} {X:Cx} {U:T PV},BO P tab base nt all i ops ms pa t h K=zo x->RH X h nx->TR X t U->DV X base baseP i ops.length->base+i+ops.length<=nx->baseP+i+ops.length<=X.h.nx->len=i+ops.length->L2 (PastE X baseP i len) pa pp ->
   ∃ t' h' Y M,K t' h'=zo x/\(∃ N,∀ F n,N<=F->N<=n->Pi.AX P (Pi.B4 P (Ad tab) F n) baseP nt all i ops ms pp U X.h=zo (M,Y.h))/\RH Y h' nx/\Ext b bP X h Y h'/\TR Y t' M:=by
 intro ops
 induction ops with
 |nil=>
  intro i ms pa pp t h K X U e r ht _ _ _ _ _;cases ms<;>exact⟨t,h,X,U,e,⟨0,λ_ _ _ _=>rfl⟩,r,Ext.refl _ _ _ _,ht⟩
 |cons o ops ih=>
  intro i ms pa pp t h K X U e r ht hfr hlen hlenP hl G;cases ms with
  |nil=>cases e
  |cons m ms=>
   simp only[aR]at hlen hlenP hfr hl;have C:=hfr i (ad _) (by omega);have w:Nw X nx (base+i) (baseP+i):=⟨C.1,by omega,hn,C.2,by omega⟩;unfold BO at e;obtain⟨t1,D,hcase⟩:=JQ (nt:=nt) ht hnt hall e
   have go:∀ {v:V} {p:PV} {h1:H} {pa1:List (Nat×Nat×Option (List Nat×Bool))} {pp1:List (Nat×List Nat×List Nat)} {Y:Cx},Ho t1 nt o.dst v (λt=>BO P tab base nt all (i+1) ops ms pa1 t h1 K)=zo x->RH Y h1 nx->TR Y t1 U->VR Y v p->St X h (base+i) (baseP+i) Y h1->L2 (PastE Y baseP (i+1) len) pa1 pp1 ->
     (∀ {rr:T PV×Hp},(∃ N,∀ F n,N<=F->N<=n->(match o.dst with
      |some d=>bif af d nt then Pi.AX P (Pi.B4 P (Ad tab) F n) baseP nt all (i+1) ops ms pp1 (T.put 20 U d p) Y.h else zn
      |none=>Pi.AX P (Pi.B4 P (Ad tab) F n) baseP nt all (i+1) ops ms pp1 U Y.h)=zo rr) -> ∃ N,∀ F n,N<=F->N<=n->Pi.AX P (Pi.B4 P (Ad tab) F n) baseP nt all i (o::ops) (m::ms) pp U X.h=zo rr) ->
     ∃ t' h' Y M,K t' h'=zo x/\(∃ N,∀ F n,N<=F->N<=n->Pi.AX P (Pi.B4 P (Ad tab) F n) baseP nt all i (o::ops) (m::ms) pp U X.h=zo (M,Y.h))/\RH Y h' nx/\Ext b bP X h Y h'/\TR Y t' M:=by
    intro v p h1 pa1 pp1 Y e r1 htY W s hp1 hP;obtain⟨t2,tP2,e2,ht2,hd,hnd⟩:=RO htY hnt W e
    have hfr1:DV Y base baseP (i+1) ops.length:=λj h1 J=>by
     obtain⟨a1,a2⟩:=hfr j (by omega) (by omega);exact⟨s.pin _ (by omega) a1,s.hpn _ (by omega) a2⟩
    obtain⟨t',h',Z,M,k1,⟨N,k2⟩,k3,k4,k5⟩:=ih e2 r1 ht2 hfr1 (by omega) (by rw[s.nx];omega) (by omega) hp1;refine⟨t',h',Z,M,k1,hP ⟨N,λF n hF hn=> ?_⟩,k3,(s.ext (by omega) (by omega)).trans k4,k5⟩
    grind
   have pnext:∀ {Y:Cx} {h1:H},St X h (base+i) (baseP+i) Y h1->L2 (PastE Y baseP (i+1) len) pa pp:=λs=>G.mono λ_ _ k=>k.next s
   have entry:∀ {Y:Cx} {h1:H} {c:Nat} {f:Option (List Nat×Bool)} {rd wr:List Nat},St X h (base+i) (baseP+i) Y h1->(∀ w∈wr,w∈rd)->(c<=1->wr=[])->(∀ q∈rd,q=baseP+i\/X.h.get q≠zn)->(c=0->rd=[baseP+i]/\Y.h.get (baseP+i)=zn)->FpP Y (baseP+i) f rd->L2 (PastE Y baseP (i+1) len) ((i,c,f)::pa) ((i,rd,wr)::pp):=fun {Y h1 c f rd wr} s h1 J h3 h4 h5=>by
    refine .cons ⟨rfl,by omega,h1,J,λq hq k k1 k2=> ?_,h4,h5⟩ (pnext s);rcases h3 q hq with hh|hh
    ·omega
    ·intro he;obtain⟨_,a2⟩:=hfr k (by omega) (by omega);rw[he]at hh;exact hh a2
   have B:∀ {Y:Cx} {h1:H} {f:Option (List Nat×Bool)} {rd:List Nat},St X h (base+i) (baseP+i) Y h1->Y.h.get (baseP+i)=zn->OB X (baseP+i) f rd->FpP Y (baseP+i) f rd:=λs hn hf l hl q hq=>by
    rcases hf l hl q hq with rfl|h1
    ·exact .inl ⟨rfl,hn⟩
    ·exact .inr (h1.mono s.up)
   have fpUp:∀ {Y:Cx} {h1:H} {f:Option (List Nat×Bool)} {rd:List Nat},St X h (base+i) (baseP+i) Y h1->OB X (baseP+i) f rd->OB Y (baseP+i) f rd:=λs hf l hl q hq=>(hf l hl q hq).imp id (FpA.mono s.up);rcases hcase with⟨e,hw⟩|⟨e,hw⟩
   ·replace e:=BE e;obtain⟨E,e⟩:=e;have E:Pi.As o.op=zt:=by simpa using E
    have ev:=PT r w D e;generalize S:Pi.AQ P U X.h (baseP+i) o=op at ev;cases ev with
    |@val v h1 p hP1 Y e ok W=>
     obtain⟨y1,y2,O⟩:=ok;simp only at e;replace e:=AK e;obtain⟨g,e⟩:=e;simp only[ac]at g
     have hc2:AO o.op<=2\/AO o.op=4:=by
      rcases Bool.or_eq_true_iff.1 g.1 with hc|hc
      ·exact .inl (aq hc)
      ·exact .inr (aj hc)
     obtain⟨L,hck1,hck2⟩:=g.2
     have hsf:∀ ty x,o.op=.slice ty x zn zn zn -> ∀ p,Pi.B1 U x=zo p -> ∃ j a,p=.ptr j a:=λty x ho p hp=>by
      rw[ho]at L;cases x with
      |tmp k=>
       simp only[QC]at L;split at L
       ·rename_i hk;obtain⟨p',hp',hvr⟩:=D _ _ hk;simp only[Pi.B1,hp',aE,Option.some.injEq]at hp;subst hp;simp only[VR]at hvr;obtain⟨pid,m,_,rfl⟩:=hvr;exact⟨_,_,rfl⟩
       ·cases L
      |_=>simp[QC]at L
     have hsl:∀ ty x lo hi m,o.op=.slice ty x lo hi (zo m) -> ∀ p,Pi.B1 U x=zo p -> ∀ j a b,p ≠ .own j a b:=λty x lo hi m ho p hp j a b hpe=>by
      rw[ho]at L;cases x with
      |tmp k=>
       simp only[QC]at L;split at L
       ·rename_i hk;obtain⟨p',hp',hvr⟩:=D _ _ hk;simp only[Pi.B1,hp',aE,Option.some.injEq]at hp;subst hp;subst hpe;simp only[VR]at hvr;rcases hvr with⟨h,_⟩|⟨_,_,h,_⟩<;>cases h
       ·rename_i hk;obtain⟨p',hp',hvr⟩:=D _ _ hk;simp only[Pi.B1,hp',aE,Option.some.injEq]at hp;subst hp;subst hpe;simp only[VR]at hvr;cases hvr
       ·cases L
      |_=>simp[QC]at L
     obtain⟨J,wr,d1,d2,d3,d4,d5⟩:=(IH hsl hsf E C.2 S).1 p hP1 rfl hc2;have I:∀ q,J.get q=Y.h.get q:=λq=>by rw[d2,y1]
     have n2:J.nx=Y.h.nx:=by rw[d3,O.nx]
     have s2:=O.with I n2
     have hfo:=(I8 E).2.2.1
     have y:∀ q∈(baseP+i)::Pi.Au U X.h o.op,q=baseP+i\/X.h.get q≠zn:=λq hq=>by
      rcases ai.1 hq with hq|hq
      ·omega
      ·exact .inr (NV r D (by omega) E hck1 q hq)
     have u:=Rd r D (o:=o.op) (baseP+i);have z:=EA r u (rd:=(baseP+i)::Pi.Au U X.h o.op) (wr:=wr) (len:=len) (by omega) d5 (λhc=>(d4 hc).1) (λhc=>by rw[hfo hc]) y G hck2
     have hq0:AO o.op<=1->(Y.with J).h.get (baseP+i)=zn:=λhc=>by
      show J.get _=zn;rw[d2,(d4 hc).2];exact C.2
     refine go (p:=p) e (y2.with I n2) (D.mono s2.up) (W.mono (EY I)) s2 (entry s2 d5 (λhc=>(d4 hc).1) y (λhc=>⟨by rw[hfo (.inl hc)],hq0 (by omega)⟩) ?_) ?_
     ·cases hcl:ah (AO o.op) 1 with
      |true=>exact B s2 (hq0 (aq hcl)) u
      |false=>
       have hcl':¬ AO o.op<=1:=λhh=>by rw[show ah (AO o.op) 1=zt from by simpa using hh]at hcl;cases hcl
       refine IQ (W.mono (EY I)) ?_ (fpUp s2 u);rcases RF C.2 E (by omega) S with hn|hn
       ·exact .inl (by show J.get _=zn;rw[d2];exact hn)
       ·exact .inr hn
     ·rintro rr ⟨N,hN⟩;refine⟨N,λF n hF hn=> ?_⟩;unfold Pi.AX;simp only[hw,zb,d1,z];exact hN F n hF hn
    |@skip h1 hP1 Y e ok=>
     obtain⟨y1,y2,O⟩:=ok;simp only at e;replace e:=AK e;obtain⟨g,e⟩:=e;simp only[ac]at g;have hc3:AO o.op=3:=aj g.1;obtain⟨J,wr,d1,d2,d3,d5⟩:=(IH (λty x lo hi m ho=>by rw[ho]at hc3;simp[AO]at hc3) (λty x ho=>by rw[ho]at hc3;simp[AO]at hc3) E C.2 S).2 hP1 rfl hc3;have I:∀ q,J.get q=Y.h.get q:=λq=>by rw[d2,y1]
     have n2:J.nx=Y.h.nx:=by rw[d3,O.nx]
     have s2:=O.with I n2
     have y:∀ q∈(baseP+i)::Pi.Au U X.h o.op,q=baseP+i\/X.h.get q≠zn:=λq hq=>by
      rcases ai.1 hq with hq|hq
      ·omega
      ·exact .inr (NV r D (by omega) E g.2.1 q hq)
     have u:=Rd r D (o:=o.op) (baseP+i);have z:=EA r u (c:=3) (rd:=(baseP+i)::Pi.Au U X.h o.op) (wr:=wr) (len:=len) (by omega) d5 (λhc=>by omega) (λhc=>by omega) y G g.2.2;refine go (p:=.tup []) e (y2.with I n2) (D.mono s2.up) (by simp only[VR];exact⟨[],rfl,.nil⟩) s2 (entry (c:=3) s2 d5 (λhc=>by omega) y (λhc=>by omega) (B s2 (by show J.get _=zn;rw[d2];exact OL hc3 C.2 S) u)) ?_
     rintro rr ⟨N,hN⟩;refine⟨N,λF n hF hn=> ?_⟩;unfold Pi.AX;simp only[hw,zb,d1,z];exact hN F n hF hn
    |@call f as ps e ha=>
     simp only at e
     have any:∀ {v:V} {q:PV} {h1:H} {Y:Cx} {J:Hp} {rd wr:List Nat} {f':Option (List Nat×Bool)},Ho t1 nt o.dst v (λt=>BO P tab base nt all (i+1) ops ms ((i,4,f')::pa) t h1 K)=zo x->VR Y v q->RH Y h1 nx->St X h (base+i) (baseP+i) Y h1->(∀ a∈wr,a∈rd)->(∀ a∈rd,a=baseP+i\/X.h.get a≠zn)->OB X (baseP+i) (BL h as) rd->FpP (Y.with J) (baseP+i) f' rd->(∀ a,J.get a=Y.h.get a)->J.nx=X.h.nx->DS h m.bef 4 (BL h as) pa=zt ->
       (∃ N,∀ F m,N<=F->N<=m->Pi.Ax P (Pi.B4 P (Ad tab) F m) U X.h (baseP+i) o=zo (q,J,rd,wr)) ->
       ∃ t' h' Y M,K t' h'=zo x/\(∃ N,∀ F n,N<=F->N<=n->Pi.AX P (Pi.B4 P (Ad tab) F n) baseP nt all i (o::ops) (m::ms) pp U X.h=zo (M,Y.h))/\RH Y h' nx/\Ext b bP X h Y h'/\TR Y t' M:=by
      intro v q h1 Y J rd wr f' e1 W y2 O d5 y u hfq I n2 g ⟨N0,hN0⟩;have n2':J.nx=Y.h.nx:=by rw[n2,O.nx]
      have s2:=O.with I n2'
      have z:=EA r u (c:=4) (rd:=rd) (wr:=wr) (len:=len) (by omega) d5 (λhc=>by omega) (λhc=>by omega) y G g;refine go (p:=q) e1 (y2.with I n2') (D.mono s2.up) (W.mono (EY I)) s2 (entry (c:=4) s2 d5 (λhc=>by omega) y (λhc=>by omega) hfq) ?_
      rintro rr ⟨N,hN⟩;refine⟨max N0 N,λF n hF hn=> ?_⟩;unfold Pi.AX;simp only[hw,zb,hN0 F n (by omega) (by omega),z];exact hN F n (by omega) (by omega)
     split at e
     ·rename_i sg hsg;replace e:=BE e;obtain⟨A,e⟩:=e;simp only[ak,ay]at A;obtain⟨A,g⟩:=A;obtain⟨v,q,h1,Y,J,rd,wr,e1,W,⟨hP1,⟨y1,y2,O⟩,hT⟩,d5,y,u,I,n2,hN⟩:=Eo r w E A S ha (HU r w (λdom g' c fn hh=>TO.getR (by rw[hsg,hh])) ha e);have s2:=O.with I (by rw[n2,O.nx])
      exact any e1 W y2 O d5 y u (IQ (W.mono (EY I)) (hT.imp (λhn=>by show J.get _=zn;rw[I,y1];exact hn) id) (fpUp s2 u)) I n2 g hN
     ·split at e
      ·rename_i sg hsg;replace e:=BE e;obtain⟨A,e⟩:=e;have A:CL o.op=zt:=by simpa using A
       replace e:=BE e;obtain⟨g,e⟩:=e;have g:DS h m.bef 4 (BL h as) pa=zt:=by simpa using g
       obtain⟨v,q,h1,Y,J,rd,wr,e1,W,⟨hP1,⟨y1,y2,O⟩,hT⟩,d5,y,u,I,n2,hN⟩:=Eo r w E A S ha (T:=λhP _=>hP.get (baseP+i)=zn) (K7 r w (TO.getL hsg) ha e);have s2:=O.with I (by rw[n2,O.nx])
       exact any e1 W y2 O d5 y u (B s2 (by show J.get _=zn;rw[I,y1];exact hT) u) I n2 g hN
      ·split at e
       ·rename_i sg hsg;replace e:=BE e;obtain⟨A,e⟩:=e;have A:CL o.op=zt:=by simpa using A
        replace e:=BV e;rcases e with⟨hcs,e⟩|⟨hcs,e⟩
        ·replace e:=BE e;obtain⟨g,e⟩:=e;have g:DS h m.bef 4 (BL h as) pa=zt:=by simpa using g
         obtain⟨v,q,h1,Y,J,rd,wr,e1,W,⟨hP1,⟨y1,y2,O⟩,hT⟩,d5,y,u,I,n2,hN⟩:=Eo r w E A S ha (HV r w (TO.getD hsg) ha e);have s2:=O.with I (by rw[n2,O.nx])
         refine any e1 W y2 O d5 y u ?_ I n2 g hN;cases ho:Ln sg.cod with
         |true=>exact IQ (W.mono (EY I)) (hT.2.imp (λhn=>by show J.get _=zn;rw[I,y1];exact hn) id) (fpUp s2 u)
         |false=>exact B s2 (by show J.get _=zn;rw[I,y1];exact hT.1 ho) u
        ·replace e:=BE e;obtain⟨g,e⟩:=e;have g:DS h m.bef 1 (BL h as) pa=zt:=by simpa using g
         obtain⟨v,q,rd,e1,W,y,u,N0,hN0⟩:=Jw r (TO.getD hsg) hcs E A S ha e;have z:=EA r u (c:=1) (rd:=rd) (wr:=[]) (len:=len) (by omega) (λ_ hw=>by cases hw) (λ_=>rfl) (λhc=>by omega) y G g;have s2:=St.refl X h (base+i) (baseP+i);refine go (p:=q) e1 r D W s2 (entry (c:=1) (wr:=[]) s2 (λ_ hw=>by cases hw) (λ_=>rfl) y (λhc=>by omega) (B s2 C.2 u)) ?_;rintro rr ⟨N,hN⟩;refine⟨max N0 N,λF n hF hn=> ?_⟩;unfold Pi.AX;simp only[hw,zb,hN0 F n (by omega) (by omega),z];exact hN F n (by omega) (by omega)
       ·split at e
        ·rename_i sg hsg;replace e:=BE e;obtain⟨A,e⟩:=e;simp only[ak,ay]at A;obtain⟨A,hcs⟩:=A;replace e:=AD e;obtain⟨⟨args2,js⟩,hde,e⟩:=e;replace e:=BE e;obtain⟨g,e⟩:=e;have g:DS h m.bef 1 (Sj js (BL h args2)) pa=zt:=by simpa using g
         obtain⟨v,q,rd,e1,W,y,u,N0,hN0⟩:=LF r (TO.getP hsg) hcs E A S hde ha e;have z:=EA r u (c:=1) (rd:=rd) (wr:=[]) (len:=len) (by omega) (λ_ hw=>by cases hw) (λ_=>rfl) (λhc=>by omega) y G g;have s2:=St.refl X h (base+i) (baseP+i);refine go (p:=q) e1 r D W s2 (entry (c:=1) (wr:=[]) s2 (λ_ hw=>by cases hw) (λ_=>rfl) y (λhc=>by omega) (B s2 C.2 u)) ?_;rintro rr ⟨N,hN⟩;refine⟨max N0 N,λF n hF hn=> ?_⟩;unfold Pi.AX;simp only[hw,zb,hN0 F n (by omega) (by omega),z];exact hN F n (by omega) (by omega)
        ·cases e
    |yield e=>cases e
    |pan e=>cases e
    |rcv e=>cases e
    |dfr e=>cases e
   ·have s2:=St.refl X h (base+i) (baseP+i);refine go (p:=.tup []) e r D (by simp only[VR];exact⟨[],rfl,.nil⟩) s2 (pnext s2) ?_;rintro rr ⟨N,hN⟩;refine⟨N,λF n hF hn=> ?_⟩;unfold Pi.AX;simp only[hw,zj];exact hN F n hF hn
theorem Cd(o:TabOK P tab):DrawnAOK P tab:=by
 constructor;intro β x nx ops fr h K e X fp r i F d;unfold MU at e;replace e:=AD e;obtain⟨D,p,e⟩:=e
 have fresh:DV (X.bump ops.length) nx X.h.nx 0 ops.length:=λj _ _=>⟨by
  cases m:X.π (nx+j)with
  |none=>exact m
  |some a=>have:=r.dom _ _ m;omega,by rw[K6];exact r.fresh _ (by omega)⟩
 have f:=λ(b bP:Nat) (g:b<=nx) (c:bP<=X.h.nx)=>LD o (nx:=nx+ops.length) g c F.big i d (len:=ops.length) e (r.bump _) (F.t.mono (GJ X _)) fresh (by omega) (by show X.h.nx+0+_<=X.h.nx+ops.length;omega) (by omega) (pa:=[]) (pp:=[]) .nil;obtain⟨z,h',Y,l,s,⟨N,C⟩,u,w,y⟩:=f nx X.h.nx (ad _) (ad _);have ext:=(GI X h ops.length nx X.h.nx).trans w;have up:=ext.full r (ad _);have q:fp.nt=fr.nt:=F.nt;refine⟨{ fr with t:=z },h',Y,{ fp with t:=l },Y.h,s,⟨N,λA n B i=> ?_⟩,λb bP g c=>⟨rfl,u,i,Nat.le_add_right _ _,ext.le g c⟩,⟨y,F.nt,F.big,F.ds.mono λ_ _ k=>k.mono up,F.up.mono up,F.ro.mono up⟩⟩
 simp_all[Pi.drawn]
end
end
section
variable[Pi.Gl]
open Pi (PV T Hp Blk DF UM PE AN AT AB AV Ao)
theorem Kq(a:FuncId->Bool)(L:List (FuncId×Sg)):Ad (Ae a L)=λf=> !a f:=by
 funext f
 unfold Ad Ae;cases a f<;>rfl
theorem PD.mk{P:Program}{a:FuncId->Bool}{L c:List (FuncId×Sg)}{b:Pi.Tg}{up:Option UM}{args:List PV}{h:Hp}{r:Pi.Out×Option UM×Hp}(e:PD P (Ae a L) b up args h r):PD P (Ae a c) b up args h r:=by
 unfold PD at e ⊢;rw[Kq]at e ⊢;exact e
theorem TP(P:Program)(a:FuncId->Bool):TabOK P (Ae a []):=by
 have:∀ f sg,Ae a [] f≠zo (zo sg):=λf sg e=>by
  unfold Ae at e;replace e:=BV e;rcases e with⟨_,e⟩|⟨_,e⟩<;>cases e
 exact⟨λf sg _ e=>absurd e (this _ _),λf dom g c b _ e=>absurd e (this _ _),λf sg _ e=>absurd e (this _ _),λf sg _ e=>absurd e (this _ _)⟩
theorem FnOK.mk{P:Program}{a:FuncId->Bool}{L b:List (FuncId×Sg)}{f:FuncId}{sg:Sg}(h:FnOK P (Ae a L) f sg):FnOK P (Ae a b) f sg:=λx y g c e=>by
 obtain⟨r,up,d,i,j⟩:=h x y g c e;exact⟨r,up,d,i.mk,j⟩
theorem RowOK.mk{P:Program}{b:FuncId->Bool}{L d:List (FuncId×Sg)}{f:FuncId}{dom:List (Bool×Ty)}{g:Bool}{c:Ty}{a:AP dom->Option (List c.den)}(h:RowOK P (Ae b L) f dom g c a):RowOK P (Ae b d) f dom g c a:=λx y k e j=>by
 obtain⟨r,up,i,l,m⟩:=h x y k e j;exact⟨r,up,i,l.mk,m⟩
theorem FnP.mk{P:Program}{a:FuncId->Bool}{L b:List (FuncId×Sg)}{f:FuncId}{sg:Sg}(h:FnP P (Ae a L) f sg):FnP P (Ae a b) f sg:=λx y g c e=>by
 obtain⟨r,up,d,i,j⟩:=h x y g c e;exact⟨r,up,d,i.mk,j⟩
theorem FnL.mk{P:Program}{a:FuncId->Bool}{L b:List (FuncId×Sg)}{f:FuncId}{sg:Sg}(h:FnL P (Ae a L) f sg):FnL P (Ae a b) f sg:=λx y g c e=>by
 obtain⟨r,up,d,i,j⟩:=h x y g c e;exact⟨r,up,d,i.mk,j⟩
theorem KY{a b c d:Nat}(e:af a c=zt)(f:c<=d)(h:a=b+d):False:=bp.2 (ax f (aS d b)) (h ▸ Di e)
theorem Aj{b:FuncId->Bool}{L:List (FuncId×Sg)}{k f:FuncId}{sg a:Sg}(e:Ae b ((k,sg)::L) f=zo (zo a)):(f=k/\a=sg)\/Ae b L f=zo (zo a):=by
 unfold Ae at e ⊢;replace e:=BV e;rcases e with⟨d,e⟩|⟨_,e⟩
 ·simp only[Option.some.injEq]at e;unfold NF at e;replace e:=BV e;rcases e with⟨c,e⟩|⟨_,e⟩
  ·cases e;exact .inl ⟨aj c,rfl⟩
  ·exact .inr (by rw[d];exact congrArg zo e)
 ·cases e
theorem H1{P:Program}{j:FuncId->Bool}{L:List (FuncId×Sg)}(d:TabOK P (Ae j L)){k:FuncId}{sg:Sg}(i:af k Cu=zt)(h:FnOK P (Ae j L) (Rm k) sg):TabOK P (Ae j ((k,sg)::L)) where
 std:=λf a b e=>by
  rcases Aj e with⟨rfl,rfl⟩|e
  ·exact h.mk
  ·exact(d.std f a b e).mk
 row:=λf dom g c l m e=>by
  rcases Aj e with⟨rfl,_⟩|e
  ·exfalso;exact bp.2 (aS Cu f) (Di i)
  ·exact(d.row f dom g c l m e).mk
 dat:=λf a b e=>by
  rcases Aj e with⟨rfl,_⟩|e
  ·exfalso;exact bp.2 (ax (by decide:Cu<=Ms) (aS Ms f)) (Di i)
  ·exact(d.dat f a b e).mk
 ptr:=λf a b e=>by
  rcases Aj e with⟨rfl,_⟩|e
  ·exfalso;exact bp.2 (ax (by decide:Cu<=Ih) (aS Ih f)) (Di i)
  ·exact(d.ptr f a b e).mk
theorem RZ{P:Program}{m:FuncId->Bool}{L:List (FuncId×Sg)}(l:TabOK P (Ae m L)){f:FuncId}(d:af f Ct=zt){dom:List (Bool×Ty)}{g:Bool}{c:Ty}{o:AP dom->Option (List c.den)}(h:RowOK P (Ae m L) f dom g c o):TabOK P (Ae m ((f+Cu,⟨dom,[(zf,.sl g c)],o⟩)::L)) where
 std:=λa b i e=>by
  rcases Aj e with⟨rfl,_⟩|e
  ·exfalso;exact bp.2 (aS Cu f) (Di i)
  ·exact(l.std a b i e).mk
 row:=λa n s r p q e=>by
  rcases Aj e with⟨j,k⟩|e
  ·have:a=f:=aK j;subst this;cases k;exact h.mk
  ·exact(l.row _ _ _ _ _ q e).mk
 dat:=λa b i e=>by
  rcases Aj e with⟨j,_⟩|e
  ·exfalso
   have k:f=a+Cu:=by
    have:a+(Cu+Cu)=f+Cu:=j;rw[<- aH]at this;exact(aK this).symm
   exact KY d (by decide) k
  ·exact(l.dat a b i e).mk
 ptr:=λa b i e=>by
  rcases Aj e with⟨j,_⟩|e
  ·exfalso
   have k:a+1048576=f:=by
    have:a+(1048576+Cu)=f+Cu:=j;rw[<- aH]at this;exact aK this
   rw[<- k]at d;exact bp.2 (aS _ a) (Di d)
  ·exact(l.ptr a b i e).mk
theorem TQ{P:Program}{l:FuncId->Bool}{L:List (FuncId×Sg)}(d:TabOK P (Ae l L)){ann:H3}{F n:Nat}{f:FuncId}{dom a:List (Bool×Ty)}{o:AP dom->Option (AP a)}(h:∀ x,QQ P (Ae l L) ann F n f dom a x=o x)(hc:B3 a=zf:=by rfl)(k:af f Ct=zt:=by rfl):TabOK P (Ae l ((f+Ih,⟨dom,a,o⟩)::L)) where
 std:=λc b g e=>by
  rcases Aj e with⟨rfl,_⟩|e
  ·exfalso;exact bp.2 (ax (by decide:Cu<=Ih) (aS Ih f)) (Di g)
  ·exact(d.std c b g e).mk
 row:=λc m w u p r e=>by
  rcases Aj e with⟨_,j⟩|e
  ·cases j;cases hc
  ·exact(d.row _ _ _ _ _ r e).mk
 dat:=λc b g e=>by
  rcases Aj e with⟨i,_⟩|e
  ·exfalso
   have j:f=c+Ct:=by
    have:c+(Ct+Ih)=f+Ih:=i;rw[<- aH]at this;exact(aK this).symm
   exact KY k (by decide) j
  ·exact(d.dat c b g e).mk
 ptr:=λc b g e=>by
  rcases Aj e with⟨i,rfl⟩|e
  ·have:c=f:=aK i;subst this;exact FnP.mk λx y s t q=>QR d (Cd d) ((h x).trans s) q
  ·exact(d.ptr _ _ g e).mk
theorem TN{P:Program}{l:FuncId->Bool}{L:List (FuncId×Sg)}(i:TabOK P (Ae l L)){ann:H3}{F n:Nat}{f:FuncId}{dom:List (Bool×Ty)}{g:Bool}{c:Ty}{o:AP dom->Option (List c.den)}(h:∀ x,QO P (Ae l L) ann F n f dom g c x=o x)(s:af f Ct=zt:=by rfl):TabOK P (Ae l ((f+Ms,⟨dom,[(zf,.sl g c)],o⟩)::L)) where
 std:=λa b d e=>by
  rcases Aj e with⟨rfl,_⟩|e
  ·exfalso;exact bp.2 (ax (by decide:Cu<=Ms) (aS Ms f)) (Di d)
  ·exact(i.std a b d e).mk
 row:=λa m z w q p e=>by
  rcases Aj e with⟨j,_⟩|e
  ·exfalso
   have k:a=f+Cu:=by
    have:a+Cu=f+(Cu+Cu):=j;rw[<- aH]at this;exact aK this
   exact KY p (by decide) k
  ·exact(i.row _ _ _ _ _ p e).mk
 ptr:=λa b d e=>by
  rcases Aj e with⟨j,_⟩|e
  ·exfalso
   have k:a=f+Ct:=by
    have:a+Ih=f+(Ct+Ih):=j;rw[<- aH]at this;exact aK this
   exact KY d (by decide) k
  ·exact(i.ptr a b d e).mk
 dat:=λa b d e=>by
  rcases Aj e with⟨j,rfl⟩|e
  ·have:a=f:=aK j;subst this;exact FnL.mk λx y t u r=>QP i (Cd i) ((h x).trans t) r
  ·exact(i.dat _ _ d e).mk
theorem S6{P:Program}{c:FuncId->Bool}{L:List (FuncId×Sg)}(b:TabOK P (Ae c L)){ann:H3}{F n:Nat}{g k:FuncId}{dom a:List (Bool×Ty)}{d:AP dom->Option (AP a)}(h:∀ x,Ou P (Ae c L) ann F n g dom a x=d x)(i:af k Cu=zt:=by rfl)(f:Rm k=g:=by rfl) :
  TabOK P (Ae c ((k,⟨dom,a,d⟩)::L)):=H1 b i (by rw[f];exact λx y j l e=>H0 b (Cd b) ((h x).trans j) e)
def Nb{α β:Type}(a:(α->Option β)->α->Option β):Nat->α->Option β
 |0=>λ_=>zn
 |n+1=>a (Nb a n)
theorem TS{P:Program}{c:FuncId->Bool}{L:List (FuncId×Sg)}(f:TabOK P (Ae c L)){ann:H3}{F n:Nat}{g:FuncId}{dom a:List (Bool×Ty)}{b:(AP dom->Option (AP a))->AP dom->Option (AP a)}
  (h:∀ r x,Ou P (Ae c ((g,⟨dom,a,r⟩)::L)) ann F n g dom a x=b r x) (i:af g Cu=zt:=by rfl) (l:Rm g=g:=by rfl):∀ d,TabOK P (Ae c ((g,⟨dom,a,Nb b d⟩)::L)):=by
 intro d
 induction d with
 |zero=>exact H1 f i λx y e=>by cases e
 |succ d j=>
  refine H1 f i ?_;rw[l];have:FnOK P (Ae c ((g,⟨dom,a,Nb b d⟩)::L)) g ⟨dom,a,Nb b (d+1)⟩:=λx y e m k=>H0 j (Cd j) ((h _ x).trans e) k;exact this.mk
end
section
variable[Pi.Gl]
open Pi (PV T Hp Blk DF UM PE Rep RepL mu0 Ak Sim)
open Go.RowKit
theorem SH{M:Ak}{w:World}(e:Pi.GlOK M)(f:∀ a v,M a=zo v->a.spot=zn/\w.cell? a=zo v):Sim M mu0 D1 w:=by
 refine⟨e,λa v h=>f a v h,λid b c=> ?_,λid r d=> ?_,λid g r i b b' d=> ?_,λid r b a v c=> ?_⟩
 ·rw[show D1={ m:=.lf,nx:=0 }from rfl,Pi.Hp.get_lf]at c;cases c
 ·simp[mu0]at d
 ·simp[mu0]at d
 ·rw[show D1={ m:=.lf,nx:=0 }from rfl,Pi.Hp.get_lf]at c;cases c
theorem SV{P:Program}(t:Pi.Eg P){b:EF}(l:TabOK P b){ann:H3}{F n:Nat}{f:FuncId}{dom:List (Bool×Ty)}{x:AP dom}(e:Ou P b ann F n f dom [(zf,.bool)] x=zo zt)
  {p:List PV} (z:Dj dom x p) {M:Ak} (u:Pi.GlOK M) {w:World} (y:∀ a v,M a=zo v->a.spot=zn/\w.cell? a=zo v) {vs:List Value} (C:RepL M mu0 p vs) :
  Calls P f vs.toArray w λe w'=>e=.returned (.bool zt)/\Grown w w':=by
 intro cs;obtain⟨r,up,I,⟨N,D⟩,k⟩:=H0 l (Cd l) e z;have R:=Pi.PK (sh:=Ad b) t (λrec R=>Pi.GR (P:=P) (rec:=rec) R) N N;obtain⟨G,μ',w',fr,s1,c,E,g,x,s,B⟩:=R.nrm (D N N (ad _) (ad _)) (SH u y) C cs
 have j:r=.bool zt:=by
  have:[r]=[PV.bool zt]:=k;simpa using this
 subst j;cases s;refine⟨.returned (.bool zt),w',fr,⟨rfl,⟨⟨c.os,c.output,λi hi=> ?_⟩,λa=> ?_,c.size⟩⟩,E,g,B⟩
 ·have A:w'.heap[i]?=w.heap[i]?:=c.keeps _ hi;rw[A];cases s:w.heap[i]? with
  |none=>trivial
  |some o=>cases o<;>first|exact⟨rfl,rfl,rfl,λ_ _=>rfl⟩|exact .inr ⟨rfl,rfl⟩|rfl
 ·by_cases h:a.block<w.heap.size
  ·simp only[World.frozen?,c.keeps _ h]
  ·have q:w.heap[a.block]?=zn:=Array.getElem?_eq_none (by omega);simp only[World.frozen?,q];split
   ·rename_i arr ty lo hi hc;rcases c.nf _ _ _ _ hc with d|⟨m,d⟩
    ·cases d;simp
    ·rw[q]at d;cases d
   ·rfl
end
section
variable[Pi.Gl]
open Pi (PV T Hp Blk DF UM PE)
theorem Rk{P:Program}{a:EF}{b:Pi.Tg}{up:Option UM}{args:List PV}{h:Hp}{r:Pi.Out×Option UM×Hp}{F n:Nat}(e:Pi.B4 P (Ad a) F n b up args h=zo r):PD P a b up args h r:=
 ⟨max F n,λc g d f=>Pi.PJ (by omega) (by omega) _ _ _ _ _ e⟩
def TC(P:Program)(sh:FuncId->Bool)(F n:Nat)(g:FuncId):Bool:=match Pi.B4 P sh F n (.fn g) zn [] D1 with
 |some (.ret v,_,_)=>(match v with
  |.bool b=>b
  |_=>zf)
 |_=>zf
def G2(P:Program)(sh:FuncId->Bool)(F n:Nat)(g:FuncId)(p:PV):Bool:=match Pi.B4 P sh F n (.fn g) zn [p] D1 with
 |some (.ret v,_,_)=>(match v with
  |.nils=>zt
  |.lst _ es=>es.isEmpty
  |_=>zf)
 |_=>zf
theorem OO{P:Program}{sh:FuncId->Bool}{F n:Nat}{g:FuncId}{p:PV}(e:G2 P sh F n g p=zt):∃ v up h,Pi.B4 P sh F n (.fn g) zn [p] D1=zo (.ret v,up,h)/\(v=.nils \/ ∃ f,v=.lst f []):=by
 unfold G2 at e;split at e
 ·rename_i v up h a;refine⟨v,up,h,a,?_⟩;split at e
  ·exact .inl rfl
  ·rename_i f es;cases es with
   |nil=>exact .inr ⟨f,rfl⟩
   |cons _ _=>cases e
  ·cases e
 ·cases e
def MW(P:Program)(sh:FuncId->Bool)(F n:Nat)(g:FuncId):Bool:=G2 P sh F n g .nils&&(G2 P sh F n g (.lst zf [])&&G2 P sh F n g (.lst zt []))
theorem P1{P:Program}{i:FuncId->Bool}{L:List (FuncId×Sg)}{F0 n0:Nat}{g:FuncId}{gg:Bool}{c:Ty}(b:MW P (λf=> !i f) F0 n0 g=zt){j:List PV}(m:Dj [(zf,.sl gg c)] ([]:List c.den) j):∃ v up h,PD P (Ae i L) (.fn g) zn j D1 (.ret v,up,h)/\(v=.nils \/ ∃ f,v=.lst f []):=by
 obtain⟨p,rfl,d⟩:=m;have d:∃ q,[p]=[q]/\((q=.nils/\([]:List c.den)=[]) \/ ∃ f es,q=.lst f es/\L2 (EP gg (DP c)) [] es):=d;obtain⟨q,r,d⟩:=d;cases r;unfold MW at b;simp only[ac]at b
 have a:G2 P (λf=> !i f) F0 n0 g p=zt -> ∃ v up h,PD P (Ae i L) (.fn g) zn [p] D1 (.ret v,up,h)/\(v=.nils \/ ∃ f,v=.lst f []):=λe=>by
  obtain⟨v,up,l,n,s⟩:=OO e;exact⟨v,up,l,Rk (by rw[Kq];exact n),s⟩
 rcases d with⟨rfl,_⟩|⟨k,es,rfl,o⟩
 ·exact a b.1
 ·have:=o.nil_inv;subst this;cases k with
  |false=>exact a b.2.1
  |true=>exact a b.2.2
theorem S7{P:Program}{i:FuncId->Bool}{L:List (FuncId×Sg)}(m:TabOK P (Ae i L)){ann:H3}{F n F0 n0:Nat}{g:FuncId}{gg:Bool}{c:Ty}{j:List c.den->Option (List c.den)}
  (p:MW P (λf=> !i f) F0 n0 g=zt) (o:j []=zo []) (h:∀ a l,Ou P (Ae i L) ann F n g [(zf,.sl gg c)] [(zf,.sl gg c)] (a::l)=j (a::l)) (s:af g Cu=zt:=by rfl) (q:Rm g=g:=by rfl) :
  TabOK P (Ae i ((g,⟨[(zf,.sl gg c)],[(zf,.sl gg c)],j⟩)::L)):=H1 m s (by
 rw[q]
 have key:∀ (x y:List c.den) (b:List PV),j x=zo y->Dj [(zf,.sl gg c)] x b -> ∃ r up d,PD P (Ae i L) (.fn g) zn b D1 (.ret r,up,d)/\Hq d [(zf,.sl gg c)] y r:=by
  intro x y b e k;cases x with
  |cons a l=>exact H0 m (Cd m) ((h a l).trans e) k
  |nil=>
   rw[o]at e;cases e;obtain⟨v,up,d,u,t⟩:=P1 p k;refine⟨v,up,d,u,?_⟩;show DX d (λ_=>True) (λ_=>True) (.sl gg c) [] [v];refine⟨v,rfl,?_⟩;rcases t with rfl|⟨f,rfl⟩
   ·exact .inl ⟨rfl,rfl⟩
   ·exact .inr (.inl ⟨f,[],rfl,.nil⟩)
 exact λx y e b k=>key x y b e k)
def G1(P:Program)(sh:FuncId->Bool)(F n:Nat)(g:FuncId)(p:PV):Bool:=match Pi.B4 P sh F n (.fn g) zn [p] D1 with
 |some (.ret v,_,_)=>(match v with
  |.nils=>zt
  |.lst zt es=>es.isEmpty
  |_=>zf)
 |_=>zf
theorem ON{P:Program}{sh:FuncId->Bool}{F n:Nat}{g:FuncId}{p:PV}(e:G1 P sh F n g p=zt):∃ v up h,Pi.B4 P sh F n (.fn g) zn [p] D1=zo (.ret v,up,h)/\(v=.nils\/v=.lst zt []):=by
 unfold G1 at e;split at e
 ·rename_i v up h a;refine⟨v,up,h,a,?_⟩;split at e
  ·exact .inl rfl
  ·rename_i es;cases es with
   |nil=>exact .inr rfl
   |cons _ _=>cases e
  ·cases e
 ·cases e
def PQ(P:Program)(sh:FuncId->Bool)(F n:Nat)(g:FuncId):Bool:=G1 P sh F n g .nils&&(G1 P sh F n g (.lst zf [])&&G1 P sh F n g (.lst zt []))
theorem S8{P:Program}{i:FuncId->Bool}{L:List (FuncId×Sg)}(u:TabOK P (Ae i L)){ann:H3}{F n F0 n0:Nat}{g:FuncId}{gg:Bool}{c:Ty}{m:List c.den->Option (List c.den)}
  (o:PQ P (λf=> !i f) F0 n0 g=zt) (z:m []=zo []) (A:∀ a l y,m (a::l)=zo y->y≠[]) (h:∀ a l,QS P (Ae i L) ann F n g [(zf,.sl gg c)] gg c (a::l)=m (a::l)) (w:af g Ct=zt:=by rfl) :
  TabOK P (Ae i ((g+Cu,⟨[(zf,.sl gg c)],[(zf,.sl gg c)],m⟩)::L)):=RZ u w (by
 have key:∀ (x y:List c.den) (k:List PV),m x=zo y->Dj [(zf,.sl gg c)] x k -> ∃ r up d,PD P (Ae i L) (.fn g) zn k D1 (.ret r,up,d)/\O6 d gg c y r:=by
  intro x y k j t;cases x with
  |cons a l=>exact QT u (Cd u) ((h a l).trans j) (A _ _ _ j) t
  |nil=>
   rw[z]at j;cases j;obtain⟨p,rfl,s⟩:=t;have s:∃ q,[p]=[q]/\((q=.nils/\([]:List c.den)=[]) \/ ∃ f es,q=.lst f es/\L2 (EP gg (DP c)) [] es):=s;obtain⟨q,E,s⟩:=s;cases E;unfold PQ at o;simp only[ac]at o
   have b:G1 P (λf=> !i f) F0 n0 g p=zt -> ∃ r up d,PD P (Ae i L) (.fn g) zn [p] D1 (.ret r,up,d)/\O6 d gg c [] r:=λe=>by
    obtain⟨v,up,d,C,G⟩:=ON e;exact⟨v,up,d,Rk (by rw[Kq];exact C),.inl ⟨rfl,G⟩⟩
   rcases s with⟨rfl,_⟩|⟨B,es,rfl,D⟩
   ·exact b o.1
   ·have:=D.nil_inv;subst this;cases B with
    |false=>exact b o.2.1
    |true=>exact b o.2.2
 exact λx y j k t=>key x y k j t)
theorem Se{α:Type}{a:α}{l y:List α}(h:gd (CI (AR (a::l)) 1048576) (λ_=>zo (a::l))=zo y):y≠[]:=by
 unfold gd at h;cases b:CI (AR (a::l)) 1048576 with
 |true=>rw[b]at h;cases h;simp
 |false=>rw[b]at h;cases h
end
section
variable[Pi.Gl]
open Pi (PV Rep RepL mu0 Ak)
open Go.RowKit Go.ChangeShapes Go.WideShapes
def D7(w:World):Ak:=λa=>if a.spot=zn then w.cell? a else zn
theorem Sx(w:World):∀ a v,D7 w a=zo v->a.spot=zn/\w.cell? a=zo v:=λa v h=>by
 simp_all[D7]
def Ri:(c:Ty)->c.den->Prop
 |.int k,n=>(Lit.int k n).wf=zt
 |.bool,_=>True
 |.str,s=>s.length<=maxLen
 |.unit,_=>True
 |.pair a b,x=>Ri a x.1/\Ri b x.2
 |.sl _ c,l=>l.length<=maxLen /\ ∀ x∈l,Ri c x
def Rj:(l:List (Bool×Ty))->AP l->Prop
 |[],_=>True
 |[p],x=>Ri p.2 x
 |p::q::r,x=>Ri p.2 x.1/\Rj (q::r) x.2
def RU:Nat->Ty->Ty
 |0,_=>.unit
 |n+1,c=>match n with
  |0=>c
  |_=>.pair c (RU n c)
def Lp(P:Program):Nat->TypeId->Option (Bool×Ty)
 |0,_=>zn
 |d+1,t=>match P.underlying t with
  |some (.int k)=>zo (zf,.int k)
  |some .bool=>zo (zf,.bool)
  |some .string=>zo (zf,.str)
  |some (.slice e)=>match Lp P d e with
   |some (g,c)=>bif af 0 c.wd then zo (zf,.sl g c)else zn
   |none=>zn
  |some (.struct fs)=>(Qa (Lp P d) fs.toList).map λc=>(zt,c)
  |some (.array n e)=>(Lp P d e).map λp=>(zt,RU n p.2)
  |_=>zn
theorem Np{P:Program}:∀ {d:Nat} {t:TypeId} {c:Ty},Lp P d t=zo (zf,c)->(∃ k,c=.int k)\/c=.bool\/c=.str \/ ∃ g e,c=.sl g e
 |0,t,c,h=>by cases h
 |d+1,t,c,h=>by
  unfold Lp at h;split at h
  ·grind
  ·simp_all
  ·simp_all
  ·grind
  all_goals simp_all
structure Cells (w:World) (c:Ty) (x:c.den) (ps:List PV) (cs:List Value):Prop where
 dp:DP c x ps
 ok:Ri c x
 len:ps.length=cs.length
 wd:cs.length=c.wd
 rep:∀ (i:Nat) p v,ps[i]?=zo p->cs[i]?=zo v->Rep (D7 w) mu0 p v
 one:∀ v∈cs,v.oneCell'=zt
theorem Cells.pair{w:World}{f g:Ty}{l:f.den}{m:g.den}{e h:List PV}{j k:List Value}(a:Cells w f l e j)(b:Cells w g m h k):Cells w (.pair f g) (l,m) (e++h) (j++k):=by
 refine⟨⟨e,h,rfl,a.dp,b.dp⟩,⟨a.ok,b.ok⟩,by simp only[bH,a.len,b.len],by rw[bH,a.wd,b.wd];rfl,λi p v c d=> ?_,λv hv=> ?_⟩
 ·by_cases hi:i<e.length
  ·rw[bF hi]at c;rw[bF (by rw[<- a.len];exact hi)]at d;exact a.rep i p v c d
  ·rw[ba (by omega)]at c;rw[ba (by rw[<- a.len];omega),<- a.len]at d;exact b.rep _ p v c d
 ·rcases an.1 hv with hv|hv
  ·exact a.one v hv
  ·exact b.one v hv
theorem Cells.ep{w:World}{d:Nat}{P:Program}{t:TypeId}{g:Bool}{c:Ty}(hc:Lp P d t=zo (g,c)){x:c.den}{a:List PV}{cs:List Value}(h:Cells w c x a cs):∃ e,EP g (DP c) x e/\e.cells=a:=by
 cases g with
 |true=>exact⟨.agg a,⟨a,rfl,h.dp⟩,rfl⟩
 |false=>
  rcases Np hc with⟨k,rfl⟩|rfl|rfl|⟨g,e,rfl⟩
  ·have:=h.dp;exact⟨.int k x,rfl,this.symm⟩
  ·have:=h.dp;exact⟨.bool x,rfl,this.symm⟩
  ·have:=h.dp;exact⟨.str x,rfl,this.symm⟩
  ·obtain⟨p,i,b⟩:=h.dp;refine⟨p,⟨p,rfl,b⟩,?_⟩;rw[i];rcases b with⟨rfl,_⟩|⟨f,es,rfl,_⟩<;>rfl
section
variable{H:Type}{enc:TypeId×Value->H}{P:Program}{w:World}
theorem NK{a:Addr}(b:a.spot=zn)(n:Nat):a.add n=⟨a.block,a.off+n,zn⟩:=by
 unfold Addr.add;split
 ·rename_i h;subst h;cases a;simp_all
 ·rfl
theorem OK{a:Addr}{v:Value}(h:w.cell? a=zo v):a.spot=zn:=by
 unfold World.cell? at h;split at h<;>simp_all
theorem EU(K:Kids P (· < P.types.size)):∀ (D:Nat) {t:TypeId} {g:Bool} {c:Ty},Lp P D t=zo (g,c)->t<P.types.size -> ∀ {N:Nat} {cs:List Value} {y:DataW H×List MemPlace},DataW.trod enc P w 0 (λ_=>zt) zt N t cs=zo y -> ∃ x B,Cells w c x B cs
 |0,t,g,c,hc,_,_,_,_,_=>by cases hc
 |D+1,t,g,c,hc,ht,N,cs,y,h=>by
  unfold Lp at hc;split at hc
  ·rename_i k C;cases hc;obtain⟨n,rfl,_,hw⟩:=DataW.trod_int C h;exact⟨n,[.int k n],rfl,hw,rfl,rfl,λi p v d l=>by cases i<;>simp at d l;subst d;subst l;exact .int _ _ _,λv A=>by simp at A;subst A;rfl⟩
  ·rename_i C;cases hc;obtain⟨b,rfl,_⟩:=DataW.trod_bool C h;exact⟨b,[.bool b],rfl,trivial,rfl,rfl,λi p v d l=>by cases i<;>simp at d l;subst d;subst l;exact .bool _ _,λv A=>by simp at A;subst A;rfl⟩
  ·rename_i C;cases hc;obtain⟨s,rfl,_,hs⟩:=DataW.trod_string C h;exact⟨s.data.toList,[.str s.data.toList],rfl,(by show s.data.toList.length<=maxLen;simpa using hs),rfl,rfl,λi p v d l=>by cases i<;>simp at d l;subst d;subst l;exact .str _ _,λv A=>by simp at A;subst A;rfl⟩
  ·rename_i e C;split at hc
   ·rename_i ge ce I;replace hc:=AK hc;obtain⟨hwd,hc⟩:=hc;cases hc;have hwd:0<ce.wd:=by simp_all
    have W:=K.slice ht C;rcases DataW.trod_slice C h with⟨rfl,_⟩|⟨a,len,cap,F,rest,n,_,rfl,_,_,hlc,hcm,hel,hels,_,_⟩
    ·exact⟨[],[.nils],⟨_,rfl,.inl ⟨rfl,rfl⟩⟩,⟨bD _,λ_ h=>by cases h⟩,rfl,rfl,λi p v d l=>by cases i<;>simp at d l;subst d;subst l;exact .nils _,λv A=>by simp at A;subst A;rfl⟩
    ·
     have M:∀ i,i<len -> ∃ x B cs,Cells w ce x B cs/\(∀ (j:Nat),j<cs.length->w.cell? ((a.add (i*P.cellsOf e)).add j)=cs[j]?)/\cs.length=P.cellsOf e:=λi hi=>by
      have d:=hels i hi;rw[show F[i]?=zo F[i] by grind]at d;cases hcs:w.cells? 0 (a.add (i*P.cellsOf e)) (P.cellsOf e)with
      |none=>simp_all
      |some cs=>
       rw[hcs]at d;obtain⟨x,B,E⟩:=EU K D I W (show DataW.trod enc P w 0 (λ_=>zt) zt n e cs=zo _ from d);obtain⟨_,hl,q⟩:=World.cells?_some hcs
       grind
     by_cases h0:len=0
     ·subst h0;exact⟨[],[.lst zf []],⟨_,rfl,.inr ⟨_,_,rfl,.nil⟩⟩,⟨bD _,λ_ h=>by cases h⟩,rfl,rfl,λi p v d l=>by cases i<;>simp at d l;subst d;subst l;exact .lst0 _ _ _ _ (λh=>by cases h),λv A=>by simp at A;subst A;rfl⟩
     ·have U:a.spot=zn:=by
       obtain⟨x,B,cs,E,q,hl⟩:=M 0 (by omega);have O:=E.wd;have:=q 0 (by omega);rw[show cs[0]?=zo cs[0]from by simp]at this;have hs:=OK this;simpa[Addr.add]using hs
      have all:∀ m,m<=len -> ∃ (xs:List ce.den) (es:List PV) (vs:List (List Value)),xs.length=m/\es.length=m/\vs.length=m/\L2 (EP ge (DP ce)) xs es/\(∀ x∈xs,Ri ce x) /\
        ∀ (i:Nat) z u,es[i]?=zo z->vs[i]?=zo u->z.cells.length=u.length/\u.length=P.cellsOf e/\(∀ (j:Nat) p v,z.cells[j]?=zo p->u[j]?=zo v->Rep (D7 w) mu0 p v/\v.oneCell'=zt/\w.cell? ((a.add (i*P.cellsOf e)).add j)=zo v):=by
       intro m
       induction m with
       |zero=>exact λ_=>⟨[],[],[],rfl,rfl,rfl,.nil,(λ_ h=>by cases h),λi z u h=>by simp at h⟩
       |succ m ih=>
        intro hm;obtain⟨xs,es,vs,l1,l2,l3,hl,hok,hr⟩:=ih (by omega);obtain⟨x,B,cs,E,q,hlc⟩:=M m (by omega);obtain⟨e1,he1,he2⟩:=E.ep I;refine⟨xs++[x],es++[e1],vs++[cs],by simp[l1],by simp[l2],by simp[l3],hl.append (.cons he1 .nil),λy hy=> ?_,λi z u d l=> ?_⟩
        ·rcases an.1 hy with hy|hy
         ·grind
         ·simp at hy;subst hy;exact E.ok
        ·by_cases hi:i<m
         ·rw[bF (by omega)]at d l;exact hr i z u d l
         ·have him:i=m:=by
           have:=(ab.1 d).1;simp[l2]at this;omega
          subst him;rw[ba (by omega),l2]at d;rw[ba (by omega),l3]at l;simp at d l;subst d;subst l;refine⟨by rw[he2,E.len],hlc,λj p v d l=> ?_⟩;rw[he2]at d;have hj:=(ab.1 l).1;exact⟨E.rep j p v d l,E.one v (bV l),by grind⟩
      obtain⟨xs,es,vs,l1,l2,l3,hl,hok,hr⟩:=all len (ad _)
      have S:∀ (i:Nat) (z:PV),es[i]?=zo z -> ∃ u,vs[i]?=zo u:=λi z d=>by
       have:=(ab.1 d).1;exact⟨vs[i]'(by omega),by simp[show i<vs.length by omega]⟩
      have q:∀ (i:Nat) (z:PV) (j:Nat) (p:PV),es[i]?=zo z->z.cells[j]?=zo p -> ∃ v,((vs.getD i []).getD j .nilIface)=v/\Rep (D7 w) mu0 p v/\v.oneCell'=zt/\w.cell? ⟨a.block,a.off+i*P.cellsOf e+j,zn⟩=zo v:=λi z j p d l=>by
       obtain⟨u,h3⟩:=S i z d;obtain⟨Y,Z,k3⟩:=hr i z u d h3;have hj:=(ab.1 l).1;have A:u[j]?=zo (u[j]'(by omega)):=by simp[show j<u.length by omega]
       obtain⟨q1,q2,q3⟩:=k3 j p _ l A;rw[NK U]at q3;rw[NK rfl]at q3;exact⟨_,by simp[List.getD_eq_getElem?_getD,h3,A],q1,q2,q3⟩
      refine⟨xs,[.lst zf es],⟨_,rfl,.inr ⟨_,_,rfl,hl⟩⟩,⟨by omega,hok⟩,rfl,rfl,λi p v d l=> ?_,λv A=>by simp at A;subst A;rfl⟩;cases i with
      |succ i=>simp at d
      |zero=>
       simp at d l;subst d;subst l;have ea:a=⟨a.block,a.off,zn⟩:=by cases a;grind
       rw[ea,show len=es.length from l2.symm];refine .lst _ _ es a.block a.off (P.cellsOf e) cap (λi j=>(vs.getD i []).getD j .nilIface) (λh=>by cases h) (by omega) (λi z d=> ?_) (λi z j p d l=> ?_) (λi z j p d l=> ?_) (λi z j p d l=> ?_)
       ·obtain⟨u,h3⟩:=S i z d;obtain⟨Y,Z,_⟩:=hr i z u d h3;omega
       ·obtain⟨v,e1,_,_,e4⟩:=q i z j p d l;simp only[D7,if_true,e4,e1]
       ·obtain⟨v,e1,_,e3,_⟩:=q i z j p d l
        grind
       ·obtain⟨v,e1,e2,_,_⟩:=q i z j p d l
        grind
   ·cases hc
  ·rename_i fs C;obtain⟨u,hgo,E⟩:=Pi.AA hc;cases E;obtain⟨xs,n,_,_,O,hxs,hf⟩:=DataW.trod_struct C h;obtain⟨hty,J,hoff⟩:=K.struct ht C
   have go:∀ (r o:List Field) (u:Ty),fs.toList=o++r->Qa (Lp P D) r=zo u -> ∃ x B,Cells w u x B ((cs.drop ((o.map λf=>P.cellsOf f.type).sum)).take ((r.map λf=>P.cellsOf f.type).sum)):=by
    intro r
    induction r with
    |nil=>
     intro o u _ hg;cases hg;exact⟨(),[],rfl,trivial,by simp,by simp[Ty.wd],λi p v d=>by simp at d,λv A=>by simp at A⟩
    |cons f r ih=>
     intro o u hfs hg
     have hfi:fs[o.length]?=zo f:=by
      rw[<- Array.getElem?_toList,hfs];simp
     have hfi':fs.toList[o.length]?=zo f:=by grind
     have ho:=hoff _ _ hfi';rw[show(fs.toList.take o.length)=o by grind]at ho;have hfe:=hf _ _ hfi
     have hi:o.length<xs.length:=by
      grind
     rw[show xs[o.length]?=zo xs[o.length] by simp[hi],ho]at hfe;have htf:=hty f (by grind)
     have htot:cs.length=((o.map λf=>P.cellsOf f.type).sum)+(P.cellsOf f.type+(r.map λf=>P.cellsOf f.type).sum):=by
      simp_all
     have X:∀ {g:Bool} {c1:Ty},Lp P D f.type=zo (g,c1) -> ∃ x B,Cells w c1 x B ((cs.drop ((o.map λf=>P.cellsOf f.type).sum)).take (P.cellsOf f.type)):=λd=>EU K D d htf hfe;cases r with
     |nil=>
      have G:(Lp P D f.type).map (·.2)=zo u:=hg;obtain⟨⟨g,c1⟩,d,l⟩:=Pi.AA G
      grind
     |cons f2 r=>
      have G:(match Lp P D f.type,Qa (Lp P D) (f2::r)with
       |some (_,c),zo r=>zo (.pair c r)
       |_,_=>zn)=zo u:=hg
      split at G
      ·rename_i g1 c1 c2 d l;cases G;obtain⟨x1,p1,Y⟩:=X d;obtain⟨x2,p2,Z⟩:=ih (o++[f]) c2 (by grind) l;rw[show(((o++[f]).map λf=>P.cellsOf f.type).sum)=((o.map λf=>P.cellsOf f.type).sum)+P.cellsOf f.type by simp_all]at Z
       have L:(cs.drop ((o.map λf=>P.cellsOf f.type).sum)).take (((f::f2::r).map λf=>P.cellsOf f.type).sum)=(cs.drop ((o.map λf=>P.cellsOf f.type).sum)).take (P.cellsOf f.type)++(cs.drop ((o.map λf=>P.cellsOf f.type).sum+P.cellsOf f.type)).take (((f2::r).map λf=>P.cellsOf f.type).sum):=by
        rw[cB,List.sum_cons,dk,bZ]
       rw[L];exact⟨(x1,x2),p1++p2,Y.pair Z⟩
      ·cases G
   obtain⟨x,B,k⟩:=go fs.toList [] c (by simp) hgo
   grind
  ·rename_i n e C;obtain⟨⟨g',u⟩,I,E⟩:=Pi.AA hc;cases E;obtain⟨W,J⟩:=K.array ht C;obtain⟨xs,m,_,_,O,hxs,hf⟩:=DataW.trod_array C h
   have X:∀ i,i<n -> ∃ x B,Cells w u x B ((cs.drop (i*P.cellsOf e)).take (P.cellsOf e)):=λi hi=>by
    have:=hf i hi;rw[show xs[i]?=zo (xs[i]'(by omega)) by simp_all]at this;exact EU K D I W this
   have go:∀ k i,i+k=n -> ∃ x B,Cells w (RU k u) x B ((cs.drop (i*P.cellsOf e)).take (k*P.cellsOf e)):=by
    intro k
    induction k with
    |zero=>exact λi _=>⟨(),[],rfl,trivial,by simp,by simp[RU,Ty.wd],λi p v d=>by simp at d,λv A=>by simp at A⟩
    |succ k ih=>
     intro i hi;obtain⟨x1,p1,Y⟩:=X i (by omega);cases k with
     |zero=>exact⟨x1,p1,by rw[show(0+1)*P.cellsOf e=P.cellsOf e by omega];exact Y⟩
     |succ k=>
      obtain⟨x2,p2,Z⟩:=ih (i+1) (by omega);refine⟨(x1,x2),p1++p2,?_⟩;have:=Y.pair Z;rw[Nat.add_mul i 1,Nat.one_mul,<- bZ,<- dk]at this;rw[show(k+1+1)*P.cellsOf e=P.cellsOf e+(k+1)*P.cellsOf e by grind];exact this
   obtain⟨x,B,k⟩:=go n 0 (by omega)
   grind
  ·cases hc
def P3(P:Program)(D:Nat):List TypeId->Option (List (Bool×Ty))
 |[]=>zo []
 |t::ts=>match Lp P D t,P3 P D ts with
  |some p,zo l=>bif af t P.types.size then zo (p::l)else zn
  |_,_=>zn
theorem KZ{D:Nat}{t:TypeId}{g:Bool}{c:Ty}(hc:Lp P D t=zo (g,c)){r:Reach}{b0:Nat}{v:Value}(d:Value.okWide P w r b0 t v):(g=zt /\ ∃ cs,v=.agg cs)\/(g=zf/\v.cells = #[v]):=by
 cases D with
 |zero=>cases hc
 |succ D=>
  unfold Lp at hc;split at hc
  ·rename_i b;cases hc;obtain⟨n,rfl⟩:=okWide_int b d;exact .inr ⟨rfl,rfl⟩
  ·rename_i b;cases hc;obtain⟨n,rfl⟩:=okWide_bool b d;exact .inr ⟨rfl,rfl⟩
  ·rename_i b;cases hc;obtain⟨n,rfl⟩:=okWide_string b d;exact .inr ⟨rfl,rfl⟩
  ·rename_i b;split at hc
   ·replace hc:=AK hc;cases hc.2;obtain⟨a,len,cap,rfl⟩:=okWide_slice b d;exact .inr ⟨rfl,rfl⟩
   ·cases hc
  ·rename_i b;obtain⟨x,_,e⟩:=Pi.AA hc;cases e;obtain⟨cs,rfl,_⟩:=okWide_struct b d
   simp_all
  ·rename_i b;obtain⟨x,_,e⟩:=Pi.AA hc
   grind [Value.okWide]
  ·cases hc
theorem P4(K:Kids P (· < P.types.size)){D:Nat}{t:TypeId}{g:Bool}{c:Ty}(hc:Lp P D t=zo (g,c))(y:t<P.types.size){r:Reach}{b0:Nat}{v:Value}(z:Value.okWide P w r b0 t v){d:DataW H}{q:List MemPlace}(h:DataW.Trod enc P w 0 (λ_=>zt) zt t v d q) :
  ∃ x p,EP g (DP c) x p/\Ri c x/\Rep (D7 w) mu0 p v:=by
 obtain⟨o,h⟩:=h;obtain⟨x,f,k⟩:=EU K D hc y h;rcases KZ hc z with⟨rfl,cs,rfl⟩|⟨rfl,l⟩
 ·refine⟨x,.agg f,⟨f,rfl,k.dp⟩,k.ok,.agg _ _ _ (by have:=k.len;rw[Array.length_toList]at this;exact this) (λi v hi=>k.one v ?_) λi p v b C=>k.rep i p v b ?_⟩
  ·have:cs.toList[i]?=zo v:=by grind
   exact bV this
  ·show cs.toList[i]?=zo v
   grind
 ·obtain⟨e,a,j⟩:=k.ep hc;have s:=k.len;rw[l]at s
  have n:∃ p,f=[p]:=by
   match f,s with
   |[p],_=>simp_all
  obtain⟨p,rfl⟩:=n;refine⟨x,e,a,k.ok,?_⟩
  have m:e=p:=by
   rcases Np hc with⟨A,rfl⟩|rfl|rfl|⟨g,B,rfl⟩
   ·have b:[e]=[PV.int A x]:=a
    simp_all[PV.cells]
   ·have b:[e]=[PV.bool x]:=a
    simp_all[PV.cells]
   ·have b:[e]=[PV.str x]:=a
    simp_all[PV.cells]
   ·obtain⟨F,u,E⟩:=a
    grind [PV.cells]
  subst m;exact k.rep 0 e v rfl (by grind)
theorem Oj(K:Kids P (· < P.types.size)){D:Nat}{r:Reach}{b0:Nat}:∀ {c:List TypeId} {dom:List (Bool×Ty)},P3 P D c=zo dom -> ∀ {vs:List Value} {e:List (DataW H)} {q:List MemPlace},(∀ (j:Nat) t v,c[j]?=zo t->vs[j]?=zo v->Value.okWide P w r b0 t v)->DataW.TrodAll enc P w 0 (λ_=>zt) zt c vs e q ->
  ∃ x b,Dj dom x b/\Rj dom x/\RepL (D7 w) mu0 b vs
 |[],dom,h,vs,e,q,hv,ht=>by
  cases h;obtain⟨rfl,_,_⟩:=trodAll_nil ht;exact⟨(),[],rfl,trivial,.nil _ _⟩
 |t::c,dom,h,vs,e,q,hv,ht=>by
  unfold P3 at h;split at h
  ·rename_i p l m n;replace h:=AK h;obtain⟨u,h⟩:=h;cases h;obtain⟨v,B,d,i,C,E,rfl,rfl,rfl,z,A⟩:=trodAll_cons ht;obtain⟨x,a,e1,e2,e3⟩:=P4 K m (by simp_all) (hv 0 t v rfl rfl) z;obtain⟨y,b,f,k,g⟩:=Oj K n (λj t v o s=>hv (j+1) t v o s) A;cases l with
   |nil=>
    have:b=[]:=f;subst this;exact⟨x,[a],⟨a,rfl,e1⟩,e2,.cons e3 g⟩
   |cons q r=>exact⟨(x,y),a::b,⟨a,b,rfl,e1,f⟩,⟨e2,k⟩,.cons e3 g⟩
  ·cases h
theorem OD(K:Kids P (· < P.types.size))(k:∀ t e,t<P.types.size->P.underlying t=zo (.slice e)->0<P.cellsOf e){w':World}{l:Nat->Bool}:∀ {f:List TypeId} {vs:List Value} {g:List (DataW H)} {a:List MemPlace},(∀ t∈f,t<P.types.size)->DataW.TrodAll enc P w 0 (λ_=>zt) zt f vs g a->(∀ p∈a,w.sameAt w' p)->(∀ p∈a,l p.block=zt)->DataW.TrodAll enc P w' 0 l zt f vs g a
 |[],[],[],_,_,h,_,_=>h
 |_::_,_::_,_::_,_,i,⟨p,q,⟨n,b⟩,c,e⟩,j,hs=>⟨p,q,⟨n,DataW.trod_stays K (λb c=>k _ _ b c) (λh=>by cases h) (i _ (by simp)) b (λx d=>j x (by simp_all)) (λx d=>hs x (by simp_all))⟩,
   OD K k (λt m=>i t (by simp[m])) c (λx d=>j x (by simp_all)) (λx d=>hs x (by simp_all)),e⟩
end
end
section
section
variable{α β γ:Type}
theorem Jt{c:Bool}{p:Prop}[Decidable p](h:c=zt<->p)(x y:Unit->Option β):br c x y=if p then x ()else y ():=by
 unfold br;by_cases a:p
 ·rw[h.2 a,zy a];rfl
 ·have:c=zf:=by cases c with
   |false=>rfl
   |true=>exact absurd (h.1 rfl) a
  rw[this,zx a];rfl
theorem Ry{c:Bool}{p:Prop}[Decidable p](h:c=zt<->p)(k:Unit->Option β):gd c k=if p then k ()else zn:=Jt h k λ_=>zn
theorem UH(a b:Int)(x y:Unit->Option β):br (Tk a b) x y=if a<b then x ()else y ():=Jt (by unfold Tk;simp) x y
theorem UG(a b:Int)(x y:Unit->Option β):br (Tj a b) x y=if a<=b then x ()else y ():=Jt (by unfold Tj;simp) x y
theorem UF(a b:Int)(x y:Unit->Option β):br (Ti a b) x y=if a>b then x ()else y ():=Jt (by unfold Ti;simp) x y
theorem UE(a b:Int)(x y:Unit->Option β):br (SR a b) x y=if a>=b then x ()else y ():=Jt (by unfold SR;simp) x y
theorem UD(a b:Int)(x y:Unit->Option β):br (O3 a b) x y=if a=b then x ()else y ():=Jt (by unfold O3;simp) x y
theorem UI(a b:Int)(x y:Unit->Option β):br (SS a b) x y=if a=b then y ()else x ():=by
 rw[Jt (p:=a≠b) (by unfold SS;simp)];by_cases h:a=b<;>simp[h]
theorem TZ(c:Bool)(x y:Unit->Option β):br (Hl c) x y=br c y x:=by unfold br Hl;cases c<;>rfl
theorem UL(c:Bool)(x y:Unit->Option β):br c x y=if c=zt then x ()else y ():=by unfold br;cases c<;>rfl
theorem TX(a b:Nat)(x y:Unit->Option β):br (neq a b) x y=if a=b then x ()else y ():=Jt (by unfold neq;simp) x y
theorem TY(a b:Nat)(x y:Unit->Option β):br (KW a b) x y=if a<b then x ()else y ():=Jt (by unfold KW;exact iff_of_eq bR) x y
theorem TB(x y:Unit->Option β):br zt x y=x ():=rfl
theorem Sd(x y:Unit->Option β):br zf x y=y ():=rfl
theorem TW(x:α)(k:α->Option β):bd (zo x) k=k x:=rfl
theorem Tc(a b:Nat)(k:Unit->Option β):gd (neq a b) k=if a=b then k ()else zn:=Ry (by unfold neq;simp) k
theorem Td(a b:Nat)(k:Unit->Option β):gd (CI a b) k=if a<=b then k ()else zn:=Ry (by unfold CI;simp) k
theorem Te(a b:Nat)(k:Unit->Option β):gd (KW a b) k=if a<b then k ()else zn:=Ry (by unfold KW;exact iff_of_eq bR) k
theorem TI{n:Int}(h:0<=n)(k:Nat->Option β):SW n k=k n.toNat:=by unfold SW;simp[h]
theorem Tq{l:List α}{i:Nat}{x:α}(h:l[i]?=zo x)(k:α->Option β):ix l i k=k x:=by unfold ix;rw[h]
theorem Nh{f:α->Option (LR α β)}{a:α->Prop}{Q:β->Prop}{m:α->Nat}
  (step:∀ s,a s->(∃ s',f s=zo (.nx s')/\a s'/\m s'<m s)\/(∃ x,f s=zo (.dn x)/\Q x)) :
  ∀ (n:Nat) (s:α),a s->m s<n -> ∃ x,IX n f s=zo x/\Q x
 |0,s,_,h=>by omega
 |n+1,s,hi,h=>by
  unfold IX;rcases step s hi with⟨s',e,b,d⟩|⟨x,e,c⟩
  ·rw[e];exact Nh step n s' b (by omega)
  ·rw[e];exact⟨x,rfl,c⟩
theorem Sw{f:α->Option (LR α β)}(a:α->Prop)(Q:β->Prop)(m:α->Nat){s:α}(hs:a s)(b:m s<18446744073709551616)
  (step:∀ s,a s->(∃ s',f s=zo (.nx s')/\a s'/\m s'<m s)\/(∃ x,f s=zo (.dn x)/\Q x)):∃ x,loop f s=zo x/\Q x:=
 Nh step _ s hs b
theorem TE{a b:Int}(h : -9223372036854775808<=a+b/\a+b<=9223372036854775807):So .i64 a b=a+b:=IntWalk.i64_in _ h
theorem TG{a b:Int}(h : -9223372036854775808<=a-b/\a-b<=9223372036854775807):Ss .i64 a b=a-b:=IntWalk.i64_in _ h
theorem TF{a b:Int}(h : -9223372036854775808<=a*b/\a*b<=9223372036854775807):Sp .i64 a b=a*b:=IntWalk.i64_in _ h
end
end
end Go.Proofs.YtfceigpbgndbgaaGreatDoor.Sv
