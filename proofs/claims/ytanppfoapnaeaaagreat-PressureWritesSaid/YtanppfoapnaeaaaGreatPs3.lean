/- A part of the evaluator over typed open values for any program, and of the proof that it is sound. No condition. -/
import Derived.Test.YtanppfoapnaeaaaGreatPs2
import Derived.RowKit3
import Derived.WalkKit
import Derived.ProofKit
import Derived.OpenShut
import Derived.ReadAgain
import Derived.ChangeStays
import Derived.IntWalk
set_option linter.all false
open List renaming any_eq_false->aH, append_nil->aO, cons_append->aY, drop_drop->bL, getElem?_append_left->bH, getElem?_append_right->bf, getElem?_eq_some_iff->ab, length_append->bm, length_cons->aV, map_cons->cC, mem_append->ao, mem_append_left->ak, mem_append_right->aj, mem_cons->ae, mem_cons_of_mem->aw, mem_of_getElem?->cF, mem_of_mem_drop->cG, mem_of_mem_take->cI, mem_singleton->ax, nil_append->bT, sum_append->dg, take_add->du
open Nat renaming add_assoc->aI, add_mul->aF, add_right_cancel->aM, beq->aa, ble->af, blt->ah, blt_eq->bW, eq_of_beq_eq_true->al, le_add_left->aU, le_of_ble_eq_true->aq, le_refl->ac, le_trans->ay, not_lt->bw, zero_le->bF
open Option renaming getD_some->aC, isSome_none->cL, map_some->ap
open Bool renaming and_eq_true->ai, cond_eq_ite->aA, not_eq_false'->az, not_eq_true'->bh, not_true->au, or_eq_false_iff->am, or_eq_true->bE, or_self->aL
namespace Go.Proofs.YtanppfoapnaeaaaGreat.Sv
section
variable[Pi.Gl]
open Pi (PV T Hp Blk DF UM PE AN AT AB AX Ao)
theorem IY{X:Cx}:∀ {args:List V} {c:List PV} {i:Nat} {t:T V} {b:T PV},VRL X args c->TR X t b->i+args.length<=1048575->TR X (Gm i args t) (Pi.Bl i c b)
 |[],c,i,t,b,hv,ht,_=>by
  rw[hv.nil_inv];exact ht
 |a::l,c,i,t,b,hv,ht,hb=>by
  obtain⟨p,g,rfl,e,f⟩:=hv.cons_inv;simp only[aV]at hb;show TR X (Gm (i+1) l (T.put 20 t i a)) (Pi.Bl (i+1) g (T.put 20 b i p));exact IY f (ht.put (d:=i) (by omega) e) (by omega)
theorem VRL.len{X:Cx}{vs:List V}{a:List PV}(h:VRL X vs a):a.length=vs.length:=h.length.symm
theorem CX{X:Cx}{nt:Nat}(h:nt<1048575):∀ {l:List Nat} {args:List V} {f:List PV} {t g:T V} {c:T PV},VRL X args f->TR X t c->ER nt l args t=some g -> ∃ b,Pi.Bx nt l f c=some b/\TR X g b
 |[],[],f,t,g,c,hv,ht,e=>by
  rw[hv.nil_inv];cases e;exact⟨c,rfl,ht⟩
 |p::l,a::args,f,t,g,c,hv,ht,e=>by
  obtain⟨q,r,rfl,j,k⟩:=hv.cons_inv;unfold ER at e;replace e:=AK e;obtain⟨i,e⟩:=e;have m:p<nt:=by simpa using i
  obtain⟨b,n,o⟩:=CX h k (ht.put (d:=p) (by omega) j) e;exact⟨b,by rw[Pi.Bx,i];exact n,o⟩
 |[],_::_,_,_,_,_,_,_,e=>by cases e
 |_::_,[],_,_,_,_,_,_,e=>by cases e
section
variable{P:Program}{tab:D8}{rec:Hv}
theorem FN{β:Type}{x:β}{X:Cx}{h:H}{n:Nat}(r:RH X h n){t:T V}{z:T PV}(d:TR X t z):∀ {l:List ResultVar} {K:List V->Option β},JR P h t l K=some x -> ∃ vs b,K vs=some x/\Pi.Ip P X.h z l=some b/\VRL X vs b
 |[],K,e=>⟨[],[],e,rfl,.nil⟩
 |.tmp k::l,K,e=>by
  unfold JR at e;replace e:=AD e;obtain⟨v,o,e⟩:=e;obtain⟨p,i,c⟩:=d _ _ o;obtain⟨vs,b,e,f,g⟩:=FN r d e;exact⟨v::vs,p::b,e,by simp[Pi.Ip,Pi.Pu,i,f],.cons c g⟩
 |.cell a ty::l,K,e=>by
  unfold JR at e;split at e
  ·rename_i j off o;obtain⟨p,i,c⟩:=d _ _ o;split at e
   ·rename_i cs fz L B;replace e:=AD e;obtain⟨v,s,e⟩:=e;obtain⟨pid,m,b,A,C,I,D,J,E⟩:=r.blk _ _ B;simp only[VR]at c;obtain⟨y,M,w,rfl⟩:=c;rw[C]at w;cases w;obtain⟨q,F,G⟩:=Bd (E.drop off) s;obtain⟨vs,u,e,f,g⟩:=FN r d e;exact⟨v::vs,q::u,e,by simp[Pi.Ip,Pi.Pu,i,D,F,f],.cons G g⟩
   ·cases e
  ·cases e
theorem F8 {X : Cx} {fn : Func} {tP : T PV} {ps : List PV} (h1 : Pi.Ip P X.h tP fn.results.toList = some ps) : ∀ {vs : List V}, VRL X vs ps -> ∃ pv, Pi.results P fn X.h tP = some pv /\ VR X (match vs with
            |[v]=>v
            |vs=>.tup vs) pv:=by
          intro vs h2;unfold Pi.results;rw[h1]
          match vs,ps,h2 with
          |[],[],_=>exact⟨.tup [],rfl,by simp only[VR];exact⟨[],rfl,.nil⟩⟩
          |[v],[p],h2=>exact⟨p,rfl,by obtain⟨_,_,h,h3,_⟩:=h2.cons_inv;cases h;exact h3⟩
          |a :: b :: c,p :: q :: s,h2=>exact⟨.tup (p :: q :: s),rfl,by simp only[VR];exact⟨_,rfl,h2⟩⟩
          |[],_ :: _,h2=>cases h2.nil_inv
          |_ :: _,[],h2=>obtain⟨_,_,h,_⟩:=h2.cons_inv;cases h
          |[_],_ :: _ :: _,h2=>obtain⟨_,_,h,_,h3⟩:=h2.cons_inv;cases h;cases h3.nil_inv
          |_ :: _ :: _,[_],h2=>obtain⟨_,_,h,_,h3⟩:=h2.cons_inv;cases h;obtain⟨_,_,h,_⟩:=h3.cons_inv;cases h
theorem HK{X:Cx}{u:UMA}{uP:UM}(h:UMR X (some u) (some uP)):UMR X (some (Na u)) (some (Pi.Ka uP)):=by
 cases u with
 |ret=>
  have:some uP=some UM.ret:=h;cases this;exact h
 |pan d=>
  obtain⟨c,g,e⟩:=h;cases g;cases d with
  |nil=>rw[L2.nil_inv e];exact⟨[],rfl,.nil⟩
  |cons a d=>
   obtain⟨⟨k,br⟩,t,rfl,f,i⟩:=L2.cons_inv e;obtain⟨j,b⟩:=a;have:b=br:=f.2;subst this;cases b with
   |true=>rfl
   |false=>exact⟨_,rfl,.cons f i⟩
theorem OE(R:RecAOK P tab rec){fn:Func}{β:Type}{x:β}:∀ {n:Nat} {ds:List DFA} {u:UMA} {t:T V} {h:H} {nx:Nat} {K:OutA->H->Nat->Option β},EH P rec fn β n ds u t h nx K=some x ->
  ∀ {X:Cx} {b bP:Nat} {G:List DF} {uP:UM} {tP:T PV},RH X h nx->nx<=1048575->L2 (DFR X) ds G->UMR X (some u) (some uP)->TR X t tP->b<=nx->bP<=X.h.nx ->
   ∃ o h' w Y D s,K o h' w=some x/\(∃ N,∀ m F k,N<=m->N<=F->N<=k->Pi.leave P (Pi.B3 P (Ad tab) F k) fn m G uP tP X.h=some (D,s))/\Run b bP X h nx Y h' w s/\L0 Y o D:=by
 intro n
 induction n with
 |zero=>intro ds u t h nx K e;cases e
 |succ n ih=>
  intro ds u t h nx K e X b bP G uP tP r M C hu ht L y;unfold EH at e;split at e
  ·have:=L2.nil_inv C;subst this;split at e
   ·have:some uP=some UM.ret:=hu;cases this;replace e:=FN r ht e;obtain⟨vs,ps,e,A,B⟩:=e;obtain⟨pv,O,k2⟩:=F8 A B;refine⟨_,h,nx,X,.ret pv,X.h,e,⟨1,λm F k hm _ _=> ?_⟩,⟨rfl,r,M,ac _,Ext.refl _ _ _ _⟩,⟨pv,rfl,k2⟩⟩;obtain⟨m,rfl⟩:∃ z,m=z+1:=⟨m-1,by omega⟩;unfold Pi.leave;rw[O]
   ·obtain⟨c,A,B⟩:=hu;cases A;refine⟨_,h,nx,X,.pan c,X.h,e,⟨1,λm F k hm _ _=> ?_⟩,⟨rfl,r,M,ac _,Ext.refl _ _ _ _⟩,⟨c,rfl,B⟩⟩;obtain⟨m,rfl⟩:∃ z,m=z+1:=⟨m-1,by omega⟩;rfl
  ·rename_i id ds';obtain⟨dP,E,rfl,A,B⟩:=L2.cons_inv C;obtain⟨pid,m0,O,rfl⟩:=A;split at e
   ·rename_i l hg;obtain⟨pid',z,q,b1,b2,b3,b4⟩:=r.blk _ _ hg;rw[O]at b1;cases b1;cases q with
    |none=>exact b4.elim
    |some lP=>
     simp only at b4;obtain⟨hq,e1⟩:=BM X.h pid (.df none);obtain⟨Y,y1,y2,y3,y4,y5⟩:=r.set (b':=.df none) (by have:=r.dom _ _ O;omega) hg trivial rfl O b3 (λ_ _ _ _ _ _ _ _=>by simp) e1 (λY z1 z2 z3 u=>⟨pid,m0,none,O,by rw[z3];exact b2,by rw[z2,(Hp.get_set e1).1,if_pos rfl],trivial⟩) X.h.nx;have u:=(y5 nx).up;obtain⟨o,h',w,Z,D,s,S,⟨N,U⟩,d,W⟩:=ih e (b:=b) (bP:=bP) y4 M ((b4.append B).mono λ_ _ k=>k.mono u) (hu.mono u) (ht.mono u) L (by rw[y2,(Hp.get_set e1).2];exact y);refine⟨o,h',w,Z,D,s,S,⟨N+1,λm F k hm hF hk=> ?_⟩,⟨d.hp,d.rh,d.big,d.le,((y5 nx).ext L y).trans d.ext⟩,W⟩;obtain⟨m,rfl⟩:∃ z,m=z+1:=⟨m-1,by omega⟩;rw[Pi.leave];simp only[b3,e1];rw[<- y2];exact U m F k (by omega) (by omega) (by omega)
   ·cases e
  ·rename_i b0 ats ty0 args ds';obtain⟨dP,E,rfl,A,B⟩:=L2.cons_inv C;obtain⟨ps,rfl,h3⟩:=A;split at e
   ·rename_i j ty hty;obtain⟨p,qs,rfl,h4,h5⟩:=h3.cons_inv;have:=h5.nil_inv;subst this;split at e
    ·rename_i kt et kk g c l hu1 hg;simp only[VR]at h4;obtain⟨pid,m,hpi,rfl⟩:=h4;have hbr:=r.blk _ _ hg;rw[hpi]at hbr;obtain⟨_,_,es,k2,k3,k4,k6⟩:=hbr;cases k2;obtain⟨hP1,Y,e1,y1⟩:=r.mapSet M hg hpi k4 (l':=[]) (es':=[]) .nil;obtain⟨z1,z2,z3⟩:=y1 nx X.h.nx;have u:=z3.up;obtain⟨o,h',w,Z,D,s,S,⟨N,U⟩,d,W⟩:=ih e (b:=b) (bP:=bP) z2 M (B.mono λ_ _ k=>k.mono u) (hu.mono u) (ht.mono u) L (by rw[z3.nx];exact y);refine⟨o,h',w,Z,D,s,S,⟨N+1,λm F k hm hF hk=> ?_⟩,⟨d.hp,d.rh,d.big,d.le,(z3.ext L y).trans d.ext⟩,W⟩;obtain⟨m,rfl⟩:∃ z,m=z+1:=⟨m-1,by omega⟩;rw[Pi.leave];simp only[Pi.AH,hty,hu1,k4,e1,ap];rw[<- z1];exact U m F k (by omega) (by omega) (by omega)
    ·cases e
   ·cases e
  ·rename_i f args ds';obtain⟨dP,E,rfl,A,B⟩:=L2.cons_inv C;obtain⟨fP,ps,rfl,h3,h4⟩:=A;split at e
   ·rename_i g a b';simp only[VR]at h3;obtain⟨aP,bP',rfl,h5,h6⟩:=h3;obtain⟨g',as,qs,e1,hinv,I⟩:=EF h5 h6 h4 e;obtain⟨o',up',h',w,Y,D,upP',s,e2,⟨N1,hN1⟩,i,ho,J⟩:=R.fn e1 r M I hu;have hup:=i.ext.full r (ac _);split at e2
    ·rename_i v u';obtain⟨vP,rfl,hv⟩:=ho;cases upP' with
     |none=>cases u' with
      |ret=>cases J
      |pan=>obtain⟨_,h,_⟩:=J;cases h
     |some uP'=>
      obtain⟨o,h'',nx'',Z,D,hP'',S,⟨N,U⟩,d,W⟩:=ih e2 (b:=b) (bP:=bP) i.rh i.big (B.mono λ_ _ k=>k.mono hup) (HK J) (ht.mono hup) (ay L i.le) (ay y i.ext.nx);refine⟨o,h'',nx'',Z,D,hP'',S,⟨max N N1+1,λm F k hm hF hk=> ?_⟩,⟨d.hp,d.rh,d.big,ay i.le d.le,(i.ext.le L y).trans d.ext⟩,W⟩;obtain⟨m,rfl⟩:∃ z,m=z+1:=⟨m-1,by omega⟩;rw[Pi.leave];simp only[hinv,hN1 F k (by omega) (by omega)];rw[<- i.hp];exact U m F k (by omega) (by omega) (by omega)
    ·cases e2
   ·cases e
theorem TR.lf(X:Cx):TR X .lf .lf:=λk v e=>by cases e
theorem Ey{β:Type}{x:β}{X:Cx}{h:H}{nx l lP m b bP:Nat}{a:Option Code}{K:OutA->Option UMA->H->Nat->Option β}(r:RH X h nx)(B:nx<=1048575)(A:X.π l=some (.blk lP m))(e:Cg h nx l a K=some x) :
  ∃ o n h' Y u c k,K o n h' nx=some x/\Pi.A7 X.h lP a=some (u,c,k)/\Run b bP X h nx Y h' nx k/\L0 Y o u/\UMR Y n c:=by
 unfold Cg at e;split at e
 ·rename_i U S nt t y q i d z;have w:=r.blk _ _ z;obtain⟨pid,P,E,s,O,C,J,D,L,M,N⟩:=w;rw[A]at C;cases C
  have f:∀ p:Nat,K (.ret (.bool a.isNone)) none (AG h l (.lp p a nt t y q i d)) nx=some x->(∀ g,X.h.set lP (.lp p a nt E y q i s)=some g->Pi.A7 X.h lP a=some (.ret (.bool a.isNone),none,g)) ->
    ∃ o n h' Y u c k,K o n h' nx=some x/\Pi.A7 X.h lP a=some (u,c,k)/\Run b bP X h nx Y h' nx k/\L0 Y o u/\UMR Y n c:=λp e1 e2=>by
   obtain⟨g,es⟩:=BM X.h lP (.lp p a nt E y q i s);obtain⟨Z,W,F,z3,z4,G,I⟩:=r.setLp B z A D es b bP;exact⟨_,_,_,Z,.ret (.bool a.isNone),none,g,e1,e2 _ es,⟨F,G,B,ac _,I⟩,⟨_,rfl,by simp[VR]⟩,rfl⟩
  unfold Pi.A7 at f ⊢;simp only[D]at f ⊢;cases a with
  |none=>exact f 0 e λg es=>by rw[es]
  |some j=>exact f 2 e λg es=>by rw[es]
 ·cases e
theorem Pk{β:Type}{x:β}{X:Cx}{h:H}{n:Nat}(r:RH X h n)(G:n<=1048575){p:Pi.Pr}{args:List V}{D:List PV}(s:VRL X args D){K:V->H->Option β}(e:Pj P p args h K=some x) :
  ∃ v h' q d Y,K v h'=some x/\Pi.ON P p D X.h=some (q,d)/\FQ X h n n X.h.nx h' d Y/\VR Y v q:=by
 have same:FQ X h n n X.h.nx h X.h X:=⟨rfl,r,St.refl _ _ _ _⟩;unfold Pj at e;split at e
 ·split at e
  ·rename_i u a v b;replace e:=AK e;obtain⟨F,e⟩:=e;obtain⟨B,o,rfl,f,k⟩:=s.cons_inv;obtain⟨C,o,rfl,j,l⟩:=k.cons_inv;rw[l.nil_inv];simp only[VR]at f j;obtain⟨_,rfl,rfl⟩:=f;obtain⟨_,rfl,rfl⟩:=j;refine⟨_,h,.bool true,X.h,X,e,?_,same,by simp[VR]⟩;simp only[Pi.ON,Pi.SO,F,cond_true,ap]
  ·cases e
 ·split at e
  ·obtain⟨B,o,rfl,f,k⟩:=s.cons_inv;obtain⟨C,o,rfl,j,l⟩:=k.cons_inv;rw[l.nil_inv];simp only[VR]at f;subst f;exact⟨_,h,.bool false,X.h,X,e,rfl,same,by simp[VR]⟩
  ·rename_i u a N id off;replace e:=AD e;obtain⟨L,A,e⟩:=e;obtain⟨B,o,rfl,f,k⟩:=s.cons_inv;obtain⟨C,o,rfl,j,l⟩:=k.cons_inv;rw[l.nil_inv];simp only[VR]at f j;obtain⟨O,rfl,i⟩:=f;obtain⟨S,rfl,pid,m,w,rfl⟩:=j;replace e:=BU e;rcases e with⟨z,e⟩|⟨z,e⟩
   ·split at e
    ·rename_i y;have g:=i;simp only[VR]at i;obtain⟨cs,rfl,t⟩:=i;obtain⟨c,E,rfl,M,J⟩:=t.cons_inv;rw[J.nil_inv]at g ⊢;obtain⟨h',d,Y,e1,e2,e3⟩:=JX r G (a:=.ptr id off) (by simp only[VR];exact⟨pid,m,w,rfl⟩) g n X.h.nx e;refine⟨_,h',.bool true,d,Y,e1,?_,e3,by simp[VR]⟩;simp only[Pi.ON,Pi.Rg,A,z,cond_true,e2,ap]
    ·cases e
   ·replace e:=AK e;obtain⟨I,e⟩:=e;refine⟨_,h,.bool false,X.h,X,e,?_,same,by simp[VR]⟩;simp only[Pi.ON,Pi.Rg,A,z,I,cond_true,cond_false,ap]
  ·cases e
 ·cases e
theorem H6(T:TabOK P tab)(D:DrawnAOK P tab){ann:Hu}{F0:Nat}:∀ n,RecAOK P tab (Mz P tab ann F0 n)
 |0=>⟨λe=>(by cases e),λe=>(by cases e)⟩
 |n+1=>by
  have R:=H6 T D (ann:=ann) (F0:=F0) n;constructor
  ·intro β x f up args h nx K e X upP J r hn ha hu;simp only[Mz]at e;split at e
   ·rename_i p hpr;split at e
    ·obtain⟨v,h',q,k,Y,e1,e2,⟨y1,y2,y3⟩,e4⟩:=Pk r hn ha e;have I:upP=none:=by simpa[UMR]using hu
     subst I;refine⟨.ret v,none,h',nx,Y,.ret q,none,k,e1,⟨1,λa d E s=> ?_⟩,⟨y1,y2,hn,ac _,y3.ext (ac _) (ac _)⟩,⟨_,rfl,e4⟩,rfl⟩;obtain⟨d,rfl⟩:∃ m',d=m'+1:=⟨d-1,by omega⟩;rw[Pi.B3];simp only[Pi.QR,hpr,e2,ap]
    ·cases e
   rename_i hpr;replace e:=AD e;obtain⟨U,hf,e⟩:=e;replace e:=AD e;obtain⟨c,hc,e⟩:=e;replace e:=AK e;obtain⟨hb,e⟩:=e;have hb2:=hb;simp only[ai]at hb2;have hlen:args.length<=U.ntmps:=aq hb2.1;have hnt:U.ntmps<1048575:=by simpa using hb2.2
   have hlP:J.length=args.length:=VRL.len ha;obtain⟨ex,F,h',w,Y,M,C,k,L,⟨N,q2⟩,y,q4,q5⟩:=MI R T D F0 c e (fp:={ t:=Pi.Bl 0 J .lf,nt:=U.ntmps,ds:=[],up:=upP,ro:=none }) r hn ⟨IY ha (TR.lf X) (by omega),rfl,hnt,.nil,hu,rfl⟩ (ac _) (ac _)
   have go:∀ {u:UMA} {uP:UM} {o:OutA->H->Nat->Option β},EH P (Mz P tab ann F0 n) U β F0 F.ds u F.t h' w (λo h nx=>K o F.up h nx)=some x->UMR Y (some u) (some uP) ->
     (∀ a d,N<=a->N<=d -> ∀ {A:Pi.Out} {hP:Hp},Pi.leave P (Pi.B3 P (Ad tab) a d) U a C.ds uP C.t k=some (A,hP)->Pi.B3 P (Ad tab) a (d+1) (.fn f) upP J X.h=some (A,C.up,hP)) ->
     ∃ o B h' w Y A j k,K o B h' w=some x/\PD P tab (.fn f) upP J X.h (A,j,k)/\Run nx X.h.nx X h nx Y h' w k/\L0 Y o A/\UMR Y B j:=fun {u uP _} e hu hP=>by
    obtain⟨o,S,nx2,Z,A,hP2,c1,⟨N2,c2⟩,c3,c4⟩:=OE R e (b:=w) (bP:=Y.h.nx) y.rh y.big q4.ds hu q4.t (ac _) (ac _);have I:=c3.ext.full y.rh (ac _);refine⟨o,F.up,S,nx2,Z,A,C.up,hP2,c1,⟨max N N2+1,λa d E s=> ?_⟩,⟨c3.hp,c3.rh,c3.big,ay y.le c3.le,y.ext.trans (c3.ext.le y.le y.ext.nx)⟩,c4,q4.up.mono I⟩;obtain⟨d,rfl⟩:∃ m',d=m'+1:=⟨d-1,by omega⟩;refine hP a d (by omega) (by omega) ?_;rw[<- y.hp];exact c2 a a d (by omega) (by omega) (by omega)
   have g:∀ a d,Pi.B3 P (Ad tab) a (d+1) (.fn f) upP J X.h=(match (Pi.exec P (Ad tab) (Pi.B3 P (Ad tab) a d) a c { t:=Pi.Bl 0 J .lf,nt:=U.ntmps,ds:=[],up:=upP,ro:=none } X.h)with
     |some (.normal,fr,h)|some (.ret,fr,h)=>(match Pi.leave P (Pi.B3 P (Ad tab) a d) U a fr.ds .ret fr.t h with
      |some (o,h)=>some (o,fr.up,h)
      |none=>none)
     |some (.panic e,fr,h)=>(match Pi.leave P (Pi.B3 P (Ad tab) a d) U a fr.ds (.pan [{ v:=e,recovered:=false }]) fr.t h with
      |some (o,h)=>some (o,fr.up,h)
      |none=>none)
     |_=>none):=λa d=>by
    rw[Pi.B3];simp only[Pi.QR,hpr,hf,hc,hlP,hb,cond_true];rfl
   cases ex with
   |normal=>
    have:M=.normal:=q5;subst this
    exact go (o:=λ_ _ _=>none) L (show UMR Y (some .ret) (some .ret)from rfl) λa d E s A hP G=>by
     rw[g,q2 a a d E E s];simp only[G]
   |ret=>
    have:M=.ret:=q5;subst this
    exact go (o:=λ_ _ _=>none) L (show UMR Y (some .ret) (some .ret)from rfl) λa d E s A hP G=>by
     rw[g,q2 a a d E E s];simp only[G]
   |panic v=>
    obtain⟨p,rfl,hv⟩:=q5
    exact go (o:=λ_ _ _=>none) L (uP:=.pan [{ v:=p,recovered:=false }]) (show UMR Y (some (.pan [{ v:=v,recovered:=false }])) (some (.pan [{ v:=p,recovered:=false }]))from⟨_,rfl,.cons ⟨hv,rfl⟩ .nil⟩) λa d E s A hP G=>by
     rw[g,q2 a a d E E s];simp only[G]
   |_=>cases L
  ·intro β x l args h nx K e X lP m J r hn G ha;simp only[Mz]at e;split at e
   ·rename_i st0 pd0 nt t psl asg body0 d0 hg;replace e:=AD e;obtain⟨t1,ht1,e⟩:=e;obtain⟨pid,n',tP,dP,m',k1,k2,k3,k4,k5,k6⟩:=r.blk _ _ hg;rw[G]at k1;cases k1;obtain⟨tP1,s1,s2⟩:=CX k6 ha k4 ht1;obtain⟨ex,F,h',w,Y,M,C,k,L,⟨N,q2⟩,y,q4,q5⟩:=MI R T D F0 asg e (fp:={ t:=tP1,nt:=nt,ds:=[],up:=none,ro:=some lP }) r hn ⟨s2,rfl,k6,.nil,rfl,⟨_,_,G,rfl⟩⟩ (ac _) (ac _);cases ex with
    |normal=>
     have:M=.normal:=q5;subst this;simp only at L;have I:=y.ext.full r (ac _);have hlY:=I.pi _ _ G;split at L
     ·rename_i pend nt2 t2 ps2 asg2 body2 d2 hg2;obtain⟨pid,n',tP2,dP2,m2,j1,j2,j3,j4,j5,j6⟩:=y.rh.blk _ _ hg2;rw[hlY]at j1;cases j1;obtain⟨hP2,es⟩:=BM Y.h lP (.lp 1 pend nt2 tP2 ps2 asg2 body2 dP2);obtain⟨Z,z1,z2,z3,z4,z5,z6⟩:=y.rh.setLp y.big hg2 hlY j3 es nx X.h.nx;obtain⟨ex3,fr3,h3,nx3,Y3,z,fp3,hP3,w1,⟨N3,w2⟩,w3,w4,w5⟩:=MI R T D F0 body0 L (fp:=C) z5 y.big (q4.mono z4) (ac _) (bP:=X.h.nx) (by rw[z2,(Hp.get_set es).2];exact y.ext.nx);have x3:=(y.ext.trans z6).trans (w3.ext.le (b:=nx) (bP:=X.h.nx) y.le (ac _));have hl3:Y3.π l=some (.blk lP m):=x3.up.pi _ _ (by rw[Cx.low_eq (r.dom _ _ G)];exact G)
      have O:∀ {W:Option Code},Cg h3 nx3 l W K=some x ->
        (∀ {rr},Pi.A7 hP3 lP W=some rr -> ∀ a d,max N N3<=a->max N N3<=d->Pi.B3 P (Ad tab) a (d+1) (.yl lP) none J X.h=some rr) ->
        ∃ o B h' w Y A j k,K o B h' w=some x/\PD P tab (.yl lP) none J X.h (A,j,k)/\Run nx X.h.nx X h nx Y h' w k/\L0 Y o A/\UMR Y B j:=λe hh=>by
       obtain⟨o,B,h4,Y4,A,j,hP4,v1,v2,v3,v4,v5⟩:=Ey (b:=nx) (bP:=X.h.nx) w3.rh w3.big hl3 e;rw[w3.hp]at v2;refine⟨o,B,h4,nx3,Y4,A,j,hP4,v1,⟨max N N3+1,λa d E s=> ?_⟩,⟨v3.hp,v3.rh,v3.big,ay y.le (ay w3.le v3.le),x3.trans v3.ext⟩,v4,v5⟩;obtain⟨d,rfl⟩:∃ m',d=m'+1:=⟨d-1,by omega⟩;exact hh v2 a d (by omega) (by omega)
      have g:∀ a d,max N N3<=a->max N N3<=d->Pi.B3 P (Ad tab) a (d+1) (.yl lP) none J X.h=(match some (z,fp3,hP3)with
        |some (.normal,_,h)=>Pi.A7 h lP none
        |some (.ret,_,h)=>Pi.A7 h lP (some .ret)
        |some (.exit id,_,h)=>Pi.A7 h lP (some (.exit id))
        |some (.goto id,_,h)=>Pi.A7 h lP (some (.goto id))
        |_=>none):=λa d E s=>by
       have a1:=q2 a a d (by omega) (by omega) (by omega);rw[<- y.hp]at a1;have a2:=w2 a a d (by omega) (by omega) (by omega);rw[z2]at a2;rw[Pi.B3];simp only[Pi.QR,k3,s1,a1,j3,es,a2];rfl
      cases ex3 with
      |normal=>
       have:z=.normal:=w5;subst this;exact O w1 λhr a d h1 S=>(g a d h1 S).trans hr
      |ret=>
       have:z=.ret:=w5;subst this;exact O w1 λhr a d h1 S=>(g a d h1 S).trans hr
      |exit i=>
       have:z=.exit i:=w5;subst this;exact O w1 λhr a d h1 S=>(g a d h1 S).trans hr
      |goto i=>
       have:z=.goto i:=w5;subst this;exact O w1 λhr a d h1 S=>(g a d h1 S).trans hr
      |panic=>cases w1
     ·cases L
    |_=>cases L
   ·cases e
theorem DX.wide{hh:Hp}{Q f:Nat->Prop}:∀ {c:Ty} {x:c.den} {d:List PV},DX hh Q f c x d->DX hh (λ_=>True) (λ_=>True) c x d
 |.int _,_,_,e=>e
 |.bool,_,_,e=>e
 |.str,_,_,e=>e
 |.unit,_,_,e=>e
 |.pair _ _,_,_,⟨p,q,e,a,b⟩=>⟨p,q,e,DX.wide a,DX.wide b⟩
 |.sl _ _,_,_,⟨p,e,h⟩=>⟨p,e,by
  rcases h with h|h|⟨pid,off,len,es,ex,fz,a,b,g,i,j,l⟩
  ·exact .inl h
  ·exact .inr (.inl h)
  ·exact .inr (.inr ⟨pid,off,len,es,ex,fz,a,trivial,g,i,j,l.mono λ_ _ k=>k.mono λ_ _ k=>DR.mono (λq es ex fz n m=>⟨⟨fz,m⟩,trivial⟩) k⟩)⟩
theorem domX.wide{hh:Hp}{Q e:Nat->Prop}:∀ {l:List (Bool×Ty)} {y:AP l} {d:List PV},domX hh Q e l y d->domX hh (λ_=>True) (λ_=>True) l y d
 |[],_,_,h=>h
 |[p],_,_,⟨a,b,c⟩=>⟨a,b,c.mono λ_ _ k=>k.wide⟩
 |p::q::r,_,_,⟨a,t,b,c,f⟩=>⟨a,t,b,c.mono λ_ _ k=>k.wide,domX.wide f⟩
def R8:Cx:={ π:=λ_=>none,h:=Di,O:=λ_=>False }
theorem Sh:RH R8 .lf 0:=⟨λ_ _ h=>(by cases h),λ_ _ _ _ _ _ _ h=>(by cases h),λ_ _ h=>(by cases h),λ_ _=>rfl,λ_ h=>h.elim⟩
theorem Hr(T:TabOK P tab)(D:DrawnAOK P tab){ann:Hu}{F0 n:Nat}{f:FuncId}{dom g:List (Bool×Ty)}{x:AP dom}{y:AP g}(e:OS P tab ann F0 n f dom g x=some y){w:List PV}(E:Df dom x w) :
  ∃ r up A,PD P tab (.fn f) none w Di (.ret r,up,A)/\Hi A g y r:=by
 unfold OS at e;obtain⟨o,K,h',I,Y,L,q,s,e1,J,j,G,_⟩:=(H6 T D n).fn e Sh (bF _) (Du E) (show UMR R8 none none from rfl);split at e1
 ·rename_i v;obtain⟨p,rfl,k⟩:=G;refine⟨p,q,s,J,?_⟩;rw[<- j.hp]
  have b:∀ (vs:List V) (i:List PV),VRL Y vs i->Bu h' g vs some=some y->domX Y.h (λ_=>True) (λ_=>True) g y i:=λvs i t F=>by
   obtain⟨z,u,B⟩:=Bq (Q:=λ_=>True) j.rh (λ_ _=>trivial) (λ_ _ _ _ _=>trivial) t F;cases u;exact B.wide
  match g,y,e1,b with
  |[],y,e1,b=>
   simp only at e1;split at e1
   ·simp only[VR]at k;obtain⟨i,rfl,m⟩:=k;exact⟨i,rfl,b _ _ m e1⟩
   ·cases e1
  |[c],y,e1,b=>
   obtain⟨a,C,m⟩:=b _ _ (.cons k .nil) e1;cases C;exact m
  |c::d::l,y,e1,b=>
   simp only at e1;split at e1
   ·simp only[VR]at k;obtain⟨i,rfl,m⟩:=k;exact⟨i,rfl,b _ _ m e1⟩
   ·unfold Bu at e1;simp only at e1;replace e1:=GJ (Q:=λ_=>True) j.rh (λ_ _ _ _ _=>trivial) (λ_ _=>trivial) k e1;obtain⟨z,u,B⟩:=e1;cases l<;>cases u
 ·cases e1
theorem Px(T:TabOK P tab)(D:DrawnAOK P tab){ann:Hu}{F0 n:Nat}{f:FuncId}{dom:List (Bool×Ty)}{g:Bool}{c:Ty}{x:AP dom}{y:List c.den}(e:Pw P tab ann F0 n f dom g c x=some y){m:List PV}(u:Df dom x m) :
  ∃ r up q,PD P tab (.fn f) none m Di (.ret r,up,q)/\Hi q [(false,.sl g c)] y r /\ ∀ j o len,r ≠ .own j o len:=by
 unfold Pw at e;obtain⟨o,I,h',F,Y,J,k,l,e1,G,i,A,_⟩:=(H6 T D n).fn e Sh (bF _) (Du u) (show UMR R8 none none from rfl);split at e1
 ·rename_i v;obtain⟨p,rfl,d⟩:=A;refine⟨p,k,l,G,?_⟩;rw[<- i.hp]
  have b:GI h' false (.sl g c) v some=some y->Hi Y.h [(false,.sl g c)] y p:=λw=>by
   obtain⟨z,C,E⟩:=GJ (Q:=λ_=>True) i.rh (λ_ _ _ _ _=>trivial) (λ_ _=>trivial) d w;cases C;have B:domX Y.h (λ_=>True) Y.Q [(false,.sl g c)] y [p]:=⟨p,rfl,E⟩;obtain⟨a,s,t⟩:=B.wide;cases s;exact t
  split at e1
  ·refine⟨b e1,λj o len hh=> ?_⟩;subst hh;simp only[VR]at d;rcases d with⟨h,_⟩|⟨_,_,h,_⟩<;>cases h
  ·refine⟨b e1,λj o len hh=> ?_⟩;subst hh;simp only[VR]at d;cases d
  ·cases e1
 ·cases e1
theorem Lv{X:Cx}{p:Bool×Ty}{y:p.2.den}{a:PV}(h:EP p.1 (DP p.2) y a):VR X (bif Ry p then R3 (elP p.1 p.2 y)else elP p.1 p.2 y) (bif Ry p then L1 a else a):=by
 cases d:Ry p with
 |false=>exact DG h
 |true=>
  obtain⟨g,c⟩:=p;cases g with
  |false=>cases d
  |true=>
   have b:=DG (X:=Cx.pure) h;obtain⟨i,rfl,_⟩:=h;simp only[elP,cond_true,VR]at b;obtain⟨j,e,f⟩:=b;cases e;show VR X (.pv _) (.view _);simp only[VR];exact⟨i,rfl,f⟩
theorem I2{X:Cx}:∀ {l:List (Bool×Ty)} {y:AP l} {d:List PV},Df l y d->VRL X (QA l (EU l y)) (Gp l d)
 |[],_,_,h=>by rw[show _=[]from h];exact .nil
 |[p],_,_,⟨a,b,c⟩=>by subst b;exact .cons (Lv c) .nil
 |p::q::r,_,_,⟨a,t,b,c,e⟩=>by subst b;exact .cons (Lv c) (I2 e)
theorem Pz(T:TabOK P tab)(D:DrawnAOK P tab){ann:Hu}{F0 n:Nat}{f:FuncId}{dom g:List (Bool×Ty)}{x:AP dom}{y:AP g}(e:Py P tab ann F0 n f dom g x=some y){w:List PV}(E:Df dom x w) :
  ∃ r up A,PD P tab (.fn f) none (Gp dom w) Di (.ret r,up,A)/\Hi A g y r:=by
 unfold Py at e;obtain⟨o,K,h',I,Y,L,q,s,e1,J,j,G,_⟩:=(H6 T D n).fn e Sh (bF _) (I2 E) (show UMR R8 none none from rfl);split at e1
 ·rename_i v;obtain⟨p,rfl,k⟩:=G;refine⟨p,q,s,J,?_⟩;rw[<- j.hp]
  have b:∀ (vs:List V) (i:List PV),VRL Y vs i->Bu h' g vs some=some y->domX Y.h (λ_=>True) (λ_=>True) g y i:=λvs i t F=>by
   obtain⟨z,u,B⟩:=Bq (Q:=λ_=>True) j.rh (λ_ _=>trivial) (λ_ _ _ _ _=>trivial) t F;cases u;exact B.wide
  match g,y,e1,b with
  |[],y,e1,b=>
   simp only at e1;split at e1
   ·simp only[VR]at k;obtain⟨i,rfl,m⟩:=k;exact⟨i,rfl,b _ _ m e1⟩
   ·cases e1
  |[c],y,e1,b=>
   obtain⟨a,C,m⟩:=b _ _ (.cons k .nil) e1;cases C;exact m
  |c::d::l,y,e1,b=>
   simp only at e1;split at e1
   ·simp only[VR]at k;obtain⟨i,rfl,m⟩:=k;exact⟨i,rfl,b _ _ m e1⟩
   ·unfold Bu at e1;simp only at e1;replace e1:=GJ (Q:=λ_=>True) j.rh (λ_ _ _ _ _=>trivial) (λ_ _=>trivial) k e1;obtain⟨z,u,B⟩:=e1;cases l<;>cases u
 ·cases e1
theorem P1(T:TabOK P tab)(D:DrawnAOK P tab){ann:Hu}{F0 n:Nat}{f:FuncId}{dom:List (Bool×Ty)}{g:Bool}{c:Ty}{x:AP dom}{y:List c.den}(e:P0 P tab ann F0 n f dom g c x=some y)(B:y≠[]){u:List PV}(K:Df dom x u) :
  ∃ r up z,PD P tab (.fn f) none u Di (.ret r,up,z)/\Ob z g c y r:=by
 unfold P0 at e;obtain⟨o,S,h',N,Y,Z,i,m,e1,O,h,L,_⟩:=(H6 T D n).fn e Sh (bF _) (Du K) (show UMR R8 none none from rfl);split at e1
 ·rename_i j;obtain⟨p,rfl,b⟩:=L;refine⟨p,i,m,O,?_⟩;rw[<- h.hp];split at e1
  ·rename_i W U l X s;replace e1:=AK e1;obtain⟨t,e1⟩:=e1;have:=eq_of_beq t;subst this;obtain⟨hc,e1⟩:=A5 e1;subst hc;cases e1;have A:=h.rh.blk _ _ s;simp only[VR]at b;cases d:Y.π j with
   |none=>rw[d]at b;exact b.elim
   |some a=>
    rw[d]at b A;rcases A with⟨pid,len,es,C,w,h2,E,F,G,J,I⟩|⟨_,_,h2⟩|⟨es,w,_,h2,_⟩
    ·cases w;simp only at b;subst b;have:=F rfl;subst this;subst G;exact .inr ⟨pid,es,rfl,E,J rfl,I.mono λ_ _ k=>k.mono λ_ _ k=>DR.mono (λq es ex fz M s=>⟨⟨fz,s⟩,λhh=>M (hh ▸ h2)⟩) k⟩
    ·exact absurd h2 B
    ·rcases h2 with h2|h2
     ·cases h2
     ·exact absurd h2 B
  ·cases e1
 ·cases e1
end
end
section
variable[Pi.Gl]
open Pi (PV T Hp Blk DF UM PE AN AT AB AX Ao)
def re(hs:Hp):Pi.R->Pi.R
 |.val v _=>.val v hs
 |.skip _=>.skip hs
 |r=>r
section
variable{P:Program}{h hs:Hp}
theorem EY{o:Option PV}:Pi.vl o hs=(Pi.vl o h).map (re hs):=by cases o<;>rfl
theorem KW{c:Bool}{v:PV}:(bif c then some (Pi.R.val v hs)else none)=(bif c then some (Pi.R.val v h)else none).map (re hs):=by cases c<;>rfl
theorem Qt{c a b:PV}:Pi.Dg hs c a b=(Pi.Dg h c a b).map (re hs):=by unfold Pi.Dg;split<;>rfl
theorem Po{ty:TypeId}{a:List (Nat×PV)}:Pi.Bv P hs ty a=(Pi.Bv P h ty a).map (re hs):=by
 unfold Pi.Bv;split
 ·cases hc:(Array.toList _).all _ with
  |true=>simp only[cond_true];split<;>(try rfl);rename_i pl _;cases Pi.FW _ pl<;>rfl
  |false=>rfl
 ·split
  ·rename_i n _;cases ah 0 n with
   |true=>simp only[cond_true];cases Pi.FW _ _<;>rfl
   |false=>rfl
  ·rfl
 ·rfl
theorem Rk{p:PV}:Pi.Em hs p=(Pi.Em h p).map (re hs):=by unfold Pi.Em;split<;>rfl
theorem Ri{c:BinOp}{ty:TypeId}{x y:Operand}{a b:PV}:Pi.DY P hs c ty x y a b=(Pi.DY P h c ty x y a b).map (re hs):=by
 unfold Pi.DY;split
 ·cases Pi.CQ x||Pi.CQ y<;>simp only[cond_true,cond_false]
  ·rfl
  ·exact EY
 ·cases P.eqGuardType P.depth ty<;>simp only[cond_true,cond_false]
  ·exact EY
  ·rfl
 ·exact EY
theorem Md{s d:TypeId}{x:PV}:Pi.BH P hs s d x=(Pi.BH P h s d x).map (re hs):=by
 unfold Pi.BH;split
 ·rfl
 ·rfl
 ·split<;>rfl
 ·rfl
theorem Rj{ty:TypeId}{v:PV}:Pi.EW P hs ty v=(Pi.EW P h ty v).map (re hs):=by unfold Pi.EW;split<;>rfl
theorem Le{f:Fn}{a b:List PV}:Pi.BD hs f a b=(Pi.BD h f a b).map (re hs):=by unfold Pi.BD;split<;>rfl
theorem KX{s:TypeId}{x:PV}{f:Nat}:Pi.Av P hs s x f=(Pi.Av P h s x f).map (re hs):=by
 unfold Pi.Av;split
 ·split
  ·split
   ·rename_i n _;cases aa n 0 with
    |true=>rfl
    |false=>simp only[cond_false];split<;>rfl
   ·rfl
  ·rfl
 ·rfl
theorem Pq{s:TypeId}{x:PV}{f:Nat}:Pi.B5 P hs s x f=(Pi.B5 P h s x f).map (re hs):=by
 unfold Pi.B5;split
 ·split
  ·exact EY
  ·rfl
 ·rfl
theorem Ps{s:TypeId}{x i:PV}:Pi.Bw P hs s x i=(Pi.Bw P h s x i).map (re hs):=by
 unfold Pi.Bw;split
 ·rename_i len e cs k _ _;cases ah k len with
  |true=>
   simp only[cond_true];split
   ·exact EY
   ·rfl
  |false=>rfl
 ·split<;>rfl
 ·rfl
theorem OP{ty:TypeId}{v:PV}{b:Bool}:Pi.BI P hs ty v b=(Pi.BI P h ty v b).map (re hs):=by
 have z:∀ {e:TypeId},(bif b then(match Pi.Bt P e with
   |some z=>some (Pi.R.val (.tup [z,.bool false]) hs)
   |none=>none)else none)=(bif b then(match Pi.Bt P e with
   |some z=>some (Pi.R.val (.tup [z,.bool false]) h)
   |none=>none)else none).map (re hs):=by
  intro e;cases b with
  |true=>simp only[cond_true];split<;>rfl
  |false=>rfl
 unfold Pi.BI;split
 ·split
  ·split
   ·split
    ·rfl
    ·exact z
   ·rfl
  ·exact z
  ·rfl
 ·split
  ·rename_i u a;cases aa u ty with
   |true=>rfl
   |false=>exact z
  ·exact z
  ·rfl
 ·rfl
theorem Me{x:PV}{i:Nat}:Pi.Be hs x i=(Pi.Be h x i).map (re hs):=by
 unfold Pi.Be;split
 ·exact EY
 ·rfl
theorem Qs{ty:TypeId}{p:PV}(a:∀ q∈Pi.AE p,hs.get q=h.get q):Pi.CB P hs ty p=(Pi.CB P h ty p).map (re hs):=by
 unfold Pi.CB;cases p with
 |ptr j off=>
  simp only;rw[a j (by simp[Pi.AE])];split
  ·exact EY
  ·rfl
 |view cs=>exact EY
 |ept j i off=>
  simp only;rw[a j (by simp[Pi.AE])];split
  ·split
   ·exact EY
   ·rfl
  ·rfl
 |_=>rfl
theorem KY{ty:TypeId}{x i:PV}(b:∀ q∈Pi.AE x,hs.get q=h.get q):Pi.Aq P hs ty x i=(Pi.Aq P h ty x i).map (re hs):=by
 unfold Pi.Aq;split
 ·rename_i e k _ _;split
  ·rename_i n _;split
   ·split
    ·rename_i a _;cases aa a.cells.length n<;>rfl
    ·rfl
   ·rename_i j off len;rw[b j (by simp[Pi.AE])];cases ah k len with
    |true=>
     simp only[cond_true];split
     ·split
      ·rename_i a _;cases aa a.cells.length n<;>rfl
      ·rfl
     ·rfl
    |false=>rfl
   ·rfl
  ·rfl
 ·rename_i len e k _ _;split
  ·cases ah k len with
   |true=>simp only[cond_true];split<;>rfl
   |false=>rfl
  ·rfl
 ·rfl
theorem Pt{ty:TypeId}{x:PV}{lo hi:Option PV}(a:∀ q∈Pi.AE x,hs.get q=h.get q):Pi.Ak P hs ty x lo hi none=(Pi.Ak P h ty x lo hi none).map (re hs):=by
 unfold Pi.Ak;split
 ·split
  ·exact KW
  ·rfl
 ·split
  ·rfl
  ·rename_i n _;split
   ·split
    ·rename_i hh _ _ _;cases(none:Option PV).isSome && !hi.isSome<;>rfl
    ·rfl
   ·rename_i full es;cases !Pi.Cd n es with
    |true=>rfl
    |false=>
     simp only[cond_false];split
     ·rename_i l hh _ _;cases af hh es.length&&af l hh<;>rfl
     ·rfl
   ·rename_i j off len;rw[a j (by simp[Pi.AE])];split
    ·rename_i es ex fz _;cases !Pi.Cd n es with
     |true=>rfl
     |false=>
      simp only[cond_false];split
      ·rename_i l hh _ _;cases !af l hh || !af (off+hh) es.length with
       |true=>rfl
       |false=>
        simp only[cond_false];cases ah (off+l) es.length<;>rfl
      ·rfl
    ·rfl
   ·rfl
 ·rfl
theorem OQ{ty:TypeId}{x:PV}{lo hi mx:Option PV}(c:∀ j a b,x ≠ .own j a b):Pi.Ak P hs ty x lo hi mx=(Pi.Ak P h ty x lo hi mx).map (re hs):=by
 unfold Pi.Ak;split
 ·split
  ·exact KW
  ·rfl
 ·split
  ·rfl
  ·rename_i n _;split
   ·split
    ·cases mx.isSome && !hi.isSome<;>rfl
    ·rfl
   ·rename_i full es;cases !Pi.Cd n es with
    |true=>rfl
    |false=>
     simp only[cond_false];split
     ·cases mx with
      |none=>exact KW
      |some m=>
       dsimp only;split
       ·exact KW
       ·rfl
     ·rfl
   ·exact absurd rfl (c _ _ _)
   ·rfl
 ·rfl
theorem Ff{t:T PV}{x:Operand}{k a:PV->Option Pi.R}(f:∀ p,Pi.CM t x=some p->a p=(k p).map (re hs)):Pi.e1 t x a=(Pi.e1 t x k).map (re hs):=by
 unfold Pi.e1;split
 ·rename_i p b;exact f p b
 ·rfl
theorem Pp{t:T PV}{x y:Operand}{k a:PV->PV->Option Pi.R}(f:∀ p q,Pi.CM t x=some p->Pi.CM t y=some q->a p q=(k p q).map (re hs)):Pi.e2 t x y a=(Pi.e2 t x y k).map (re hs):=by
 unfold Pi.e2;split
 ·rename_i p q b c;exact f p q b c
 ·rfl
theorem SP{t:T PV}{x y z:Operand}{k a:PV->PV->PV->Option Pi.R}(f:∀ p q r,a p q r=(k p q r).map (re hs)):Pi.e3 t x y z a=(Pi.e3 t x y z k).map (re hs):=by
 unfold Pi.e3;split
 ·exact f _ _ _
 ·rfl
theorem M9{t:T PV}{x:Operand}{l:List Operand}{p:PV}(a:Pi.CM t x=some p):∀ q∈Pi.AE p,q∈Pi.BP t (x::l):=λq b=>by
 simp only[Pi.BP,a];exact ak _ b
theorem Mc{id:Nat}{b:Builtin}{a:Array TypeId}{args:List PV}(c:b=.len\/b=.cap\/b=.max\/b=.min)(e:b=.len -> ∀ p∈args,∀ q∈Pi.FX p,hs.get q=h.get q)(d:b ≠ .len -> ∀ p∈args,∀ q∈Pi.AE p,hs.get q=h.get q):Pi.AH P hs id b a args=(Pi.AH P h id b a args).map (re hs):=by
 unfold Pi.AH;rcases c with rfl|rfl|rfl|rfl
 ·simp only;split
  ·rename_i x t _;split
   ·rename_i j _;rw[e rfl (.mp j) (by simp) j (by simp[Pi.FX])];split<;>rfl
   all_goals rfl
  ·rfl
 ·simp only;split
  ·rename_i x t _;split
   ·rename_i j off f _;rw[d (by simp) (.own j off f) (by simp) j (by simp[Pi.AE])];split<;>rfl
   all_goals rfl
  ·rfl
 ·simp only;split
  ·cases Pi.B7 _ _ _ _<;>rfl
  ·rfl
  ·rfl
 ·simp only;split
  ·cases Pi.B7 _ _ _ _<;>rfl
  ·rfl
  ·rfl
theorem Jo{t:T PV}:∀ {l:List Operand} {b:List PV},Pi.Lx t l=some b -> ∀ p∈b,∀ q∈Pi.AE p,q∈Pi.BP t l
 |[],b,e,p,hp,q,hq=>by cases e;cases hp
 |o::l,b,e,p,hp,q,hq=>by
  unfold Pi.Lx at e;split at e
  ·rename_i a f c d;cases e;rcases ae.1 hp with rfl|hp
   ·simp only[Pi.BP,c];exact ak _ hq
   ·simp only[Pi.BP,c];exact aj _ (Jo d p hp q hq)
  ·cases e
theorem K1{t:T PV}:∀ {l:List Operand} {b:List PV},Pi.Lx t l=some b -> ∀ p∈b,∀ q∈Pi.FX p,q∈Pi.DI t l
 |[],b,e,p,hp,q,hq=>by cases e;cases hp
 |o::l,b,e,p,hp,q,hq=>by
  unfold Pi.Lx at e;split at e
  ·rename_i a f c d;cases e;rcases ae.1 hp with rfl|hp
   ·simp only[Pi.DI,c];exact ak _ hq
   ·simp only[Pi.DI,c];exact aj _ (K1 d p hp q hq)
  ·cases e
theorem Ny{t:T PV}{id:Nat}{o:Oper}(hc:AR o.op<=1)(j:∀ q∈Pi.Au t h o.op,hs.get q=h.get q):Pi.AQ P t hs id o=(Pi.AQ P t h id o).map (re hs):=by
 unfold Pi.AQ;generalize o.op=u at hc j;cases u with
 |move x=>exact EY
 |assign x=>exact EY
 |pick c a b=>exact SP λ_ _ _=>Qt
 |build ty z=>
  simp only;split
  ·exact Po
  ·rfl
 |nilCheck x=>exact Ff λ_ _=>Rk
 |binOp _ _ x y _=>exact Pp λ_ _ _ _=>Ri
 |unOp _ _ x=>exact Ff λ_ _=>EY
 |convert _ _ x=>exact Ff λ_ _=>Md
 |makeInterface _ x=>exact Ff λ_ _=>Rj
 |makeFunc f a b=>
  simp only;split
  ·exact Le
  ·rfl
 |fieldAddr _ x _=>exact Ff λ_ _=>KX
 |field _ x _=>exact Ff λ_ _=>Pq
 |index _ x y=>exact Pp λ_ _ _ _=>Ps
 |typeAssert x _ _ _=>exact Ff λ_ _=>OP
 |extract x _=>exact Ff λ_ _=>Me
 |load _ x=>exact Ff λp g=>Qs λq i=>j q (M9 g q i)
 |indexAddr _ x y=>exact Pp λp w g _=>KY λq i=>j q (M9 g q i)
 |slice ty x lo hi mx=>
  cases mx with
  |some _=>simp[AR]at hc
  |none=>
   simp only;split
   ·rename_i n m s _ _ l;cases l;exact Ff λp g=>Pt λq i=>j q (M9 g q i)
   ·rfl
 |call c=>
  simp only;split
  ·rename_i args e;cases d:c.callee with
   |builtin b=>
    simp only[AR,d]at hc;simp only[Pi.Au,d]at j;refine Mc ?_ (λk p g q i=>j q ?_) λk p g q i=>j q ?_
    ·cases b<;>simp at hc ⊢
    ·subst k;exact K1 e p g q i
    ·cases b<;>first|exact absurd rfl k|exact Jo e p g q i
   |value _=>simp[AR,d]at hc
   |invoke _ _=>simp[AR,d]at hc
  ·rfl
 |makeMap _ r=>cases r<;>simp[AR]at hc
 |_=>simp[AR]at hc
theorem KF{id:Nat}{b:Blk}{d:Hp}(c:h.get id=none->hs.get id=none)(e:h.new id b=some d):∃ a,hs.new id b=some a:=
 F1 hs id b (c (Hp.get_new e).1)
theorem OX{ty:TypeId}{p v:PV}{r:Pi.R}(l:∀ q∈Pi.AE p,hs.get q=h.get q)(e:Pi.BE P h ty p v=some r):∃ a,Pi.BE P hs ty p v=some (.skip a):=by
 have k:∀ (j:Nat) (b:Blk),∃ a,(hs.set j b).map Pi.R.skip=some (.skip a):=λj b=>by
  obtain⟨o,e⟩:=BM hs j b;exact⟨o,by rw[e];rfl⟩
 unfold Pi.BE at e ⊢;split at e
 ·rename_i n s
  try simp only[s]
  replace e:=BC e;obtain⟨d,e⟩:=e;rw[d];simp only[cond_false];cases p with
  |ptr j off=>
   simp only at e ⊢;rw[l j (by simp[Pi.AE])];split at e
   ·rename_i cs g
    try simp only[g]
    replace e:=AK e;obtain⟨d,e⟩:=e;rw[d];simp only[cond_true];exact k _ _
   ·cases e
  |ept j i off=>
   simp only at e ⊢;rw[l j (by simp[Pi.AE])];split at e
   ·rename_i es ex g
    try simp only[g]
    split at e
    ·rename_i m f
     try simp only[f]
     replace e:=AK e;obtain⟨d,e⟩:=e;rw[d];simp only[cond_true];cases m with
     |agg cs=>exact k _ _
     |_=>
      dsimp only at e ⊢;split at e
      ·rename_i c hc;replace e:=AK e;obtain⟨d,e⟩:=e
       try simp only[hc]
       rw[d];simp only[cond_true];cases c<;>first|exact k _ _|cases e
      ·cases e
    ·cases e
   ·cases e
  |_=>cases e
 ·cases e
theorem MG{t:T PV}{id:Nat}{o:Oper}{r:Pi.R}(hc:AR o.op<=3)(m:∀ q∈Pi.Au t h o.op,hs.get q=h.get q)(s:h.get id=none->hs.get id=none)(e:Pi.AQ P t h id o=some r) :
  (∀ v f,r=.val v f -> ∃ D d,Pi.AQ P t hs id o=some (.val D d))/\(∀ f,r=.skip f -> ∃ d,Pi.AQ P t hs id o=some (.skip d)):=by
 have l:AR o.op<=1\/AR o.op=2\/AR o.op=3:=by omega
 rcases l with hc|hc|hc
 ·have:=Ny (P:=P) (id:=id) hc m;rw[e]at this;exact⟨λv f i=>⟨v,hs,by rw[this,i];rfl⟩,λf i=>⟨hs,by rw[this,i];rfl⟩⟩
 ·have nw:∀ {b:Blk} {g:Hp->Pi.R},(h.new id b).map g=some r->(∃ v,∀ h,g h=.val v h)->(∀ v f,r=.val v f -> ∃ D d,(hs.new id b).map g=some (.val D d))/\(∀ f,r=.skip f -> ∃ d,(hs.new id b).map g=some (.skip d)):=fun {b g} e ⟨v,E⟩=>by
   cases u:h.new id b with
   |none=>rw[u]at e;cases e
   |some f=>
    rw[u]at e;cases e;obtain⟨d,e1⟩:=KF s u;exact⟨λ_ _ _=>⟨v,d,by rw[e1];simp[E]⟩,λ_ i=>by rw[E]at i;cases i⟩
  unfold Pi.AQ at e ⊢;generalize o.op=B at hc m e;cases B with
  |alloc ty=>
   dsimp only at e ⊢;unfold Pi.Ci at e ⊢;split at e
   ·rename_i cs A
    try simp only[A]
    exact nw e ⟨_,λ_=>rfl⟩
   ·cases e
  |box _ x=>
   simp only[Pi.e1]at e ⊢;split at e
   ·rename_i v w
    try simp only[w]
    unfold Pi.FU at e ⊢;split at e
    ·cases e
    ·exact nw e ⟨_,λ_=>rfl⟩
   ·cases e
  |makeMap _ r=>
   cases r with
   |none=>exact nw e ⟨_,λ_=>rfl⟩
   |some _=>simp[AR]at hc
  |makeSlice _ x y=>
   simp only[Pi.e2]at e ⊢;split at e
   ·rename_i a b G n
    try simp only[G,n]
    unfold Pi.Cy at e ⊢;split at e
    ·split at e
     ·split at e
      ·rename_i z A
       try simp only[A]
       replace e:=AK e;obtain⟨n,e⟩:=e;rw[n];simp only[cond_true];exact nw e ⟨_,λ_=>rfl⟩
      ·cases e
     ·cases e
    ·cases e
   ·cases e
  |slice _ _ _ _ mx=>cases mx<;>simp[AR]at hc
  |call c=>
   simp only[AR]at hc;split at hc
   ·split at hc<;>cases hc
   ·cases hc
  |_=>simp[AR]at hc
 ·unfold Pi.AQ at e ⊢;generalize o.op=B at hc m e;cases B with
  |store ty a x=>
   simp only[Pi.e2]at e ⊢;split at e
   ·rename_i p v F w
    try simp only[F,w]
    have:=OX (hs:=hs) (λq I=>m q (M9 F q I)) e;refine⟨λv f i=> ?_,λ_ _=>this⟩;exfalso;subst i
    have C:∀ {j:Nat} {b:Blk},(h.set j b).map Pi.R.skip=some (.val v f)->False:=fun {j b} e=>by
     cases k:h.set j b with
     |none=>rw[k]at e;cases e
     |some _=>rw[k]at e;cases e
    unfold Pi.BE at e;split at e
    ·replace e:=BC e;obtain⟨_,e⟩:=e;split at e
     ·split at e
      ·replace e:=AK e;exact C e.2
      ·cases e
     ·split at e
      ·split at e
       ·replace e:=AK e;obtain⟨_,e⟩:=e;split at e
        ·exact C e
        ·split at e
         ·replace e:=AK e;obtain⟨_,e⟩:=e;split at e
          ·cases e
          ·cases e
          ·exact C e
         ·cases e
       ·cases e
      ·cases e
     ·cases e
    ·cases e
   ·cases e
  |slice _ _ _ _ mx=>cases mx<;>simp[AR]at hc
  |makeMap _ r=>cases r<;>simp[AR]at hc
  |call c=>
   simp only[AR]at hc;split at hc
   ·split at hc<;>cases hc
   ·cases hc
  |_=>simp[AR]at hc
end
end
section
variable[Pi.Gl]
open Pi (PV T Hp Blk DF UM PE AN AT AB AX Ao)
def CD(o:Option Pi.R):Prop:=∃ v h,o=some (.val v h)
section
variable{P:Program}{h hs:Hp}
theorem I6{p:PV}(a:∀ q∈Pi.AE p,hs.get q=h.get q):Pi.BW hs p=Pi.BW h p:=by
 unfold Pi.BW;cases p with
 |own id off len=>simp only;rw[a id (by simp[Pi.AE])]
 |_=>rfl
theorem FE{id:Nat}{b:Blk}{v:PV}(a:h.get id=none->hs.get id=none)(e:CD ((h.new id b).map λh=>.val v h)):CD ((hs.new id b).map λh=>.val v h):=by
 obtain⟨i,f,e⟩:=e;cases c:h.new id b with
 |none=>rw[c]at e;cases e
 |some g=>
  obtain⟨d,e2⟩:=KF a c;exact⟨v,d,by rw[e2];rfl⟩
theorem JG{j:Nat}{b:Blk}{v:PV}(e:CD ((h.set j b).map λh=>.val v h)):CD ((hs.set j b).map λh=>.val v h):=by
 obtain⟨a,e2⟩:=BM hs j b;exact⟨v,a,by rw[e2];rfl⟩
theorem AO(e:CD none){α:Prop}:α:=by obtain⟨_,_,e⟩:=e;cases e
theorem A2{c:Bool}{a b d b':Option Pi.R}(e:CD (bif c then a else b))(f:c=true->CD a->CD d)(g:c=false->CD b->CD b'):CD (bif c then d else b'):=by
 cases c with
 |true=>exact f rfl e
 |false=>exact g rfl e
theorem Pc{id k:Nat}{s x:PV}(g:∀ q∈Pi.AE s,hs.get q=h.get q)(o:∀ q∈Pi.AE x,hs.get q=h.get q)(a:h.get id=none->hs.get id=none)(e:CD (Pi.Ea P h id k s x)):CD (Pi.Ea P hs id k s x):=by
 unfold Pi.Ea at e ⊢;split at e
 ·rename_i w n
  try simp only[n]
  rw[I6 o];split at e
  ·rename_i A B new z p r t u
   try simp only[p,r,t,u]
   refine A2 e (λ_ e=>AO e) λ_ e=> ?_;cases s with
   |nils=>
    simp only at e ⊢;exact A2 e (λ_ _=>⟨_,_,rfl⟩) λ_ e=>A2 e (λ_ e=>FE a e) λ_ e=>AO e
   |lst f es=>
    cases f with
    |true=>
     simp only at e ⊢;exact A2 e (λ_ _=>⟨_,_,rfl⟩) λ_ e=>A2 e (λ_ e=>FE a e) λ_ e=>AO e
    |false=>exact AO e
   |own j off len=>
    simp only at e ⊢;rw[g j (by simp[Pi.AE])];split at e
    ·rename_i es ex fz l
     try simp only[l]
     refine A2 e (λ_ e=>AO e) λ_ e=> ?_;refine A2 e (λ_ e=> ?_) λ_ e=> ?_
     ·refine A2 e (λ_ _=>⟨_,_,rfl⟩) λ_ e=>A2 e (λ_ e=> ?_) λ_ e=>FE a e;exact A2 e (λ_ e=>AO e) λ_ e=>JG e
     ·refine A2 e (λ_ e=> ?_) λ_ e=>AO e;obtain⟨y,i⟩:=BM h j .dead;obtain⟨m,b⟩:=BM hs j .dead;rw[i]at e;rw[b];simp only at e ⊢;refine FE (λd=> ?_) e;rw[(Hp.get_set i).1]at d;rw[(Hp.get_set b).1];by_cases c:id=j
      ·rw[if_pos c]at d;cases d
      ·rw[if_neg c]at d ⊢;exact a d
    ·exact AO e
   |_=>exact AO e
  ·exact AO e
 ·exact AO e
theorem OK{id:Nat}{a:Array TypeId}{args:List PV}(d:∀ p∈args,∀ q∈Pi.AE p,hs.get q=h.get q)(e:CD (Pi.AH P h id .copy a args)):CD (Pi.AH P hs id .copy a args):=by
 simp only[Pi.AH]at e ⊢;split at e
 ·rename_i j off len x t b
  try simp only[b]
  rw[d (.own j off len) (by simp) j (by simp[Pi.AE]),I6 (d x (by simp))];split at e
  ·rename_i f es ex new g i k
   try simp only[g,i,k]
   split at e
   ·rename_i l c
    try simp only[c]
    exact A2 e (λ_ e=>AO e) λ_ e=>JG e
   ·exact AO e
  ·exact AO e
 ·exact AO e
theorem EE:∀ {L:List Nat} {h hs f:Hp},(∀ x∈L,hs.get x=h.get x)->Pi.freeze h L=some f -> ∃ a,Pi.freeze hs L=some a /\ ∀ x,hs.get x=h.get x->a.get x=f.get x
 |[],h,hs,f,_,e=>by simp[Pi.freeze]at e;subst e;exact⟨hs,rfl,λ_ h=>h⟩
 |j::L,h,hs,f,hl,e=>by
  unfold Pi.freeze at e ⊢;rw[hl j (by simp)]
  have step:∀ {b:Blk},(match h.set j b with
    |some h=>Pi.freeze h L
    |none=>none)=some f -> ∃ a,(match hs.set j b with
    |some h=>Pi.freeze h L
    |none=>none)=some a /\ ∀ x,hs.get x=h.get x->a.get x=f.get x:=by
   intro b e;obtain⟨n,k⟩:=BM h j b;obtain⟨o,l⟩:=BM hs j b;rw[k]at e;rw[l];simp only at e ⊢
   have c:∀ x,hs.get x=h.get x->o.get x=n.get x:=λx g=>by
    rw[(Hp.get_set k).1,(Hp.get_set l).1];by_cases d:x=j
    ·rw[if_pos d,if_pos d]
    ·rw[if_neg d,if_neg d];exact g
   obtain⟨a,e1,m⟩:=EE (λx g=>c x (hl x (aw _ g))) e;exact⟨a,e1,λx g=>m x (c x g)⟩
  split at e
  ·rename_i cs fz i
   try simp only[i]
   exact step e
  ·rename_i es ex fz i
   try simp only[i]
   exact step e
  ·cases e
theorem IP{f g:PV->Option (PV×List Nat)}:∀ {i c:List PV} {l:List Nat},(∀ p q l',f p=some (q,l')->(∀ x∈l',x∈l)->g p=some (q,l'))->AB f i=some (c,l)->AB g i=some (c,l)
 |[],c,l,_,e=>e
 |p::i,c,l,hfg,e=>by
  unfold AB at e ⊢;split at e
  ·rename_i q a n b j k;cases e;rw[hfg _ _ _ j λx d=>ak _ d,IP (λp q l' h m=>hfg p q l' h λx d=>aj _ (m x d)) k]
  ·cases e
theorem KT:∀ (n:Nat) (p:PV) (q:PV) (l:List Nat),(∀ x∈l,hs.get x=h.get x)->AX h n p=some (q,l)->AX hs n p=some (q,l)
 |0,p,q,l,hl,e=>by simp[AX]at e
 |n+1,p,q,l,hl,e=>by
  have g:∀ {u w:List PV} {l':List Nat},(∀ x∈l',x∈l)->AB (AX h n) u=some (w,l')->AB (AX hs n) u=some (w,l'):=λz e=>
   IP (λp q B o r=>KT n p q B (λx d=>hl x (z x (r x d))) o) e
  cases p with
  |agg cs=>simp only[AX]at e ⊢;obtain⟨⟨x,l'⟩,d,c⟩:=Pi.AA e;cases c;rw[g (λ_ h=>h) d];rfl
  |tup cs=>simp only[AX]at e ⊢;obtain⟨⟨x,l'⟩,d,c⟩:=Pi.AA e;cases c;rw[g (λ_ h=>h) d];rfl
  |ifc t x=>simp only[AX]at e ⊢;obtain⟨⟨y,l'⟩,A,c⟩:=Pi.AA e;cases c;rw[KT n _ _ _ hl A];rfl
  |fn f a b=>
   simp only[AX]at e ⊢;split at e
   ·rename_i x D y m o r;cases e;rw[g (λx h=>ak _ h) o,g (λx h=>aj _ h) r]
   ·cases e
  |own j off len=>
   simp only[AX]at e ⊢;split at e
   ·rename_i es ex fz k;replace e:=AK e;obtain⟨hc,e⟩:=e;obtain⟨⟨x,l'⟩,d,c⟩:=Pi.AA e;cases c;rw[hl j (by simp),k];simp only[hc,cond_true];rw[g (λx h=>aw _ h) d];rfl
   ·cases e
  |ptr j off=>
   simp only[AX]at e ⊢;split at e
   ·rename_i cs fz k;replace e:=AK e;obtain⟨hc,e⟩:=e;obtain⟨⟨x,l'⟩,d,c⟩:=Pi.AA e;cases c;rw[hl j (by simp),k];simp only[hc,cond_true];rw[g (λx h=>aw _ h) d];rfl
   ·cases e
  |ept j i off=>
   simp only[AX]at e ⊢;split at e
   ·rename_i es ex fz k;split at e
    ·rename_i C s;replace e:=AK e;obtain⟨hc,e⟩:=e;obtain⟨⟨x,l'⟩,d,c⟩:=Pi.AA e;cases c;rw[hl j (by simp),k];simp only[s,hc,cond_true];rw[g (λx h=>aw _ h) d];rfl
    ·cases e
   ·cases e
  |yl _=>simp[AX]at e
  |mp _=>simp[AX]at e
  |_=>exact e
theorem Ew:∀ {f c:List PV} {l:List Nat},(∀ x∈l,hs.get x=h.get x)->Ao h f=some (c,l)->Ao hs f=some (c,l)
 |[],c,l,_,e=>e
 |p::f,c,l,hl,e=>by
  unfold Ao at e ⊢;split at e
  ·rename_i q a j b g i;cases e;rw[KT _ _ _ _ (λx d=>hl x (ak _ d)) g,Ew (λx d=>hl x (aj _ d)) i]
  ·cases e
theorem Fj{v:Value}{p:PV}(e:Pi.Cw v=some p)(n:Nat):AX h (n+1) p=some (p,[]):=by
 unfold Pi.Cw at e;split at e<;>first|cases e|skip
 all_goals first
  |rfl
  |(split at e<;>cases e;rfl)
theorem Eg:∀ {vs:List Value} {a:List PV},Pi.cellsOf vs=some a -> ∀ n,AB (AX h (n+1)) a=some (a,[])
 |[],a,e,n=>by cases e;rfl
 |v::vs,a,e,n=>by
  unfold Pi.cellsOf at e;split at e
  ·rename_i p d b c;cases e;unfold AB;rw[Fj b,Eg c];rfl
  ·cases e
theorem QE{t:TypeId}{z:List PV}{f:Bool}{j:PV}(e:Pi.zeroCells P t=some z)(d:Pi.LP f z=some j)(n:Nat):∃ q,AX h (n+2) j=some (q,[]):=by
 unfold Pi.zeroCells at e;split at e
 ·split at e
  ·have g:=λn=>Eg (h:=h) e n;unfold Pi.LP at d;cases f with
   |true=>
    simp only[cond_true,Option.some.injEq]at d;subst d;refine⟨.agg z,?_⟩;show(AB (AX h (n+1)) z).map _=_;rw[g n];rfl
   |false=>
    simp only[cond_false]at d;split at d
    ·rename_i c;cases d;have:=g (n+1);unfold AB at this;split at this
     ·rename_i q a l b k i;simp only[AB,Option.some.injEq,Prod.mk.injEq]at i this;obtain⟨_,rfl⟩:=i;have:a=[]:=by simpa using this.2
      subst this;exact⟨q,k⟩
     ·cases this
    ·cases d
  ·cases e
 ·cases e
theorem I9:∀ {n:Nat} {a:List (Nat×PV)} {es es':List PV},Pi.FV n es a=some es' -> ∀ e∈es',e∈es \/ ∃ i,(i,e)∈a
 |n,[],es,es',e,x,hx=>by simp only[Pi.FV,Option.some.injEq]at e;subst e;exact .inl hx
 |n,(i,v)::r,es,es',e,x,hx=>by
  unfold Pi.FV at e;replace e:=AK e;obtain⟨_,e⟩:=e;rcases I9 e x hx with h|⟨j,h⟩
  ·rw[Pi.AT]at h;rcases List.mem_or_eq_of_mem_set h with h|h
   ·exact .inl h
   ·subst h;exact .inr ⟨i,by simp⟩
  ·exact .inr ⟨j,by simp[h]⟩
theorem Lb:∀ {es c:List PV} {l:List Nat},Ao h es=some (c,l) -> ∀ x∈l,∃ e∈es,∃ q l',AX h Pi.AU e=some (q,l')/\x∈l'
 |[],c,l,e,x,hx=>by cases e;cases hx
 |p::ps,c,l,e,x,hx=>by
  unfold Ao at e;split at e
  ·rename_i q a i b d f;cases e;rcases ao.1 hx with hx|hx
   ·exact⟨p,by simp,q,a,d,hx⟩
   ·obtain⟨e,g,k⟩:=Lb f x hx;exact⟨e,by simp[g],k⟩
  ·cases e
theorem Ge{t:T PV}:∀ {l:List (Nat×Operand)} {b:List (Nat×PV)},Pi.B9 t l=some b -> ∀ i p,(i,p)∈b -> ∀ q m,AX h Pi.AU p=some (q,m) -> ∀ x∈m,x∈Pi.EV t h (l.map (·.2))
 |[],b,e,i,p,hp,_,_,_,_,_=>by cases e;cases hp
 |(j,o)::l,b,e,i,p,hp,q,m,hm,x,hx=>by
  unfold Pi.B9 at e;split at e
  ·rename_i a f c d;cases e;simp only[cC,Pi.EV,c];rcases ae.1 hp with hp|hp
   ·cases hp;rw[hm];exact ak _ hx
   ·have:=Ge d i p hp q m hm x hx;split
    ·exact aj _ this
    ·exact this
  ·cases e
theorem H1{ty:TypeId}{len:Nat}{o:List (Nat×PV)}(y:∀ i p,(i,p)∈o -> ∀ q m,AX h Pi.AU p=some (q,m) -> ∀ x∈m,hs.get x=h.get x)(e:CD (Pi.Ag P h ty len o)):CD (Pi.Ag P hs ty len o):=by
 unfold Pi.Ag at e ⊢;split at e
 ·rename_i G A
  try simp only[A]
  split at e
  ·rename_i n F z C D t
   try simp only[C,D,t]
   split at e
   ·rename_i J f
    try simp only[f]
    refine A2 e (λ_ e=>AO e) λ_ e=> ?_;split at e
    ·rename_i es c
     try simp only[c]
     split at e
     ·rename_i E l d
      have s:∀ x∈l,hs.get x=h.get x:=λx B=>by
       obtain⟨b,w,q,l',g,r⟩:=Lb d x B;rcases I9 c b w with k|⟨i,k⟩
       ·have:=List.eq_of_mem_replicate k;subst this;obtain⟨I,u⟩:=QE (h:=h) t f 10;have a:AX h (10+2) b=some (q,l'):=g;rw[u]at a;cases a;cases r
       ·exact y i b k q l' g x r
      rw[Ew s d];obtain⟨_,_,e⟩:=e;obtain⟨g,j,_⟩:=Pi.AA e;obtain⟨a,e1,_⟩:=EE s j;show CD ((Pi.freeze hs l).map λh=>Pi.R.val (.lst true E) h);rw[e1];exact⟨_,a,rfl⟩
     ·exact AO e
    ·exact AO e
   ·exact AO e
  ·exact AO e
 ·exact AO e
theorem K0{t:T PV}{id:Nat}{o:Oper}(u:∀ ty x lo hi m,o.op=.slice ty x lo hi (some m) -> ∀ p,Pi.CM t x=some p -> ∀ j a b,p ≠ .own j a b)(hc:AR o.op=4)(k:∀ q∈Pi.Au t h o.op,hs.get q=h.get q)(y:h.get id=none->hs.get id=none)(e:CD (Pi.AQ P t h id o)):CD (Pi.AQ P t hs id o):=by
 unfold Pi.AQ at e ⊢;generalize o.op=J at hc k e u;cases J with
 |buildSlice ty len B=>
  simp only at e ⊢;split at e
  ·rename_i L s
   try simp only[s]
   exact H1 (λi p l q m C x E=>k x (Ge s i p l q m C x E)) e
  ·exact AO e
 |call c=>
  simp only at e ⊢;split at e
  ·rename_i args f
   try simp only[f]
   cases d:c.callee with
   |builtin b=>
    simp only[AR,d]at hc;simp only[d]at e ⊢
    replace k:∀ q∈Pi.BP t c.args.toList,hs.get q=h.get q:=by
     simp only[Pi.Au,d]at k;cases b<;>simp at hc<;>exact k
    have g:∀ p∈args,∀ q∈Pi.AE p,hs.get q=h.get q:=λp l q D=>k q (Jo f p l q D);cases b with
    |append=>
     simp only[Pi.AH]at e ⊢;split at e
     ·rename_i p q t M n
      try simp only[n]
      exact A2 e (λ_ e=>Pc (g p (by simp)) (g q (by simp)) y e) λ_ e=>AO e
     ·exact AO e
    |copy=>exact OK g e
    |_=>simp at hc
   |value _=>simp[AR,d]at hc
   |invoke _ _=>simp[AR,d]at hc
  ·exact AO e
 |slice ty x lo hi mx=>
  cases mx with
  |none=>simp[AR]at hc
  |some m=>
   simp only at e ⊢;split at e
   ·rename_i z w A F G I
    try simp only[F,G,I]
    obtain⟨v,K,e⟩:=e;obtain⟨p,l,e⟩:=Pi.Aa e;have:=OQ (P:=P) (hs:=hs) (h:=h) (ty:=ty) (lo:=z) (hi:=w) (mx:=A) (u _ _ _ _ _ rfl p l);rw[e]at this;unfold Pi.e1;rw[l];exact⟨v,hs,this⟩
   ·exact AO e
 |makeMap _ r=>cases r<;>simp[AR]at hc
 |_=>simp[AR]at hc
theorem J0{id:Nat}{l:List Nat}{h':Hp}{r q:PV}{u:Hp}(p:∀ x∈l,hs.get x=h.get x)(d:h.get id=none->hs.get id=none)(e:Pi.Al id l h h' r=some (q,u)):∃ i,Pi.Al id l hs h' r=some (q,i):=by
 unfold Pi.Al at e ⊢;split at e
 ·rename_i len s ex w
  try dsimp only
  split at e
  ·rename_i o b;obtain⟨z,f,m⟩:=Pi.AA e;cases m
   have:∃ a,(bif Pi.BJ s then some hs else Pi.freeze hs l)=some a/\(o.get id=none->a.get id=none):=by
    cases c:Pi.BJ s with
    |true=>
     rw[c]at b;cases b;exact⟨hs,rfl,d⟩
    |false=>
     rw[c]at b;obtain⟨a,e3,g⟩:=EE p b;refine⟨a,e3,λf=> ?_⟩;by_cases k:h.get id=none
     ·rw[g id (by rw[d k,k])];exact f
     ·exact absurd f ((C3 b id).2 k)
   obtain⟨a,e3,g⟩:=this;obtain⟨j,t⟩:=KF g f;rw[e3];exact⟨j,by simp only[t,ap]⟩
  ·cases e
 ·rename_i w
  try dsimp only
  split at e
  ·rename_i y A n
   try simp only[n]
   cases c:Pi.flat y with
   |true=>
    rw[c]at e;cases e;exact⟨hs,by simp only[cond_true]⟩
   |false=>
    rw[c]at e;simp only[cond_false]at e ⊢;obtain⟨o,b,m⟩:=Pi.AA e;cases m;obtain⟨a,e3,_⟩:=EE p b;exact⟨a,by simp only[e3,ap]⟩
  ·cases e
theorem Ma:∀ (n:Nat) (p q:PV) (l:List Nat),AX h n p=some (q,l) -> ∀ x∈l,h.get x≠none
 |0,p,q,l,e,x,hx=>by simp[AX]at e
 |n+1,p,q,l,e,x,hx=>by
  have g:∀ {o w:List PV} {l':List Nat},AB (AX h n) o=some (w,l') -> ∀ x∈l',h.get x≠none:=by
   intro o
   induction o with
   |nil=>intro w l' e x hx;cases e;cases hx
   |cons p o u=>
    intro w l' e x hx;unfold AB at e;split at e
    ·rename_i q a A b r s;cases e;rcases ao.1 hx with hx|hx
     ·exact Ma n _ _ _ r x hx
     ·exact u s x hx
    ·cases e
  cases p with
  |agg cs=>simp only[AX]at e;obtain⟨⟨y,l'⟩,d,c⟩:=Pi.AA e;cases c;exact g d x hx
  |tup cs=>simp only[AX]at e;obtain⟨⟨y,l'⟩,d,c⟩:=Pi.AA e;cases c;exact g d x hx
  |ifc t v=>simp only[AX]at e;obtain⟨⟨y,l'⟩,d,c⟩:=Pi.AA e;cases c;exact Ma n _ _ _ d x hx
  |fn f a b=>
   simp only[AX]at e;split at e
   ·rename_i y B z m r s;cases e;rcases ao.1 hx with hx|hx
    ·exact g r x hx
    ·exact g s x hx
   ·cases e
  |own j off len=>
   simp only[AX]at e;split at e
   ·rename_i es ex fz k;replace e:=AK e;obtain⟨_,e⟩:=e;obtain⟨⟨y,l'⟩,d,c⟩:=Pi.AA e;cases c;rcases ae.1 hx with rfl|hx
    ·rw[k];simp
    ·exact g d x hx
   ·cases e
  |ptr j off=>
   simp only[AX]at e;split at e
   ·rename_i cs fz k;replace e:=AK e;obtain⟨_,e⟩:=e;obtain⟨⟨y,l'⟩,d,c⟩:=Pi.AA e;cases c;rcases ae.1 hx with rfl|hx
    ·rw[k];simp
    ·exact g d x hx
   ·cases e
  |ept j i off=>
   simp only[AX]at e;split at e
   ·rename_i es ex fz k;split at e
    ·replace e:=AK e;obtain⟨_,e⟩:=e;obtain⟨⟨y,l'⟩,d,c⟩:=Pi.AA e;cases c;rcases ae.1 hx with rfl|hx
     ·rw[k];simp
     ·exact g d x hx
    ·cases e
   ·cases e
  |yl _=>simp[AX]at e
  |mp _=>simp[AX]at e
  |_=>cases e;cases hx
theorem Ei{t:T PV}:∀ {l:List Operand},∀ x∈Pi.EV t h l,h.get x≠none
 |[],x,hx=>by cases hx
 |o::l,x,hx=>by
  unfold Pi.EV at hx;split at hx
  ·split at hx
   ·rename_i q m a;rcases ao.1 hx with hx|hx
    ·exact Ma _ _ _ _ a x hx
    ·exact Ei x hx
   ·exact Ei x hx
  ·exact Ei x hx
end
end
section
variable[Pi.Gl]
open Pi (PV T Hp Blk DF UM PE AN AT AB AX Ao)
section
variable{P:Program}{h hs:Hp}
theorem Ho(c:Hp):∀ (l:List Nat) (h:Hp),∃ a,Pi.over c l h=some a/\a.nx=h.nx
 |[],h=>⟨h,rfl,rfl⟩
 |j::l,h=>by
  unfold Pi.over;split
  ·rename_i b f;obtain⟨e,e3⟩:=BM h j b;obtain⟨a,e2,d⟩:=Ho c l e;exact⟨a,by rw[e3];exact e2,by rw[d];exact(Hp.get_set e3).2⟩
  ·exact Ho c l h
theorem Ah{h:Hp}:∀ {l:List Nat} {x:Nat},x∈Pi.A8 h l->x∈l
 |[],x,hx=>by simp[Pi.A8]at hx
 |j::l,x,hx=>by
  unfold Pi.A8 at hx;split at hx
  ·exact aw _ (Ah hx)
  ·exact aw _ (Ah hx)
  ·rcases ae.1 hx with rfl|hx
   ·simp
   ·exact aw _ (Ah hx)
theorem Iw{o:Op}(a:Pi.As o=true):(AR o<=1->Pi.quiet o=true)/\(AR o=2\/AR o=3->Pi.quiet o=false/\Pi.EX o=false)/\(AR o=0\/AR o=2 -> ∀ t h,Pi.Au t h o=[])/\(AR o=4->Pi.quiet o=false):=by
 cases o with
 |slice _ _ _ _ mx=>cases mx<;>simp[AR,Pi.quiet,Pi.EX]
 |makeMap _ r=>cases r<;>simp[AR,Pi.quiet,Pi.EX,Pi.Au]
 |call c=>
  cases hc:c.callee with
  |builtin b=>cases b<;>simp[AR,Pi.quiet,Pi.EX,hc]
  |_=>simp[AR,hc]
 |_=>simp[AR,Pi.quiet,Pi.EX,Pi.Au]
theorem H8{t:T PV}{id:Nat}{o:Oper}{r:Pi.R}(K:∀ ty x lo hi m,o.op=.slice ty x lo hi (some m) -> ∀ p,Pi.CM t x=some p -> ∀ j a b,p ≠ .own j a b)(g:Pi.As o.op=true)(s:h.get id=none)(e:Pi.AQ P t h id o=some r) :
  (∀ v d,r=.val v d->AR o.op<=2\/AR o.op=4 -> ∃ f wr,(∀ rec,Pi.Aw P rec t h id o=some (v,f,id::Pi.Au t h o.op,wr))/\(∀ q,f.get q=d.get q)/\f.nx=h.nx/\(AR o.op<=1->wr=[]/\d=h) /\ ∀ w∈wr,w∈id::Pi.Au t h o.op) /\
  (∀ d,r=.skip d->AR o.op=3 -> ∃ f wr,(∀ rec,Pi.Aw P rec t h id o=some (.tup [],f,id::Pi.Au t h o.op,wr))/\(∀ q,f.get q=d.get q)/\f.nx=h.nx /\ ∀ w∈wr,w∈id::Pi.Au t h o.op):=by
 have i:∀ q∈id::Pi.Au t h o.op,(h.cut (id::Pi.Au t h o.op)).get q=h.get q:=λq n=>by
  rw[Pi.DV,if_pos ⟨n,by omega⟩]
 have low:=λhc=>MG (P:=P) (hs:=h.cut (id::Pi.Au t h o.op)) hc (λq n=>i q (aw _ n)) (λ_=>by rw[i id (by simp)];exact s) e;have sub:Pi.Eb (h.cut (id::Pi.Au t h o.op)) h:=λx b hb=>(Pi.Dq hb).2;have z:ah id (id+1)=true:=by simp
 have n:=Iw g
 have k:∀ {c d:Hp},Pi.Lay (h.cut (id::Pi.Au t h o.op)) h c d id -> ∃ f,Pi.over c (id::Pi.Au t h o.op) h=some f/\(∀ q,f.get q=d.get q)/\f.nx=h.nx:=fun {c d} l=>by
  obtain⟨f,e2,S⟩:=Ho c (id::Pi.Au t h o.op) h;refine⟨f,e2,λq=> ?_,S⟩;rw[Pi.Ct e2 q,l.get q];by_cases G:q∈id::Pi.Au t h o.op
  ·rw[if_pos G]
   all_goals (cases c.get q<;>rfl)
  ·rw[if_neg G];cases O:c.get q with
   |none=>rfl
   |some b=>
    rcases l.keys q b O with⟨b0,hb⟩|hb
    ·exact absurd (Pi.Dq hb).1 G
    ·exact absurd (by simp[hb]) G
 refine⟨λv d A hc=> ?_,λd A hc=> ?_⟩
 ·obtain⟨N,c,B⟩:∃ N c,Pi.AQ P t (h.cut (id::Pi.Au t h o.op)) id o=some (.val N c):=by
   rcases hc with hc|hc
   ·exact(low (by omega)).1 v d A
   ·exact K0 K hc (λq n=>i q (aw _ n)) (λ_=>by rw[i id (by simp)];exact s) ⟨v,d,by rw[e,A]⟩
  have lay:=Pi.Ce sub (λ_=>s) g B;obtain⟨f,F,L⟩:=lay;rw[e,A]at F;cases F;by_cases C:AR o.op<=1
  ·have E:=n.1 C;have:=Pi.GO E g (by rw[e,A]);refine⟨h,[],λrec=> ?_,λq=>by rw[this],rfl,λ_=>⟨rfl,this⟩,λ_ y=>by cases y⟩;unfold Pi.Aw;simp only[g,z,au,aL,cond_false,B,E,cond_true]
  ·have u:Pi.quiet o.op=false:=by
    rcases hc with hc|hc
    ·exact(n.2.1 (.inl (by omega))).1
    ·exact n.2.2.2 hc
   obtain⟨J,e3,I,M⟩:=k L;refine⟨J,bif Pi.EX o.op then id::Pi.Au t h o.op else Pi.A8 h (id::Pi.Au t h o.op),λrec=> ?_,I,M,λh=>absurd h C,λw y=> ?_⟩
   ·unfold Pi.Aw;simp only[g,z,au,aL,cond_false,B,u,e3,ap]
   ·cases D:Pi.EX o.op with
    |true=>rw[D]at y;exact y
    |false=>rw[D]at y;exact Ah y
 ·obtain⟨c,B⟩:=(low (by omega)).2 d A;have lay:=Pi.Ce sub (λ_=>s) g B;obtain⟨f,F,L⟩:=lay;rw[e,A]at F;cases F;have u:=n.2.1 (.inr hc);obtain⟨J,e3,I,M⟩:=k L;refine⟨J,Pi.A8 h (id::Pi.Au t h o.op),λrec=> ?_,I,M,λw y=>Ah y⟩;unfold Pi.Aw;simp only[g,z,au,aL,cond_false,B,u.1,u.2,e3,ap]
theorem BR.there{X:Cx}{c:BA}{pid m:Nat}(d:BR X c (some (.blk pid m)))(e:c.live):X.h.get pid≠none:=by
 cases c with
 |box=>obtain⟨_,_,_,_,a,_,b,_⟩:=d;cases a;rw[b];simp
 |row=>
  rcases d with⟨_,_,_,_,a,_,b,_⟩|⟨a,_⟩|⟨_,a,_⟩
  ·cases a;rw[b];simp
  ·cases a
  ·cases a
 |mp=>obtain⟨_,_,_,a,_,b,_⟩:=d;cases a;rw[b];simp
 |lp=>obtain⟨_,_,_,_,_,a,_,b,_⟩:=d;cases a;rw[b];simp
 |df=>obtain⟨_,_,_,a,_,b,_⟩:=d;cases a;rw[b];simp
 |dead=>exact e.elim
theorem Dy{X:Cx}{h:H}{n id pid m:Nat}(r:RH X h n)(a:GW h id=true)(f:X.π id=some (.blk pid m)):X.h.get pid≠none:=by
 unfold GW at a;split at a
 ·cases a
 ·rename_i c d e
  have b:c.live:=by
   cases c<;>first|trivial|exact absurd e (by simpa using d)
  exact(f ▸ r.blk _ _ e).there b
 ·cases a
theorem O3{X:Cx}{h:H}{n:Nat}(r:RH X h n){v:V}{p:PV}(d:VR X v p)(s:RB h v=true):∀ q∈Pi.AE p,X.h.get q≠none:=by
 intro q j;cases v with
 |ow id=>
  simp only[VR]at d;cases w:X.π id with
  |none=>rw[w]at d;exact d.elim
  |some a=>
   rw[w]at d;cases a with
   |blk pid len=>simp only at d;subst d;simp only[Pi.AE,ax]at j;subst j;exact Dy r s w
   |nil=>simp only at d;subst d;simp[Pi.AE]at j
   |fz es=>simp only at d;subst d;simp[Pi.AE]at j
 |own id off len=>simp only[VR]at d;obtain⟨pid,m,o,rfl⟩:=d;simp only[Pi.AE,ax]at j;subst j;exact Dy r s o
 |ptr id off=>simp only[VR]at d;obtain⟨pid,m,o,rfl⟩:=d;simp only[Pi.AE,ax]at j;subst j;exact Dy r s o
 |aptr id off k n=>simp only[VR]at d;obtain⟨pid,m,o,rfl,_⟩:=d;simp only[Pi.AE,ax]at j;subst j;exact Dy r s o
 |ept id i off=>simp only[VR]at d;obtain⟨pid,m,o,rfl⟩:=d;simp only[Pi.AE,ax]at j;subst j;exact Dy r s o
 |mp id=>simp only[VR]at d;obtain⟨pid,m,o,rfl⟩:=d;simp only[Pi.AE,ax]at j;subst j;exact Dy r s o
 |lf full g c l=>
  simp only[VR]at d;rcases d with⟨o,_⟩|⟨f,es,o,_⟩|⟨pid,off,len,es,ex,fz,o,y,x,u,_⟩
  ·subst o;simp[Pi.AE]at j
  ·subst o;simp[Pi.AE]at j
  ·subst o;simp only[Pi.AE,ax]at j;subst j;rw[u];simp
 |view cs=>
  simp only[VR]at d;rcases d with⟨z,rfl,_⟩|⟨pid,i,off,es,ex,fz,e,rfl,x,u,_⟩
  ·simp[Pi.AE]at j
  ·simp only[Pi.AE,ax]at j;subst j;rw[u];simp
 |exl f es=>simp only[VR]at d;obtain⟨_,_,rfl,_⟩:=d;simp[Pi.AE]at j
 |pl g c l=>simp only[VR]at d;rcases d with⟨rfl,_⟩|⟨_,_,rfl,_⟩<;>simp[Pi.AE]at j
 |pv cs=>simp only[VR]at d;obtain⟨_,rfl,_⟩:=d;simp[Pi.AE]at j
 |agg cs=>simp only[VR]at d;obtain⟨_,rfl,_⟩:=d;simp[Pi.AE]at j
 |tup cs=>simp only[VR]at d;obtain⟨_,rfl,_⟩:=d;simp[Pi.AE]at j
 |fn f a b=>simp only[VR]at d;obtain⟨_,_,rfl,_⟩:=d;simp[Pi.AE]at j
 |yl id=>simp only[VR]at d;obtain⟨_,_,_,rfl⟩:=d;simp[Pi.AE]at j
 |ifc t v=>simp only[VR]at d;obtain⟨_,rfl,_⟩:=d;simp[Pi.AE]at j
 |_=>simp only[VR]at d;subst d;simp[Pi.AE]at j
theorem Ku{v:Value}{p:PV}(e:Pi.Cw v=some p):Pi.AE p=[]:=by
 unfold Pi.Cw at e;split at e<;>first|cases e|skip
 all_goals first|rfl|(cases e;rfl)|(replace e:=AK e;cases e.2;rfl)|(split at e<;>first|(cases e;rfl)|cases e)
theorem F3{v:Value}{p:PV}(e:Pi.D2 v=some p):Pi.AE p=[]:=by
 unfold Pi.D2 at e;split at e
 ·obtain⟨x,_,rfl⟩:=Pi.AA e;rfl
 ·replace e:=AK e;cases e.2;rfl
 ·split at e
  ·cases e;rfl
  ·cases e
 ·exact Ku e
theorem IE{X:Cx}{h:H}{n:Nat}(r:RH X h n){t:T V}{i:T PV}(d:TR X t i):∀ {l:List Operand},GX h t l=true -> ∀ q∈Pi.BP i l,X.h.get q≠none
 |[],_,q,hq=>by simp[Pi.BP]at hq
 |o::l,hl,q,hq=>by
  unfold Pi.BP at hq
  have j:GX h t l=true:=by
   cases o with
   |tmp k=>simp only[GX,ai]at hl;exact hl.2
   |_=>exact hl
  split at hq
  ·rename_i p a;rcases ao.1 hq with hq|hq
   ·cases o with
    |tmp k=>
     simp only[GX,ai]at hl;have b:=hl.1;split at b
     ·rename_i v m;obtain⟨s,c,e⟩:=d _ _ m;simp only[Pi.CM,c,aC,Option.some.injEq]at a;subst a;exact O3 r e b q hq
     ·cases b
    |const v=>rw[F3 a]at hq;cases hq
    |func f=>simp only[Pi.CM,Option.some.injEq]at a;subst a;simp[Pi.AE]at hq
    |global g=>
     simp only[Pi.CM]at a;obtain⟨cs,_,rfl⟩:=Pi.AA a;simp[Pi.AE]at hq
   ·exact IE r d j q hq
  ·exact IE r d j q hq
theorem Ft{t:T PV}{q:Nat}:∀ {l:List Operand},q∈Pi.DI t l->q∈Pi.BP t l
 |[],h=>h
 |o::l,h=>by
  unfold Pi.DI at h;unfold Pi.BP;split at h
  ·rename_i p a
   try rw[a]
   try simp only
   rcases ao.1 h with h|h
   ·refine ak _ ?_;cases p<;>first|exact h|(simp[Pi.FX]at h)
   ·exact aj _ (Ft h)
  ·rename_i a
   try rw[a]
   exact Ft h
theorem NA{X:Cx}{h:H}{n:Nat}(r:RH X h n){t:T V}{e:T PV}(m:TR X t e){o:Op}(hc:AR o<=4)(g:Pi.As o=true)(l:GX h t (Pi.Az o)=true):∀ q∈Pi.Au e X.h o,X.h.get q≠none:=by
 intro q d;have:=IE r m l;cases o with
 |load _ _=>exact this q d
 |indexAddr _ _ _=>exact this q d
 |store _ _ _=>exact this q d
 |slice ty x lo hi mx=>
  cases mx with
  |some _=>exact Ei q (by simpa[Pi.Au]using d)
  |none=>
   refine this q ?_;simp only[Pi.Au,cL,cond_false]at d
   have f:∀ {a b:List Operand},q∈Pi.BP e a->q∈Pi.BP e (a++b):=by
    intro a b
    induction a with
    |nil=>intro h;simp[Pi.BP]at h
    |cons o a j=>
     intro h;simp only[aY,Pi.BP]at h ⊢;split at h
     ·rename_i p i
      try rw[i]
      try simp only
      rcases ao.1 h with h|h
      ·exact ak _ h
      ·exact aj _ (j h)
     ·rename_i i
      try rw[i]
      exact j h
   exact f (a:=[x]) d
 |call c=>
  simp only[Pi.Au]at d;split at d
  ·rename_i b k;simp only[Pi.Az,k]at this;refine this q ?_;split at d
   ·exact Ft d
   ·exact d
  ·cases d
 |buildSlice _ _ _=>exact Ei q d
 |lookup _ _ _ _=>cases g
 |mapUpdate _ _ _ _=>cases g
 |insert _ _ _ _=>cases g
 |_=>simp[Pi.Au]at d
end
end
section
variable[Pi.Gl]
open Pi (PV T Hp Blk DF UM PE AN AT AB AX Ao)
section
variable{P:Program}{tab:D8}
def Cx.with(X:Cx)(a:Hp):Cx:={ X with h:=a }
theorem ET{X:Cx}{a:Hp}(g:∀ q,a.get q=X.h.get q):Up X (X.with a):=⟨λ_ _ h=>h,λq es ex fz c b=>⟨⟨fz,by show a.get q=_;rw[g];exact b⟩,c⟩⟩
theorem RH.with{X:Cx}{h:H}{n:Nat}{a:Hp}(r:RH X h n)(g:∀ q,a.get q=X.h.get q)(e:a.nx=X.h.nx):RH (X.with a) h n:=
 ⟨λi c hi=>(r.blk i c hi).keep (ET g) λ_ _ _ d=>⟨g _,d⟩,r.inj,r.dom,λq b=>by show a.get q=none;rw[g];exact r.fresh q (by have:a.nx<=q:=b;omega),λq b=>by show a.get q≠none;rw[g];exact r.ob q b⟩
theorem St.with{X Y:Cx}{h h':H}{id idP:Nat}{a:Hp}(s:St X h id idP Y h')(g:∀ q,a.get q=Y.h.get q)(e:a.nx=Y.h.nx):St X h id idP (Y.with a) h':=
 ⟨s.up.trans (ET g),by show a.nx=_;rw[e];exact s.nx,s.pin,λq f k=>by show a.get q=none;rw[g];exact s.hpn q f k,s.lk,λq l i nt t j c b d k=>by show a.get q=_;rw[g];exact s.lps _ _ _ _ _ _ _ _ _ k⟩
def FpA(X:Cx)(l:List Nat×Bool)(q:Nat):Prop:=(∃ j∈l.1,∃ m,X.π j=some (.blk q m))\/(l.2=true/\X.Q q /\ ∃ es ex fz,X.h.get q=some (.row es ex fz))
theorem FpA.mono{X Y:Cx}(u:Up X Y){l:List Nat×Bool}{q:Nat}(h:FpA X l q):FpA Y l q:=by
 rcases h with⟨j,g,m,i⟩|⟨b,c,es,ex,fz,d⟩
 ·exact .inl ⟨j,g,m,u.pi _ _ i⟩
 ·obtain⟨⟨a,e⟩,f⟩:=u.rows _ _ _ _ c d;exact .inr ⟨b,f,es,ex,a,e⟩
def Nf(X:Cx)(own:Nat)(f:Option (List Nat×Bool))(rd:List Nat):Prop:=∀ l,f=some l -> ∀ q∈rd,q=own\/FpA X l q
def FpP(X:Cx)(own:Nat)(f:Option (List Nat×Bool))(rd:List Nat):Prop:=∀ l,f=some l -> ∀ q∈rd,(q=own/\X.h.get q=none)\/FpA X l q
def PastE(X:Cx)(baseP i len:Nat)(a:Nat×Nat×Option (List Nat×Bool))(b:Nat×List Nat×List Nat):Prop:=
 a.1=b.1/\b.1<i/\(∀ w∈b.2.2,w∈b.2.1)/\(a.2.1<=1->b.2.2=[])/\(∀ q∈b.2.1,∀ k,i<=k->k<len->q≠baseP+k)/\(a.2.1=0->b.2.1=[baseP+b.1]/\X.h.get (baseP+b.1)=none)/\FpP X (baseP+b.1) a.2.2 b.2.1
theorem BB:∀ {a b:List Nat},(∀ x∈a,x ∉ b)->Pi.CZ a b=false
 |[],b,_=>rfl
 |x::a,b,h=>by
  simp only[Pi.CZ,am,aH];refine⟨λy d c=> ?_,BB λz e=>h z (by simp[e])⟩;have:=al c;subst this;exact h x (by simp) d
theorem LN:∀ {a b:List Nat},Pi.CZ a b=false -> ∀ x∈a,x ∉ b
 |[],_,_,x,hx=>by cases hx
 |y::a,b,h,x,hx=>by
  simp only[Pi.CZ,am,aH]at h;rcases ae.1 hx with rfl|hx
  ·intro c;exact h.1 x c (by simp)
  ·exact LN h.2 x hx
theorem HA{h:H}:∀ {l:List Nat},LD h l=true -> ∀ j∈l,GW h j=true
 |[],_,j,hj=>by cases hj
 |k::l,hl,j,hj=>by
  simp only[LD,ai]at hl;rcases ae.1 hj with rfl|hj
  ·exact hl.1
  ·exact HA hl.2 j hj
theorem G9{h:H}{id:Nat}(a:GW h id=true):∃ b,h.get id=some b/\b.live:=by
 unfold GW at a;split at a
 ·cases a
 ·rename_i c d e;exact⟨c,e,by cases c<;>first|trivial|exact absurd e (by simpa using d)⟩
 ·cases a
theorem HD{h:H}:∀ {l:List Nat},LZ h l=true -> ∀ j∈l,∃ b,h.get j=some b
 |[],_,j,hj=>by cases hj
 |k::l,hl,j,hj=>by
  simp only[LZ,ai]at hl;rcases ae.1 hj with rfl|hj
  ·exact Option.isSome_iff_exists.1 hl.1
  ·exact HD hl.2 j hj
theorem D3{X:Cx}{h:H}{n:Nat}(B:RH X h n){baseP i len C c:Nat}{f:Option (List Nat×Bool)}{rd wr:List Nat}(hf:Nf X (baseP+i) f rd)(hi:i<len)(K:∀ w∈wr,w∈rd)(h1:c<=1->wr=[])(P:c=0\/c=2->rd=[baseP+i])(s:∀ q∈rd,q=baseP+i\/X.h.get q≠none) :
  ∀ {pa:List (Nat×Nat×Option (List Nat×Bool))} {pp:List (Nat×List Nat×List Nat)},L2 (PastE X baseP i len) pa pp->DM h C c f pa=true->Pi.Fu C rd wr pp=true
 |[],pp,u,_=>by rw[L2.nil_inv u];rfl
 |(j,d,g)::pa,pp,u,ho=>by
  obtain⟨⟨j',r,w⟩,pp',rfl,⟨e1,e2,e3,N,e5,e6,e7⟩,W⟩:=L2.cons_inv u;simp only at e1 e2 e3 N e5 e6 e7;subst e1;simp only[DM,ai,bE]at ho;simp only[Pi.Fu,ai,bE,bh];refine⟨?_,D3 B hf hi K h1 P s W ho.2⟩;have own:∀ x∈r,x≠baseP+i:=λx e=>e5 x e i (ac _) hi;rcases ho.1 with hb|hb|hb|hb|hb|hb
  ·exact .inl hb
  ·have hc:=al hb;refine .inr ?_;rw[P (.inl hc),h1 (by omega)];exact am.2 ⟨BB λx e k=>own x (e3 x e) (by simpa using k),rfl⟩
  ·have hc:=al hb;have A:=P (.inr hc);refine .inr (am.2 ⟨BB λx e k=>own x (e3 x e) (by rw[A]at k;simpa using k),BB λx e k=>own x k (by have:=K x e;rw[A]at this;simpa using this)⟩)
  ·have hd:=al hb;obtain⟨f1,f2⟩:=e6 hd;refine .inr (am.2 ⟨by rw[N (by omega)];rfl,BB λx e k=> ?_⟩);rw[f1]at k;have Y:x=baseP+j:=by simpa using k
   rcases s x (K x e)with hh|hh
   ·omega
   ·rw[Y]at hh;exact hh f2
  ·have hc:=al hb.1;have hd:=al hb.2;exact .inr (am.2 ⟨by rw[N (by omega)];rfl,by rw[h1 (by omega)];rfl⟩)
  ·unfold SD at hb;split at hb
   ·rename_i a b;simp only[ai,bh]at hb;obtain⟨k,F,D,E⟩:=hb
    have G:∀ {l:List Nat} {j q m:Nat},LD h l=true->j∈l->X.π j=some (.blk q m)->X.O q:=λu U J=>by
     obtain⟨M,z,L⟩:=G9 (HA u _ U);exact(J ▸ B.blk _ _ z).own L
    have I:∀ {l:List Nat} {j q m:Nat},LZ h l=true->j∈l->X.π j=some (.blk q m)->X.O q:=λu U J=>by
     obtain⟨M,z⟩:=HD u _ U;have hB:=B.blk _ _ z;cases M with
     |dead=>exact(hB _ _ J).1
     |_=>exact(J ▸ hB).own trivial
    have no:∀ x∈rd,x ∉ r:=λx e A=>by
     rcases hf a rfl x e with hh|h1
     ·exact own x A hh
     ·rcases e7 b rfl x A with⟨hh,S⟩|h2
      ·rcases s x e with hk|hk
       ·exact own x A hk
       ·exact hk S
      ·rcases h1 with⟨j1,t,m1,y⟩|⟨q1,Z,_⟩
       ·rcases h2 with⟨j2,o,m2,p⟩|⟨_,Z,_⟩
        ·obtain⟨M,z,L⟩:=G9 (HA D j1 t);obtain⟨b2,g2⟩:=HD E j2 o
         have l2:b2.live:=by
          cases b2 with
          |dead=>exact absurd ((B.blk _ _ g2) _ _ p).2 ((y ▸ B.blk _ _ z).nd L)
          |_=>trivial
         have:=B.inj _ _ _ _ _ _ _ z g2 L l2 y p;subst this;exact LN k _ t o
        ·exact Z (G D t y)
       ·rcases h2 with⟨j2,o,m2,p⟩|⟨q3,_,_⟩
        ·exact Z (I E o p)
        ·rw[q1,q3]at F;cases F
    exact .inr (am.2 ⟨BB λx e k=>no x k (e3 x e),BB λx e k=>no x (K x e) k⟩)
   ·cases hb
theorem FpP.mono{X Y:Cx}(u:Up X Y){own:Nat}(b:X.h.get own=none->Y.h.get own=none){f:Option (List Nat×Bool)}{rd:List Nat}(h:FpP X own f rd):FpP Y own f rd:=λl a q c=>by
 rcases h l a q c with⟨rfl,h1⟩|h1
 ·exact .inl ⟨rfl,b h1⟩
 ·exact .inr (h1.mono u)
theorem PastE.next{X Y:Cx}{h h':H}{baseP base i len:Nat}{a:Nat×Nat×Option (List Nat×Bool)}{b:Nat×List Nat×List Nat}(s:St X h (base+i) (baseP+i) Y h')(k:PastE X baseP i len a b):PastE Y baseP (i+1) len a b:=by
 obtain⟨e1,e2,e3,e,f,c,g⟩:=k;exact⟨e1,by omega,e3,e,λq m k n j=>f q m k (by omega) j,λd=>⟨(c d).1,s.hpn _ (by omega) (c d).2⟩,g.mono s.up λl=>s.hpn _ (by omega) l⟩
theorem CP{X:Cx}{t:T V}{J:T PV}(x:TR X t J):∀ {ops:List Operand} {l:List Nat×Bool},N6 t ops=some l -> ∀ q∈Pi.BP J ops,FpA X l q
 |[],_,_,q,hq=>by simp[Pi.BP]at hq
 |o::ops,l,e,q,hq=>by
  unfold Pi.BP at hq;cases o with
  |tmp k=>
   unfold N6 at e
   have D:∀ {v:V},t.get k=some v -> ∃ p,Pi.CM J (.tmp k)=some p/\VR X v p:=λr=>by
    obtain⟨W,G,d⟩:=x _ _ r;exact⟨W,by simp only[Pi.CM,G,aC],d⟩
   have w:∀ {v:V} {id:Nat},t.get k=some v->(∀ p,VR X v p -> ∀ q∈Pi.AE p,∃ m,X.π id=some (.blk q m))->((N6 t ops).map (λa=>(id::a.1,a.2))=some l)->FpA X l q:=fun {v id} r E e=>by
    obtain⟨p,s,d⟩:=D r;rw[s]at hq;obtain⟨l',z,rfl⟩:=Pi.AA e;rcases ao.1 hq with hq|hq
    ·obtain⟨m,F⟩:=E p d q hq;exact .inl ⟨id,by simp,m,F⟩
    ·rcases CP x z q hq with⟨j,K,m,F⟩|hq
     ·exact .inl ⟨j,by simp[K],m,F⟩
     ·exact .inr hq
   have A:∀ {v:V},t.get k=some v->(∀ p,VR X v p -> ∀ q∈Pi.AE p,X.Q q /\ ∃ es ex fz,X.h.get q=some (.row es ex fz))->((N6 t ops).map (λa=>(a.1,true))=some l)->FpA X l q:=fun {v} r E e=>by
    obtain⟨p,s,d⟩:=D r;rw[s]at hq;obtain⟨l',z,rfl⟩:=Pi.AA e;rcases ao.1 hq with hq|hq
    ·exact .inr ⟨rfl,E p d q hq⟩
    ·rcases CP x z q hq with h|hq
     ·exact .inl h
     ·exact .inr ⟨rfl,hq.2⟩
   split at e
   ·rename_i id r;refine w r (λp d q hq=> ?_) e;simp only[VR]at d;cases s:X.π id with
    |none=>rw[s]at d;exact d.elim
    |some a=>
     rw[s]at d;cases a with
     |blk pid len=>simp only at d;subst d;simp only[Pi.AE,ax]at hq;subst hq;exact⟨_,rfl⟩
     |nil=>simp only at d;subst d;simp[Pi.AE]at hq
     |fz es=>simp only at d;subst d;simp[Pi.AE]at hq
   ·rename_i id off len r;refine w r (λp d q hq=> ?_) e;simp only[VR]at d;obtain⟨pid,m,u,rfl⟩:=d;simp only[Pi.AE,ax]at hq;subst hq;exact⟨_,u⟩
   ·rename_i id off r;refine w r (λp d q hq=> ?_) e;simp only[VR]at d;obtain⟨pid,m,u,rfl⟩:=d;simp only[Pi.AE,ax]at hq;subst hq;exact⟨_,u⟩
   ·rename_i id i off r;refine w r (λp d q hq=> ?_) e;simp only[VR]at d;obtain⟨pid,m,u,rfl⟩:=d;simp only[Pi.AE,ax]at hq;subst hq;exact⟨_,u⟩
   ·rename_i id off k len r;refine w r (λp d q hq=> ?_) e;simp only[VR]at d;obtain⟨pid,m,u,rfl,_⟩:=d;simp only[Pi.AE,ax]at hq;subst hq;exact⟨_,u⟩
   ·rename_i id r;refine w r (λp d q hq=> ?_) e;simp only[VR]at d;obtain⟨pid,m,u,rfl⟩:=d;simp only[Pi.AE,ax]at hq;subst hq;exact⟨_,u⟩
   ·rename_i f g c Z r;refine A r (λp d q hq=> ?_) e;simp only[VR]at d;rcases d with⟨u,_⟩|⟨f,es,u,_⟩|⟨pid,off,len,es,ex,fz,u,Y,B,C,_⟩
    ·subst u;simp[Pi.AE]at hq
    ·subst u;simp[Pi.AE]at hq
    ·subst u;simp only[Pi.AE,ax]at hq;subst hq;exact⟨B,_,_,_,C⟩
   ·rename_i cs r;refine A r (λp d q hq=> ?_) e;simp only[VR]at d;rcases d with⟨ps,rfl,_⟩|⟨pid,i,off,es,ex,fz,e,rfl,B,C,_⟩
    ·simp[Pi.AE]at hq
    ·simp only[Pi.AE,ax]at hq;subst hq;exact⟨B,_,_,_,C⟩
   ·rename_i v L M N O I P S U r;obtain⟨p,s,d⟩:=D r;rw[s]at hq;rcases ao.1 hq with hq|hq
    ·exfalso;cases v with
     |ow id=>exact L _ rfl
     |own id off len=>exact M _ _ _ rfl
     |ptr id off=>exact N _ _ rfl
     |ept id i off=>exact O _ _ _ rfl
     |aptr id off k n=>exact I _ _ _ _ rfl
     |mp id=>exact P _ rfl
     |lf full g c l=>exact S _ _ _ _ rfl
     |view cs=>exact U _ rfl
     |pl g c l=>simp only[VR]at d;rcases d with⟨rfl,_⟩|⟨_,_,rfl,_⟩<;>simp[Pi.AE]at hq
     |pv cs=>simp only[VR]at d;obtain⟨_,rfl,_⟩:=d;simp[Pi.AE]at hq
     |exl f es=>simp only[VR]at d;obtain⟨_,_,rfl,_⟩:=d;simp[Pi.AE]at hq
     |agg cs=>simp only[VR]at d;obtain⟨_,rfl,_⟩:=d;simp[Pi.AE]at hq
     |tup cs=>simp only[VR]at d;obtain⟨_,rfl,_⟩:=d;simp[Pi.AE]at hq
     |fn f a b=>simp only[VR]at d;obtain⟨_,_,rfl,_⟩:=d;simp[Pi.AE]at hq
     |yl id=>simp only[VR]at d;obtain⟨_,_,_,rfl⟩:=d;simp[Pi.AE]at hq
     |ifc t v=>simp only[VR]at d;obtain⟨_,rfl,_⟩:=d;simp[Pi.AE]at hq
     |_=>simp only[VR]at d;subst d;simp[Pi.AE]at hq
    ·exact CP x e q hq
   ·cases e
  |const v=>
   have y:N6 t ops=some l:=e;split at hq
   ·rename_i p s;rcases ao.1 hq with hq|hq
    ·rw[F3 s]at hq;cases hq
    ·exact CP x y q hq
   ·exact CP x y q hq
  |func f=>
   have y:N6 t ops=some l:=e;split at hq
   ·rename_i p s;rcases ao.1 hq with hq|hq
    ·simp only[Pi.CM,Option.some.injEq]at s;subst s;simp[Pi.AE]at hq
    ·exact CP x y q hq
   ·exact CP x y q hq
  |global g=>
   have y:N6 t ops=some l:=e;split at hq
   ·rename_i p s;simp only[Pi.CM]at s;obtain⟨cs,_,rfl⟩:=Pi.AA s;rcases ao.1 hq with hq|hq
    ·simp[Pi.AE]at hq
    ·exact CP x y q hq
   ·exact CP x y q hq
theorem G4{t:T PV}{q:Nat}{b:List Operand}:∀ {a:List Operand},q∈Pi.BP t a->q∈Pi.BP t (a++b)
 |[],h=>by simp[Pi.BP]at h
 |o::a,h=>by
  simp only[aY,Pi.BP]at h ⊢;split at h
  ·rename_i p c
   try rw[c]
   try simp only
   rcases ao.1 h with h|h
   ·exact ak _ h
   ·exact aj _ (G4 h)
  ·rename_i c
   try rw[c]
   exact G4 h
theorem IM{f:PV->Option (PV×List Nat)}:∀ {a b:List PV} {g:List PV} {c:List Nat},AB f (a++b)=some (g,c) -> ∃ i d j e,AB f a=some (i,d)/\AB f b=some (j,e)/\c=d++e
 |[],b,g,c,h=>⟨[],[],g,c,rfl,h,rfl⟩
 |p::a,b,g,c,h=>by
  simp only[aY,AB]at h;split at h
  ·rename_i q l r l' k m;cases h;obtain⟨i,d,j,e,n,o,rfl⟩:=IM m;exact⟨q::i,l++d,j,e,by simp only[AB,k,n],o,by simp⟩
  ·cases h
theorem EM{f:PV->Option (PV×List Nat)}{p:PV}{d:List PV}{a:List Nat}(h:AB f [p]=some (d,a)):∃ q,f p=some (q,a):=by
 simp only[AB]at h;split at h
 ·rename_i q l e l' b c;cases c;cases h;exact⟨q,by rw[b];simp⟩
 ·cases h
theorem HC{f:PV->Option (PV×List Nat)}{p q:PV}{a:List Nat}(h:f p=some (q,a)):AB f [p]=some ([q],a):=by
 simp only[AB,h,aO]
theorem EK{f:PV->Option (PV×List Nat)}{T:Nat->Prop}:∀ {es:List PV},(∀ e∈es,∀ q l,f e=some (q,l) -> ∀ i∈l,T i) -> ∀ {b:List PV} {a:List Nat},AB f es=some (b,a) -> ∀ i∈a,T i
 |[],_,b,a,h,i,hi=>by cases h;cases hi
 |e::es,hf,b,a,h,i,hi=>by
  simp only[AB]at h;split at h
  ·rename_i q l j l' c d;cases h;rcases ao.1 hi with hi|hi
   ·exact hf e (by simp) _ _ c i hi
   ·exact EK (λe g=>hf e (by simp[g])) d i hi
  ·cases h
theorem MP{α:Type}{R:α->PV->Prop}{l:List α}{es:List PV}(h:L2 R l es):∀ e∈es,∃ y,R y e:=by
 induction h with
 |nil=>intro e he;cases he
 |cons a _ ih=>
  intro e he;rcases ae.1 he with rfl|he
  ·exact⟨_,a⟩
  ·exact ih e he
def Oa(hh:Hp)(Q:Nat->Prop)(i:Nat):Prop:=Q i /\ ∃ es ex fz,hh.get i=some (.row es ex fz)
theorem Fo{hh:Hp}{Q:Nat->Prop}:∀ {c:Ty} {x:c.den} {z:List PV},DR hh Q c x z -> ∀ {d:Nat} {m:List PV} {k:List Nat},AB (AX hh d) z=some (m,k) -> ∀ i∈k,Oa hh Q i
 |.int _,_,_,e,d,m,k,h,i,hi=>by
  subst e;obtain⟨q,h⟩:=EM h;cases d<;>cases h;cases hi
 |.bool,_,_,e,d,m,k,h,i,hi=>by
  subst e;obtain⟨q,h⟩:=EM h;cases d<;>cases h;cases hi
 |.str,_,_,e,d,m,k,h,i,hi=>by
  subst e;obtain⟨q,h⟩:=EM h;cases d<;>cases h;cases hi
 |.unit,_,_,e,d,m,k,h,i,hi=>by subst e;cases h;cases hi
 |.pair a b,_,_,⟨p,q,e,A,o⟩,d,m,k,h,i,hi=>by
  subst e;obtain⟨M,K,N,L,I,J,rfl⟩:=IM h;rcases ao.1 hi with hi|hi
  ·exact Fo A I i hi
  ·exact Fo o J i hi
 |.sl g c,_,_,⟨p,e,F⟩,d,m,k,h,i,hi=>by
  subst e;obtain⟨q,h⟩:=EM h;rcases F with⟨rfl,_⟩|⟨f,es,rfl,_⟩|⟨pid,off,len,es,ex,fz,rfl,o,t,_,_,B⟩
  ·cases d<;>cases h;cases hi
  ·cases d<;>cases h;cases hi
  ·cases d with
   |zero=>cases h
   |succ d=>
    simp only[AX,t]at h;replace h:=AK h;obtain⟨_,h⟩:=h;obtain⟨⟨xs,l⟩,E,G⟩:=Pi.AA h;cases G;rcases ae.1 hi with rfl|hi
    ·exact⟨o,es,ex,fz,t⟩
    ·refine EK (λe D q l n j w=> ?_) E i hi;obtain⟨y,u⟩:=MP B e D;cases g with
     |true=>
      obtain⟨cs,rfl,C⟩:=u;cases d with
      |zero=>cases n
      |succ d=>
       rw[EQ]at n;obtain⟨⟨O,l'⟩,r,s⟩:=Pi.AA n;cases s;exact Fo C r j w
     |false=>exact Fo (show DR hh Q c y [e]from u) (HC n) j w
theorem Ow{hh:Hp}{Q:Nat->Prop}{g:Bool}{c:Ty}{y:c.den}{e q:PV}{d:Nat}{l:List Nat}(h:EP g (DR hh Q c) y e)(a:AX hh d e=some (q,l)):∀ j∈l,Oa hh Q j:=by
 intro j i;cases g with
 |true=>
  obtain⟨cs,rfl,k⟩:=h;cases d with
  |zero=>cases a
  |succ d=>
   rw[EQ]at a;obtain⟨⟨m,l'⟩,b,f⟩:=Pi.AA a;cases f;exact Fo k b j i
 |false=>exact Fo (show DR hh Q c y [e]from h) (HC a) j i
theorem MM{X:Cx}{f:V->Option (List Nat×Bool)}{d:Nat}(s:∀ {v:V} {p:PV} {l:List Nat×Bool},VR X v p->f v=some l -> ∀ {q:PV} {c:List Nat},AX X.h d p=some (q,c) -> ∀ i∈c,FpA X l i) :
  ∀ {vs:List V} {k:List PV} {l:List Nat×Bool},VRL X vs k->SC f vs=some l -> ∀ {r:List PV} {c:List Nat},AB (AX X.h d) k=some (r,c) -> ∀ i∈c,FpA X l i
 |[],k,l,hv,e,r,c,h,i,hi=>by rw[hv.nil_inv]at h;cases h;cases hi
 |v::vs,k,l,hv,e,r,c,h,i,hi=>by
  obtain⟨p,A,rfl,t,u⟩:=hv.cons_inv;unfold SC at e;split at e
  ·rename_i a b w x;cases e;simp only[AB]at h;split at h
   ·rename_i q l B l' y z;cases h;rcases ao.1 hi with hi|hi
    ·rcases s t w y i hi with⟨j,g,m,n⟩|⟨g,o⟩
     ·exact .inl ⟨j,ak _ g,m,n⟩
     ·exact .inr ⟨by simp[g],o⟩
    ·rcases MM s u x z i hi with⟨j,g,m,n⟩|⟨g,o⟩
     ·exact .inl ⟨j,aj _ g,m,n⟩
     ·exact .inr ⟨by simp[g],o⟩
   ·cases h
  ·cases e
theorem Jh{hh:Hp}{Q:Nat->Prop}:∀ {c:Ty} {x:c.den} {d:List PV},c.hasSl=false->DR hh Q c x d->DR hh (λ_=>False) c x d
 |.int _,_,_,_,h=>h
 |.bool,_,_,_,h=>h
 |.str,_,_,_,h=>h
 |.unit,_,_,_,h=>h
 |.pair a b,_,_,hs,⟨p,q,e,f,i⟩=>by
  simp only[Ty.hasSl,am]at hs;exact⟨p,q,e,Jh hs.1 f,Jh hs.2 i⟩
 |.sl g c,_,_,hs,_=>by cases hs
theorem Ox{hh:Hp}{Q:Nat->Prop}{g:Bool}{c:Ty}{y:c.den}{e q:PV}{d:Nat}{l:List Nat}(hs:c.hasSl=false)(b:EP g (DR hh Q c) y e)(i:AX hh d e=some (q,l)):∀ j∈l,False:=by
 intro j h
 have a:EP g (DR hh (λ_=>False) c) y e:=by
  cases g with
  |true=>obtain⟨cs,rfl,f⟩:=b;exact⟨cs,rfl,Jh hs f⟩
  |false=>exact Jh hs b
 exact(Ow a i j h).1
theorem JT{X:Cx}{h:H}{n:Nat}(r:RH X h n){id off len pid m d:Nat}{q:PV}{u:List Nat}(F:X.π id=some (.blk pid m))(P:GW h id=true)(o:AX X.h d (.own pid off len)=some (q,u)):∀ i∈u,FpA X ([id],Pv h id) i:=by
 intro i hi;obtain⟨b,D,A⟩:=G9 P;have s:=r.blk _ _ D;rw[F]at s;cases d with
 |zero=>cases o
 |succ d=>
  simp only[AX]at o;split at o
  ·rename_i es ex fz a;replace o:=AK o;obtain⟨_,o⟩:=o;obtain⟨⟨xs,l⟩,E,S⟩:=Pi.AA o;cases S;rcases ae.1 hi with rfl|hi
   ·exact .inl ⟨id,by simp,m,F⟩
   ·cases b with
    |row g c l M O I=>
     rcases s with⟨K,G,es',N,k,Y,f,Z,h5,h7,C⟩|⟨k,_⟩|⟨_,k,_⟩
     ·cases k;rw[a]at f;cases f;cases hs:c.hasSl with
      |true=>
       refine .inr ⟨by unfold Pv;rw[D];exact hs,EK (T:=Oa X.h X.Q) (λe x U l' p j z=> ?_) E i hi⟩;obtain⟨y,w⟩:=MP C e (cG (cI x));exact Ow w p j z
      |false=>
       exact(EK (T:=λ_=>False) (λe x U l' p j z=>by
        obtain⟨y,w⟩:=MP C e (cG (cI x))
        exact Ox hs w p j z) E i hi).elim
     ·cases k
     ·cases k
    |box cs fz I=>obtain⟨_,_,_,_,k,_,f,_⟩:=s;cases k;rw[a]at f;cases f
    |mp kk g c l I=>obtain⟨_,_,_,k,_,f,_⟩:=s;cases k;rw[a]at f;cases f
    |lp st J nt t ps L B d=>obtain⟨_,_,_,_,_,k,_,f,_⟩:=s;cases k;rw[a]at f;cases f
    |df W=>obtain⟨_,_,_,k,_,f,_⟩:=s;cases k;rw[a]at f;cases f
    |dead=>exact A.elim
  ·cases o
theorem MN{X:Cx}{h:H}{n0:Nat}(r:RH X h n0):∀ {n:Nat} {v:V} {p:PV} {l:List Nat×Bool},VR X v p->Sa h n v=some l -> ∀ {d:Nat} {q:PV} {o:List Nat},AX X.h d p=some (q,o) -> ∀ i∈o,FpA X l i
 |0,_,_,_,_,e,_,_,_,_,_,_=>by cases e
 |n+1,v,p,l,hv,e,d,q,o,j,i,hi=>by
  cases v with
  |bool b=>simp only[VR]at hv;subst hv;cases d<;>cases j;cases hi
  |int k b=>simp only[VR]at hv;subst hv;cases d<;>cases j;cases hi
  |str b=>simp only[VR]at hv;subst hv;cases d<;>cases j;cases hi
  |nils=>simp only[VR]at hv;subst hv;cases d<;>cases j;cases hi
  |pl g c l=>simp only[VR]at hv;rcases hv with⟨rfl,_⟩|⟨_,_,rfl,_⟩<;>cases d<;>cases j<;>cases hi
  |exl f es=>simp only[VR]at hv;obtain⟨_,_,rfl,_⟩:=hv;cases d<;>cases j;cases hi
  |lf f g c F=>
   cases e
   have x:DR X.h X.Q (.sl g c) F [p]:=by
    simp only[VR]at hv;refine⟨p,rfl,?_⟩;rcases hv with h|⟨f,es,s,_,w⟩|⟨pid,off,len,es,ex,fz,s,_,w,B,C,E,D⟩
    ·exact .inl h
    ·exact .inr (.inl ⟨f,es,s,w⟩)
    ·exact .inr (.inr ⟨pid,off,len,es,ex,fz,s,w,B,C,E,D⟩)
   obtain⟨s,w⟩:=Fo x (HC j) i hi;exact .inr ⟨rfl,s,w⟩
  |ow id=>
   replace e:=AK e;obtain⟨t,e⟩:=e;cases e;simp only[VR]at hv;cases u:X.π id with
   |none=>rw[u]at hv;exact hv.elim
   |some a=>
    rw[u]at hv;cases a with
    |blk pid len=>simp only at hv;subst hv;exact JT r u t j i hi
    |nil=>simp only at hv;subst hv;cases d<;>cases j;cases hi
    |fz es=>simp only at hv;subst hv;cases d<;>cases j;cases hi
  |own id off len=>
   replace e:=AK e;obtain⟨t,e⟩:=e;cases e;simp only[VR]at hv;obtain⟨pid,m,s,rfl⟩:=hv;exact JT r s t j i hi
  |agg cs=>
   obtain⟨G,rfl,A⟩:=hv.agg_inv;cases d with
   |zero=>cases j
   |succ d=>
    rw[EQ]at j;obtain⟨⟨I,l'⟩,y,z⟩:=Pi.AA j;cases z;exact MM (fun {v p l} hv e {q o} j i hi=>MN r hv e j i hi) A e y i hi
  |_=>cases e
theorem L8{v:Value}{p q:PV}{hh:Hp}{d:Nat}{a:List Nat}(e:Pi.Cw v=some p)(h:AX hh d p=some (q,a)):a=[]:=by
 cases d with
 |zero=>cases h
 |succ d=>rw[Fj e]at h;cases h;rfl
theorem OI{v:Value}{p q:PV}{hh:Hp}{a:List Nat}(e:Pi.D2 v=some p)(h:AX hh Pi.AU p=some (q,a)):a=[]:=by
 unfold Pi.D2 at e;split at e
 ·obtain⟨x,c,rfl⟩:=Pi.AA e;rw[show Pi.AU=11+1 from rfl,EQ,Eg c 10]at h;cases h;rfl
 ·replace e:=AK e;cases e.2;cases h;rfl
 ·split at e
  ·rename_i d b;cases e;rw[show Pi.AU=11+1 from rfl,KS,Fj b 10]at h;cases h;rfl
  ·cases e
 ·exact L8 e h
theorem FpA.left{X:Cx}{a b:List Nat×Bool}{q:Nat}(h:FpA X a q):FpA X (a.1++b.1,a.2||b.2) q:=by
 rcases h with⟨j,c,m,d⟩|⟨c,e⟩
 ·exact .inl ⟨j,ak _ c,m,d⟩
 ·exact .inr ⟨by simp[c],e⟩
theorem FpA.right{X:Cx}{a b:List Nat×Bool}{q:Nat}(h:FpA X b q):FpA X (a.1++b.1,a.2||b.2) q:=by
 rcases h with⟨j,c,m,d⟩|⟨c,e⟩
 ·exact .inl ⟨j,aj _ c,m,d⟩
 ·exact .inr ⟨by simp[c],e⟩
theorem DJ{X:Cx}{h:H}{n0:Nat}(r:RH X h n0){t:T V}{w:T PV}(c:TR X t w):∀ {ops:List Operand} {l:List Nat×Bool},QW h t ops=some l -> ∀ q∈Pi.EV w X.h ops,FpA X l q
 |[],_,_,q,hq=>by simp[Pi.EV]at hq
 |o::ops,l,e,q,hq=>by
  unfold Pi.EV at hq;cases o with
  |tmp k=>
   unfold QW at e;split at e
   ·rename_i v A;split at e
    ·rename_i a b z x;cases e;obtain⟨B,s,u⟩:=c _ _ A;have n:Pi.CM w (.tmp k)=some B:=by simp only[Pi.CM,s,aC]
     rw[n]at hq;simp only at hq;split at hq
     ·rename_i y m i;rcases ao.1 hq with hq|hq
      ·exact(MN r u z i q hq).left
      ·exact(DJ r c x q hq).right
     ·exact(DJ r c x q hq).right
    ·cases e
   ·cases e
  |const v=>
   have d:QW h t ops=some l:=e;split at hq
   ·rename_i p j;split at hq
    ·rename_i y m i;rcases ao.1 hq with hq|hq
     ·rw[OI j i]at hq;cases hq
     ·exact DJ r c d q hq
    ·exact DJ r c d q hq
   ·exact DJ r c d q hq
  |func f=>
   have d:QW h t ops=some l:=e;simp only[Pi.CM]at hq;split at hq
   ·rename_i y m i;rcases ao.1 hq with hq|hq
    ·have:m=[]:=by
      rw[show Pi.AU=11+1 from rfl,Mb]at i;simp only[AB,aO,Option.some.injEq,Prod.mk.injEq]at i;exact i.2.symm
     rw[this]at hq;cases hq
    ·exact DJ r c d q hq
   ·exact DJ r c d q hq
  |global g=>
   have d:QW h t ops=some l:=e;split at hq
   ·rename_i p j;simp only[Pi.CM]at j;obtain⟨cs,_,rfl⟩:=Pi.AA j;have:Pi.AX X.h Pi.AU (.view cs)=some (.view cs,[]):=rfl;rw[this]at hq;exact DJ r c d q (by simpa using hq)
   ·exact DJ r c d q hq
theorem ED{X:Cx}{t:T V}{y:T PV}(n:TR X t y):∀ {ops:List Operand} {l:List Nat×Bool},QX t ops=some l -> ∀ q∈Pi.DI y ops,FpA X l q
 |[],_,_,q,hq=>by simp[Pi.DI]at hq
 |o::ops,l,e,q,hq=>by
  unfold Pi.DI at hq;cases o with
  |tmp k=>
   unfold QX at e;split at e
   ·rename_i id B;obtain⟨l',z,rfl⟩:=Pi.AA e;obtain⟨x,w,i⟩:=n _ _ B;have s:Pi.CM y (.tmp k)=some x:=by simp only[Pi.CM,w,aC]
    rw[s]at hq;simp only at hq;simp only[VR]at i;obtain⟨pid,m,C,rfl⟩:=i;rcases ao.1 hq with hq|hq
    ·simp only[Pi.FX,ax]at hq;subst hq;exact .inl ⟨id,by simp,m,C⟩
    ·rcases ED n z q hq with⟨j,D,m,E⟩|hq
     ·exact .inl ⟨j,by simp[D],m,E⟩
     ·exact .inr hq
   ·rename_i v A B;obtain⟨x,w,i⟩:=n _ _ B;have s:Pi.CM y (.tmp k)=some x:=by simp only[Pi.CM,w,aC]
    rw[s]at hq;simp only at hq;rcases ao.1 hq with hq|hq
    ·exfalso;cases x with
     |mp pid=>
      cases v with
      |mp id=>exact A _ rfl
      |ow id=>
       simp only[VR]at i;split at i
       ·cases i
       ·cases i
       ·cases i
       ·exact i
      |lf f g c l=>simp only[VR]at i;rcases i with⟨h,_⟩|⟨_,_,h,_⟩|⟨_,_,_,_,_,_,h,_⟩<;>cases h
      |pl g c l=>simp only[VR]at i;rcases i with⟨h,_⟩|⟨_,_,h,_⟩<;>cases h
      |view cs=>simp only[VR]at i;rcases i with⟨_,h,_⟩|⟨_,_,_,_,_,_,_,h,_⟩<;>cases h
      |exl f es=>simp only[VR]at i;obtain⟨_,_,h,_⟩:=i;cases h
      |agg cs=>simp only[VR]at i;obtain⟨_,h,_⟩:=i;cases h
      |tup cs=>simp only[VR]at i;obtain⟨_,h,_⟩:=i;cases h
      |pv cs=>simp only[VR]at i;obtain⟨_,h,_⟩:=i;cases h
      |fn f a b=>simp only[VR]at i;obtain⟨_,_,h,_⟩:=i;cases h
      |yl id=>simp only[VR]at i;obtain⟨_,_,_,h⟩:=i;cases h
      |ifc t v=>simp only[VR]at i;obtain⟨_,h,_⟩:=i;cases h
      |own a b c=>simp only[VR]at i;obtain⟨_,_,_,h⟩:=i;cases h
      |ptr a b=>simp only[VR]at i;obtain⟨_,_,_,h⟩:=i;cases h
      |ept a b c=>simp only[VR]at i;obtain⟨_,_,_,h⟩:=i;cases h
      |aptr a b c d=>simp only[VR]at i;obtain⟨_,_,_,h,_⟩:=i;cases h
      |_=>simp only[VR]at i;cases i
     |_=>simp[Pi.FX]at hq
    ·exact ED n e q hq
   ·cases e
  |const v=>
   have r:QX t ops=some l:=e;split at hq
   ·rename_i p u;rcases ao.1 hq with hq|hq
    ·have:=F3 u;cases p<;>first|(simp[Pi.FX]at hq;done)|(simp[Pi.AE]at this)
    ·exact ED n r q hq
   ·exact ED n r q hq
  |func f=>
   have r:QX t ops=some l:=e;split at hq
   ·rename_i p u;rcases ao.1 hq with hq|hq
    ·simp only[Pi.CM,Option.some.injEq]at u;subst u;simp[Pi.FX]at hq
    ·exact ED n r q hq
   ·exact ED n r q hq
  |global g=>
   have r:QX t ops=some l:=e;split at hq
   ·rename_i p u;simp only[Pi.CM]at u;obtain⟨cs,_,rfl⟩:=Pi.AA u;rcases ao.1 hq with hq|hq
    ·simp[Pi.FX]at hq
    ·exact ED n r q hq
   ·exact ED n r q hq
theorem Q8{X:Cx}{h:H}{n:Nat}(r:RH X h n){t:T V}{f:T PV}(e:TR X t f){o:Op}(own:Nat):Nf X own (fp h t o) (own::Pi.Au f X.h o):=by
 intro l d q hq;rcases ae.1 hq with hq|hq
 ·exact .inl hq
 refine .inr ?_;unfold fp at d;cases o with
 |load _ _=>exact CP e d q hq
 |indexAddr _ _ _=>exact CP e d q hq
 |store _ _ _=>exact CP e d q hq
 |buildSlice _ _ parts=>exact DJ r e d q hq
 |slice ty x lo hi mx=>
  cases mx with
  |some _=>exact DJ r e d q (by simpa[Pi.Au]using hq)
  |none=>
   refine CP e d q ?_;simp only[Pi.Au,cL,cond_false]at hq;exact G4 (a:=[x]) hq
 |call c=>
  simp only[Pi.Au]at hq;simp only at d;split at hq
  ·rename_i b g;simp only[g]at d;cases b<;>first|exact ED e d q hq|exact CP e d q hq|cases d
  ·cases hq
 |alloc _=>simp[Pi.Au]at hq
 |box _ _=>simp[Pi.Au]at hq
 |makeSlice _ _ _=>simp[Pi.Au]at hq
 |makeMap _ r=>simp[Pi.Au]at hq
 |_=>cases d
theorem Qj{t:T PV}{h i:Hp}{id:Nat}{o:Oper}{v:PV}(g:h.get id=none)(r:Pi.As o.op=true)(hc:AR o.op=2\/AR o.op=4)(e:Pi.AQ P t h id o=some (.val v i)):i.get id=none\/Pi.AE v=[id]:=by
 unfold Pi.AQ at e;generalize o.op=A at r hc e
 have nw:∀ {b:Blk} {h:Hp} {k:PV},Pi.AE k=[id]->(h.new id b).map (λh=>Pi.R.val k h)=some (.val v i)->i.get id=none\/Pi.AE v=[id]:=λz e=>by
  obtain⟨s,m,l⟩:=Pi.AA e;cases l;exact .inr z
 have fr:∀ {L:List Nat} {k:PV},(Pi.freeze h L).map (λh=>Pi.R.val k h)=some (.val v i)->i.get id=none\/Pi.AE v=[id]:=λe=>by
  obtain⟨s,m,l⟩:=Pi.AA e;cases l;exact .inl ((C3 m id).1 g)
 have u:∀ {j:Nat} {b b0:Blk} {k:PV},h.get j=some b0->(h.set j b).map (λh=>Pi.R.val k h)=some (.val v i)->i.get id=none\/Pi.AE v=[id]:=λw e=>by
  obtain⟨s,m,l⟩:=Pi.AA e;cases l;refine .inl ?_;rw[(Hp.get_set m).1,if_neg (λhh=>by rw[hh,w]at g;cases g)];exact g
 cases A with
 |alloc _=>
  simp only at e;unfold Pi.Ci at e;split at e
  ·exact nw rfl e
  ·cases e
 |box _ x=>
  obtain⟨p,_,e⟩:=Pi.Aa e;unfold Pi.FU at e;split at e
  ·cases e
  ·exact nw rfl e
 |makeMap ty rs=>
  cases rs with
  |none=>exact nw rfl e
  |some _=>cases e
 |makeSlice _ x y=>
  obtain⟨p,q,_,_,e⟩:=Pi.CL e;unfold Pi.Cy at e;simp only[aA]at e
  repeat' split at e
  all_goals first|(cases e;done)|exact nw rfl e
 |buildSlice ty n B=>
  simp only at e;split at e
  ·unfold Pi.Ag at e;simp only[aA]at e
   repeat' split at e
   all_goals first|(cases e;done)|exact fr e
  ·cases e
 |slice ty x lo hi mx=>
  simp only at e;split at e
  ·obtain⟨p,_,e⟩:=Pi.Aa e;unfold Pi.Ak Pi.DU at e;simp only[aA]at e
   repeat' split at e
   all_goals first|(cases e;done)|exact fr e|(cases e;exact .inl g)
  ·cases e
 |call c=>
  simp only at e;split at e
  ·cases d:c.callee with
   |builtin b=>
    simp only[AR,d]at hc;simp only[d]at e;cases b with
    |append=>
     simp only[Pi.AH,aA]at e;split at e
     ·split at e
      ·unfold Pi.Ea at e;simp only[aA]at e
       repeat' split at e
       all_goals first|(cases e;done)|exact nw rfl e|(cases e;exact .inl g)|(refine u (b0:=?_) ?_ e;rotate_left;assumption)
      ·cases e
     ·cases e
    |copy=>
     simp only[Pi.AH,aA]at e
     repeat' split at e
     all_goals first|(cases e;done)|(refine u (b0:=?_) ?_ e;rotate_left;assumption)
    |_=>simp at hc
   |value f=>simp[AR,d]at hc
   |invoke a b=>simp[AR,d]at hc
  ·cases e
 |_=>simp[AR]at hc
theorem IF{X:Cx}{v:V}{p:PV}(d:VR X v p){own:Nat}{f:Option (List Nat×Bool)}{rd:List Nat}(hn:X.h.get own=none\/Pi.AE p=[own])(G:Nf X own f rd):FpP X own (JD v f) rd:=by
 intro l o q z;cases f with
 |none=>cases o
 |some a=>
  have y:∀ {b:Bool} {s:List Nat},(a.2=true->b=true)->(∀ j∈a.1,j∈s)->FpA X a q->FpA X (s,b) q:=λD hi h=>by
   rcases h with⟨j,r,m,E⟩|⟨r,z⟩
   ·exact .inl ⟨j,hi j r,m,E⟩
   ·exact .inr ⟨D r,z⟩
  have A:∀ x,FpA X a x->FpA X l x:=λx h=>by
   have y:∀ {b:Bool} {s:List Nat},(a.2=true->b=true)->(∀ j∈a.1,j∈s)->FpA X (s,b) x:=λD hi=>by
    rcases h with⟨j,r,m,E⟩|⟨r,z⟩
    ·exact .inl ⟨j,hi j r,m,E⟩
    ·exact .inr ⟨D r,z⟩
   unfold JD at o;simp only at o;split at o<;>cases o<;>first|exact h|exact y (λh=>h) (λj r=>aw _ r)|exact y (λ_=>rfl) (λj r=>r)
  rcases G a rfl q z with rfl|h
  ·rcases hn with hn|hn
   ·exact .inl ⟨rfl,hn⟩
   ·refine .inr ?_;unfold JD at o;simp only at o;split at o
    ·rename_i id;cases o;simp only[VR]at d;cases w:X.π id with
     |none=>rw[w]at d;exact d.elim
     |some b=>
      rw[w]at d;cases b with
      |blk pid len=>simp only at d;subst d;simp only[Pi.AE,List.cons.injEq,and_true]at hn;subst hn;exact .inl ⟨id,by simp,len,w⟩
      |nil=>simp only at d;subst d;simp[Pi.AE]at hn
      |fz es=>simp only at d;subst d;simp[Pi.AE]at hn
    ·cases o;simp only[VR]at d;obtain⟨pid,m,u,rfl⟩:=d;simp only[Pi.AE,List.cons.injEq,and_true]at hn;subst hn;exact .inl ⟨_,by simp,m,u⟩
    ·cases o;simp only[VR]at d;obtain⟨pid,m,u,rfl⟩:=d;simp only[Pi.AE,List.cons.injEq,and_true]at hn;subst hn;exact .inl ⟨_,by simp,m,u⟩
    ·cases o;simp only[VR]at d;obtain⟨pid,m,u,rfl⟩:=d;simp only[Pi.AE,List.cons.injEq,and_true]at hn;subst hn;exact .inl ⟨_,by simp,m,u⟩
    ·cases o;simp only[VR]at d;obtain⟨pid,m,u,rfl,_⟩:=d;simp only[Pi.AE,List.cons.injEq,and_true]at hn;subst hn;exact .inl ⟨_,by simp,m,u⟩
    ·cases o;simp only[VR]at d;obtain⟨pid,m,u,rfl⟩:=d;simp only[Pi.AE,List.cons.injEq,and_true]at hn;subst hn;exact .inl ⟨_,by simp,m,u⟩
    ·cases o;simp only[VR]at d;rcases d with⟨rfl,_⟩|⟨_,_,rfl,_⟩|⟨pid,off,len,es,ex,fz,rfl,_,B,C,_⟩
     ·simp[Pi.AE]at hn
     ·simp[Pi.AE]at hn
     ·simp only[Pi.AE,List.cons.injEq,and_true]at hn;subst hn;exact .inr ⟨rfl,B,es,ex,fz,C⟩
    ·cases o;simp only[VR]at d;rcases d with⟨_,rfl,_⟩|⟨pid,i,off,es,ex,fz,e,rfl,B,C,_⟩
     ·simp[Pi.AE]at hn
     ·simp only[Pi.AE,List.cons.injEq,and_true]at hn;subst hn;exact .inr ⟨rfl,B,es,ex,fz,C⟩
    ·rename_i I J K L F M N O;exfalso;cases v with
     |ow id=>exact I _ rfl
     |own id off len=>exact J _ _ _ rfl
     |ptr id off=>exact K _ _ rfl
     |ept id i off=>exact L _ _ _ rfl
     |aptr id off k n=>exact F _ _ _ _ rfl
     |mp id=>exact M _ rfl
     |lf f g c l=>exact N _ _ _ _ rfl
     |view cs=>exact O _ rfl
     |pl g c l=>simp only[VR]at d;rcases d with⟨rfl,_⟩|⟨_,_,rfl,_⟩<;>simp[Pi.AE]at hn
     |pv cs=>simp only[VR]at d;obtain⟨_,rfl,_⟩:=d;simp[Pi.AE]at hn
     |exl f es=>simp only[VR]at d;obtain⟨_,_,rfl,_⟩:=d;simp[Pi.AE]at hn
     |agg cs=>simp only[VR]at d;obtain⟨_,rfl,_⟩:=d;simp[Pi.AE]at hn
     |tup cs=>simp only[VR]at d;obtain⟨_,rfl,_⟩:=d;simp[Pi.AE]at hn
     |fn f a b=>simp only[VR]at d;obtain⟨_,_,rfl,_⟩:=d;simp[Pi.AE]at hn
     |yl id=>simp only[VR]at d;obtain⟨_,_,_,rfl⟩:=d;simp[Pi.AE]at hn
     |ifc t v=>simp only[VR]at d;obtain⟨_,rfl,_⟩:=d;simp[Pi.AE]at hn
     |_=>simp only[VR]at d;subst d;simp[Pi.AE]at hn
  ·exact .inr (A q h)
theorem FA{X:Cx}{h:H}{n0:Nat}(r:RH X h n0){args:List V}{b:List PV}(d:VRL X args b){c:List PV}{lP:List Nat}(a:Ao X.h b=some (c,lP))(own:Nat):Nf X own (BK h args) (own::lP):=by
 intro l f q hq;rcases ae.1 hq with hq|hq
 ·exact .inl hq
 ·rw[Gi]at a;exact .inr (MM (fun {v p l} hv e {q ids} a i hi=>MN r hv e a i hi) d f a q hq)
theorem IZ{h c:Hp}{j q:Nat}{b b0:Blk}(d:h.get j=some b0)(a:h.get q=none){r:Pi.R}(e:(h.set j b).map Pi.R.skip=some r)(f:r=.skip c):c.get q=none:=by
 subst f;obtain⟨g,e2,e3⟩:=Pi.AA e;cases e3;rw[(Hp.get_set e2).1,if_neg (λhh=>by rw[hh,d]at a;cases a)];exact a
theorem Mn{h c:Hp}{ty:TypeId}{p v:PV}{q:Nat}(b:h.get q=none)(e:Pi.BE P h ty p v=some (.skip c)):c.get q=none:=by
 unfold Pi.BE at e;split at e
 ·replace e:=BC e;obtain⟨_,e⟩:=e;split at e
  ·split at e
   ·rename_i a;replace e:=AK e;exact IZ a b e.2 rfl
   ·cases e
  ·split at e
   ·rename_i a;split at e
    ·replace e:=AK e;obtain⟨_,e⟩:=e;split at e
     ·exact IZ a b e rfl
     ·split at e
      ·replace e:=AK e;obtain⟨_,e⟩:=e;split at e
       ·cases e
       ·cases e
       ·exact IZ a b e rfl
      ·cases e
    ·cases e
   ·cases e
  ·cases e
 ·cases e
theorem Nq{t:T PV}{h b:Hp}{id q:Nat}{o:Oper}(hc:AR o.op=3)(d:h.get q=none)(e:Pi.AQ P t h id o=some (.skip b)):b.get q=none:=by
 unfold Pi.AQ at e;generalize o.op=f at hc e;cases f with
 |store ty a x=>
  simp only[Pi.e2]at e;split at e
  ·exact Mn d e
  ·cases e
 |slice _ _ _ _ mx=>cases mx<;>simp[AR]at hc
 |makeMap _ r=>cases r<;>simp[AR]at hc
 |call c=>
  simp only[AR]at hc;split at hc
  ·split at hc<;>cases hc
  ·cases hc
 |_=>simp[AR]at hc
theorem Qr{β:Type}{x:β}{X:Cx}{t:T V}{g:T PV}(i:TR X t g){nt:Nat}(l:nt<1048575){a:Option Nat}{v:V}{p:PV}(m:VR X v p){K:T V->Option β}(e:Hh t nt a v K=some x) :
  ∃ j b,K j=some x/\TR X j b/\(∀ d,a=some d->ah d nt=true/\b=T.put 20 g d p)/\(a=none->b=g):=by
 unfold Hh at e;split at e
 ·rename_i d;replace e:=AK e;obtain⟨c,e⟩:=e;have k:d<nt:=by simpa using c
  exact⟨_,_,e,i.put (d:=d) (by omega) m,λn f=>(by cases f;exact⟨c,rfl⟩),λh=>(by cases h)⟩
 ·exact⟨_,_,e,i,λd c=>(by cases c),λ_=>rfl⟩
theorem DX.flat{hh:Hp}{Q i:Nat->Prop}:∀ {c:Ty} {y:c.den} {h:List PV},c.hasSl=false->DX hh Q i c y h->Pi.BJ h=true
 |.int _,_,_,_,e=>by subst e;rfl
 |.bool,_,_,_,e=>by subst e;rfl
 |.str,_,_,_,e=>by subst e;rfl
 |.unit,_,_,_,e=>by subst e;rfl
 |.pair a b,_,_,hs,⟨p,q,e,f,g⟩=>by
  subst e;simp only[Ty.hasSl,am]at hs;have d:=DX.flat hs.1 f;have j:=DX.flat hs.2 g;clear f g
  induction p with
  |nil=>exact j
  |cons a p k=>
   simp only[Pi.BJ,ai]at d;simp only[aY,Pi.BJ,d.1,Bool.true_and];exact k d.2
 |.sl _ _,_,_,hs,_=>by cases hs
theorem Lf{d:Hp}{l:List (Bool×Ty)}{y:AP l}{r:PV}(hs:B1 l=false)(h:Hi d l y r):∀ j a b,r ≠ .own j a b:=by
 intro j a b g;subst g
 match l,y,h with
 |[],y,⟨rs,c,_⟩=>cases c
 |[p],y,h=>
  have e:p.2.hasSl=false:=by simpa[B1]using hs
  have h':EP p.1 (DX d (λ_=>True) (λ_=>True) p.2) y (.own j a b):=h;cases f:p.1 with
  |true=>rw[f]at h';obtain⟨cs,c,_⟩:=h';cases c
  |false=>
   rw[f]at h';have:=DX.flat e (show DX d _ _ p.2 y [.own j a b]from h');simp[Pi.BJ,Pi.flat]at this
 |p::q::rr,y,⟨rs,c,_⟩=>cases c
theorem FY{b:Hp}{l:List (Bool×Ty)}{y:AP l}{r:PV}(f:Cn l=true)(hs:B1 l=false)(h:Hi b l y r):∃ q,(∀ (id:Nat) (lP:List Nat) (hh:Hp),Pi.Al id lP hh b r=some (q,hh))/\Qy l y q/\Pi.flat q=true:=by
 obtain⟨q,g,e,a⟩:=NR f h;have c:=JQ hs a;refine⟨q,λid lP hh=> ?_,a,c⟩;unfold Pi.Al;have i:=Lf hs h;split
 ·rename_i len j ex d;split at d
  ·exact absurd rfl (i _ _ _)
  ·cases d
 ·rw[e];simp only[c,cond_true]
theorem GF{e:T PV}{h h':Hp}{id:Nat}{o:Oper}(hc:CJ o.op=true):Pi.AQ P e h id o=Pi.AQ P e h' id o:=by
 unfold Pi.AQ;generalize o.op=g at hc;cases g with
 |call c=>
  simp only;split
  ·cases d:c.callee with
   |builtin b=>simp[CJ,d]at hc
   |value f=>rfl
   |invoke a b=>rfl
  ·rfl
 |_=>cases hc
theorem Ji{X:Cx}{h:H}{n idP:Nat}(r:RH X h n){o:Oper}{L:T PV}{f:FuncId}{sg:Sg}(S:FnOK P tab f sg)(k:B1 sg.cod=false){args:List V}{J:List PV}(C:Pi.As o.op=true)(d:CJ o.op=true)(E:Pi.AQ P L X.h idP o=some (.call f J)){β:Type}{x:β}{K:V->H->Option β}(ha:VRL X args J)(e:DS h sg args K=some x) :
  ∃ v q rd,K v h=some x/\VR X v q/\(∀ a∈rd,a=idP\/X.h.get a≠none)/\Nf X idP (BK h args) rd /\ ∃ N,∀ F m,N<=F->N<=m->Pi.Aw P (Pi.B3 P (Ad tab) F m) L X.h idP o=some (q,X.h,rd,[]):=by
 unfold DS at e;replace e:=BC e;obtain⟨O,e⟩:=e;simp only[am,az]at O;obtain⟨w,A⟩:=O
 let Q:Nat->Prop:=λpid=>X.Q pid \/ ∃ id∈DK args,∃ m,X.π id=some (.blk pid m)
 replace e:=Bq (Q:=Q) r (λ_ h=>.inl h) (λid pid m hi hp=>.inr ⟨id,hi,m,hp⟩) ha e;obtain⟨y,e,D⟩:=e;replace e:=AD e;obtain⟨h',l,e⟩:=e;rw[k]at l;cases l;replace e:=E5 e;obtain⟨z,hz,e⟩:=e;obtain⟨M,lP,i,B,p⟩:=D6 (λ_ h=>.inl h) w D;obtain⟨rP,up,hR,⟨N,W⟩,t⟩:=S y z hz M B;obtain⟨q,I,hq,G⟩:=FY A k t
 have g:Pi.Au L X.h o.op=[]:=by
  generalize o.op=op at d;cases op with
  |call c=>
   simp only[Pi.Au];cases j:c.callee with
   |builtin b=>simp[CJ,j]at d
   |_=>rfl
  |_=>cases d
 refine⟨_,q,(idP::[])++lP,e,Gj hq,λa ha=> ?_,FA r ha i idP,N,λF m U Z=> ?_⟩
 ·simp only[aY,bT,ae]at ha;rcases ha with ha|ha
  ·exact .inl ha
  ·obtain⟨_,es,ex,fz,Y⟩:=p a ha;exact .inr (by rw[Y];simp)
 ·unfold Pi.Aw;have u:ah idP (idP+1)=true:=by simp
  simp only[C,u,au,aL,cond_false,g];rw[GF (h':=X.h) d,E];simp only[i];have s:Ao (X.h.cut (idP::lP)) J=some (M,lP):=Ew (h:=X.h) (λx hx=>by rw[Pi.DV,if_pos ⟨by simp[hx],by omega⟩]) i;unfold Pi.A6;simp only[cond_false,s];rw[show({ m:=.lf,nx:=0 }:Hp)=Di from rfl,W F m U Z];simp only[I,ap,G,cond_true]
theorem Iy{X:Cx}{h:H}{n:Nat}(r:RH X h n):∀ {dom:List (Bool×Ty)} {args:List V} {f:List PV} {b:List V} {js:List Nat},VRL X args f->Ej h dom args=some (b,js) ->
  ∃ d,VRL X b d /\ ∀ g c,Ao X.h d=some (g,c) -> ∃ lP,Ao X.h f=some (Gp dom g,lP) /\ ∀ i∈lP,i∈c \/ ∃ j∈js,∃ m,X.π j=some (.blk i m)/\X.h.get i≠none
 |[],args,f,b,js,hv,e=>by
  unfold Ej at e;cases e;exact⟨f,hv,λg c h=>⟨c,by unfold Gp;exact h,λi hi=>.inl hi⟩⟩
 |p::l,[],f,b,js,hv,e=>by
  unfold Ej at e;cases e;refine⟨f,hv,λg c h=>⟨c,?_,λi hi=>.inl hi⟩⟩;rw[hv.nil_inv]at h ⊢;cases h;rfl
 |p::l,v::vs,f,b,js,hv,e=>by
  obtain⟨q,qs,rfl,y,P⟩:=hv.cons_inv;unfold Ej at e;split at e
  ·rename_i a S;obtain⟨d,L,M⟩:=Iy r P (show Ej h l vs=some (a.1,a.2)from S);replace e:=BU e;rcases e with⟨C,e⟩|⟨C,e⟩
   ·split at e
    ·rename_i j off;split at e
     ·rename_i cs fz lk Y;replace e:=AK e;obtain⟨t,e⟩:=e;cases e;simp only[VR]at y;obtain⟨pid,n',u,rfl⟩:=y;have K:=r.blk _ _ Y;rw[u]at K;obtain⟨N,n'',J,O,z,U,k,W,o⟩:=K;cases z;have s:cs.length=J.length:=o.length;refine⟨.agg (J.drop off)::d,.cons (by simp only[VR];exact⟨_,rfl,o.drop off⟩) L,λg c hh=> ?_⟩;unfold Ao at hh;split at hh
      ·rename_i q' w I b' x E;cases hh;obtain⟨lP,F,G⟩:=M _ _ E;rw[show Pi.AU=11+1 from rfl,EQ]at x;obtain⟨⟨ys,l'⟩,B,D⟩:=Pi.AA x;cases D;refine⟨(pid::w)++lP,?_,λi hi=> ?_⟩
       ·unfold Ao
        have e1:AX X.h Pi.AU (.ptr pid off)=some (.view ys,pid::w):=by
         rw[show Pi.AU=11+1 from rfl];unfold AX;simp only[k];rw[<- s,t];simp only[cond_true,B,ap]
        rw[e1,F];simp only[Gp,C,cond_true,L1]
       ·rcases ao.1 hi with hi|hi
        ·rcases ae.1 hi with rfl|hi
         ·exact .inr ⟨j,by simp,_,u,by rw[k];simp⟩
         ·exact .inl (ak _ hi)
        ·rcases G i hi with hi|⟨j',A,m,Z⟩
         ·exact .inl (aj _ hi)
         ·exact .inr ⟨j',aw _ A,m,Z⟩
      ·cases hh
     ·cases e
    ·cases e
   ·cases e;refine⟨q::d,.cons y L,λg c hh=> ?_⟩;unfold Ao at hh;split at hh
    ·rename_i q' w I b' x E;cases hh;obtain⟨lP,F,G⟩:=M _ _ E;refine⟨w++lP,?_,λi hi=> ?_⟩
     ·unfold Ao;rw[x,F];simp only[Gp,C,cond_false]
     ·rcases ao.1 hi with hi|hi
      ·exact .inl (ak _ hi)
      ·rcases G i hi with hi|hi
       ·exact .inl (aj _ hi)
       ·exact .inr hi
    ·cases hh
  ·cases e
theorem O4{X:Cx}{own:Nat}{js:List Nat}{f:Option (List Nat×Bool)}{rd lP:List Nat}(g:Nf X own f rd)(h:∀ i∈lP,i∈rd \/ ∃ j∈js,∃ m,X.π j=some (.blk i m)/\X.h.get i≠none):Nf X own (SB js f) lP:=by
 intro l k q d;obtain⟨a,e,rfl⟩:=Pi.AA k;rcases h q d with d|⟨j,b,m,c,_⟩
 ·rcases g a e q d with h1|⟨j,b,m,c⟩|h1
  ·exact .inl h1
  ·exact .inr (.inl ⟨j,aj _ b,m,c⟩)
  ·exact .inr (.inr h1)
 ·exact .inr (.inl ⟨j,ak _ b,m,c⟩)
theorem Kz{X:Cx}{h:H}{n idP:Nat}(r:RH X h n){o:Oper}{tP:T PV}{f:FuncId}{sg:Sg}(TO:FnP P tab f sg)(s:B1 sg.cod=false){args:List V}{ps:List PV}(M:Pi.As o.op=true)(j:CJ o.op=true)(S:Pi.AQ P tP X.h idP o=some (.call f ps)){β:Type}{x:β}{K:V->H->Option β}{d:List V}{js:List Nat}(J:Ej h sg.dom args=some (d,js))(ha:VRL X args ps)(e:DS h sg d K=some x) :
  ∃ v q rd,K v h=some x/\VR X v q/\(∀ a∈rd,a=idP\/X.h.get a≠none)/\Nf X idP (SB js (BK h d)) rd /\ ∃ N,∀ F m,N<=F->N<=m->Pi.Aw P (Pi.B3 P (Ad tab) F m) tP X.h idP o=some (q,X.h,rd,[]):=by
 obtain⟨ps2,l,t⟩:=Iy r ha J;unfold DS at e;replace e:=BC e;obtain⟨hd,e⟩:=e;simp only[am,az]at hd;obtain⟨G,I⟩:=hd
 let Q:Nat->Prop:=λpid=>X.Q pid \/ ∃ id∈DK d,∃ m,X.π id=some (.blk pid m)
 replace e:=Bq (Q:=Q) r (λ_ h=>.inl h) (λid pid m hi hp=>.inr ⟨id,hi,m,hp⟩) l e;obtain⟨y,e,O⟩:=e;replace e:=AD e;obtain⟨h',u,e⟩:=e;rw[s]at u;cases u;replace e:=E5 e;obtain⟨z,hz,e⟩:=e;obtain⟨as,Z,g,L,A⟩:=D6 (λ_ h=>.inl h) G O;obtain⟨lP,B,w⟩:=t _ _ g;obtain⟨rP,up,hR,⟨N,hN⟩,D⟩:=TO y z hz as L;obtain⟨q,Y,hq,U⟩:=FY I s D
 have k:Pi.Au tP X.h o.op=[]:=by
  generalize o.op=op at j;cases op with
  |call c=>
   simp only[Pi.Au];cases p:c.callee with
   |builtin b=>simp[CJ,p]at j
   |_=>rfl
  |_=>cases j
 refine⟨_,q,(idP::[])++lP,e,Gj hq,λa ha=> ?_,O4 (rd:=(idP::[])++Z) (FA r l g idP) (λi hi=>by
   simp only[aY,bT,ae]at hi ⊢;rcases hi with hi|hi
   ·exact .inl (.inl hi)
   ·exact(w i hi).imp .inr id),N,λF m hF hm=> ?_⟩
 ·simp only[aY,bT,ae]at ha;rcases ha with ha|ha
  ·exact .inl ha
  ·rcases w a ha with ha|⟨_,_,_,_,W⟩
   ·obtain⟨_,es,ex,fz,W⟩:=A a ha;exact .inr (by rw[W];simp)
   ·exact .inr W
 ·unfold Pi.Aw;have E:ah idP (idP+1)=true:=by simp
  simp only[M,E,au,aL,cond_false,k];rw[GF (h':=X.h) j,S];simp only[B];have C:Ao (X.h.cut (idP::lP)) ps=some (Gp sg.dom as,lP):=Ew (h:=X.h) (λx hx=>by rw[Pi.DV,if_pos ⟨by simp[hx],by omega⟩]) B;unfold Pi.A6;simp only[cond_false,C];rw[show({ m:=.lf,nx:=0 }:Hp)=Di from rfl,hN F m hF hm];simp only[Y,ap,U,cond_true]
theorem Ek{X:Cx}{h:H}{n id idP:Nat}(r:RH X h n)(w:Nw X n id idP){o:Oper}{tP:T PV}{f:FuncId}{args:List V}{I:List PV}(M:Pi.As o.op=true)(k:CJ o.op=true)(O:Pi.AQ P tP X.h idP o=some (.call f I)){β:Type}{x:β}{K:V->H->Option β}(ha:VRL X args I){T:Hp->PV->Prop}
  (e:∃ v h' q d Y G lP E up B,K v h'=some x/\Ao X.h I=some (G,lP)/\PD P tab (.fn f) none G Di (.ret E,up,B)/\Pi.Al idP lP X.h B E=some (q,d)/\(∀ y∈lP,X.h.get y≠none)/\FQ X h n id idP h' d Y/\VR Y v q/\T d q) :
  ∃ v q z Y j rd wr,K v z=some x/\VR Y v q/\(∃ J,FQ X h n id idP z J Y/\T J q)/\(∀ a∈wr,a∈rd)/\(∀ a∈rd,a=idP\/X.h.get a≠none)/\Nf X idP (BK h args) rd/\(∀ a,j.get a=Y.h.get a)/\j.nx=X.h.nx /\ ∃ N,∀ F m,N<=F->N<=m->Pi.Aw P (Pi.B3 P (Ad tab) F m) tP X.h idP o=some (q,j,rd,wr):=by
 obtain⟨v,z,q,d,Y,G,lP,E,up,B,e1,g,⟨N,hN⟩,S,t,Z,hv,hT⟩:=e
 have l:Pi.Au tP X.h o.op=[]:=by
  generalize o.op=op at k;cases op with
  |call c=>
   simp only[Pi.Au];cases L:c.callee with
   |builtin b=>simp[CJ,L]at k
   |_=>rfl
  |_=>cases k
 let hs:=X.h.cut (idP::lP)
 have i:∀ q∈idP::lP,hs.get q=X.h.get q:=λq hq=>by
  show(X.h.cut (idP::lP)).get q=_;rw[Pi.DV,if_pos ⟨hq,by omega⟩]
 have sub:Pi.Eb hs X.h:=λx b hb=>(Pi.Dq hb).2;obtain⟨A,C⟩:=J0 (hs:=hs) (λx hx=>i x (aw _ hx)) (λ_=>by rw[i idP (by simp)];exact w.hp) S;have p:Ao hs I=some (G,lP):=Ew (h:=X.h) (λx hx=>i x (aw _ hx)) g
 have U:∀ {hh j:Hp} {rec:Pi.HM},Ao hh I=some (G,lP)->rec (.fn f) none G { m:=.lf,nx:=0 }=some (.ret E,up,B)->Pi.Al idP lP hh B E=some (q,j)->Pi.A6 (λ_=>false) rec idP f I hh=some (.ret q,j):=λz j h3=>by
  unfold Pi.A6;simp only[cond_false,z,j,h3,ap]
 have c1:=U (rec:=λ_ _ _ _=>some (.ret E,up,B)) p rfl C;have c2:=U (rec:=λ_ _ _ _=>some (.ret E,up,B)) g rfl S;obtain⟨⟨h3,k1,lay⟩,kf,_⟩:=Pi.H4 sub (λ_=>w.hp) c1;rw[c2]at k1;cases k1;obtain⟨_,kf2,_⟩:=Pi.H4 (hs:=X.h) (h:=X.h) (λ_ _ h=>h) (λh=>h) c2;have hy:=Z.1;cases D:Pi.flat q with
 |true=>
  have e0:=kf2 D;refine⟨v,q,z,Y,X.h,idP::lP,[],e1,hv,⟨d,Z,hT⟩,λ_ h=>(by cases h),λa ha=> ?_,FA r ha g idP,λa=>(by rw[hy,e0]),rfl,N,λF m W s=> ?_⟩
  ·rcases ae.1 ha with ha|ha
   ·exact .inl ha
   ·exact .inr (t a ha)
  ·unfold Pi.Aw;have u:ah idP (idP+1)=true:=by simp
   simp only[M,u,au,aL,cond_false,l];rw[GF (h':=X.h) k,O];simp only[g];have:=U (rec:=Pi.B3 P (Ad tab) F m) p (hN F m W s) C;rw[show X.h.cut (idP::lP)=hs from rfl,this];simp only[D,cond_true];rfl
 |false=>
  obtain⟨j,e2,n2⟩:=Ho A (idP::lP) X.h
  have g2:∀ a,j.get a=d.get a:=λa=>by
   rw[Pi.Ct e2 a,lay.get a];by_cases s:a∈idP::lP
   ·rw[if_pos s]
    all_goals (cases A.get a<;>rfl)
   ·rw[if_neg s];cases hg:A.get a with
    |none=>rfl
    |some b=>
     rcases lay.keys a b hg with⟨b0,hb⟩|hb
     ·exact absurd (Pi.Dq hb).1 s
     ·exact absurd (by simp[hb]) s
  refine⟨v,q,z,Y,j,idP::lP,Pi.A8 X.h (idP::lP),e1,hv,⟨d,Z,hT⟩,λa ha=>Ah ha,λa ha=> ?_,FA r ha g idP,λa=>by rw[hy,g2],n2,N,λF m W s=> ?_⟩
  ·rcases ae.1 ha with ha|ha
   ·exact .inl ha
   ·exact .inr (t a ha)
  ·unfold Pi.Aw;have u:ah idP (idP+1)=true:=by simp
   simp only[M,u,au,aL,cond_false,l];rw[GF (h':=X.h) k,O];simp only[g];have:=U (rec:=Pi.B3 P (Ad tab) F m) p (hN F m W s) C;rw[show X.h.cut (idP::lP)=hs from rfl,this];simp only[D,cond_false,e2,ap];rfl
theorem Ky(TO:TabOK P tab){base baseP b bP nt nx:Nat}(hb:b<=base)(hbP:bP<=baseP)(hnt:nt<1048575)(hn:nx<=1048575){all:List Oper}(hall:∀ o∈all,∀ d,o.dst=some d->d<nt){β:Type}{x:β}{len:Nat} :
  ∀ {ops:List Oper} {i:Nat} {ms:List Pi.Mk} {pa:List (Nat×Nat×Option (List Nat×Bool))} {pp:List (Nat×List Nat×List Nat)} {t:T V} {h:H} {K:T V->H->Option β} {X:Cx} {U:T PV},BO P tab base nt all i ops ms pa t h K=some x->RH X h nx->TR X t U->DQ X base baseP i ops.length->base+i+ops.length<=nx->baseP+i+ops.length<=X.h.nx->len=i+ops.length->L2 (PastE X baseP i len) pa pp ->
   ∃ t' h' Y L,K t' h'=some x/\(∃ N,∀ F n,N<=F->N<=n->Pi.AY P (Pi.B3 P (Ad tab) F n) baseP nt all i ops ms pp U X.h=some (L,Y.h))/\RH Y h' nx/\Ext b bP X h Y h'/\TR Y t' L:=by
 intro ops
 induction ops with
 |nil=>
  intro i ms pa pp t h K X U e r ht _ _ _ _ _;cases ms<;>exact⟨t,h,X,U,e,⟨0,λ_ _ _ _=>rfl⟩,r,Ext.refl _ _ _ _,ht⟩
 |cons o ops ih=>
  intro i ms pa pp t h K X U e r ht hfr hlen hlenP hl E;cases ms with
  |nil=>cases e
  |cons m ms=>
   simp only[aV]at hlen hlenP hfr hl;have C:=hfr i (ac _) (by omega);have w:Nw X nx (base+i) (baseP+i):=⟨C.1,by omega,hn,C.2,by omega⟩;unfold BO at e;obtain⟨t1,G,hcase⟩:=JE (nt:=nt) ht hnt hall e
   have go:∀ {v:V} {p:PV} {h1:H} {pa1:List (Nat×Nat×Option (List Nat×Bool))} {pp1:List (Nat×List Nat×List Nat)} {Y:Cx},Hh t1 nt o.dst v (λt=>BO P tab base nt all (i+1) ops ms pa1 t h1 K)=some x->RH Y h1 nx->TR Y t1 U->VR Y v p->St X h (base+i) (baseP+i) Y h1->L2 (PastE Y baseP (i+1) len) pa1 pp1 ->
     (∀ {rr:T PV×Hp},(∃ N,∀ F n,N<=F->N<=n->(match o.dst with
      |some d=>bif ah d nt then Pi.AY P (Pi.B3 P (Ad tab) F n) baseP nt all (i+1) ops ms pp1 (T.put 20 U d p) Y.h else none
      |none=>Pi.AY P (Pi.B3 P (Ad tab) F n) baseP nt all (i+1) ops ms pp1 U Y.h)=some rr) -> ∃ N,∀ F n,N<=F->N<=n->Pi.AY P (Pi.B3 P (Ad tab) F n) baseP nt all i (o::ops) (m::ms) pp U X.h=some rr) ->
     ∃ t' h' Y L,K t' h'=some x/\(∃ N,∀ F n,N<=F->N<=n->Pi.AY P (Pi.B3 P (Ad tab) F n) baseP nt all i (o::ops) (m::ms) pp U X.h=some (L,Y.h))/\RH Y h' nx/\Ext b bP X h Y h'/\TR Y t' L:=by
    intro v p h1 pa1 pp1 Y e r1 htY S s hp1 hP;obtain⟨t2,tP2,e2,ht2,hd,hnd⟩:=Qr htY hnt S e
    have hfr1:DQ Y base baseP (i+1) ops.length:=λj h1 J=>by
     obtain⟨a1,a2⟩:=hfr j (by omega) (by omega);exact⟨s.pin _ (by omega) a1,s.hpn _ (by omega) a2⟩
    obtain⟨t',h',Z,L,k1,⟨N,k2⟩,k3,k4,k5⟩:=ih e2 r1 ht2 hfr1 (by omega) (by rw[s.nx];omega) (by omega) hp1;refine⟨t',h',Z,L,k1,hP ⟨N,λF n hF hn=> ?_⟩,k3,(s.ext (by omega) (by omega)).trans k4,k5⟩;have:=k2 F n hF hn;cases hdst:o.dst with
    |none=>simp only;rw[<- hnd hdst];exact this
    |some d=>
     obtain⟨a1,a2⟩:=hd d hdst;simp only[a1,cond_true];rw[<- a2];exact this
   have pnext:∀ {Y:Cx} {h1:H},St X h (base+i) (baseP+i) Y h1->L2 (PastE Y baseP (i+1) len) pa pp:=λs=>E.mono λ_ _ k=>k.next s
   have entry:∀ {Y:Cx} {h1:H} {c:Nat} {f:Option (List Nat×Bool)} {rd wr:List Nat},St X h (base+i) (baseP+i) Y h1->(∀ w∈wr,w∈rd)->(c<=1->wr=[])->(∀ q∈rd,q=baseP+i\/X.h.get q≠none)->(c=0->rd=[baseP+i]/\Y.h.get (baseP+i)=none)->FpP Y (baseP+i) f rd->L2 (PastE Y baseP (i+1) len) ((i,c,f)::pa) ((i,rd,wr)::pp):=fun {Y h1 c f rd wr} s h1 J h3 h4 h5=>by
    refine .cons ⟨rfl,by show i<i+1;omega,h1,J,λq hq k k1 k2=> ?_,h4,h5⟩ (pnext s);rcases h3 q hq with hh|hh
    ·omega
    ·intro he;obtain⟨_,a2⟩:=hfr k (by omega) (by omega);rw[he]at hh;exact hh a2
   have B:∀ {Y:Cx} {h1:H} {f:Option (List Nat×Bool)} {rd:List Nat},St X h (base+i) (baseP+i) Y h1->Y.h.get (baseP+i)=none->Nf X (baseP+i) f rd->FpP Y (baseP+i) f rd:=λs hn hf l hl q hq=>by
    rcases hf l hl q hq with rfl|h1
    ·exact .inl ⟨rfl,hn⟩
    ·exact .inr (h1.mono s.up)
   have fpUp:∀ {Y:Cx} {h1:H} {f:Option (List Nat×Bool)} {rd:List Nat},St X h (base+i) (baseP+i) Y h1->Nf X (baseP+i) f rd->Nf Y (baseP+i) f rd:=λs hf l hl q hq=>(hf l hl q hq).imp id (FpA.mono s.up);rcases hcase with⟨e,hw⟩|⟨e,hw⟩
   ·replace e:=BC e;obtain⟨D,e⟩:=e;have D:Pi.As o.op=true:=by simpa using D
    have ev:=Oy r w G e;generalize O:Pi.AQ P U X.h (baseP+i) o=op at ev;cases ev with
    |@val v h1 p hP1 Y e ok S=>
     obtain⟨y1,y2,M⟩:=ok;simp only at e;replace e:=AK e;obtain⟨g,e⟩:=e;simp only[ai]at g
     have hc2:AR o.op<=2\/AR o.op=4:=by
      rcases Bool.or_eq_true_iff.1 g.1 with hc|hc
      ·exact .inl (aq hc)
      ·exact .inr (al hc)
     obtain⟨hpl,hck1,hck2⟩:=g.2
     have hsl:∀ ty x lo hi m,o.op=.slice ty x lo hi (some m) -> ∀ p,Pi.CM U x=some p -> ∀ j a b,p ≠ .own j a b:=λty x lo hi m ho p hp j a b hpe=>by
      rw[ho]at hpl;cases x with
      |tmp k=>
       simp only[Rf]at hpl;split at hpl
       ·rename_i hk;obtain⟨p',hp',hvr⟩:=G _ _ hk;simp only[Pi.CM,hp',aC,Option.some.injEq]at hp;subst hp;subst hpe;simp only[VR]at hvr;rcases hvr with⟨h,_⟩|⟨_,_,h,_⟩<;>cases h
       ·rename_i hk;obtain⟨p',hp',hvr⟩:=G _ _ hk;simp only[Pi.CM,hp',aC,Option.some.injEq]at hp;subst hp;subst hpe;simp only[VR]at hvr;cases hvr
       ·cases hpl
      |_=>simp[Rf]at hpl
     obtain⟨J,wr,d1,d2,d3,d4,d5⟩:=(H8 hsl D C.2 O).1 p hP1 rfl hc2;have I:∀ q,J.get q=Y.h.get q:=λq=>by rw[d2,y1]
     have n2:J.nx=Y.h.nx:=by rw[d3,M.nx]
     have s2:=M.with I n2
     have hfo:=(Iw D).2.2.1
     have y:∀ q∈(baseP+i)::Pi.Au U X.h o.op,q=baseP+i\/X.h.get q≠none:=λq hq=>by
      rcases ae.1 hq with hq|hq
      ·exact .inl hq
      ·exact .inr (NA r G (by omega) D hck1 q hq)
     have u:=Q8 r G (o:=o.op) (baseP+i);have z:=D3 r u (rd:=(baseP+i)::Pi.Au U X.h o.op) (wr:=wr) (len:=len) (by omega) d5 (λhc=>(d4 hc).1) (λhc=>by rw[hfo hc]) y E hck2
     have hq0:AR o.op<=1->(Y.with J).h.get (baseP+i)=none:=λhc=>by
      show J.get _=none;rw[d2,(d4 hc).2];exact C.2
     refine go (p:=p) e (y2.with I n2) (G.mono s2.up) (S.mono (ET I)) s2 (entry s2 d5 (λhc=>(d4 hc).1) y (λhc=>⟨by rw[hfo (.inl hc)],hq0 (by omega)⟩) ?_) ?_
     ·cases hcl:af (AR o.op) 1 with
      |true=>exact B s2 (hq0 (aq hcl)) u
      |false=>
       have hcl':¬ AR o.op<=1:=λhh=>by rw[show af (AR o.op) 1=true from by simpa using hh]at hcl;cases hcl
       refine IF (S.mono (ET I)) ?_ (fpUp s2 u);rcases Qj C.2 D (by omega) O with hn|hn
       ·exact .inl (by show J.get _=none;rw[d2];exact hn)
       ·exact .inr hn
     ·rintro rr ⟨N,W⟩;refine⟨N,λF n hF hn=> ?_⟩;unfold Pi.AY;simp only[hw,cond_true,d1,z];exact W F n hF hn
    |@skip h1 hP1 Y e ok=>
     obtain⟨y1,y2,M⟩:=ok;simp only at e;replace e:=AK e;obtain⟨g,e⟩:=e;simp only[ai]at g;have hc3:AR o.op=3:=al g.1;obtain⟨J,wr,d1,d2,d3,d5⟩:=(H8 (λty x lo hi m ho=>by rw[ho]at hc3;simp[AR]at hc3) D C.2 O).2 hP1 rfl hc3;have I:∀ q,J.get q=Y.h.get q:=λq=>by rw[d2,y1]
     have n2:J.nx=Y.h.nx:=by rw[d3,M.nx]
     have s2:=M.with I n2
     have y:∀ q∈(baseP+i)::Pi.Au U X.h o.op,q=baseP+i\/X.h.get q≠none:=λq hq=>by
      rcases ae.1 hq with hq|hq
      ·exact .inl hq
      ·exact .inr (NA r G (by omega) D g.2.1 q hq)
     have u:=Q8 r G (o:=o.op) (baseP+i);have z:=D3 r u (c:=3) (rd:=(baseP+i)::Pi.Au U X.h o.op) (wr:=wr) (len:=len) (by omega) d5 (λhc=>by omega) (λhc=>by omega) y E g.2.2;refine go (p:=.tup []) e (y2.with I n2) (G.mono s2.up) (by simp only[VR];exact⟨[],rfl,.nil⟩) s2 (entry (c:=3) s2 d5 (λhc=>by omega) y (λhc=>by omega) (B s2 (by show J.get _=none;rw[d2];exact Nq hc3 C.2 O) u)) ?_
     rintro rr ⟨N,W⟩;refine⟨N,λF n hF hn=> ?_⟩;unfold Pi.AY;simp only[hw,cond_true,d1,z];exact W F n hF hn
    |@call f as ps e ha=>
     simp only at e
     have any:∀ {v:V} {q:PV} {h1:H} {Y:Cx} {J:Hp} {rd wr:List Nat} {f':Option (List Nat×Bool)},Hh t1 nt o.dst v (λt=>BO P tab base nt all (i+1) ops ms ((i,4,f')::pa) t h1 K)=some x->VR Y v q->RH Y h1 nx->St X h (base+i) (baseP+i) Y h1->(∀ a∈wr,a∈rd)->(∀ a∈rd,a=baseP+i\/X.h.get a≠none)->Nf X (baseP+i) (BK h as) rd->FpP (Y.with J) (baseP+i) f' rd->(∀ a,J.get a=Y.h.get a)->J.nx=X.h.nx->DM h m.bef 4 (BK h as) pa=true ->
       (∃ N,∀ F m,N<=F->N<=m->Pi.Aw P (Pi.B3 P (Ad tab) F m) U X.h (baseP+i) o=some (q,J,rd,wr)) ->
       ∃ t' h' Y L,K t' h'=some x/\(∃ N,∀ F n,N<=F->N<=n->Pi.AY P (Pi.B3 P (Ad tab) F n) baseP nt all i (o::ops) (m::ms) pp U X.h=some (L,Y.h))/\RH Y h' nx/\Ext b bP X h Y h'/\TR Y t' L:=by
      intro v q h1 Y J rd wr f' e1 S y2 M d5 y u hfq I n2 g ⟨N0,hN0⟩;have n2':J.nx=Y.h.nx:=by rw[n2,M.nx]
      have s2:=M.with I n2'
      have z:=D3 r u (c:=4) (rd:=rd) (wr:=wr) (len:=len) (by omega) d5 (λhc=>by omega) (λhc=>by omega) y E g;refine go (p:=q) e1 (y2.with I n2') (G.mono s2.up) (S.mono (ET I)) s2 (entry (c:=4) s2 d5 (λhc=>by omega) y (λhc=>by omega) hfq) ?_
      rintro rr ⟨N,W⟩;refine⟨max N0 N,λF n hF hn=> ?_⟩;unfold Pi.AY;simp only[hw,cond_true,hN0 F n (by omega) (by omega),z];exact W F n (by omega) (by omega)
     split at e
     ·rename_i sg hsg;replace e:=BC e;obtain⟨A,e⟩:=e;simp only[am,az]at A;obtain⟨A,g⟩:=A;obtain⟨v,q,h1,Y,J,rd,wr,e1,S,⟨hP1,⟨y1,y2,M⟩,hT⟩,d5,y,u,I,n2,W⟩:=Ek r w D A O ha (HO r w (λdom g' c fn hh=>TO.getR (by rw[hsg,hh])) ha e);have s2:=M.with I (by rw[n2,M.nx])
      exact any e1 S y2 M d5 y u (IF (S.mono (ET I)) (hT.imp (λhn=>by show J.get _=none;rw[I,y1];exact hn) id) (fpUp s2 u)) I n2 g W
     ·split at e
      ·rename_i sg hsg;replace e:=BC e;obtain⟨A,e⟩:=e;have A:CJ o.op=true:=by simpa using A
       replace e:=BC e;obtain⟨g,e⟩:=e;have g:DM h m.bef 4 (BK h as) pa=true:=by simpa using g
       obtain⟨v,q,h1,Y,J,rd,wr,e1,S,⟨hP1,⟨y1,y2,M⟩,hT⟩,d5,y,u,I,n2,W⟩:=Ek r w D A O ha (T:=λhP _=>hP.get (baseP+i)=none) (Ks r w (TO.getL hsg) ha e);have s2:=M.with I (by rw[n2,M.nx])
       exact any e1 S y2 M d5 y u (B s2 (by show J.get _=none;rw[I,y1];exact hT) u) I n2 g W
      ·split at e
       ·rename_i sg hsg;replace e:=BC e;obtain⟨A,e⟩:=e;have A:CJ o.op=true:=by simpa using A
        replace e:=BU e;rcases e with⟨hcs,e⟩|⟨hcs,e⟩
        ·replace e:=BC e;obtain⟨g,e⟩:=e;have g:DM h m.bef 4 (BK h as) pa=true:=by simpa using g
         obtain⟨v,q,h1,Y,J,rd,wr,e1,S,⟨hP1,⟨y1,y2,M⟩,hT⟩,d5,y,u,I,n2,W⟩:=Ek r w D A O ha (HP r w (TO.getD hsg) ha e);have s2:=M.with I (by rw[n2,M.nx])
         refine any e1 S y2 M d5 y u ?_ I n2 g W;cases ho:LV sg.cod with
         |true=>exact IF (S.mono (ET I)) (hT.2.imp (λhn=>by show J.get _=none;rw[I,y1];exact hn) id) (fpUp s2 u)
         |false=>exact B s2 (by show J.get _=none;rw[I,y1];exact hT.1 ho) u
        ·replace e:=BC e;obtain⟨g,e⟩:=e;have g:DM h m.bef 1 (BK h as) pa=true:=by simpa using g
         obtain⟨v,q,rd,e1,S,y,u,N0,hN0⟩:=Ji r (TO.getD hsg) hcs D A O ha e;have z:=D3 r u (c:=1) (rd:=rd) (wr:=[]) (len:=len) (by omega) (λ_ hw=>by cases hw) (λ_=>rfl) (λhc=>by omega) y E g;have s2:=St.refl X h (base+i) (baseP+i);refine go (p:=q) e1 r G S s2 (entry (c:=1) (wr:=[]) s2 (λ_ hw=>by cases hw) (λ_=>rfl) y (λhc=>by omega) (B s2 C.2 u)) ?_;rintro rr ⟨N,W⟩;refine⟨max N0 N,λF n hF hn=> ?_⟩;unfold Pi.AY;simp only[hw,cond_true,hN0 F n (by omega) (by omega),z];exact W F n (by omega) (by omega)
       ·split at e
        ·rename_i sg hsg;replace e:=BC e;obtain⟨A,e⟩:=e;simp only[am,az]at A;obtain⟨A,hcs⟩:=A;replace e:=AD e;obtain⟨⟨args2,js⟩,hde,e⟩:=e;replace e:=BC e;obtain⟨g,e⟩:=e;have g:DM h m.bef 1 (SB js (BK h args2)) pa=true:=by simpa using g
         obtain⟨v,q,rd,e1,S,y,u,N0,hN0⟩:=Kz r (TO.getP hsg) hcs D A O hde ha e;have z:=D3 r u (c:=1) (rd:=rd) (wr:=[]) (len:=len) (by omega) (λ_ hw=>by cases hw) (λ_=>rfl) (λhc=>by omega) y E g;have s2:=St.refl X h (base+i) (baseP+i);refine go (p:=q) e1 r G S s2 (entry (c:=1) (wr:=[]) s2 (λ_ hw=>by cases hw) (λ_=>rfl) y (λhc=>by omega) (B s2 C.2 u)) ?_;rintro rr ⟨N,W⟩;refine⟨max N0 N,λF n hF hn=> ?_⟩;unfold Pi.AY;simp only[hw,cond_true,hN0 F n (by omega) (by omega),z];exact W F n (by omega) (by omega)
        ·cases e
    |yield e=>cases e
    |pan e=>cases e
    |rcv e=>cases e
    |dfr e=>cases e
   ·have s2:=St.refl X h (base+i) (baseP+i);refine go (p:=.tup []) e r G (by simp only[VR];exact⟨[],rfl,.nil⟩) s2 (pnext s2) ?_;rintro rr ⟨N,W⟩;refine⟨N,λF n hF hn=> ?_⟩;unfold Pi.AY;simp only[hw,cond_false];exact W F n hF hn
theorem Cc(s:TabOK P tab):DrawnAOK P tab:=by
 constructor;intro β x nx ops fr h K e X fp r g F d;unfold MA at e;replace e:=AD e;obtain⟨D,l,e⟩:=e
 have fresh:DQ (X.bump ops.length) nx X.h.nx 0 ops.length:=λj _ _=>⟨by
  cases p:X.π (nx+j)with
  |none=>exact p
  |some a=>have:=r.dom _ _ p;omega,by rw[Kr];exact r.fresh _ (by omega)⟩
 have f:=λ(b bP:Nat) (i:b<=nx) (c:bP<=X.h.nx)=>Ky s (nx:=nx+ops.length) i c F.big g d (len:=ops.length) e (r.bump _) (F.t.mono (GE X _)) fresh (by omega) (by show X.h.nx+0+_<=X.h.nx+ops.length;omega) (by omega) (pa:=[]) (pp:=[]) .nil;obtain⟨C,h',Y,o,w,⟨N,y⟩,z,A,B⟩:=f nx X.h.nx (ac _) (ac _);have ext:=(GD X h ops.length nx X.h.nx).trans A;have up:=ext.full r (ac _);have m:fp.nt=fr.nt:=F.nt;refine⟨{ fr with t:=C },h',Y,{ fp with t:=o },Y.h,w,⟨N,λq n u g=> ?_⟩,λb bP i c=>⟨rfl,z,g,Nat.le_add_right _ _,ext.le i c⟩,⟨B,F.nt,F.big,F.ds.mono λ_ _ k=>k.mono up,F.up.mono up,F.ro.mono up⟩⟩
 unfold Pi.drawn;rw[l,m];simp only[y q n u g]
end
end
section
variable[Pi.Gl]
open Pi (PV T Hp Blk DF UM PE AN AT AB AX Ao)
theorem Kb(a:FuncId->Bool)(L:List (FuncId×Sg)):Ad (Ae a L)=λf=> !a f:=by
 funext f
 unfold Ad Ae;cases a f<;>rfl
theorem PD.mk{P:Program}{a:FuncId->Bool}{L c:List (FuncId×Sg)}{b:Pi.Tg}{up:Option UM}{args:List PV}{h:Hp}{r:Pi.Out×Option UM×Hp}(e:PD P (Ae a L) b up args h r):PD P (Ae a c) b up args h r:=by
 unfold PD at e ⊢;rw[Kb]at e ⊢;exact e
theorem Sj(P:Program)(a:FuncId->Bool):TabOK P (Ae a []):=by
 have:∀ f sg,Ae a [] f≠some (some sg):=λf sg e=>by
  unfold Ae at e;replace e:=BU e;rcases e with⟨_,e⟩|⟨_,e⟩<;>cases e
 exact⟨λf sg _ e=>absurd e (this _ _),λf dom g c b _ e=>absurd e (this _ _),λf sg _ e=>absurd e (this _ _),λf sg _ e=>absurd e (this _ _)⟩
theorem FnOK.mk{P:Program}{a:FuncId->Bool}{L b:List (FuncId×Sg)}{f:FuncId}{sg:Sg}(h:FnOK P (Ae a L) f sg):FnOK P (Ae a b) f sg:=λx y g c e=>by
 obtain⟨r,up,d,i,j⟩:=h x y g c e;exact⟨r,up,d,i.mk,j⟩
theorem RowOK.mk{P:Program}{b:FuncId->Bool}{L d:List (FuncId×Sg)}{f:FuncId}{dom:List (Bool×Ty)}{g:Bool}{c:Ty}{a:AP dom->Option (List c.den)}(h:RowOK P (Ae b L) f dom g c a):RowOK P (Ae b d) f dom g c a:=λx y k e j=>by
 obtain⟨r,up,i,l,m⟩:=h x y k e j;exact⟨r,up,i,l.mk,m⟩
theorem FnP.mk{P:Program}{a:FuncId->Bool}{L b:List (FuncId×Sg)}{f:FuncId}{sg:Sg}(h:FnP P (Ae a L) f sg):FnP P (Ae a b) f sg:=λx y g c e=>by
 obtain⟨r,up,d,i,j⟩:=h x y g c e;exact⟨r,up,d,i.mk,j⟩
theorem FnL.mk{P:Program}{a:FuncId->Bool}{L b:List (FuncId×Sg)}{f:FuncId}{sg:Sg}(h:FnL P (Ae a L) f sg):FnL P (Ae a b) f sg:=λx y g c e=>by
 obtain⟨r,up,d,i,j⟩:=h x y g c e;exact⟨r,up,d,i.mk,j⟩
theorem KK{a b c d:Nat}(e:ah a c=true)(f:c<=d)(h:a=b+d):False:=bw.2 (ay f (aU d b)) (h ▸ DA e)
theorem Ai{b:FuncId->Bool}{L:List (FuncId×Sg)}{k f:FuncId}{sg a:Sg}(e:Ae b ((k,sg)::L) f=some (some a)):(f=k/\a=sg)\/Ae b L f=some (some a):=by
 unfold Ae at e ⊢;replace e:=BU e;rcases e with⟨d,e⟩|⟨_,e⟩
 ·simp only[Option.some.injEq]at e;unfold Mq at e;replace e:=BU e;rcases e with⟨c,e⟩|⟨_,e⟩
  ·cases e;exact .inl ⟨al c,rfl⟩
  ·exact .inr (by rw[d];exact congrArg some e)
 ·cases e
theorem Hs{P:Program}{j:FuncId->Bool}{L:List (FuncId×Sg)}(d:TabOK P (Ae j L)){k:FuncId}{sg:Sg}(i:ah k Cs=true)(h:FnOK P (Ae j L) (RK k) sg):TabOK P (Ae j ((k,sg)::L)) where
 std:=λf a b e=>by
  rcases Ai e with⟨rfl,rfl⟩|e
  ·exact h.mk
  ·exact(d.std f a b e).mk
 row:=λf dom g c l m e=>by
  rcases Ai e with⟨rfl,_⟩|e
  ·exfalso;exact bw.2 (aU Cs f) (DA i)
  ·exact(d.row f dom g c l m e).mk
 dat:=λf a b e=>by
  rcases Ai e with⟨rfl,_⟩|e
  ·exfalso;exact bw.2 (ay (by decide:Cs<=MW) (aU MW f)) (DA i)
  ·exact(d.dat f a b e).mk
 ptr:=λf a b e=>by
  rcases Ai e with⟨rfl,_⟩|e
  ·exfalso;exact bw.2 (ay (by decide:Cs<=IT) (aU IT f)) (DA i)
  ·exact(d.ptr f a b e).mk
theorem Q4{P:Program}{m:FuncId->Bool}{L:List (FuncId×Sg)}(l:TabOK P (Ae m L)){f:FuncId}(d:ah f Cr=true){dom:List (Bool×Ty)}{g:Bool}{c:Ty}{o:AP dom->Option (List c.den)}(h:RowOK P (Ae m L) f dom g c o):TabOK P (Ae m ((f+Cs,⟨dom,[(false,.sl g c)],o⟩)::L)) where
 std:=λa b i e=>by
  rcases Ai e with⟨rfl,_⟩|e
  ·exfalso;exact bw.2 (aU Cs f) (DA i)
  ·exact(l.std a b i e).mk
 row:=λa n s r p q e=>by
  rcases Ai e with⟨j,k⟩|e
  ·have:a=f:=aM j;subst this;cases k;exact h.mk
  ·exact(l.row _ _ _ _ _ q e).mk
 dat:=λa b i e=>by
  rcases Ai e with⟨j,_⟩|e
  ·exfalso
   have k:f=a+Cs:=by
    have:a+(Cs+Cs)=f+Cs:=j;rw[<- aI]at this;exact(aM this).symm
   exact KK d (by decide) k
  ·exact(l.dat a b i e).mk
 ptr:=λa b i e=>by
  rcases Ai e with⟨j,_⟩|e
  ·exfalso
   have k:a+1048576=f:=by
    have:a+(1048576+Cs)=f+Cs:=j;rw[<- aI]at this;exact aM this
   rw[<- k]at d;exact bw.2 (aU _ a) (DA d)
  ·exact(l.ptr a b i e).mk
theorem Sk{P:Program}{l:FuncId->Bool}{L:List (FuncId×Sg)}(d:TabOK P (Ae l L)){ann:Hu}{F n:Nat}{f:FuncId}{dom a:List (Bool×Ty)}{o:AP dom->Option (AP a)}(h:∀ x,Py P (Ae l L) ann F n f dom a x=o x)(hc:B1 a=false:=by rfl)(k:ah f Cr=true:=by rfl):TabOK P (Ae l ((f+IT,⟨dom,a,o⟩)::L)) where
 std:=λc b g e=>by
  rcases Ai e with⟨rfl,_⟩|e
  ·exfalso;exact bw.2 (ay (by decide:Cs<=IT) (aU IT f)) (DA g)
  ·exact(d.std c b g e).mk
 row:=λc m w u p r e=>by
  rcases Ai e with⟨_,j⟩|e
  ·cases j;cases hc
  ·exact(d.row _ _ _ _ _ r e).mk
 dat:=λc b g e=>by
  rcases Ai e with⟨i,_⟩|e
  ·exfalso
   have j:f=c+Cr:=by
    have:c+(Cr+IT)=f+IT:=i;rw[<- aI]at this;exact(aM this).symm
   exact KK k (by decide) j
  ·exact(d.dat c b g e).mk
 ptr:=λc b g e=>by
  rcases Ai e with⟨i,rfl⟩|e
  ·have:c=f:=aM i;subst this;exact FnP.mk λx y s t q=>Pz d (Cc d) ((h x).trans s) q
  ·exact(d.ptr _ _ g e).mk
theorem Si{P:Program}{l:FuncId->Bool}{L:List (FuncId×Sg)}(i:TabOK P (Ae l L)){ann:Hu}{F n:Nat}{f:FuncId}{dom:List (Bool×Ty)}{g:Bool}{c:Ty}{o:AP dom->Option (List c.den)}(h:∀ x,Pw P (Ae l L) ann F n f dom g c x=o x)(s:ah f Cr=true:=by rfl):TabOK P (Ae l ((f+MW,⟨dom,[(false,.sl g c)],o⟩)::L)) where
 std:=λa b d e=>by
  rcases Ai e with⟨rfl,_⟩|e
  ·exfalso;exact bw.2 (ay (by decide:Cs<=MW) (aU MW f)) (DA d)
  ·exact(i.std a b d e).mk
 row:=λa m z w q p e=>by
  rcases Ai e with⟨j,_⟩|e
  ·exfalso
   have k:a=f+Cs:=by
    have:a+Cs=f+(Cs+Cs):=j;rw[<- aI]at this;exact aM this
   exact KK p (by decide) k
  ·exact(i.row _ _ _ _ _ p e).mk
 ptr:=λa b d e=>by
  rcases Ai e with⟨j,_⟩|e
  ·exfalso
   have k:a=f+Cr:=by
    have:a+IT=f+(Cr+IT):=j;rw[<- aI]at this;exact aM this
   exact KK d (by decide) k
  ·exact(i.ptr a b d e).mk
 dat:=λa b d e=>by
  rcases Ai e with⟨j,rfl⟩|e
  ·have:a=f:=aM j;subst this;exact FnL.mk λx y t u r=>Px i (Cc i) ((h x).trans t) r
  ·exact(i.dat _ _ d e).mk
theorem SS{P:Program}{c:FuncId->Bool}{L:List (FuncId×Sg)}(b:TabOK P (Ae c L)){ann:Hu}{F n:Nat}{g k:FuncId}{dom a:List (Bool×Ty)}{d:AP dom->Option (AP a)}(h:∀ x,OS P (Ae c L) ann F n g dom a x=d x)(i:ah k Cs=true:=by rfl)(f:RK k=g:=by rfl) :
  TabOK P (Ae c ((k,⟨dom,a,d⟩)::L)):=Hs b i (by rw[f];exact λx y j l e=>Hr b (Cc b) ((h x).trans j) e)
def ND{α β:Type}(a:(α->Option β)->α->Option β):Nat->α->Option β
 |0=>λ_=>none
 |n+1=>a (ND a n)
theorem Sl{P:Program}{c:FuncId->Bool}{L:List (FuncId×Sg)}(f:TabOK P (Ae c L)){ann:Hu}{F n:Nat}{g:FuncId}{dom a:List (Bool×Ty)}{b:(AP dom->Option (AP a))->AP dom->Option (AP a)}
  (h:∀ r x,OS P (Ae c ((g,⟨dom,a,r⟩)::L)) ann F n g dom a x=b r x) (i:ah g Cs=true:=by rfl) (l:RK g=g:=by rfl):∀ d,TabOK P (Ae c ((g,⟨dom,a,ND b d⟩)::L)):=by
 intro d
 induction d with
 |zero=>exact Hs f i λx y e=>by cases e
 |succ d j=>
  refine Hs f i ?_;rw[l];have:FnOK P (Ae c ((g,⟨dom,a,ND b d⟩)::L)) g ⟨dom,a,ND b (d+1)⟩:=λx y e m k=>Hr j (Cc j) ((h _ x).trans e) k;exact this.mk
end
section
variable[Pi.Gl]
open Pi (PV T Hp Blk DF UM PE Rep RepL mu0 Ap Sim)
open Go.RowKit
theorem Rn{M:Ap}{w:World}(e:Pi.GlOK M)(f:∀ a v,M a=some v->a.spot=none/\w.cell? a=some v):Sim M mu0 Di w:=by
 refine⟨e,λa v h=>f a v h,λid b c=> ?_,λid r d=> ?_,λid g r i b b' d=> ?_,λid r b a v c=> ?_⟩
 ·rw[show Di={ m:=.lf,nx:=0 }from rfl,Pi.Hp.get_lf]at c;cases c
 ·simp[mu0]at d
 ·simp[mu0]at d
 ·rw[show Di={ m:=.lf,nx:=0 }from rfl,Pi.Hp.get_lf]at c;cases c
theorem Rv(h:∀ g,Pi.Gl.g g=none)(M:Ap):Pi.GlOK M:=λg cs e=>by rw[h]at e;cases e
theorem Rz{P:Program}(t:Pi.Jd P){b:D8}(l:TabOK P b){ann:Hu}{F n:Nat}{f:FuncId}{dom:List (Bool×Ty)}{x:AP dom}(e:OS P b ann F n f dom [(false,.bool)] x=some true)
  {p:List PV} (z:Df dom x p) {M:Ap} (u:Pi.GlOK M) {w:World} (y:∀ a v,M a=some v->a.spot=none/\w.cell? a=some v) {vs:List Value} (C:RepL M mu0 p vs) :
  Calls P f vs.toArray w λe w'=>e=.returned (.bool true)/\Grown w w':=by
 intro cs;obtain⟨r,up,I,⟨N,D⟩,k⟩:=Hr l (Cc l) e z;have R:=Pi.On (sh:=Ad b) t (λrec R=>Pi.Oq (P:=P) (rec:=rec) R) N N;obtain⟨G,μ',w',fr,s1,c,E,g,x,s,B⟩:=R.nrm (D N N (ac _) (ac _)) (Rn u y) C cs
 have j:r=.bool true:=by
  have:[r]=[PV.bool true]:=k;simpa using this
 subst j;cases s;refine⟨.returned (.bool true),w',fr,⟨rfl,⟨⟨c.os,c.output,λi hi=> ?_⟩,λa=> ?_,c.size⟩⟩,E,g,B⟩
 ·have A:w'.heap[i]?=w.heap[i]?:=c.keeps _ hi;rw[A];cases s:w.heap[i]? with
  |none=>trivial
  |some o=>cases o<;>first|exact⟨rfl,rfl,rfl,λ_ _=>rfl⟩|exact .inr ⟨rfl,rfl⟩|rfl
 ·by_cases h:a.block<w.heap.size
  ·simp only[World.frozen?,c.keeps _ h]
  ·have q:w.heap[a.block]?=none:=Array.getElem?_eq_none (by omega);simp only[World.frozen?,q];split
   ·rename_i arr ty lo hi hc;rcases c.nf _ _ _ _ hc with d|⟨m,d⟩
    ·cases d;simp
    ·rw[q]at d;cases d
   ·rfl
end
section
variable[Pi.Gl]
open Pi (PV T Hp Blk DF UM PE)
theorem RG{P:Program}{a:D8}{b:Pi.Tg}{up:Option UM}{args:List PV}{h:Hp}{r:Pi.Out×Option UM×Hp}{F n:Nat}(e:Pi.B3 P (Ad a) F n b up args h=some r):PD P a b up args h r:=
 ⟨max F n,λc g d f=>Pi.Om (by omega) (by omega) _ _ _ _ _ e⟩
def SY(P:Program)(sh:FuncId->Bool)(F n:Nat)(g:FuncId):Bool:=match Pi.B3 P sh F n (.fn g) none [] Di with
 |some (.ret v,_,_)=>(match v with
  |.bool b=>b
  |_=>false)
 |_=>false
def Gw(P:Program)(sh:FuncId->Bool)(F n:Nat)(g:FuncId)(p:PV):Bool:=match Pi.B3 P sh F n (.fn g) none [p] Di with
 |some (.ret v,_,_)=>(match v with
  |.nils=>true
  |.lst _ es=>es.isEmpty
  |_=>false)
 |_=>false
theorem Nt{P:Program}{sh:FuncId->Bool}{F n:Nat}{g:FuncId}{p:PV}(e:Gw P sh F n g p=true):∃ v up h,Pi.B3 P sh F n (.fn g) none [p] Di=some (.ret v,up,h)/\(v=.nils \/ ∃ f,v=.lst f []):=by
 unfold Gw at e;split at e
 ·rename_i v up h a;refine⟨v,up,h,a,?_⟩;split at e
  ·exact .inl rfl
  ·rename_i f es;cases es with
   |nil=>exact .inr ⟨f,rfl⟩
   |cons _ _=>cases e
  ·cases e
 ·cases e
def MC(P:Program)(sh:FuncId->Bool)(F n:Nat)(g:FuncId):Bool:=Gw P sh F n g .nils&&(Gw P sh F n g (.lst false [])&&Gw P sh F n g (.lst true []))
theorem PU{P:Program}{i:FuncId->Bool}{L:List (FuncId×Sg)}{F0 n0:Nat}{g:FuncId}{gg:Bool}{c:Ty}(b:MC P (λf=> !i f) F0 n0 g=true){j:List PV}(m:Df [(false,.sl gg c)] ([]:List c.den) j):∃ v up h,PD P (Ae i L) (.fn g) none j Di (.ret v,up,h)/\(v=.nils \/ ∃ f,v=.lst f []):=by
 obtain⟨p,rfl,d⟩:=m;have d:∃ q,[p]=[q]/\((q=.nils/\([]:List c.den)=[]) \/ ∃ f es,q=.lst f es/\L2 (EP gg (DP c)) [] es):=d;obtain⟨q,r,d⟩:=d;cases r;unfold MC at b;simp only[ai]at b
 have a:Gw P (λf=> !i f) F0 n0 g p=true -> ∃ v up h,PD P (Ae i L) (.fn g) none [p] Di (.ret v,up,h)/\(v=.nils \/ ∃ f,v=.lst f []):=λe=>by
  obtain⟨v,up,l,n,s⟩:=Nt e;exact⟨v,up,l,RG (by rw[Kb];exact n),s⟩
 rcases d with⟨rfl,_⟩|⟨k,es,rfl,o⟩
 ·exact a b.1
 ·have:=o.nil_inv;subst this;cases k with
  |false=>exact a b.2.1
  |true=>exact a b.2.2
theorem SU{P:Program}{i:FuncId->Bool}{L:List (FuncId×Sg)}(m:TabOK P (Ae i L)){ann:Hu}{F n F0 n0:Nat}{g:FuncId}{gg:Bool}{c:Ty}{j:List c.den->Option (List c.den)}
  (p:MC P (λf=> !i f) F0 n0 g=true) (o:j []=some []) (h:∀ a l,OS P (Ae i L) ann F n g [(false,.sl gg c)] [(false,.sl gg c)] (a::l)=j (a::l)) (s:ah g Cs=true:=by rfl) (q:RK g=g:=by rfl) :
  TabOK P (Ae i ((g,⟨[(false,.sl gg c)],[(false,.sl gg c)],j⟩)::L)):=Hs m s (by
 rw[q]
 have key:∀ (x y:List c.den) (b:List PV),j x=some y->Df [(false,.sl gg c)] x b -> ∃ r up d,PD P (Ae i L) (.fn g) none b Di (.ret r,up,d)/\Hi d [(false,.sl gg c)] y r:=by
  intro x y b e k;cases x with
  |cons a l=>exact Hr m (Cc m) ((h a l).trans e) k
  |nil=>
   rw[o]at e;cases e;obtain⟨v,up,d,u,t⟩:=PU p k;refine⟨v,up,d,u,?_⟩;show DX d (λ_=>True) (λ_=>True) (.sl gg c) [] [v];refine⟨v,rfl,?_⟩;rcases t with rfl|⟨f,rfl⟩
   ·exact .inl ⟨rfl,rfl⟩
   ·exact .inr (.inl ⟨f,[],rfl,.nil⟩)
 exact λx y e b k=>key x y b e k)
def Gv(P:Program)(sh:FuncId->Bool)(F n:Nat)(g:FuncId)(p:PV):Bool:=match Pi.B3 P sh F n (.fn g) none [p] Di with
 |some (.ret v,_,_)=>(match v with
  |.nils=>true
  |.lst true es=>es.isEmpty
  |_=>false)
 |_=>false
theorem Ns{P:Program}{sh:FuncId->Bool}{F n:Nat}{g:FuncId}{p:PV}(e:Gv P sh F n g p=true):∃ v up h,Pi.B3 P sh F n (.fn g) none [p] Di=some (.ret v,up,h)/\(v=.nils\/v=.lst true []):=by
 unfold Gv at e;split at e
 ·rename_i v up h a;refine⟨v,up,h,a,?_⟩;split at e
  ·exact .inl rfl
  ·rename_i es;cases es with
   |nil=>exact .inr rfl
   |cons _ _=>cases e
  ·cases e
 ·cases e
def Ov(P:Program)(sh:FuncId->Bool)(F n:Nat)(g:FuncId):Bool:=Gv P sh F n g .nils&&(Gv P sh F n g (.lst false [])&&Gv P sh F n g (.lst true []))
theorem SV{P:Program}{i:FuncId->Bool}{L:List (FuncId×Sg)}(u:TabOK P (Ae i L)){ann:Hu}{F n F0 n0:Nat}{g:FuncId}{gg:Bool}{c:Ty}{m:List c.den->Option (List c.den)}
  (o:Ov P (λf=> !i f) F0 n0 g=true) (z:m []=some []) (A:∀ a l y,m (a::l)=some y->y≠[]) (h:∀ a l,P0 P (Ae i L) ann F n g [(false,.sl gg c)] gg c (a::l)=m (a::l)) (w:ah g Cr=true:=by rfl) :
  TabOK P (Ae i ((g+Cs,⟨[(false,.sl gg c)],[(false,.sl gg c)],m⟩)::L)):=Q4 u w (by
 have key:∀ (x y:List c.den) (k:List PV),m x=some y->Df [(false,.sl gg c)] x k -> ∃ r up d,PD P (Ae i L) (.fn g) none k Di (.ret r,up,d)/\Ob d gg c y r:=by
  intro x y k j t;cases x with
  |cons a l=>exact P1 u (Cc u) ((h a l).trans j) (A _ _ _ j) t
  |nil=>
   rw[z]at j;cases j;obtain⟨p,rfl,s⟩:=t;have s:∃ q,[p]=[q]/\((q=.nils/\([]:List c.den)=[]) \/ ∃ f es,q=.lst f es/\L2 (EP gg (DP c)) [] es):=s;obtain⟨q,E,s⟩:=s;cases E;unfold Ov at o;simp only[ai]at o
   have b:Gv P (λf=> !i f) F0 n0 g p=true -> ∃ r up d,PD P (Ae i L) (.fn g) none [p] Di (.ret r,up,d)/\Ob d gg c [] r:=λe=>by
    obtain⟨v,up,d,C,G⟩:=Ns e;exact⟨v,up,d,RG (by rw[Kb];exact C),.inl ⟨rfl,G⟩⟩
   rcases s with⟨rfl,_⟩|⟨B,es,rfl,D⟩
   ·exact b o.1
   ·have:=D.nil_inv;subst this;cases B with
    |false=>exact b o.2.1
    |true=>exact b o.2.2
 exact λx y j k t=>key x y k j t)
theorem R7{α:Type}{a:α}{l y:List α}(h:gd (CF (AS (a::l)) 1048576) (λ_=>some (a::l))=some y):y≠[]:=by
 unfold gd at h;cases b:CF (AS (a::l)) 1048576 with
 |true=>rw[b]at h;cases h;simp
 |false=>rw[b]at h;cases h
end
section
variable[Pi.Gl]
open Pi (PV Rep RepL mu0 Ap)
open Go.RowKit Go.ChangeShapes Go.WideShapes
def Ha(w:World):Ap:=λa=>if a.spot=none then w.cell? a else none
theorem SK(w:World):∀ a v,Ha w a=some v->a.spot=none/\w.cell? a=some v:=λa v h=>by
 unfold Ha at h;split at h
 ·rename_i hs;exact⟨hs,h⟩
 ·cases h
def RE:(c:Ty)->c.den->Prop
 |.int k,n=>(Lit.int k n).wf=true
 |.bool,_=>True
 |.str,s=>s.length<=maxLen
 |.unit,_=>True
 |.pair a b,x=>RE a x.1/\RE b x.2
 |.sl _ c,l=>l.length<=maxLen /\ ∀ x∈l,RE c x
def RF:(l:List (Bool×Ty))->AP l->Prop
 |[],_=>True
 |[p],x=>RE p.2 x
 |p::q::r,x=>RE p.2 x.1/\RF (q::r) x.2
def Qx:Nat->Ty->Ty
 |0,_=>.unit
 |n+1,c=>match n with
  |0=>c
  |_=>.pair c (Qx n c)
def LW(P:Program):Nat->TypeId->Option (Bool×Ty)
 |0,_=>none
 |d+1,t=>match P.underlying t with
  |some (.int k)=>some (false,.int k)
  |some .bool=>some (false,.bool)
  |some .string=>some (false,.str)
  |some (.slice e)=>match LW P d e with
   |some (g,c)=>bif ah 0 c.wd then some (false,.sl g c)else none
   |none=>none
  |some (.struct fs)=>(P8 (LW P d) fs.toList).map λc=>(true,c)
  |some (.array n e)=>(LW P d e).map λp=>(true,Qx n p.2)
  |_=>none
theorem NN{P:Program}:∀ {d:Nat} {t:TypeId} {c:Ty},LW P d t=some (false,c)->(∃ k,c=.int k)\/c=.bool\/c=.str \/ ∃ g e,c=.sl g e
 |0,t,c,h=>by cases h
 |d+1,t,c,h=>by
  unfold LW at h;split at h
  ·cases h;exact .inl ⟨_,rfl⟩
  ·cases h;exact .inr (.inl rfl)
  ·cases h;exact .inr (.inr (.inl rfl))
  ·split at h
   ·replace h:=AK h;cases h.2;exact .inr (.inr (.inr ⟨_,_,rfl⟩))
   ·cases h
  ·obtain⟨x,_,a⟩:=Pi.AA h;cases a
  ·obtain⟨x,_,a⟩:=Pi.AA h;cases a
  ·cases h
structure Cells (w:World) (c:Ty) (x:c.den) (ps:List PV) (cs:List Value):Prop where
 dp:DP c x ps
 ok:RE c x
 len:ps.length=cs.length
 wd:cs.length=c.wd
 rep:∀ (i:Nat) p v,ps[i]?=some p->cs[i]?=some v->Rep (Ha w) mu0 p v
 one:∀ v∈cs,v.oneCell'=true
theorem Cells.pair{w:World}{f g:Ty}{l:f.den}{m:g.den}{e h:List PV}{j k:List Value}(a:Cells w f l e j)(b:Cells w g m h k):Cells w (.pair f g) (l,m) (e++h) (j++k):=by
 refine⟨⟨e,h,rfl,a.dp,b.dp⟩,⟨a.ok,b.ok⟩,by simp only[bm,a.len,b.len],by rw[bm,a.wd,b.wd];rfl,λi p v c d=> ?_,λv hv=> ?_⟩
 ·by_cases hi:i<e.length
  ·rw[bH hi]at c;rw[bH (by rw[<- a.len];exact hi)]at d;exact a.rep i p v c d
  ·rw[bf (by omega)]at c;rw[bf (by rw[<- a.len];omega),<- a.len]at d;exact b.rep _ p v c d
 ·rcases ao.1 hv with hv|hv
  ·exact a.one v hv
  ·exact b.one v hv
theorem Cells.ep{w:World}{d:Nat}{P:Program}{t:TypeId}{g:Bool}{c:Ty}(hc:LW P d t=some (g,c)){x:c.den}{a:List PV}{cs:List Value}(h:Cells w c x a cs):∃ e,EP g (DP c) x e/\e.cells=a:=by
 cases g with
 |true=>exact⟨.agg a,⟨a,rfl,h.dp⟩,rfl⟩
 |false=>
  rcases NN hc with⟨k,rfl⟩|rfl|rfl|⟨g,e,rfl⟩
  ·have:=h.dp;exact⟨.int k x,rfl,this.symm⟩
  ·have:=h.dp;exact⟨.bool x,rfl,this.symm⟩
  ·have:=h.dp;exact⟨.str x,rfl,this.symm⟩
  ·obtain⟨p,i,b⟩:=h.dp;refine⟨p,⟨p,rfl,b⟩,?_⟩;rw[i];rcases b with⟨rfl,_⟩|⟨f,es,rfl,_⟩<;>rfl
section
variable{H:Type}{enc:TypeId×Value->H}{P:Program}{w:World}
theorem Mw{a:Addr}(b:a.spot=none)(n:Nat):a.add n=⟨a.block,a.off+n,none⟩:=by
 unfold Addr.add;split
 ·rename_i h;subst h;cases a;simp at b;subst b;rfl
 ·rfl
theorem Np{a:Addr}{v:Value}(h:w.cell? a=some v):a.spot=none:=by
 unfold World.cell? at h;split at h
 ·split at h
  ·cases h
  ·rename_i hs;cases b:a.spot with
   |none=>rfl
   |some _=>rw[b]at hs;simp at hs
 ·cases h
theorem EO(K:Kids P (· < P.types.size)):∀ (D:Nat) {t:TypeId} {g:Bool} {c:Ty},LW P D t=some (g,c)->t<P.types.size -> ∀ {W:Nat} {cs:List Value} {y:DataW H×List MemPlace},DataW.trod enc P w 0 (λ_=>true) true W t cs=some y -> ∃ x C,Cells w c x C cs
 |0,t,g,c,hc,_,_,_,_,_=>by cases hc
 |D+1,t,g,c,hc,ht,W,cs,y,h=>by
  unfold LW at hc;split at hc
  ·rename_i k G;cases hc;obtain⟨n,rfl,_,hw⟩:=DataW.trod_int G h;exact⟨n,[.int k n],rfl,hw,rfl,rfl,λi p v d l=>by cases i<;>simp at d l;subst d;subst l;exact .int _ _ _,λv B=>by simp at B;subst B;rfl⟩
  ·rename_i G;cases hc;obtain⟨b,rfl,_⟩:=DataW.trod_bool G h;exact⟨b,[.bool b],rfl,trivial,rfl,rfl,λi p v d l=>by cases i<;>simp at d l;subst d;subst l;exact .bool _ _,λv B=>by simp at B;subst B;rfl⟩
  ·rename_i G;cases hc;obtain⟨s,rfl,_,hs⟩:=DataW.trod_string G h;exact⟨s.data.toList,[.str s.data.toList],rfl,(by show s.data.toList.length<=maxLen;simpa using hs),rfl,rfl,λi p v d l=>by cases i<;>simp at d l;subst d;subst l;exact .str _ _,λv B=>by simp at B;subst B;rfl⟩
  ·rename_i e G;split at hc
   ·rename_i ge ce N;replace hc:=AK hc;obtain⟨hwd,hc⟩:=hc;cases hc;have hwd:0<ce.wd:=by simpa using hwd
    have hte:=K.slice ht G;rcases DataW.trod_slice G h with⟨rfl,_⟩|⟨a,len,cap,L,rest,n,_,rfl,_,_,hlc,hcm,hel,hels,_,_⟩
    ·exact⟨[],[.nils],⟨_,rfl,.inl ⟨rfl,rfl⟩⟩,⟨bF _,λ_ h=>by cases h⟩,rfl,rfl,λi p v d l=>by cases i<;>simp at d l;subst d;subst l;exact .nils _,λv B=>by simp at B;subst B;rfl⟩
    ·
     have U:∀ i,i<len -> ∃ x C cs,Cells w ce x C cs/\(∀ (j:Nat),j<cs.length->w.cell? ((a.add (i*P.cellsOf e)).add j)=cs[j]?)/\cs.length=P.cellsOf e:=λi hi=>by
      have d:=hels i hi;rw[show L[i]?=some L[i] by simp[hel,hi]]at d;cases Y:w.cells? 0 (a.add (i*P.cellsOf e)) (P.cellsOf e)with
      |none=>rw[Y]at d;cases d
      |some cs=>
       rw[Y]at d;obtain⟨x,C,J⟩:=EO K D N hte (show DataW.trod enc P w 0 (λ_=>true) true n e cs=some _ from d);obtain⟨_,hl,o⟩:=World.cells?_some Y;exact⟨x,C,cs,J,λj hj=>o j (by omega),hl⟩
     by_cases h0:len=0
     ·subst h0;exact⟨[],[.lst false []],⟨_,rfl,.inr ⟨_,_,rfl,.nil⟩⟩,⟨bF _,λ_ h=>by cases h⟩,rfl,rfl,λi p v d l=>by cases i<;>simp at d l;subst d;subst l;exact .lst0 _ _ _ _ (λh=>by cases h),λv B=>by simp at B;subst B;rfl⟩
     ·have F:a.spot=none:=by
       obtain⟨x,C,cs,J,o,hl⟩:=U 0 (by omega);have E:=J.wd;have:=o 0 (by omega);rw[show cs[0]?=some cs[0]from by simp]at this;have hs:=Np this;simpa[Addr.add]using hs
      have all:∀ m,m<=len -> ∃ (xs:List ce.den) (es:List PV) (vs:List (List Value)),xs.length=m/\es.length=m/\vs.length=m/\L2 (EP ge (DP ce)) xs es/\(∀ x∈xs,RE ce x) /\
        ∀ (i:Nat) z u,es[i]?=some z->vs[i]?=some u->z.cells.length=u.length/\u.length=P.cellsOf e/\(∀ (j:Nat) p v,z.cells[j]?=some p->u[j]?=some v->Rep (Ha w) mu0 p v/\v.oneCell'=true/\w.cell? ((a.add (i*P.cellsOf e)).add j)=some v):=by
       intro m
       induction m with
       |zero=>exact λ_=>⟨[],[],[],rfl,rfl,rfl,.nil,(λ_ h=>by cases h),λi z u h=>by simp at h⟩
       |succ m ih=>
        intro hm;obtain⟨xs,es,vs,l1,l2,l3,hl,Z,hr⟩:=ih (by omega);obtain⟨x,C,cs,J,o,hlc⟩:=U m (by omega);obtain⟨e1,he1,he2⟩:=J.ep N;refine⟨xs++[x],es++[e1],vs++[cs],by simp[l1],by simp[l2],by simp[l3],hl.append (.cons he1 .nil),λy hy=> ?_,λi z u d l=> ?_⟩
        ·rcases ao.1 hy with hy|hy
         ·exact Z y hy
         ·simp at hy;subst hy;exact J.ok
        ·by_cases hi:i<m
         ·rw[bH (by omega)]at d l;exact hr i z u d l
         ·have him:i=m:=by
           have:=(ab.1 d).1;simp[l2]at this;omega
          subst him;rw[bf (by omega),l2]at d;rw[bf (by omega),l3]at l;simp at d l;subst d;subst l;refine⟨by rw[he2,J.len],hlc,λj p v d l=> ?_⟩;rw[he2]at d;have hj:=(ab.1 l).1;exact⟨J.rep j p v d l,J.one v (cF l),by rw[o j hj,l]⟩
      obtain⟨xs,es,vs,l1,l2,l3,hl,Z,hr⟩:=all len (ac _)
      have X:∀ (i:Nat) (z:PV),es[i]?=some z -> ∃ u,vs[i]?=some u:=λi z d=>by
       have:=(ab.1 d).1;exact⟨vs[i]'(by omega),by simp[show i<vs.length by omega]⟩
      have o:∀ (i:Nat) (z:PV) (j:Nat) (p:PV),es[i]?=some z->z.cells[j]?=some p -> ∃ v,((vs.getD i []).getD j .nilIface)=v/\Rep (Ha w) mu0 p v/\v.oneCell'=true/\w.cell? ⟨a.block,a.off+i*P.cellsOf e+j,none⟩=some v:=λi z j p d l=>by
       obtain⟨u,h3⟩:=X i z d;obtain⟨k1,k2,k3⟩:=hr i z u d h3;have hj:=(ab.1 l).1;have B:u[j]?=some (u[j]'(by omega)):=by simp[show j<u.length by omega]
       obtain⟨q1,q2,q3⟩:=k3 j p _ l B;rw[Mw F]at q3;rw[Mw rfl]at q3;exact⟨_,by simp[List.getD_eq_getElem?_getD,h3,B],q1,q2,q3⟩
      refine⟨xs,[.lst false es],⟨_,rfl,.inr ⟨_,_,rfl,hl⟩⟩,⟨by omega,Z⟩,rfl,rfl,λi p v d l=> ?_,λv B=>by simp at B;subst B;rfl⟩;cases i with
      |succ i=>simp at d
      |zero=>
       simp at d l;subst d;subst l;have ea:a=⟨a.block,a.off,none⟩:=by cases a;simp at F;subst F;rfl
       rw[ea,show len=es.length from l2.symm];refine .lst _ _ es a.block a.off (P.cellsOf e) cap (λi j=>(vs.getD i []).getD j .nilIface) (λh=>by cases h) (by omega) (λi z d=> ?_) (λi z j p d l=> ?_) (λi z j p d l=> ?_) (λi z j p d l=> ?_)
       ·obtain⟨u,h3⟩:=X i z d;obtain⟨k1,k2,_⟩:=hr i z u d h3;omega
       ·obtain⟨v,e1,_,_,e4⟩:=o i z j p d l;simp only[Ha,if_true,e4,e1]
       ·obtain⟨v,e1,_,e3,_⟩:=o i z j p d l;simp only[e1];exact e3
       ·obtain⟨v,e1,e2,_,_⟩:=o i z j p d l;simp only[e1];exact e2
   ·cases hc
  ·rename_i fs G;obtain⟨u,hgo,J⟩:=Pi.AA hc;cases J;obtain⟨xs,n,_,_,E,hxs,hf⟩:=DataW.trod_struct G h;obtain⟨hty,A,hoff⟩:=K.struct ht G
   have go:∀ (r q:List Field) (u:Ty),fs.toList=q++r->P8 (LW P D) r=some u -> ∃ x C,Cells w u x C ((cs.drop ((q.map λf=>P.cellsOf f.type).sum)).take ((r.map λf=>P.cellsOf f.type).sum)):=by
    intro r
    induction r with
    |nil=>
     intro q u _ hg;cases hg;exact⟨(),[],rfl,trivial,by simp,by simp[Ty.wd],λi p v d=>by simp at d,λv B=>by simp at B⟩
    |cons f r ih=>
     intro q u I hg
     have hfi:fs[q.length]?=some f:=by
      rw[<- Array.getElem?_toList,I];simp
     have hfi':fs.toList[q.length]?=some f:=by rw[I];simp
     have ho:=hoff _ _ hfi';rw[show(fs.toList.take q.length)=q by rw[I];simp]at ho;have hfe:=hf _ _ hfi
     have hi:q.length<xs.length:=by
      have:=(Array.getElem?_eq_some_iff.1 hfi).1;omega
     rw[show xs[q.length]?=some xs[q.length] by simp[hi],ho]at hfe;have htf:=hty f (by rw[I];simp)
     have htot:cs.length=((q.map λf=>P.cellsOf f.type).sum)+(P.cellsOf f.type+(r.map λf=>P.cellsOf f.type).sum):=by
      rw[E,A,I];simp[dg]
     have S:∀ {g:Bool} {c1:Ty},LW P D f.type=some (g,c1) -> ∃ x C,Cells w c1 x C ((cs.drop ((q.map λf=>P.cellsOf f.type).sum)).take (P.cellsOf f.type)):=λd=>EO K D d htf hfe;cases r with
     |nil=>
      have M:(LW P D f.type).map (·.2)=some u:=hg;obtain⟨⟨g,c1⟩,d,l⟩:=Pi.AA M;simp only at l;subst l;simpa using S d
     |cons f2 r=>
      have M:(match LW P D f.type,P8 (LW P D) (f2::r)with
       |some (_,c),some r=>some (.pair c r)
       |_,_=>none)=some u:=hg
      split at M
      ·rename_i g1 c1 c2 d l;cases M;obtain⟨x1,p1,k1⟩:=S d;obtain⟨x2,p2,k2⟩:=ih (q++[f]) c2 (by rw[I];simp) l;rw[show(((q++[f]).map λf=>P.cellsOf f.type).sum)=((q.map λf=>P.cellsOf f.type).sum)+P.cellsOf f.type by simp[dg]]at k2
       have O:(cs.drop ((q.map λf=>P.cellsOf f.type).sum)).take (((f::f2::r).map λf=>P.cellsOf f.type).sum)=(cs.drop ((q.map λf=>P.cellsOf f.type).sum)).take (P.cellsOf f.type)++(cs.drop ((q.map λf=>P.cellsOf f.type).sum+P.cellsOf f.type)).take (((f2::r).map λf=>P.cellsOf f.type).sum):=by
        rw[cC,List.sum_cons,du,bL]
       rw[O];exact⟨(x1,x2),p1++p2,k1.pair k2⟩
      ·cases M
   obtain⟨x,C,k⟩:=go fs.toList [] c (by simp) hgo;refine⟨x,C,?_⟩
   have:(cs.drop ((([]:List Field).map λf=>P.cellsOf f.type).sum)).take ((fs.toList.map λf=>P.cellsOf f.type).sum)=cs:=by
    rw[<- A,<- E];simp
   rw[this]at k;exact k
  ·rename_i n e G;obtain⟨⟨g',u⟩,N,J⟩:=Pi.AA hc;cases J;obtain⟨hte,A⟩:=K.array ht G;obtain⟨xs,m,_,_,E,hxs,hf⟩:=DataW.trod_array G h
   have S:∀ i,i<n -> ∃ x C,Cells w u x C ((cs.drop (i*P.cellsOf e)).take (P.cellsOf e)):=λi hi=>by
    have:=hf i hi;rw[show xs[i]?=some (xs[i]'(by omega)) by simp[show i<xs.length by omega]]at this;exact EO K D N hte this
   have go:∀ k i,i+k=n -> ∃ x C,Cells w (Qx k u) x C ((cs.drop (i*P.cellsOf e)).take (k*P.cellsOf e)):=by
    intro k
    induction k with
    |zero=>exact λi _=>⟨(),[],rfl,trivial,by simp,by simp[Qx,Ty.wd],λi p v d=>by simp at d,λv B=>by simp at B⟩
    |succ k ih=>
     intro i hi;obtain⟨x1,p1,k1⟩:=S i (by omega);cases k with
     |zero=>exact⟨x1,p1,by rw[show(0+1)*P.cellsOf e=P.cellsOf e by omega];exact k1⟩
     |succ k=>
      obtain⟨x2,p2,k2⟩:=ih (i+1) (by omega);refine⟨(x1,x2),p1++p2,?_⟩;have:=k1.pair k2;rw[aF i 1,Nat.one_mul,<- bL,<- du]at this;rw[show(k+1+1)*P.cellsOf e=P.cellsOf e+(k+1)*P.cellsOf e by rw[aF (k+1) 1];omega];exact this
   obtain⟨x,C,k⟩:=go n 0 (by omega);refine⟨x,C,?_⟩;rw[Nat.zero_mul,List.drop_zero,<- A,<- E,List.take_length]at k;exact k
  ·cases hc
def PZ(P:Program)(D:Nat):List TypeId->Option (List (Bool×Ty))
 |[]=>some []
 |t::ts=>match LW P D t,PZ P D ts with
  |some p,some l=>bif ah t P.types.size then some (p::l)else none
  |_,_=>none
theorem KL{D:Nat}{t:TypeId}{g:Bool}{c:Ty}(hc:LW P D t=some (g,c)){r:Reach}{b0:Nat}{v:Value}(d:Value.okWide P w r b0 t v):(g=true /\ ∃ cs,v=.agg cs)\/(g=false/\v.cells = #[v]):=by
 cases D with
 |zero=>cases hc
 |succ D=>
  unfold LW at hc;split at hc
  ·rename_i b;cases hc;obtain⟨n,rfl⟩:=okWide_int b d;exact .inr ⟨rfl,rfl⟩
  ·rename_i b;cases hc;obtain⟨n,rfl⟩:=okWide_bool b d;exact .inr ⟨rfl,rfl⟩
  ·rename_i b;cases hc;obtain⟨n,rfl⟩:=okWide_string b d;exact .inr ⟨rfl,rfl⟩
  ·rename_i b;split at hc
   ·replace hc:=AK hc;cases hc.2;obtain⟨a,len,cap,rfl⟩:=okWide_slice b d;exact .inr ⟨rfl,rfl⟩
   ·cases hc
  ·rename_i b;obtain⟨x,_,e⟩:=Pi.AA hc;cases e;obtain⟨cs,rfl,_⟩:=okWide_struct b d;exact .inl ⟨rfl,cs,rfl⟩
  ·rename_i b;obtain⟨x,_,e⟩:=Pi.AA hc;cases e;simp only[Value.okWide,b]at d;obtain⟨cs,rfl,_⟩:=d;exact .inl ⟨rfl,cs,rfl⟩
  ·cases hc
theorem Pa(K:Kids P (· < P.types.size)){D:Nat}{t:TypeId}{g:Bool}{c:Ty}(hc:LW P D t=some (g,c))(B:t<P.types.size){r:Reach}{b0:Nat}{v:Value}(C:Value.okWide P w r b0 t v){d:DataW H}{q:List MemPlace}(h:DataW.Trod enc P w 0 (λ_=>true) true t v d q) :
  ∃ x p,EP g (DP c) x p/\RE c x/\Rep (Ha w) mu0 p v:=by
 obtain⟨u,h⟩:=h;obtain⟨x,n,k⟩:=EO K D hc B h;rcases KL hc C with⟨rfl,cs,rfl⟩|⟨rfl,j⟩
 ·refine⟨x,.agg n,⟨n,rfl,k.dp⟩,k.ok,.agg _ _ _ (by have:=k.len;rw[Array.length_toList]at this;exact this) (λi v hi=>k.one v ?_) λi p v b z=>k.rep i p v b ?_⟩
  ·have:cs.toList[i]?=some v:=by simpa using hi
   exact cF this
  ·show cs.toList[i]?=some v;simpa using z
 ·obtain⟨e,l,a⟩:=k.ep hc;have y:=k.len;rw[j]at y
  have s:∃ p,n=[p]:=by
   match n,y with
   |[p],_=>exact⟨p,rfl⟩
  obtain⟨p,rfl⟩:=s;refine⟨x,e,l,k.ok,?_⟩
  have o:e=p:=by
   rcases NN hc with⟨E,rfl⟩|rfl|rfl|⟨g,F,rfl⟩
   ·have b:[e]=[PV.int E x]:=l;simp at b;subst b;simpa[PV.cells]using a
   ·have b:[e]=[PV.bool x]:=l;simp at b;subst b;simpa[PV.cells]using a
   ·have b:[e]=[PV.str x]:=l;simp at b;subst b;simpa[PV.cells]using a
   ·obtain⟨G,m,A⟩:=l;simp at m;subst m;rcases A with⟨rfl,_⟩|⟨f,es,rfl,_⟩<;>simpa[PV.cells]using a
  subst o;exact k.rep 0 e v rfl (by rw[j];rfl)
theorem OJ(K:Kids P (· < P.types.size)){D:Nat}{r:Reach}{b0:Nat}:∀ {c:List TypeId} {dom:List (Bool×Ty)},PZ P D c=some dom -> ∀ {vs:List Value} {e:List (DataW H)} {q:List MemPlace},(∀ (j:Nat) t v,c[j]?=some t->vs[j]?=some v->Value.okWide P w r b0 t v)->DataW.TrodAll enc P w 0 (λ_=>true) true c vs e q ->
  ∃ x b,Df dom x b/\RF dom x/\RepL (Ha w) mu0 b vs
 |[],dom,h,vs,e,q,hv,ht=>by
  cases h;obtain⟨rfl,_,_⟩:=trodAll_nil ht;exact⟨(),[],rfl,trivial,.nil _ _⟩
 |t::c,dom,h,vs,e,q,hv,ht=>by
  unfold PZ at h;split at h
  ·rename_i p l n o;replace h:=AK h;obtain⟨f,h⟩:=h;cases h;obtain⟨v,B,d,k,C,E,rfl,rfl,rfl,z,A⟩:=trodAll_cons ht;obtain⟨x,a,e1,e2,e3⟩:=Pa K n (by simpa using f) (hv 0 t v rfl rfl) z;obtain⟨y,b,g,m,i⟩:=OJ K o (λj t v s u=>hv (j+1) t v s u) A;cases l with
   |nil=>
    have:b=[]:=g;subst this;exact⟨x,[a],⟨a,rfl,e1⟩,e2,.cons e3 i⟩
   |cons q r=>exact⟨(x,y),a::b,⟨a,b,rfl,e1,g⟩,⟨e2,m⟩,.cons e3 i⟩
  ·cases h
theorem Nh(K:Kids P (· < P.types.size))(k:∀ t e,t<P.types.size->P.underlying t=some (.slice e)->0<P.cellsOf e){w':World}{l:Nat->Bool}:∀ {f:List TypeId} {vs:List Value} {g:List (DataW H)} {b:List MemPlace},(∀ t∈f,t<P.types.size)->DataW.TrodAll enc P w 0 (λ_=>true) true f vs g b->(∀ p∈b,w.sameAt w' p)->(∀ p∈b,l p.block=true)->DataW.TrodAll enc P w' 0 l true f vs g b
 |[],[],[],_,_,h,_,_=>h
 |_::_,_::_,_::_,_,i,⟨p,q,⟨n,c⟩,d,e⟩,j,hs=>⟨p,q,⟨n,DataW.trod_stays K (λc d=>k _ _ c d) (λh=>by cases h) (i _ (by simp)) c (λx a=>j x (by rw[e];exact ak _ a)) (λx a=>hs x (by rw[e];exact ak _ a))⟩,
   Nh K k (λt m=>i t (by simp[m])) d (λx a=>j x (by rw[e];exact aj _ a)) (λx a=>hs x (by rw[e];exact aj _ a)),e⟩
end
end
section
section
variable{α β γ:Type}
theorem Jg{c:Bool}{p:Prop}[Decidable p](h:c=true<->p)(x y:Unit->Option β):br c x y=if p then x ()else y ():=by
 unfold br;by_cases a:p
 ·rw[h.2 a,if_pos a];rfl
 ·have:c=false:=by cases c with
   |false=>rfl
   |true=>exact absurd (h.1 rfl) a
  rw[this,if_neg a];rfl
theorem RU{c:Bool}{p:Prop}[Decidable p](h:c=true<->p)(k:Unit->Option β):gd c k=if p then k ()else none:=Jg h k λ_=>none
theorem TI(a b:Int)(x y:Unit->Option β):br (S1 a b) x y=if a<b then x ()else y ():=Jg (by unfold S1;simp) x y
theorem TH(a b:Int)(x y:Unit->Option β):br (S0 a b) x y=if a<=b then x ()else y ():=Jg (by unfold S0;simp) x y
theorem TG(a b:Int)(x y:Unit->Option β):br (Sz a b) x y=if a>b then x ()else y ():=Jg (by unfold Sz;simp) x y
theorem TF(a b:Int)(x y:Unit->Option β):br (Rw a b) x y=if a>=b then x ()else y ():=Jg (by unfold Rw;simp) x y
theorem TE(a b:Int)(x y:Unit->Option β):br (OY a b) x y=if a=b then x ()else y ():=Jg (by unfold OY;simp) x y
theorem TJ(a b:Int)(x y:Unit->Option β):br (Rx a b) x y=if a=b then y ()else x ():=by
 rw[Jg (p:=a≠b) (by unfold Rx;simp)];by_cases h:a=b<;>simp[h]
theorem Ss(c:Bool)(x y:Unit->Option β):br (Hg c) x y=br c y x:=by unfold br Hg;cases c<;>rfl
theorem TM(c:Bool)(x y:Unit->Option β):br c x y=if c=true then x ()else y ():=by unfold br;cases c<;>rfl
theorem Sq(a b:Nat)(x y:Unit->Option β):br (neq a b) x y=if a=b then x ()else y ():=Jg (by unfold neq;simp) x y
theorem Sr(a b:Nat)(x y:Unit->Option β):br (KI a b) x y=if a<b then x ()else y ():=Jg (by unfold KI;exact iff_of_eq bW) x y
theorem SX(x y:Unit->Option β):br true x y=x ():=rfl
theorem R6(x y:Unit->Option β):br false x y=y ():=rfl
theorem Sp(x:α)(k:α->Option β):bd (some x) k=k x:=rfl
theorem Su(a b:Nat)(k:Unit->Option β):gd (neq a b) k=if a=b then k ()else none:=RU (by unfold neq;simp) k
theorem Sw(a b:Nat)(k:Unit->Option β):gd (CF a b) k=if a<=b then k ()else none:=RU (by unfold CF;simp) k
theorem Sx(a b:Nat)(k:Unit->Option β):gd (KI a b) k=if a<b then k ()else none:=RU (by unfold KI;exact iff_of_eq bW) k
theorem Se{n:Int}(h:0<=n)(k:Nat->Option β):R0 n k=k n.toNat:=by unfold R0;simp[h]
theorem S6{l:List α}{i:Nat}{x:α}(h:l[i]?=some x)(k:α->Option β):ix l i k=k x:=by unfold ix;rw[h]
theorem Sb{a b:Int}(h : -9223372036854775808<=a+b/\a+b<=9223372036854775807):SE .i64 a b=a+b:=IntWalk.i64_in _ h
theorem Sd{a b:Int}(h : -9223372036854775808<=a-b/\a-b<=9223372036854775807):SI .i64 a b=a-b:=IntWalk.i64_in _ h
theorem Sc{a b:Int}(h : -9223372036854775808<=a*b/\a*b<=9223372036854775807):SF .i64 a b=a*b:=IntWalk.i64_in _ h
end
end
end Go.Proofs.YtanppfoapnaeaaaGreat.Sv
