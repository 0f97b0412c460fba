/- A part of the evaluator over typed open values for any program, and of the proof that it is sound. No condition. -/
import Derived.Test.YthpkjfabdccpdaaGreatPs2
import Derived.RowKit3
import Derived.WalkKit
import Derived.ProofKit
import Derived.OpenShut
import Derived.ReadAgain
import Derived.ChangeStays
import Derived.IntWalk
set_option linter.all false
namespace Go.Proofs.YthpkjfabdccpdaaGreat.Sv
open Go.Proofs.YthpkjfabdccpdaaGreat.Pi (PV T Hp Blk DF UM PE Au A8 AM BO By)
theorem OS {X:Cx} : ∀ {args:List V} {ps:List PV} {i:Nat} {t:T V} {tP:T PV},VRL X args ps->TR X t tP->i+args.length<=1048575->TR X (Lo i args t) (Pi.EO i ps tP)
 | [],ps,i,t,tP,hv,ht,_=>by
  rw [hv.nil_inv];exact ht
 | a::l,ps,i,t,tP,hv,ht,hb=>by
  obtain ⟨p,qs,rfl,h1,h2⟩:=hv.cons_inv;simp only [List.length_cons] at hb;show TR X (Lo (i+1) l (T.put 20 t i a)) (Pi.EO (i+1) qs (T.put 20 tP i p));exact OS h2 (ht.put (d:=i) (by omega) h1) (by omega)
theorem VRL.len {X:Cx} {vs:List V} {ps:List PV} (h:VRL X vs ps):ps.length=vs.length:=h.length.symm
theorem Fl {X:Cx} {nt:Nat} (hnt:nt<1048575) : ∀ {l:List Nat} {args:List V} {ps:List PV} {t t':T V} {tP:T PV},VRL X args ps->TR X t tP->If nt l args t=some t' -> ∃ tP',Pi.Ep nt l ps tP=some tP'/\TR X t' tP'
 | [],[],ps,t,t',tP,hv,ht,e=>by
  rw [hv.nil_inv];cases e;exact ⟨tP,rfl,ht⟩
 | p::l,a::args,ps,t,t',tP,hv,ht,e=>by
  obtain ⟨q,qs,rfl,h1,h2⟩:=hv.cons_inv;unfold If at e;replace e:=A3 e;obtain ⟨hp,e⟩:=e;have hp':p<nt:=by simpa using hp
  obtain ⟨tP',k1,k2⟩:=Fl hnt h2 (ht.put (d:=p) (by omega) h1) e;exact ⟨tP',by rw [Pi.Ep,hp];exact k1,k2⟩
 | [],_::_,_,_,_,_,_,_,e=>by cases e
 | _::_,[],_,_,_,_,_,_,e=>by cases e
section
variable {P:Program} {tab:Ie} {rec:OD}
theorem J0 {β:Type} {x:β} {X:Cx} {h:H} {n:Nat} (r:RH X h n) {t:T V} {tP:T PV} (ht:TR X t tP) : ∀ {l:List ResultVar} {K:List V->Option β},Pm P h t l K=some x -> ∃ vs ps,K vs=some x/\Pi.O4 P X.h tP l=some ps/\VRL X vs ps
 | [],K,e=>⟨[],[],e,rfl,.nil⟩
 | .tmp k::l,K,e=>by
  unfold Pm at e;replace e:=AX e;obtain ⟨v,hv,e⟩:=e;obtain ⟨p,hp,h1⟩:=ht _ _ hv;obtain ⟨vs,ps,e,h2,h3⟩:=J0 r ht e;exact ⟨v::vs,p::ps,e,by simp [Pi.O4,Pi.YI,hp,h2],.cons h1 h3⟩
 | .cell a ty::l,K,e=>by
  unfold Pm at e;split at e
  ·rename_i j off hv;obtain ⟨p,hp,h1⟩:=ht _ _ hv;split at e
   ·rename_i cs fz lk hg;replace e:=AX e;obtain ⟨v,hv2,e⟩:=e;obtain ⟨pid,m,ps,fz',k1,k2,k3,k4,k5⟩:=r.blk _ _ hg;simp only [VR] at h1;obtain ⟨pid',m',h4,rfl⟩:=h1;rw [k1] at h4;cases h4;obtain ⟨q,q1,q2⟩:=D8 (k5.drop off) hv2;obtain ⟨vs,ps',e,h2,h3⟩:=J0 r ht e;exact ⟨v::vs,q::ps',e,by simp [Pi.O4,Pi.YI,hp,k3,q1,h2],.cons q2 h3⟩
   ·cases e
  ·cases e
theorem Ks {X : Cx} {fn : Func} {tP : T PV} {ps : List PV} (h1 : Pi.O4 P X.h tP fn.results.toList = some ps) : ∀ {vs : List V}, VRL X vs ps -> ∃ pv, Pi.results P fn X.h tP = some pv /\ VR X (match vs with
            | [v] => v
            | vs => .tup vs) pv := by
          intro vs h2;unfold Pi.results;rw [h1]
          match vs, ps, h2 with
          | [], [], _ => exact ⟨.tup [], rfl, by simp only [VR]; exact ⟨[], rfl, .nil⟩⟩
          | [v], [p], h2 => exact ⟨p, rfl, by obtain ⟨_, _, h, h3, _⟩ := h2.cons_inv; cases h; exact h3⟩
          | a :: b :: c, p :: q :: s, h2 => exact ⟨.tup (p :: q :: s), rfl, by simp only [VR]; exact ⟨_, rfl, h2⟩⟩
          | [], _ :: _, h2 => cases h2.nil_inv
          | _ :: _, [], h2 => obtain ⟨_, _, h, _⟩ := h2.cons_inv; cases h
          | [_], _ :: _ :: _, h2 => obtain ⟨_, _, h, _, h3⟩ := h2.cons_inv; cases h; cases h3.nil_inv
          | _ :: _ :: _, [_], h2 => obtain ⟨_, _, h, _, h3⟩ := h2.cons_inv; cases h; obtain ⟨_, _, h, _⟩ := h3.cons_inv; cases h
theorem MT {X:Cx} {u:UMA} {uP:UM} (h:UMR X (some u) (some uP)):UMR X (some (Vn u)) (some (Pi.QV uP)):=by
 cases u with
 | ret =>
  have:some uP=some UM.ret:=h;cases this;exact h
 | pan ch =>
  obtain ⟨c,h1,h2⟩:=h;cases h1;cases ch with
  | nil=>rw [L2.nil_inv h2];exact ⟨[],rfl,.nil⟩
  | cons a ch =>
   obtain ⟨⟨bv,br⟩,t,rfl,h3,h4⟩:=L2.cons_inv h2;obtain ⟨av,ar⟩:=a;have:ar=br:=h3.2;subst this;cases ar with
   | true=>rfl
   | false=>exact ⟨_,rfl,.cons h3 h4⟩
theorem Wz (R:RecAOK P tab rec) {fn:Func} {β:Type} {x:β} : ∀ {n:Nat} {ds:List DFA} {u:UMA} {t:T V} {h:H} {nx:Nat} {K:OutA->H->Nat->Option β},Ig P rec fn β n ds u t h nx K=some x ->
  ∀ {X:Cx} {b bP:Nat} {dsP:List DF} {uP:UM} {tP:T PV},RH X h nx->nx<=1048575->L2 (DFR X) ds dsP->UMR X (some u) (some uP)->TR X t tP->b<=nx->bP<=X.h.nx ->
   ∃ o h' nx' Y oP hP',K o h' nx'=some x/\(∃ N,∀ m F k,N<=m->N<=F->N<=k->Pi.leave P (Pi.EQ P (Bc tab) F k) fn m dsP uP tP X.h=some (oP,hP'))/\A7 b bP X h nx Y h' nx' hP'/\UE Y o oP:=by
 intro n
 induction n with
 | zero=>intro ds u t h nx K e;cases e
 | succ n ih =>
  intro ds u t h nx K e X b bP dsP uP tP r hn hds hu ht hb hbP;unfold Ig at e;split at e
  ·have:=L2.nil_inv hds;subst this;split at e
   ·have:some uP=some UM.ret:=hu;cases this;replace e:=J0 r ht e;obtain ⟨vs,ps,e,h1,h2⟩:=e;obtain ⟨pv,k1,k2⟩:=Ks h1 h2;refine ⟨_,h,nx,X,.ret pv,X.h,e,⟨1,λm F k hm _ _ => ?_⟩,⟨rfl,r,hn,Nat.le_refl _,Ext.refl _ _ _ _⟩,⟨pv,rfl,k2⟩⟩;obtain ⟨m,rfl⟩ : ∃ m',m=m'+1:=⟨m-1,by omega⟩;unfold Pi.leave;rw [k1]
   ·obtain ⟨c,h1,h2⟩:=hu;cases h1;refine ⟨_,h,nx,X,.pan c,X.h,e,⟨1,λm F k hm _ _ => ?_⟩,⟨rfl,r,hn,Nat.le_refl _,Ext.refl _ _ _ _⟩,⟨c,rfl,h2⟩⟩;obtain ⟨m,rfl⟩ : ∃ m',m=m'+1:=⟨m-1,by omega⟩;rfl
  ·rename_i id ds';obtain ⟨dP,dsP',rfl,h1,h2⟩:=L2.cons_inv hds;obtain ⟨pid,m0,k1,rfl⟩:=h1;split at e
   ·rename_i l hg;obtain ⟨pid',m',q,b1,b2,b3,b4⟩:=r.blk _ _ hg;rw [k1] at b1;cases b1;cases q with
    | none=>exact b4.elim
    | some lP =>
     simp only at b4;obtain ⟨hq,e1⟩:=Dk X.h pid (.df none);obtain ⟨Y,y1,y2,y3,y4,y5⟩:=r.set (b':=.df none) (by have:=r.dom _ _ k1;omega) hg trivial rfl k1 b3 (λ_ _ _ _ _ _ _ _=>by simp) e1 (λY z1 z2 z3 u=>⟨pid,m0,none,k1,by rw [z3];exact b2,by rw [z2,(Hp.get_set e1).1,if_pos rfl],trivial⟩) X.h.nx;have u:=(y5 nx).up;obtain ⟨o,h',nx',Z,oP,hP',c1,⟨N,c2⟩,c3,c4⟩:=ih e (b:=b) (bP:=bP) y4 hn ((b4.append h2).mono λ_ _ k=>k.mono u) (hu.mono u) (ht.mono u) hb (by rw [y2,(Hp.get_set e1).2];exact hbP);refine ⟨o,h',nx',Z,oP,hP',c1,⟨N+1,λm F k hm hF hk => ?_⟩,⟨c3.hp,c3.rh,c3.big,c3.le,((y5 nx).ext hb hbP).trans c3.ext⟩,c4⟩;obtain ⟨m,rfl⟩ : ∃ m',m=m'+1:=⟨m-1,by omega⟩;rw [Pi.leave];simp only [b3,e1];rw [<- y2];exact c2 m F k (by omega) (by omega) (by omega)
   ·cases e
  ·rename_i b0 ats ty0 args ds';obtain ⟨dP,dsP',rfl,h1,h2⟩:=L2.cons_inv hds;obtain ⟨ps,rfl,h3⟩:=h1;split at e
   ·rename_i j ty hty;obtain ⟨p,qs,rfl,h4,h5⟩:=h3.cons_inv;have:=h5.nil_inv;subst this;split at e
    ·rename_i kt et kk g c l hu1 hg;simp only [VR] at h4;obtain ⟨pid,m,hpi,rfl⟩:=h4;have hbr:=r.blk _ _ hg;rw [hpi] at hbr;obtain ⟨_,_,es,k2,k3,k4,k6⟩:=hbr;cases k2;obtain ⟨hP1,Y,e1,y1⟩:=r.mapSet hn hg hpi k4 (l':=[]) (es':=[]) .nil;obtain ⟨z1,z2,z3⟩:=y1 nx X.h.nx;have u:=z3.up;obtain ⟨o,h',nx',Z,oP,hP',c1,⟨N,c2⟩,c3,c4⟩:=ih e (b:=b) (bP:=bP) z2 hn (h2.mono λ_ _ k=>k.mono u) (hu.mono u) (ht.mono u) hb (by rw [z3.nx];exact hbP);refine ⟨o,h',nx',Z,oP,hP',c1,⟨N+1,λm F k hm hF hk => ?_⟩,⟨c3.hp,c3.rh,c3.big,c3.le,(z3.ext hb hbP).trans c3.ext⟩,c4⟩;obtain ⟨m,rfl⟩ : ∃ m',m=m'+1:=⟨m-1,by omega⟩;rw [Pi.leave];simp only [Pi.Af,hty,hu1,k4,e1,Option.map_some];rw [<- z1];exact c2 m F k (by omega) (by omega) (by omega)
    ·cases e
   ·cases e
  ·rename_i f args ds';obtain ⟨dP,dsP',rfl,h1,h2⟩:=L2.cons_inv hds;obtain ⟨fP,ps,rfl,h3,h4⟩:=h1;split at e
   ·rename_i g a b';simp only [VR] at h3;obtain ⟨aP,bP',rfl,h5,h6⟩:=h3;obtain ⟨g',as,qs,e1,hinv,hargs⟩:=Ij h5 h6 h4 e;obtain ⟨o',up',h',nx',Y,oP,upP',hP',e2,⟨N1,hN1⟩,run,ho,hu'⟩:=R.fn e1 r hn hargs hu;have hup:=run.ext.full r (Nat.le_refl _);split at e2
    ·rename_i v u';obtain ⟨vP,rfl,hv⟩:=ho;cases upP' with
     | none=>cases u' with
      | ret=>cases hu'
      | pan=>obtain ⟨_,h,_⟩:=hu';cases h
     | some uP' =>
      obtain ⟨o,h'',nx'',Z,oP,hP'',c1,⟨N,c2⟩,c3,c4⟩:=ih e2 (b:=b) (bP:=bP) run.rh run.big (h2.mono λ_ _ k=>k.mono hup) (MT hu') (ht.mono hup) (Nat.le_trans hb run.le) (Nat.le_trans hbP run.ext.nx);refine ⟨o,h'',nx'',Z,oP,hP'',c1,⟨max N N1+1,λm F k hm hF hk => ?_⟩,⟨c3.hp,c3.rh,c3.big,Nat.le_trans run.le c3.le,(run.ext.le hb hbP).trans c3.ext⟩,c4⟩;obtain ⟨m,rfl⟩ : ∃ m',m=m'+1:=⟨m-1,by omega⟩;rw [Pi.leave];simp only [hinv,hN1 F k (by omega) (by omega)];rw [<- run.hp];exact c2 m F k (by omega) (by omega) (by omega)
    ·cases e2
   ·cases e
theorem TR.lf (X:Cx):TR X .lf .lf:=λk v e=>by cases e
theorem JN {β:Type} {x:β} {X:Cx} {h:H} {nx l lP m b bP:Nat} {jump:Option Code} {K:OutA->Option UMA->H->Nat->Option β} (r:RH X h nx) (hn:nx<=1048575) (hl:X.π l=some (.blk lP m)) (e:GP h nx l jump K=some x) :
  ∃ o up' h' Y oP upP' hP',K o up' h' nx=some x/\Pi.Cp X.h lP jump=some (oP,upP',hP')/\A7 b bP X h nx Y h' nx hP'/\UE Y o oP/\UMR Y up' upP':=by
 unfold GP at e;split at e
 ·rename_i st pd nt t ps asg body d hg;have hbr:=r.blk _ _ hg;obtain ⟨pid,n',tP,dP',m',k1,k2,k3,k4,k5,k6⟩:=hbr;rw [hl] at k1;cases k1
  have main : ∀ st2:Nat,K (.ret (.bool jump.isNone)) none (Ad h l (.lp st2 jump nt t ps asg body d)) nx=some x->(∀ hP2,X.h.set lP (.lp st2 jump nt tP ps asg body dP')=some hP2->Pi.Cp X.h lP jump=some (.ret (.bool jump.isNone),none,hP2)) ->
    ∃ o up' h' Y oP upP' hP',K o up' h' nx=some x/\Pi.Cp X.h lP jump=some (oP,upP',hP')/\A7 b bP X h nx Y h' nx hP'/\UE Y o oP/\UMR Y up' upP':=λst2 e1 e2=>by
   obtain ⟨hP2,es⟩:=Dk X.h lP (.lp st2 jump nt tP ps asg body dP');obtain ⟨Z,z1,z2,z3,z4,z5,z6⟩:=r.setLp hn hg hl k3 es b bP;exact ⟨_,_,_,Z,.ret (.bool jump.isNone),none,hP2,e1,e2 _ es,⟨z2,z5,hn,Nat.le_refl _,z6⟩,⟨_,rfl,by simp [VR]⟩,rfl⟩
  unfold Pi.Cp at main ⊢;simp only [k3] at main ⊢;cases jump with
  | none=>exact main 0 e λhP2 es=>by rw [es]
  | some j=>exact main 2 e λhP2 es=>by rw [es]
 ·cases e
theorem RE (T:TabOK P tab) (D:DrawnAOK P tab) {ann:Pj} {F0:Nat} : ∀ n,RecAOK P tab (Wr P tab ann F0 n)
 | 0=>⟨λe=>(by cases e),λe=>(by cases e)⟩
 | n+1=>by
  have R:=RE T D (ann:=ann) (F0:=F0) n;constructor
  ·intro β x f up args h nx K e X upP ps r hn ha hu;simp only [Wr] at e;replace e:=AX e;obtain ⟨fn,hf,e⟩:=e;replace e:=AX e;obtain ⟨c,hc,e⟩:=e;replace e:=A3 e;obtain ⟨hb,e⟩:=e;have hb2:=hb;simp only [Bool.and_eq_true] at hb2;have hlen:args.length<=fn.ntmps:=Nat.le_of_ble_eq_true hb2.1;have hnt:fn.ntmps<1048575:=by simpa using hb2.2
   have hlP:ps.length=args.length:=VRL.len ha;obtain ⟨ex,fr',h',nx',Y,exP,fp',hP',q1,⟨N,q2⟩,q3,q4,q5⟩:=UL R T D F0 c e (fp:={ t:=Pi.EO 0 ps .lf,nt:=fn.ntmps,ds:=[],up:=upP,ro:=none }) r hn ⟨OS ha (TR.lf X) (by omega),rfl,hnt,.nil,hu,rfl⟩ (Nat.le_refl _) (Nat.le_refl _)
   have go : ∀ {u:UMA} {uP:UM} {o:OutA->H->Nat->Option β},Ig P (Wr P tab ann F0 n) fn β F0 fr'.ds u fr'.t h' nx' (λo h nx=>K o fr'.up h nx)=some x->UMR Y (some u) (some uP) ->
     (∀ FF nn,N<=FF->N<=nn -> ∀ {oP:Pi.Out} {hP:Hp},Pi.leave P (Pi.EQ P (Bc tab) FF nn) fn FF fp'.ds uP fp'.t hP'=some (oP,hP)->Pi.EQ P (Bc tab) FF (nn+1) (.fn f) upP ps X.h=some (oP,fp'.up,hP)) ->
     ∃ o up' h' nx' Y oP upP' hP',K o up' h' nx'=some x/\PD P tab (.fn f) upP ps X.h (oP,upP',hP')/\A7 nx X.h.nx X h nx Y h' nx' hP'/\UE Y o oP/\UMR Y up' upP':=fun {u uP _} e hu hP=>by
    obtain ⟨o,h2,nx2,Z,oP,hP2,c1,⟨N2,c2⟩,c3,c4⟩:=Wz R e (b:=nx') (bP:=Y.h.nx) q3.rh q3.big q4.ds hu q4.t (Nat.le_refl _) (Nat.le_refl _);have hup:=c3.ext.full q3.rh (Nat.le_refl _);refine ⟨o,fr'.up,h2,nx2,Z,oP,fp'.up,hP2,c1,⟨max N N2+1,λFF nn hF hnn => ?_⟩,⟨c3.hp,c3.rh,c3.big,Nat.le_trans q3.le c3.le,q3.ext.trans (c3.ext.le q3.le q3.ext.nx)⟩,c4,q4.up.mono hup⟩;obtain ⟨nn,rfl⟩ : ∃ m',nn=m'+1:=⟨nn-1,by omega⟩;refine hP FF nn (by omega) (by omega) ?_;rw [<- q3.hp];exact c2 FF FF nn (by omega) (by omega) (by omega)
   have head : ∀ FF nn,Pi.EQ P (Bc tab) FF (nn+1) (.fn f) upP ps X.h=(match (Pi.exec P (Bc tab) (Pi.EQ P (Bc tab) FF nn) FF c { t:=Pi.EO 0 ps .lf,nt:=fn.ntmps,ds:=[],up:=upP,ro:=none } X.h) with
     | some (.normal,fr,h) | some (.ret,fr,h)=>(match Pi.leave P (Pi.EQ P (Bc tab) FF nn) fn FF fr.ds .ret fr.t h with
      | some (o,h)=>some (o,fr.up,h)
      | none=>none)
     | some (.panic e,fr,h)=>(match Pi.leave P (Pi.EQ P (Bc tab) FF nn) fn FF fr.ds (.pan [{ v:=e,recovered:=false }]) fr.t h with
      | some (o,h)=>some (o,fr.up,h)
      | none=>none)
     | _=>none):=λFF nn=>by
    rw [Pi.EQ];simp only [hf,hc,hlP,hb,cond_true];rfl
   cases ex with
   | normal =>
    have:exP = .normal:=q5;subst this
    exact go (o:=λ_ _ _=>none) q1 (show UMR Y (some .ret) (some .ret) from rfl) λFF nn hF hnn oP hP hl=>by
     rw [head,q2 FF FF nn hF hF hnn];simp only [hl]
   | ret =>
    have:exP = .ret:=q5;subst this
    exact go (o:=λ_ _ _=>none) q1 (show UMR Y (some .ret) (some .ret) from rfl) λFF nn hF hnn oP hP hl=>by
     rw [head,q2 FF FF nn hF hF hnn];simp only [hl]
   | panic v =>
    obtain ⟨p,rfl,hv⟩:=q5
    exact go (o:=λ_ _ _=>none) q1 (uP:=.pan [{ v:=p,recovered:=false }]) (show UMR Y (some (.pan [{ v:=v,recovered:=false }])) (some (.pan [{ v:=p,recovered:=false }])) from ⟨_,rfl,.cons ⟨hv,rfl⟩ .nil⟩) λFF nn hF hnn oP hP hl=>by
     rw [head,q2 FF FF nn hF hF hnn];simp only [hl]
   | _=>cases q1
  ·intro β x l args h nx K e X lP m ps r hn hl ha;simp only [Wr] at e;split at e
   ·rename_i st0 pd0 nt t psl asg body0 d0 hg;replace e:=AX e;obtain ⟨t1,ht1,e⟩:=e;obtain ⟨pid,n',tP,dP,m',k1,k2,k3,k4,k5,k6⟩:=r.blk _ _ hg;rw [hl] at k1;cases k1;obtain ⟨tP1,s1,s2⟩:=Fl k6 ha k4 ht1;obtain ⟨ex,fr',h',nx',Y,exP,fp',hP',q1,⟨N,q2⟩,q3,q4,q5⟩:=UL R T D F0 asg e (fp:={ t:=tP1,nt:=nt,ds:=[],up:=none,ro:=some lP }) r hn ⟨s2,rfl,k6,.nil,rfl,⟨_,_,hl,rfl⟩⟩ (Nat.le_refl _) (Nat.le_refl _);cases ex with
    | normal =>
     have:exP = .normal:=q5;subst this;simp only at q1;have hup:=q3.ext.full r (Nat.le_refl _);have hlY:=hup.pi _ _ hl;split at q1
     ·rename_i pend nt2 t2 ps2 asg2 body2 d2 hg2;obtain ⟨pid,n',tP2,dP2,m2,j1,j2,j3,j4,j5,j6⟩:=q3.rh.blk _ _ hg2;rw [hlY] at j1;cases j1;obtain ⟨hP2,es⟩:=Dk Y.h lP (.lp 1 pend nt2 tP2 ps2 asg2 body2 dP2);obtain ⟨Z,z1,z2,z3,z4,z5,z6⟩:=q3.rh.setLp q3.big hg2 hlY j3 es nx X.h.nx;obtain ⟨ex3,fr3,h3,nx3,Y3,exP3,fp3,hP3,w1,⟨N3,w2⟩,w3,w4,w5⟩:=UL R T D F0 body0 q1 (fp:=fp') z5 q3.big (q4.mono z4) (Nat.le_refl _) (bP:=X.h.nx) (by rw [z2,(Hp.get_set es).2];exact q3.ext.nx);have x3:=(q3.ext.trans z6).trans (w3.ext.le (b:=nx) (bP:=X.h.nx) q3.le (Nat.le_refl _));have hl3:Y3.π l=some (.blk lP m):=x3.up.pi _ _ (by rw [Cx.low_eq (r.dom _ _ hl)];exact hl)
      have fin : ∀ {jump:Option Code},GP h3 nx3 l jump K=some x ->
        (∀ {rr},Pi.Cp hP3 lP jump=some rr -> ∀ FF nn,max N N3<=FF->max N N3<=nn->Pi.EQ P (Bc tab) FF (nn+1) (.yl lP) none ps X.h=some rr) ->
        ∃ o up' h' nx' Y oP upP' hP',K o up' h' nx'=some x/\PD P tab (.yl lP) none ps X.h (oP,upP',hP')/\A7 nx X.h.nx X h nx Y h' nx' hP'/\UE Y o oP/\UMR Y up' upP':=λe hh=>by
       obtain ⟨o,up',h4,Y4,oP,upP',hP4,v1,v2,v3,v4,v5⟩:=JN (b:=nx) (bP:=X.h.nx) w3.rh w3.big hl3 e;rw [w3.hp] at v2;refine ⟨o,up',h4,nx3,Y4,oP,upP',hP4,v1,⟨max N N3+1,λFF nn hF hnn => ?_⟩,⟨v3.hp,v3.rh,v3.big,Nat.le_trans q3.le (Nat.le_trans w3.le v3.le),x3.trans v3.ext⟩,v4,v5⟩;obtain ⟨nn,rfl⟩ : ∃ m',nn=m'+1:=⟨nn-1,by omega⟩;exact hh v2 FF nn (by omega) (by omega)
      have head : ∀ FF nn,max N N3<=FF->max N N3<=nn->Pi.EQ P (Bc tab) FF (nn+1) (.yl lP) none ps X.h=(match some (exP3,fp3,hP3) with
        | some (.normal,_,h)=>Pi.Cp h lP none
        | some (.ret,_,h)=>Pi.Cp h lP (some .ret)
        | some (.exit id,_,h)=>Pi.Cp h lP (some (.exit id))
        | some (.goto id,_,h)=>Pi.Cp h lP (some (.goto id))
        | _=>none):=λFF nn hF hnn=>by
       have a1:=q2 FF FF nn (by omega) (by omega) (by omega);rw [<- q3.hp] at a1;have a2:=w2 FF FF nn (by omega) (by omega) (by omega);rw [z2] at a2;rw [Pi.EQ];simp only [k3,s1,a1,j3,es,a2];rfl
      cases ex3 with
      | normal =>
       have:exP3 = .normal:=w5;subst this;exact fin w1 λhr FF nn h1 h2=>(head FF nn h1 h2).trans hr
      | ret =>
       have:exP3 = .ret:=w5;subst this;exact fin w1 λhr FF nn h1 h2=>(head FF nn h1 h2).trans hr
      | exit i =>
       have:exP3 = .exit i:=w5;subst this;exact fin w1 λhr FF nn h1 h2=>(head FF nn h1 h2).trans hr
      | goto i =>
       have:exP3 = .goto i:=w5;subst this;exact fin w1 λhr FF nn h1 h2=>(head FF nn h1 h2).trans hr
      | panic=>cases w1
     ·cases q1
    | _=>cases q1
   ·cases e
theorem DX.wide {hh:Hp} {Q Q':Nat->Prop} : ∀ {c:Ty} {x:c.den} {ps:List PV},DX hh Q Q' c x ps->DX hh (λ_=>True) (λ_=>True) c x ps
 | .int _,_,_,e=>e
 | .bool,_,_,e=>e
 | .str,_,_,e=>e
 | .unit,_,_,e=>e
 | .pair _ _,_,_,⟨p,q,e,h1,h2⟩=>⟨p,q,e,DX.wide h1,DX.wide h2⟩
 | .sl _ _,_,_,⟨p,e,h⟩=>⟨p,e,by
  rcases h with h | h | ⟨pid,off,len,es,ex,fz,h1,h2,h3,h4,h5,h6⟩
  ·exact .inl h
  ·exact .inr (.inl h)
  ·exact .inr (.inr ⟨pid,off,len,es,ex,fz,h1,trivial,h3,h4,h5,h6.mono λ_ _ k=>k.mono λ_ _ k=>DR.mono (λq es ex fz hq hg=>⟨⟨fz,hg⟩,trivial⟩) k⟩)⟩
theorem domX.wide {hh:Hp} {Q Q':Nat->Prop} : ∀ {l:List (Bool×Ty)} {y:AG l} {ps:List PV},domX hh Q Q' l y ps->domX hh (λ_=>True) (λ_=>True) l y ps
 | [],_,_,h=>h
 | [p],_,_,⟨a,h1,h2⟩=>⟨a,h1,h2.mono λ_ _ k=>k.wide⟩
 | p::q::r,_,_,⟨a,t,h1,h2,h3⟩=>⟨a,t,h1,h2.mono λ_ _ k=>k.wide,domX.wide h3⟩
def lE:Cx:={ π:=λ_=>none,h:=Hk,O:=λ_=>False }
theorem lO:RH lE .lf 0:=⟨λ_ _ h=>(by cases h),λ_ _ _ _ _ _ _ h=>(by cases h),λ_ _ h=>(by cases h),λ_ _=>rfl,λ_ h=>h.elim⟩
theorem Nk (T:TabOK P tab) (D:DrawnAOK P tab) {ann:Pj} {F0 n:Nat} {f:FuncId} {dom cod:List (Bool×Ty)} {x:AG dom} {y:AG cod} (e:Ac P tab ann F0 n f dom cod x=some y) {as:List PV} (ha:H1 dom x as) :
  ∃ r up hR,PD P tab (.fn f) none as Hk (.ret r,up,hR)/\PK hR cod y r:=by
 unfold Ac at e;obtain ⟨o,up',h',nx',Y,oP,upP',hP',e1,pd,run,ho,_⟩:=(RE T D n).fn e lO (Nat.zero_le _) (KE ha) (show UMR lE none none from rfl);split at e1
 ·rename_i v;obtain ⟨p,rfl,hv⟩:=ho;refine ⟨p,upP',hP',pd,?_⟩;rw [<- run.hp]
  have dec : ∀ (vs:List V) (ps:List PV),VRL Y vs ps->Et h' cod vs some=some y->domX Y.h (λ_=>True) (λ_=>True) cod y ps:=λvs ps hvs hd=>by
   obtain ⟨z,k1,k2⟩:=Ed (Q:=λ_=>True) run.rh (λ_ _=>trivial) (λ_ _ _ _ _=>trivial) hvs hd;cases k1;exact k2.wide
  match cod,y,e1,dec with
  | [],y,e1,dec =>
   simp only at e1;split at e1
   ·simp only [VR] at hv;obtain ⟨ps,rfl,h2⟩:=hv;exact ⟨ps,rfl,dec _ _ h2 e1⟩
   ·cases e1
  | [c],y,e1,dec =>
   obtain ⟨a,h1,h2⟩:=dec _ _ (.cons hv .nil) e1;cases h1;exact h2
  | c::d::l,y,e1,dec =>
   simp only at e1;split at e1
   ·simp only [VR] at hv;obtain ⟨ps,rfl,h2⟩:=hv;exact ⟨ps,rfl,dec _ _ h2 e1⟩
   ·unfold Et at e1;simp only at e1;replace e1:=Ni (Q:=λ_=>True) run.rh (λ_ _ _ _ _=>trivial) (λ_ _=>trivial) hv e1;obtain ⟨z,k1,k2⟩:=e1;cases l<;>cases k1
 ·cases e1
theorem SY {X:Cx} {p:Bool×Ty} {y:p.2.den} {a:PV} (h:EP p.1 (DP p.2) y a):VR X (bif jJ p then jU (elP p.1 p.2 y) else elP p.1 p.2 y) (bif jJ p then UF a else a):=by
 cases hp:jJ p with
 | false=>exact HM h
 | true =>
  obtain ⟨g,c⟩:=p;cases g with
  | false=>cases hp
  | true =>
   have h2:=HM (X:=Cx.pure) h;obtain ⟨ps,rfl,_⟩:=h;simp only [elP,cond_true,VR] at h2;obtain ⟨ps',e,hv⟩:=h2;cases e;show VR X (.pv _) (.view _);simp only [VR];exact ⟨ps,rfl,hv⟩
theorem P2 {X:Cx} : ∀ {l:List (Bool×Ty)} {y:AG l} {ps:List PV},H1 l y ps->VRL X (Ys l (JS l y)) (Lx l ps)
 | [],_,_,h=>by rw [show _=[] from h];exact .nil
 | [p],_,_,⟨a,h1,h2⟩=>by subst h1;exact .cons (SY h2) .nil
 | p::q::r,_,_,⟨a,t,h1,h2,h3⟩=>by subst h1;exact .cons (SY h2) (P2 h3)
theorem ZF (T:TabOK P tab) (D:DrawnAOK P tab) {ann:Pj} {F0 n:Nat} {f:FuncId} {dom cod:List (Bool×Ty)} {x:AG dom} {y:AG cod} (e:Vo P tab ann F0 n f dom cod x=some y) {as:List PV} (ha:H1 dom x as) :
  ∃ r up hR,PD P tab (.fn f) none (Lx dom as) Hk (.ret r,up,hR)/\PK hR cod y r:=by
 unfold Vo at e;obtain ⟨o,up',h',nx',Y,oP,upP',hP',e1,pd,run,ho,_⟩:=(RE T D n).fn e lO (Nat.zero_le _) (P2 ha) (show UMR lE none none from rfl);split at e1
 ·rename_i v;obtain ⟨p,rfl,hv⟩:=ho;refine ⟨p,upP',hP',pd,?_⟩;rw [<- run.hp]
  have dec : ∀ (vs:List V) (ps:List PV),VRL Y vs ps->Et h' cod vs some=some y->domX Y.h (λ_=>True) (λ_=>True) cod y ps:=λvs ps hvs hd=>by
   obtain ⟨z,k1,k2⟩:=Ed (Q:=λ_=>True) run.rh (λ_ _=>trivial) (λ_ _ _ _ _=>trivial) hvs hd;cases k1;exact k2.wide
  match cod,y,e1,dec with
  | [],y,e1,dec =>
   simp only at e1;split at e1
   ·simp only [VR] at hv;obtain ⟨ps,rfl,h2⟩:=hv;exact ⟨ps,rfl,dec _ _ h2 e1⟩
   ·cases e1
  | [c],y,e1,dec =>
   obtain ⟨a,h1,h2⟩:=dec _ _ (.cons hv .nil) e1;cases h1;exact h2
  | c::d::l,y,e1,dec =>
   simp only at e1;split at e1
   ·simp only [VR] at hv;obtain ⟨ps,rfl,h2⟩:=hv;exact ⟨ps,rfl,dec _ _ h2 e1⟩
   ·unfold Et at e1;simp only at e1;replace e1:=Ni (Q:=λ_=>True) run.rh (λ_ _ _ _ _=>trivial) (λ_ _=>trivial) hv e1;obtain ⟨z,k1,k2⟩:=e1;cases l<;>cases k1
 ·cases e1
theorem ZG (T:TabOK P tab) (D:DrawnAOK P tab) {ann:Pj} {F0 n:Nat} {f:FuncId} {dom:List (Bool×Ty)} {g:Bool} {c:Ty} {x:AG dom} {y:List c.den} (e:Pn P tab ann F0 n f dom g c x=some y) (hy:y≠[]) {as:List PV} (ha:H1 dom x as) :
  ∃ r up hR,PD P tab (.fn f) none as Hk (.ret r,up,hR)/\Y9 hR g c y r:=by
 unfold Pn at e;obtain ⟨o,up',h',nx',Y,oP,upP',hP',e1,pd,run,ho,_⟩:=(RE T D n).fn e lO (Nat.zero_le _) (KE ha) (show UMR lE none none from rfl);split at e1
 ·rename_i j;obtain ⟨p,rfl,hv⟩:=ho;refine ⟨p,upP',hP',pd,?_⟩;rw [<- run.hp];split at e1
  ·rename_i g' c' l lk hg;replace e1:=A3 e1;obtain ⟨hgg,e1⟩:=e1;have:=eq_of_beq hgg;subst this;obtain ⟨hc,e1⟩:=Ck e1;subst hc;cases e1;have hb:=run.rh.blk _ _ hg;simp only [VR] at hv;cases hpi:Y.π j with
   | none=>rw [hpi] at hv;exact hv.elim
   | some a =>
    rw [hpi] at hv hb;rcases hb with ⟨pid,len,es,fz',h1,h2,h3,h4,h5,h7,h6⟩ | ⟨_,_,h2⟩ | ⟨es,h1,_,h2,_⟩
    ·cases h1;simp only at hv;subst hv;have:=h4 rfl;subst this;subst h5;exact .inr ⟨pid,es,rfl,h3,h7 rfl,h6.mono λ_ _ k=>k.mono λ_ _ k=>DR.mono (λq es ex fz hq hg=>⟨⟨fz,hg⟩,λhh=>hq (hh ▸ h2)⟩) k⟩
    ·exact absurd h2 hy
    ·rcases h2 with h2 | h2
     ·cases h2
     ·exact absurd h2 hy
  ·cases e1
 ·cases e1
end
end Go.Proofs.YthpkjfabdccpdaaGreat.Sv
namespace Go.Proofs.YthpkjfabdccpdaaGreat.Sv
open Go.Proofs.YthpkjfabdccpdaaGreat.Pi (PV T Hp Blk DF UM PE Au A8 AM BO By)
def re (hs:Hp):Pi.R->Pi.R
 | .val v _ => .val v hs
 | .skip _ => .skip hs
 | r=>r
section
variable {P:Program} {h hs:Hp}
theorem JB {o:Option PV}:Pi.vl o hs=(Pi.vl o h).map (re hs):=by cases o<;>rfl
theorem RF {c:Bool} {v:PV}:(bif c then some (Pi.R.val v hs) else none)=(bif c then some (Pi.R.val v h) else none).map (re hs):=by cases c<;>rfl
theorem fb {c a b:PV}:Pi.Hs hs c a b=(Pi.Hs h c a b).map (re hs):=by unfold Pi.Hs;split<;>rfl
theorem ZH {ty:TypeId} {ps:List (Nat×PV)}:Pi.En P hs ty ps=(Pi.En P h ty ps).map (re hs):=by
 unfold Pi.En;split
 ·cases hc:(Array.toList _).all _ with
  | true=>simp only [cond_true];split<;>(try rfl);rename_i pl _;cases Pi.KU _ pl<;>rfl
  | false=>rfl
 ·split
  ·rename_i n _;cases Nat.blt 0 n with
   | true=>simp only [cond_true];cases Pi.KU _ _<;>rfl
   | false=>rfl
  ·rfl
 ·rfl
theorem iW {p:PV}:Pi.JH hs p=(Pi.JH h p).map (re hs):=by unfold Pi.JH;split<;>rfl
theorem iX {op:BinOp} {ty:TypeId} {x y:Operand} {a b:PV}:Pi.HZ P hs op ty x y a b=(Pi.HZ P h op ty x y a b).map (re hs):=by
 unfold Pi.HZ;split
 ·cases Pi.Fi x||Pi.Fi y<;>simp only [cond_true,cond_false]
  ·rfl
  ·exact JB
 ·cases P.eqGuardType P.depth ty<;>simp only [cond_true,cond_false]
  ·exact JB
  ·rfl
 ·exact JB
theorem UN {s d:TypeId} {x:PV}:Pi.DE P hs s d x=(Pi.DE P h s d x).map (re hs):=by
 unfold Pi.DE;split
 ·rfl
 ·rfl
 ·split<;>rfl
 ·rfl
theorem iY {ty:TypeId} {v:PV}:Pi.I6 P hs ty v=(Pi.I6 P h ty v).map (re hs):=by unfold Pi.I6;split<;>rfl
theorem SZ {f:Fn} {a b:List PV}:Pi.C1 hs f a b=(Pi.C1 h f a b).map (re hs):=by unfold Pi.C1;split<;>rfl
theorem RG {s:TypeId} {x:PV} {f:Nat}:Pi.CG P hs s x f=(Pi.CG P h s x f).map (re hs):=by
 unfold Pi.CG;split
 ·split
  ·split
   ·rename_i n _;cases Nat.beq n 0 with
    | true=>rfl
    | false=>simp only [cond_false];split<;>rfl
   ·rfl
  ·rfl
 ·rfl
theorem ZI {s:TypeId} {x:PV} {f:Nat}:Pi.FQ P hs s x f=(Pi.FQ P h s x f).map (re hs):=by
 unfold Pi.FQ;split
 ·split
  ·exact JB
  ·rfl
 ·rfl
theorem ZJ {s:TypeId} {x i:PV}:Pi.Eo P hs s x i=(Pi.Eo P h s x i).map (re hs):=by
 unfold Pi.Eo;split
 ·rename_i len e cs k _ _;cases Nat.blt k len with
  | true =>
   simp only [cond_true];split
   ·exact JB
   ·rfl
  | false=>rfl
 ·split<;>rfl
 ·rfl
theorem W0 {ty:TypeId} {v:PV} {ok:Bool}:Pi.DJ P hs ty v ok=(Pi.DJ P h ty v ok).map (re hs):=by
 have z : ∀ {e:TypeId},(bif ok then (match Pi.EW P e with
   | some z=>some (Pi.R.val (.tup [z,.bool false]) hs)
   | none=>none) else none)=(bif ok then (match Pi.EW P e with
   | some z=>some (Pi.R.val (.tup [z,.bool false]) h)
   | none=>none) else none).map (re hs):=by
  intro e;cases ok with
  | true=>simp only [cond_true];split<;>rfl
  | false=>rfl
 unfold Pi.DJ;split
 ·split
  ·split
   ·split
    ·rfl
    ·exact z
   ·rfl
  ·exact z
  ·rfl
 ·split
  ·rename_i u a;cases Nat.beq u ty with
   | true=>rfl
   | false=>exact z
  ·exact z
  ·rfl
 ·rfl
theorem UO {x:PV} {i:Nat}:Pi.EE hs x i=(Pi.EE h x i).map (re hs):=by
 unfold Pi.EE;split
 ·exact JB
 ·rfl
theorem fc {ty:TypeId} {p:PV} (hf : ∀ q∈Pi.AW p,hs.get q=h.get q):Pi.Fh P hs ty p=(Pi.Fh P h ty p).map (re hs):=by
 unfold Pi.Fh;cases p with
 | ptr j off =>
  simp only;rw [hf j (by simp [Pi.AW])];split
  ·exact JB
  ·rfl
 | view cs=>exact JB
 | ept j i off =>
  simp only;rw [hf j (by simp [Pi.AW])];split
  ·split
   ·exact JB
   ·rfl
  ·rfl
 | _=>rfl
theorem RI {ty:TypeId} {x i:PV} (hf : ∀ q∈Pi.AW x,hs.get q=h.get q):Pi.B0 P hs ty x i=(Pi.B0 P h ty x i).map (re hs):=by
 unfold Pi.B0;split
 ·rename_i e k _ _;split
  ·rename_i n _;split
   ·split
    ·rename_i el _;cases Nat.beq el.cells.length n<;>rfl
    ·rfl
   ·rename_i j off len;rw [hf j (by simp [Pi.AW])];cases Nat.blt k len with
    | true =>
     simp only [cond_true];split
     ·split
      ·rename_i el _;cases Nat.beq el.cells.length n<;>rfl
      ·rfl
     ·rfl
    | false=>rfl
   ·rfl
  ·rfl
 ·rename_i len e k _ _;split
  ·cases Nat.blt k len with
   | true=>simp only [cond_true];split<;>rfl
   | false=>rfl
  ·rfl
 ·rfl
theorem ZK {ty:TypeId} {x:PV} {lo hi:Option PV} (hf : ∀ q∈Pi.AW x,hs.get q=h.get q):Pi.Bq P hs ty x lo hi none=(Pi.Bq P h ty x lo hi none).map (re hs):=by
 unfold Pi.Bq;split
 ·split
  ·exact RF
  ·rfl
 ·split
  ·rfl
  ·rename_i n _;split
   ·split
    ·rename_i hh _ _ _;cases (none:Option PV).isSome && !hi.isSome<;>rfl
    ·rfl
   ·rename_i full es;cases !Pi.GJ n es with
    | true=>rfl
    | false =>
     simp only [cond_false];split
     ·rename_i l hh _ _;cases Nat.ble hh es.length&&Nat.ble l hh<;>rfl
     ·rfl
   ·rename_i j off len;rw [hf j (by simp [Pi.AW])];split
    ·rename_i es ex fz _;cases !Pi.GJ n es with
     | true=>rfl
     | false =>
      simp only [cond_false];split
      ·rename_i l hh _ _;cases !Nat.ble l hh || !Nat.ble (off+hh) es.length with
       | true=>rfl
       | false =>
        simp only [cond_false];cases Nat.blt (off+l) es.length<;>rfl
      ·rfl
    ·rfl
   ·rfl
 ·rfl
theorem W1 {ty:TypeId} {x:PV} {lo hi mx:Option PV} (hp : ∀ j a b,x ≠ .own j a b):Pi.Bq P hs ty x lo hi mx=(Pi.Bq P h ty x lo hi mx).map (re hs):=by
 unfold Pi.Bq;split
 ·split
  ·exact RF
  ·rfl
 ·split
  ·rfl
  ·rename_i n _;split
   ·split
    ·cases mx.isSome && !hi.isSome<;>rfl
    ·rfl
   ·rename_i full es;cases !Pi.GJ n es with
    | true=>rfl
    | false =>
     simp only [cond_false];split
     ·cases mx with
      | none=>exact RF
      | some m =>
       dsimp only;split
       ·exact RF
       ·rfl
     ·rfl
   ·exact absurd rfl (hp _ _ _)
   ·rfl
 ·rfl
theorem Kc {t:T PV} {x:Operand} {k k':PV->Option Pi.R} (f : ∀ p,Pi.GI t x=some p->k' p=(k p).map (re hs)):Pi.e1 t x k'=(Pi.e1 t x k).map (re hs):=by
 unfold Pi.e1;split
 ·rename_i p hp;exact f p hp
 ·rfl
theorem ZL {t:T PV} {x y:Operand} {k k':PV->PV->Option Pi.R} (f : ∀ p q,Pi.GI t x=some p->Pi.GI t y=some q->k' p q=(k p q).map (re hs)):Pi.e2 t x y k'=(Pi.e2 t x y k).map (re hs):=by
 unfold Pi.e2;split
 ·rename_i p q hp hq;exact f p q hp hq
 ·rfl
theorem je {t:T PV} {x y z:Operand} {k k':PV->PV->PV->Option Pi.R} (f : ∀ p q r,k' p q r=(k p q r).map (re hs)):Pi.e3 t x y z k'=(Pi.e3 t x y z k).map (re hs):=by
 unfold Pi.e3;split
 ·exact f _ _ _
 ·rfl
theorem V4 {t:T PV} {x:Operand} {l:List Operand} {p:PV} (hp:Pi.GI t x=some p) : ∀ q∈Pi.AW p,q∈Pi.De t (x::l):=λq hq=>by
 simp only [Pi.De,hp];exact List.mem_append_left _ hq
theorem UP {id:Nat} {b:Builtin} {ats:Array TypeId} {args:List PV} (hb:b = .len\/b = .cap\/b = .max\/b = .min) (hm:b = .len -> ∀ p∈args,∀ q∈Pi.LP p,hs.get q=h.get q) (hf:b ≠ .len -> ∀ p∈args,∀ q∈Pi.AW p,hs.get q=h.get q):Pi.Af P hs id b ats args=(Pi.Af P h id b ats args).map (re hs):=by
 unfold Pi.Af;rcases hb with rfl | rfl | rfl | rfl
 ·simp only;split
  ·rename_i x t _;split
   ·rename_i j _;rw [hm rfl (.mp j) (by simp) j (by simp [Pi.LP])];split<;>rfl
   all_goals rfl
  ·rfl
 ·simp only;split
  ·rename_i x t _;split
   ·rename_i j off ln _;rw [hf (by simp) (.own j off ln) (by simp) j (by simp [Pi.AW])];split<;>rfl
   all_goals rfl
  ·rfl
 ·simp only;split
  ·cases Pi.FO _ _ _ _<;>rfl
  ·rfl
  ·rfl
 ·simp only;split
  ·cases Pi.FO _ _ _ _<;>rfl
  ·rfl
  ·rfl
theorem RJ {t:T PV} : ∀ {l:List Operand} {ps:List PV},Pi.TQ t l=some ps -> ∀ p∈ps,∀ q∈Pi.AW p,q∈Pi.De t l
 | [],ps,e,p,hp,q,hq=>by cases e;cases hp
 | o::l,ps,e,p,hp,q,hq=>by
  unfold Pi.TQ at e;split at e
  ·rename_i a as h1 h2;cases e;rcases List.mem_cons.1 hp with rfl | hp
   ·simp only [Pi.De,h1];exact List.mem_append_left _ hq
   ·simp only [Pi.De,h1];exact List.mem_append_right _ (RJ h2 p hp q hq)
  ·cases e
theorem Sa {t:T PV} : ∀ {l:List Operand} {ps:List PV},Pi.TQ t l=some ps -> ∀ p∈ps,∀ q∈Pi.LP p,q∈Pi.HE t l
 | [],ps,e,p,hp,q,hq=>by cases e;cases hp
 | o::l,ps,e,p,hp,q,hq=>by
  unfold Pi.TQ at e;split at e
  ·rename_i a as h1 h2;cases e;rcases List.mem_cons.1 hp with rfl | hp
   ·simp only [Pi.HE,h1];exact List.mem_append_left _ hq
   ·simp only [Pi.HE,h1];exact List.mem_append_right _ (Sa h2 p hp q hq)
  ·cases e
theorem W2 {t:T PV} {id:Nat} {o:Oper} (hc:A2 o.op<=1) (hf : ∀ q∈Pi.B9 t h o.op,hs.get q=h.get q):Pi.A0 P t hs id o=(Pi.A0 P t h id o).map (re hs):=by
 unfold Pi.A0;generalize o.op=op at hc hf;cases op with
 | move x=>exact JB
 | assign x=>exact JB
 | pick c a b=>exact je λ_ _ _=>fb
 | build ty ps =>
  simp only;split
  ·exact ZH
  ·rfl
 | nilCheck x=>exact Kc λ_ _=>iW
 | binOp _ _ x y _=>exact ZL λ_ _ _ _=>iX
 | unOp _ _ x=>exact Kc λ_ _=>JB
 | convert _ _ x=>exact Kc λ_ _=>UN
 | makeInterface _ x=>exact Kc λ_ _=>iY
 | makeFunc f a b =>
  simp only;split
  ·exact SZ
  ·rfl
 | fieldAddr _ x _=>exact Kc λ_ _=>RG
 | field _ x _=>exact Kc λ_ _=>ZI
 | index _ x y=>exact ZL λ_ _ _ _=>ZJ
 | typeAssert x _ _ _=>exact Kc λ_ _=>W0
 | extract x _=>exact Kc λ_ _=>UO
 | load _ x=>exact Kc λp hp=>fc λq hq=>hf q (V4 hp q hq)
 | indexAddr _ x y=>exact ZL λp p' hp _=>RI λq hq=>hf q (V4 hp q hq)
 | slice ty x lo hi mx =>
  cases mx with
  | some _=>simp [A2] at hc
  | none =>
   simp only;split
   ·rename_i lo' hi' mx' _ _ hmx;cases hmx;exact Kc λp hp=>ZK λq hq=>hf q (V4 hp q hq)
   ·rfl
 | call c =>
  simp only;split
  ·rename_i args hargs;cases hcal:c.callee with
   | builtin b =>
    simp only [A2,hcal] at hc;simp only [Pi.B9,hcal] at hf;refine UP ?_ (λhb p hp q hq=>hf q ?_) λhb p hp q hq=>hf q ?_
    ·cases b<;>simp at hc ⊢
    ·subst hb;exact Sa hargs p hp q hq
    ·cases b<;>first | exact absurd rfl hb | exact RJ hargs p hp q hq
   | value _=>simp [A2,hcal] at hc
   | invoke _ _=>simp [A2,hcal] at hc
  ·rfl
 | makeMap _ r=>cases r<;>simp [A2] at hc
 | _=>simp [A2] at hc
theorem RK {id:Nat} {b:Blk} {h1:Hp} (hid:h.get id=none->hs.get id=none) (e:h.new id b=some h1) : ∃ h1',hs.new id b=some h1' :=
 K4 hs id b (hid (Hp.get_new e).1)
theorem W3 {ty:TypeId} {p v:PV} {r:Pi.R} (hf : ∀ q∈Pi.AW p,hs.get q=h.get q) (e:Pi.Dd P h ty p v=some r) : ∃ h1',Pi.Dd P hs ty p v=some (.skip h1'):=by
 have st : ∀ (j:Nat) (b:Blk),∃ h1',(hs.set j b).map Pi.R.skip=some (.skip h1'):=λj b=>by
  obtain ⟨h1,e⟩:=Dk hs j b;exact ⟨h1,by rw [e];rfl⟩
 unfold Pi.Dd at e ⊢;split at e
 ·rename_i n hn
  try simp only [hn]
  replace e:=C4 e;obtain ⟨hb,e⟩:=e;rw [hb];simp only [cond_false];cases p with
  | ptr j off =>
   simp only at e ⊢;rw [hf j (by simp [Pi.AW])];split at e
   ·rename_i cs hg
    try simp only [hg]
    replace e:=A3 e;obtain ⟨hb,e⟩:=e;rw [hb];simp only [cond_true];exact st _ _
   ·cases e
  | ept j i off =>
   simp only at e ⊢;rw [hf j (by simp [Pi.AW])];split at e
   ·rename_i es ex hg
    try simp only [hg]
    split at e
    ·rename_i el hel
     try simp only [hel]
     replace e:=A3 e;obtain ⟨hb,e⟩:=e;rw [hb];simp only [cond_true];cases el with
     | agg cs=>exact st _ _
     | _ =>
      dsimp only at e ⊢;split at e
      ·rename_i c hc;replace e:=A3 e;obtain ⟨hb,e⟩:=e
       try simp only [hc]
       rw [hb];simp only [cond_true];cases c<;>first | exact st _ _ | cases e
      ·cases e
    ·cases e
   ·cases e
  | _=>cases e
 ·cases e
theorem UQ {t:T PV} {id:Nat} {o:Oper} {r:Pi.R} (hc:A2 o.op<=3) (hf : ∀ q∈Pi.B9 t h o.op,hs.get q=h.get q) (hid:h.get id=none->hs.get id=none) (e:Pi.A0 P t h id o=some r) :
  (∀ v h1,r = .val v h1 -> ∃ v' h1',Pi.A0 P t hs id o=some (.val v' h1'))/\(∀ h1,r = .skip h1 -> ∃ h1',Pi.A0 P t hs id o=some (.skip h1')):=by
 have hcase:A2 o.op<=1\/A2 o.op=2\/A2 o.op=3:=by omega
 rcases hcase with hc | hc | hc
 ·have:=W2 (P:=P) (id:=id) hc hf;rw [e] at this;exact ⟨λv h1 hr=>⟨v,hs,by rw [this,hr];rfl⟩,λh1 hr=>⟨hs,by rw [this,hr];rfl⟩⟩
 ·have nw : ∀ {b:Blk} {g:Hp->Pi.R},(h.new id b).map g=some r->(∃ v,∀ h,g h = .val v h)->(∀ v h1,r = .val v h1 -> ∃ v' h1',(hs.new id b).map g=some (.val v' h1'))/\(∀ h1,r = .skip h1 -> ∃ h1',(hs.new id b).map g=some (.skip h1')):=fun {b g} e ⟨v,hg⟩=>by
   cases hn:h.new id b with
   | none=>rw [hn] at e;cases e
   | some h1 =>
    rw [hn] at e;cases e;obtain ⟨h1',e1⟩:=RK hid hn;exact ⟨λ_ _ _=>⟨v,h1',by rw [e1];simp [hg]⟩,λ_ hr=>by rw [hg] at hr;cases hr⟩
  unfold Pi.A0 at e ⊢;generalize o.op=op at hc hf e;cases op with
  | alloc ty =>
   dsimp only at e ⊢;unfold Pi.Gb at e ⊢;split at e
   ·rename_i cs hz
    try simp only [hz]
    exact nw e ⟨_,λ_=>rfl⟩
   ·cases e
  | box _ x =>
   simp only [Pi.e1] at e ⊢;split at e
   ·rename_i v hv
    try simp only [hv]
    unfold Pi.KX at e ⊢;split at e
    ·cases e
    ·exact nw e ⟨_,λ_=>rfl⟩
   ·cases e
  | makeMap _ r =>
   cases r with
   | none=>exact nw e ⟨_,λ_=>rfl⟩
   | some _=>simp [A2] at hc
  | makeSlice _ x y =>
   simp only [Pi.e2] at e ⊢;split at e
   ·rename_i a b ha hb
    try simp only [ha,hb]
    unfold Pi.Gs at e ⊢;split at e
    ·split at e
     ·split at e
      ·rename_i z hz
       try simp only [hz]
       replace e:=A3 e;obtain ⟨hb,e⟩:=e;rw [hb];simp only [cond_true];exact nw e ⟨_,λ_=>rfl⟩
      ·cases e
     ·cases e
    ·cases e
   ·cases e
  | slice _ _ _ _ mx=>cases mx<;>simp [A2] at hc
  | call c =>
   simp only [A2] at hc;split at hc
   ·split at hc<;>cases hc
   ·cases hc
  | _=>simp [A2] at hc
 ·unfold Pi.A0 at e ⊢;generalize o.op=op at hc hf e;cases op with
  | store ty a x =>
   simp only [Pi.e2] at e ⊢;split at e
   ·rename_i p v hp hv
    try simp only [hp,hv]
    have:=W3 (hs:=hs) (λq hq=>hf q (V4 hp q hq)) e;refine ⟨λv h1 hr => ?_,λ_ _=>this⟩;exfalso;subst hr
    have st : ∀ {j:Nat} {b:Blk},(h.set j b).map Pi.R.skip=some (.val v h1)->False:=fun {j b} e=>by
     cases hset:h.set j b with
     | none=>rw [hset] at e;cases e
     | some _=>rw [hset] at e;cases e
    unfold Pi.Dd at e;split at e
    ·replace e:=C4 e;obtain ⟨_,e⟩:=e;split at e
     ·split at e
      ·replace e:=A3 e;exact st e.2
      ·cases e
     ·split at e
      ·split at e
       ·replace e:=A3 e;obtain ⟨_,e⟩:=e;split at e
        ·exact st e
        ·split at e
         ·replace e:=A3 e;obtain ⟨_,e⟩:=e;split at e
          ·cases e
          ·cases e
          ·exact st e
         ·cases e
       ·cases e
      ·cases e
     ·cases e
    ·cases e
   ·cases e
  | slice _ _ _ _ mx=>cases mx<;>simp [A2] at hc
  | makeMap _ r=>cases r<;>simp [A2] at hc
  | call c =>
   simp only [A2] at hc;split at hc
   ·split at hc<;>cases hc
   ·cases hc
  | _=>simp [A2] at hc
end
end Go.Proofs.YthpkjfabdccpdaaGreat.Sv
namespace Go.Proofs.YthpkjfabdccpdaaGreat.Sv
open Go.Proofs.YthpkjfabdccpdaaGreat.Pi (PV T Hp Blk DF UM PE Au A8 AM BO By)
def Fb (o:Option Pi.R):Prop := ∃ v h,o=some (.val v h)
section
variable {P:Program} {h hs:Hp}
theorem P3 {p:PV} (hf : ∀ q∈Pi.AW p,hs.get q=h.get q):Pi.Dv hs p=Pi.Dv h p:=by
 unfold Pi.Dv;cases p with
 | own id off len=>simp only;rw [hf id (by simp [Pi.AW])]
 | _=>rfl
theorem KF {id:Nat} {b:Blk} {v:PV} (hid:h.get id=none->hs.get id=none) (e:Fb ((h.new id b).map λh => .val v h)):Fb ((hs.new id b).map λh => .val v h):=by
 obtain ⟨v0,h0,e⟩:=e;cases hn:h.new id b with
 | none=>rw [hn] at e;cases e
 | some h1 =>
  obtain ⟨h2,e2⟩:=RK hid hn;exact ⟨v,h2,by rw [e2];rfl⟩
theorem P4 {j:Nat} {b:Blk} {v:PV} (e:Fb ((h.set j b).map λh => .val v h)):Fb ((hs.set j b).map λh => .val v h):=by
 obtain ⟨h2,e2⟩:=Dk hs j b;exact ⟨v,h2,by rw [e2];rfl⟩
theorem Ay (e:Fb none) {α:Prop}:α:=by obtain ⟨_,_,e⟩:=e;cases e
theorem Cg {c:Bool} {a b a' b':Option Pi.R} (e:Fb (bif c then a else b)) (ha:c=true->Fb a->Fb a') (hb:c=false->Fb b->Fb b'):Fb (bif c then a' else b'):=by
 cases c with
 | true=>exact ha rfl e
 | false=>exact hb rfl e
theorem ZM {id st:Nat} {s x:PV} (hs1 : ∀ q∈Pi.AW s,hs.get q=h.get q) (hx : ∀ q∈Pi.AW x,hs.get q=h.get q) (hid:h.get id=none->hs.get id=none) (e:Fb (Pi.JD P h id st s x)):Fb (Pi.JD P hs id st s x):=by
 unfold Pi.JD at e ⊢;split at e
 ·rename_i el hu
  try simp only [hu]
  rw [P3 hx];split at e
  ·rename_i sz ti new z k1 k2 k3 k4
   try simp only [k1,k2,k3,k4]
   refine Cg e (λ_ e=>Ay e) λ_ e => ?_;cases s with
   | nils =>
    simp only at e ⊢;exact Cg e (λ_ _=>⟨_,_,rfl⟩) λ_ e=>Cg e (λ_ e=>KF hid e) λ_ e=>Ay e
   | lst f es =>
    cases f with
    | true =>
     simp only at e ⊢;exact Cg e (λ_ _=>⟨_,_,rfl⟩) λ_ e=>Cg e (λ_ e=>KF hid e) λ_ e=>Ay e
    | false=>exact Ay e
   | own j off len =>
    simp only at e ⊢;rw [hs1 j (by simp [Pi.AW])];split at e
    ·rename_i es ex fz hb
     try simp only [hb]
     refine Cg e (λ_ e=>Ay e) λ_ e => ?_;refine Cg e (λ_ e => ?_) λ_ e => ?_
     ·refine Cg e (λ_ _=>⟨_,_,rfl⟩) λ_ e=>Cg e (λ_ e => ?_) λ_ e=>KF hid e;exact Cg e (λ_ e=>Ay e) λ_ e=>P4 e
     ·refine Cg e (λ_ e => ?_) λ_ e=>Ay e;obtain ⟨hd,ed⟩:=Dk h j .dead;obtain ⟨hd',ed'⟩:=Dk hs j .dead;rw [ed] at e;rw [ed'];simp only at e ⊢;refine KF (λhn => ?_) e;rw [(Hp.get_set ed).1] at hn;rw [(Hp.get_set ed').1];by_cases hij:id=j
      ·rw [if_pos hij] at hn;cases hn
      ·rw [if_neg hij] at hn ⊢;exact hid hn
    ·exact Ay e
   | _=>exact Ay e
  ·exact Ay e
 ·exact Ay e
theorem W4 {id:Nat} {ats:Array TypeId} {args:List PV} (hf : ∀ p∈args,∀ q∈Pi.AW p,hs.get q=h.get q) (e:Fb (Pi.Af P h id .copy ats args)):Fb (Pi.Af P hs id .copy ats args):=by
 simp only [Pi.Af] at e ⊢;split at e
 ·rename_i j off len x t hat
  try simp only [hat]
  rw [hf (.own j off len) (by simp) j (by simp [Pi.AW]),P3 (hf x (by simp))];split at e
  ·rename_i ety es ex new k1 k2 k3
   try simp only [k1,k2,k3]
   split at e
   ·rename_i sz hsz
    try simp only [hsz]
    exact Cg e (λ_ e=>Ay e) λ_ e=>P4 e
   ·exact Ay e
  ·exact Ay e
 ·exact Ay e
theorem Im : ∀ {L:List Nat} {h hs h1:Hp},(∀ x∈L,hs.get x=h.get x)->Pi.freeze h L=some h1 -> ∃ h1',Pi.freeze hs L=some h1' /\ ∀ x,hs.get x=h.get x->h1'.get x=h1.get x
 | [],h,hs,h1,_,e=>by simp [Pi.freeze] at e;subst e;exact ⟨hs,rfl,λ_ h=>h⟩
 | j::L,h,hs,h1,hl,e=>by
  unfold Pi.freeze at e ⊢;rw [hl j (by simp)]
  have step : ∀ {b:Blk},(match h.set j b with
    | some h=>Pi.freeze h L
    | none=>none)=some h1 -> ∃ h1',(match hs.set j b with
    | some h=>Pi.freeze h L
    | none=>none)=some h1' /\ ∀ x,hs.get x=h.get x->h1'.get x=h1.get x:=by
   intro b e;obtain ⟨ha,ea⟩:=Dk h j b;obtain ⟨hb,eb⟩:=Dk hs j b;rw [ea] at e;rw [eb];simp only at e ⊢
   have agree : ∀ x,hs.get x=h.get x->hb.get x=ha.get x:=λx hx=>by
    rw [(Hp.get_set ea).1,(Hp.get_set eb).1];by_cases hxj:x=j
    ·rw [if_pos hxj,if_pos hxj]
    ·rw [if_neg hxj,if_neg hxj];exact hx
   obtain ⟨h1',e1,g1⟩:=Im (λx hx=>agree x (hl x (List.mem_cons_of_mem _ hx))) e;exact ⟨h1',e1,λx hx=>g1 x (agree x hx)⟩
  split at e
  ·rename_i cs fz hg
   try simp only [hg]
   exact step e
  ·rename_i es ex fz hg
   try simp only [hg]
   exact step e
  ·cases e
theorem OT {f g:PV->Option (PV×List Nat)} : ∀ {ps qs:List PV} {l:List Nat},(∀ p q l',f p=some (q,l')->(∀ x∈l',x∈l)->g p=some (q,l'))->AM f ps=some (qs,l)->AM g ps=some (qs,l)
 | [],qs,l,_,e=>e
 | p::ps,qs,l,hfg,e=>by
  unfold AM at e ⊢;split at e
  ·rename_i q a qs' b h1 h2;cases e;rw [hfg _ _ _ h1 λx hx=>List.mem_append_left _ hx,OT (λp q l' h hl=>hfg p q l' h λx hx=>List.mem_append_right _ (hl x hx)) h2]
  ·cases e
theorem RL : ∀ (n:Nat) (p:PV) (q:PV) (l:List Nat),(∀ x∈l,hs.get x=h.get x)->BO h n p=some (q,l)->BO hs n p=some (q,l)
 | 0,p,q,l,hl,e=>by simp [BO] at e
 | n+1,p,q,l,hl,e=>by
  have ih : ∀ {ps qs:List PV} {l':List Nat},(∀ x∈l',x∈l)->AM (BO h n) ps=some (qs,l')->AM (BO hs n) ps=some (qs,l'):=λhm e =>
   OT (λp q l2 h1 h2=>RL n p q l2 (λx hx=>hl x (hm x (h2 x hx))) h1) e
  cases p with
  | agg cs=>simp only [BO] at e ⊢;obtain ⟨⟨x,l'⟩,hx,hr⟩:=Pi.AL e;cases hr;rw [ih (λ_ h=>h) hx];rfl
  | tup cs=>simp only [BO] at e ⊢;obtain ⟨⟨x,l'⟩,hx,hr⟩:=Pi.AL e;cases hr;rw [ih (λ_ h=>h) hx];rfl
  | ifc t x=>simp only [BO] at e ⊢;obtain ⟨⟨y,l'⟩,hy,hr⟩:=Pi.AL e;cases hr;rw [RL n _ _ _ hl hy];rfl
  | fn f a b =>
   simp only [BO] at e ⊢;split at e
   ·rename_i x l1 y m h1 h2;cases e;rw [ih (λx h=>List.mem_append_left _ h) h1,ih (λx h=>List.mem_append_right _ h) h2]
   ·cases e
  | own j off len =>
   simp only [BO] at e ⊢;split at e
   ·rename_i es ex fz hb;replace e:=A3 e;obtain ⟨hc,e⟩:=e;obtain ⟨⟨x,l'⟩,hx,hr⟩:=Pi.AL e;cases hr;rw [hl j (by simp),hb];simp only [hc,cond_true];rw [ih (λx h=>List.mem_cons_of_mem _ h) hx];rfl
   ·cases e
  | ptr j off =>
   simp only [BO] at e ⊢;split at e
   ·rename_i cs fz hb;replace e:=A3 e;obtain ⟨hc,e⟩:=e;obtain ⟨⟨x,l'⟩,hx,hr⟩:=Pi.AL e;cases hr;rw [hl j (by simp),hb];simp only [hc,cond_true];rw [ih (λx h=>List.mem_cons_of_mem _ h) hx];rfl
   ·cases e
  | ept j i off =>
   simp only [BO] at e ⊢;split at e
   ·rename_i es ex fz hb;split at e
    ·rename_i el hel;replace e:=A3 e;obtain ⟨hc,e⟩:=e;obtain ⟨⟨x,l'⟩,hx,hr⟩:=Pi.AL e;cases hr;rw [hl j (by simp),hb];simp only [hel,hc,cond_true];rw [ih (λx h=>List.mem_cons_of_mem _ h) hx];rfl
    ·cases e
   ·cases e
  | yl _=>simp [BO] at e
  | mp _=>simp [BO] at e
  | _=>exact e
theorem Jb : ∀ {ps qs:List PV} {l:List Nat},(∀ x∈l,hs.get x=h.get x)->By h ps=some (qs,l)->By hs ps=some (qs,l)
 | [],qs,l,_,e=>e
 | p::ps,qs,l,hl,e=>by
  unfold By at e ⊢;split at e
  ·rename_i q a qs' b k1 k2;cases e;rw [RL _ _ _ _ (λx hx=>hl x (List.mem_append_left _ hx)) k1,Jb (λx hx=>hl x (List.mem_append_right _ hx)) k2]
  ·cases e
theorem K9 {v:Value} {p:PV} (e:Pi.Gr v=some p) (n:Nat):BO h (n+1) p=some (p,[]):=by
 unfold Pi.Gr at e;split at e<;>first | cases e | skip
 all_goals first
  | rfl
  | (split at e<;>cases e;rfl)
theorem Jc : ∀ {vs:List Value} {ps:List PV},Pi.cellsOf vs=some ps -> ∀ n,AM (BO h (n+1)) ps=some (ps,[])
 | [],ps,e,n=>by cases e;rfl
 | v::vs,ps,e,n=>by
  unfold Pi.cellsOf at e;split at e
  ·rename_i p qs h1 h2;cases e;unfold AM;rw [K9 h1,Jc h2];rfl
  ·cases e
theorem ZN {t:TypeId} {z:List PV} {ag:Bool} {z1:PV} (hz:Pi.zeroCells P t=some z) (h1:Pi.Rd ag z=some z1) (n:Nat) : ∃ q,BO h (n+2) z1=some (q,[]):=by
 unfold Pi.zeroCells at hz;split at hz
 ·split at hz
  ·have hp:=λn=>Jc (h:=h) hz n;unfold Pi.Rd at h1;cases ag with
   | true =>
    simp only [cond_true,Option.some.injEq] at h1;subst h1;refine ⟨.agg z,?_⟩;show (AM (BO h (n+1)) z).map _=_;rw [hp n];rfl
   | false =>
    simp only [cond_false] at h1;split at h1
    ·rename_i c;cases h1;have:=hp (n+1);unfold AM at this;split at this
     ·rename_i q a qs b k1 k2;simp only [AM,Option.some.injEq,Prod.mk.injEq] at k2 this;obtain ⟨_,rfl⟩:=k2;have:a=[]:=by simpa using this.2
      subst this;exact ⟨q,k1⟩
     ·cases this
    ·cases h1
  ·cases hz
 ·cases hz
theorem P5 : ∀ {n:Nat} {ps:List (Nat×PV)} {es es':List PV},Pi.KV n es ps=some es' -> ∀ e∈es',e∈es \/ ∃ i,(i,e)∈ps
 | n,[],es,es',e,x,hx=>by simp only [Pi.KV,Option.some.injEq] at e;subst e;exact .inl hx
 | n,(i,v)::r,es,es',e,x,hx=>by
  unfold Pi.KV at e;replace e:=A3 e;obtain ⟨_,e⟩:=e;rcases P5 e x hx with h | ⟨j,h⟩
  ·rw [Pi.A8] at h;rcases List.mem_or_eq_of_mem_set h with h | h
   ·exact .inl h
   ·subst h;exact .inr ⟨i,by simp⟩
  ·exact .inr ⟨j,by simp [h]⟩
theorem Sb : ∀ {es qs:List PV} {l:List Nat},By h es=some (qs,l) -> ∀ x∈l,∃ e∈es,∃ q l',BO h Pi.BI e=some (q,l')/\x∈l'
 | [],qs,l,e,x,hx=>by cases e;cases hx
 | p::ps,qs,l,e,x,hx=>by
  unfold By at e;split at e
  ·rename_i q a qs' b h1 h2;cases e;rcases List.mem_append.1 hx with hx | hx
   ·exact ⟨p,by simp,q,a,h1,hx⟩
   ·obtain ⟨e,he,k⟩:=Sb h2 x hx;exact ⟨e,by simp [he],k⟩
  ·cases e
theorem L1 {t:T PV} : ∀ {l:List (Nat×Operand)} {ps:List (Nat×PV)},Pi.FN t l=some ps -> ∀ i p,(i,p)∈ps -> ∀ q m,BO h Pi.BI p=some (q,m) -> ∀ x∈m,x∈Pi.I7 t h (l.map (·.2))
 | [],ps,e,i,p,hp,_,_,_,_,_=>by cases e;cases hp
 | (j,o)::l,ps,e,i,p,hp,q,m,hm,x,hx=>by
  unfold Pi.FN at e;split at e
  ·rename_i a as h1 h2;cases e;simp only [List.map_cons,Pi.I7,h1];rcases List.mem_cons.1 hp with hp | hp
   ·cases hp;rw [hm];exact List.mem_append_left _ hx
   ·have:=L1 h2 i p hp q m hm x hx;split
    ·exact List.mem_append_right _ this
    ·exact this
  ·cases e
theorem OU {ty:TypeId} {len:Nat} {ps:List (Nat×PV)} (hf : ∀ i p,(i,p)∈ps -> ∀ q m,BO h Pi.BI p=some (q,m) -> ∀ x∈m,hs.get x=h.get x) (e:Fb (Pi.Bi P h ty len ps)):Fb (Pi.Bi P hs ty len ps):=by
 unfold Pi.Bi at e ⊢;split at e
 ·rename_i el hu
  try simp only [hu]
  split at e
  ·rename_i n ag z k1 k2 k3
   try simp only [k1,k2,k3]
   split at e
   ·rename_i z1 hz1
    try simp only [hz1]
    refine Cg e (λ_ e=>Ay e) λ_ e => ?_;split at e
    ·rename_i es hes
     try simp only [hes]
     split at e
     ·rename_i qs l hpl
      have hl : ∀ x∈l,hs.get x=h.get x:=λx hx=>by
       obtain ⟨el',he,q,l',h1,h2⟩:=Sb hpl x hx;rcases P5 hes el' he with hm | ⟨i,hm⟩
       ·have:=List.eq_of_mem_replicate hm;subst this;obtain ⟨q',h3⟩:=ZN (h:=h) k3 hz1 10;have h1':BO h (10+2) el'=some (q,l'):=h1;rw [h3] at h1';cases h1';cases h2
       ·exact hf i el' hm q l' h1 x h2
      rw [Jb hl hpl];obtain ⟨_,_,e⟩:=e;obtain ⟨h1,hfz,_⟩:=Pi.AL e;obtain ⟨h1',e1,_⟩:=Im hl hfz;show Fb ((Pi.freeze hs l).map λh=>Pi.R.val (.lst true qs) h);rw [e1];exact ⟨_,h1',rfl⟩
     ·exact Ay e
    ·exact Ay e
   ·exact Ay e
  ·exact Ay e
 ·exact Ay e
theorem Io : ∀ {L:List Nat} {h h1:Hp},Pi.freeze h L=some h1 -> ∀ x,(h.get x=none->h1.get x=none)/\(h.get x≠none->h1.get x≠none)
 | [],h,h1,e,x=>by simp [Pi.freeze] at e;subst e;exact ⟨λh=>h,λh=>h⟩
 | j::L,h,h1,e,x=>by
  unfold Pi.freeze at e
  have step : ∀ {b b0:Blk},h.get j=some b0->(match h.set j b with
    | some h=>Pi.freeze h L
    | none=>none)=some h1->(h.get x=none->h1.get x=none)/\(h.get x≠none->h1.get x≠none):=by
   intro b b0 hj e;obtain ⟨ha,ea⟩:=Dk h j b;rw [ea] at e;obtain ⟨k1,k2⟩:=Io e x;have g:=(Hp.get_set ea).1 x;by_cases hxj:x=j
   ·subst hxj;rw [if_pos rfl] at g;exact ⟨λhn=>(by rw [hj] at hn;cases hn),λ_=>k2 (by rw [g];simp)⟩
   ·rw [if_neg hxj] at g;exact ⟨λhn=>k1 (by rw [g];exact hn),λhn=>k2 (by rw [g];exact hn)⟩
  split at e
  ·rename_i cs fz hg;exact step hg e
  ·rename_i es ex fz hg;exact step hg e
  ·cases e
theorem Sc {t:T PV} {id:Nat} {o:Oper} (hsl : ∀ ty x lo hi m,o.op = .slice ty x lo hi (some m) -> ∀ p,Pi.GI t x=some p -> ∀ j a b,p ≠ .own j a b) (hc:A2 o.op=4) (hf : ∀ q∈Pi.B9 t h o.op,hs.get q=h.get q) (hid:h.get id=none->hs.get id=none) (e:Fb (Pi.A0 P t h id o)):Fb (Pi.A0 P t hs id o):=by
 unfold Pi.A0 at e ⊢;generalize o.op=op at hc hf e hsl;cases op with
 | buildSlice ty len parts =>
  simp only at e ⊢;split at e
  ·rename_i ps hps
   try simp only [hps]
   exact OU (λi p hp q m hm x hx=>hf x (L1 hps i p hp q m hm x hx)) e
  ·exact Ay e
 | call c =>
  simp only at e ⊢;split at e
  ·rename_i args hargs
   try simp only [hargs]
   cases hcal:c.callee with
   | builtin b =>
    simp only [A2,hcal] at hc;simp only [hcal] at e ⊢
    replace hf : ∀ q∈Pi.De t c.args.toList,hs.get q=h.get q:=by
     simp only [Pi.B9,hcal] at hf;cases b<;>simp at hc<;>exact hf
    have hfa : ∀ p∈args,∀ q∈Pi.AW p,hs.get q=h.get q:=λp hp q hq=>hf q (RJ hargs p hp q hq);cases b with
    | append =>
     simp only [Pi.Af] at e ⊢;split at e
     ·rename_i p q t t' hats
      try simp only [hats]
      exact Cg e (λ_ e=>ZM (hfa p (by simp)) (hfa q (by simp)) hid e) λ_ e=>Ay e
     ·exact Ay e
    | copy=>exact W4 hfa e
    | _=>simp at hc
   | value _=>simp [A2,hcal] at hc
   | invoke _ _=>simp [A2,hcal] at hc
  ·exact Ay e
 | slice ty x lo hi mx =>
  cases mx with
  | none=>simp [A2] at hc
  | some m =>
   simp only at e ⊢;split at e
   ·rename_i lo' hi' mx' k1 k2 k3
    try simp only [k1,k2,k3]
    obtain ⟨v,h1,e⟩:=e;obtain ⟨p,hp,e⟩:=Pi.BZ e;have:=W1 (P:=P) (hs:=hs) (h:=h) (ty:=ty) (lo:=lo') (hi:=hi') (mx:=mx') (hsl _ _ _ _ _ rfl p hp);rw [e] at this;unfold Pi.e1;rw [hp];exact ⟨v,hs,this⟩
   ·exact Ay e
 | makeMap _ r=>cases r<;>simp [A2] at hc
 | _=>simp [A2] at hc
theorem RM {id:Nat} {l:List Nat} {h':Hp} {r q:PV} {h2:Hp} (hf : ∀ x∈l,hs.get x=h.get x) (hid:h.get id=none->hs.get id=none) (e:Pi.B8 id l h h' r=some (q,h2)) : ∃ h2',Pi.B8 id l hs h' r=some (q,h2'):=by
 unfold Pi.B8 at e ⊢;split at e
 ·rename_i len qs ex hm
  try dsimp only
  split at e
  ·rename_i h3 hfz;obtain ⟨h4,hn,hq⟩:=Pi.AL e;cases hq
   have : ∃ h3',(bif Pi.DI qs then some hs else Pi.freeze hs l)=some h3'/\(h3.get id=none->h3'.get id=none):=by
    cases hfl:Pi.DI qs with
    | true =>
     rw [hfl] at hfz;cases hfz;exact ⟨hs,rfl,hid⟩
    | false =>
     rw [hfl] at hfz;obtain ⟨h3',e3,g3⟩:=Im hf hfz;refine ⟨h3',e3,λhn => ?_⟩;by_cases hg:h.get id=none
     ·rw [g3 id (by rw [hid hg,hg])];exact hn
     ·exact absurd hn ((Io hfz id).2 hg)
   obtain ⟨h3',e3,g3⟩:=this;obtain ⟨h4',e4⟩:=RK g3 hn;rw [e3];exact ⟨h4',by simp only [e4,Option.map_some]⟩
  ·cases e
 ·rename_i hm
  try dsimp only
  split at e
  ·rename_i q' l2 hq'
   try simp only [hq']
   cases hfl:Pi.flat q' with
   | true =>
    rw [hfl] at e;cases e;exact ⟨hs,by simp only [cond_true]⟩
   | false =>
    rw [hfl] at e;simp only [cond_false] at e ⊢;obtain ⟨h3,hfz,hq⟩:=Pi.AL e;cases hq;obtain ⟨h3',e3,_⟩:=Im hf hfz;exact ⟨h3',by simp only [e3,Option.map_some]⟩
  ·cases e
theorem UR : ∀ (n:Nat) (p q:PV) (l:List Nat),BO h n p=some (q,l) -> ∀ x∈l,h.get x≠none
 | 0,p,q,l,e,x,hx=>by simp [BO] at e
 | n+1,p,q,l,e,x,hx=>by
  have ih : ∀ {ps qs:List PV} {l':List Nat},AM (BO h n) ps=some (qs,l') -> ∀ x∈l',h.get x≠none:=by
   intro ps
   induction ps with
   | nil=>intro qs l' e x hx;cases e;cases hx
   | cons p ps ihp =>
    intro qs l' e x hx;unfold AM at e;split at e
    ·rename_i q a qs' b h1 h2;cases e;rcases List.mem_append.1 hx with hx | hx
     ·exact UR n _ _ _ h1 x hx
     ·exact ihp h2 x hx
    ·cases e
  cases p with
  | agg cs=>simp only [BO] at e;obtain ⟨⟨y,l'⟩,hy,hr⟩:=Pi.AL e;cases hr;exact ih hy x hx
  | tup cs=>simp only [BO] at e;obtain ⟨⟨y,l'⟩,hy,hr⟩:=Pi.AL e;cases hr;exact ih hy x hx
  | ifc t v=>simp only [BO] at e;obtain ⟨⟨y,l'⟩,hy,hr⟩:=Pi.AL e;cases hr;exact UR n _ _ _ hy x hx
  | fn f a b =>
   simp only [BO] at e;split at e
   ·rename_i y l1 z m h1 h2;cases e;rcases List.mem_append.1 hx with hx | hx
    ·exact ih h1 x hx
    ·exact ih h2 x hx
   ·cases e
  | own j off len =>
   simp only [BO] at e;split at e
   ·rename_i es ex fz hb;replace e:=A3 e;obtain ⟨_,e⟩:=e;obtain ⟨⟨y,l'⟩,hy,hr⟩:=Pi.AL e;cases hr;rcases List.mem_cons.1 hx with rfl | hx
    ·rw [hb];simp
    ·exact ih hy x hx
   ·cases e
  | ptr j off =>
   simp only [BO] at e;split at e
   ·rename_i cs fz hb;replace e:=A3 e;obtain ⟨_,e⟩:=e;obtain ⟨⟨y,l'⟩,hy,hr⟩:=Pi.AL e;cases hr;rcases List.mem_cons.1 hx with rfl | hx
    ·rw [hb];simp
    ·exact ih hy x hx
   ·cases e
  | ept j i off =>
   simp only [BO] at e;split at e
   ·rename_i es ex fz hb;split at e
    ·replace e:=A3 e;obtain ⟨_,e⟩:=e;obtain ⟨⟨y,l'⟩,hy,hr⟩:=Pi.AL e;cases hr;rcases List.mem_cons.1 hx with rfl | hx
     ·rw [hb];simp
     ·exact ih hy x hx
    ·cases e
   ·cases e
  | yl _=>simp [BO] at e
  | mp _=>simp [BO] at e
  | _=>cases e;cases hx
theorem Jd {t:T PV} : ∀ {l:List Operand},∀ x∈Pi.I7 t h l,h.get x≠none
 | [],x,hx=>by cases hx
 | o::l,x,hx=>by
  unfold Pi.I7 at hx;split at hx
  ·split at hx
   ·rename_i q m hm;rcases List.mem_append.1 hx with hx | hx
    ·exact UR _ _ _ _ hm x hx
    ·exact Jd x hx
   ·exact Jd x hx
  ·exact Jd x hx
end
end Go.Proofs.YthpkjfabdccpdaaGreat.Sv
namespace Go.Proofs.YthpkjfabdccpdaaGreat.Sv
open Go.Proofs.YthpkjfabdccpdaaGreat.Pi (PV T Hp Blk DF UM PE Au A8 AM BO By)
section
variable {P:Program} {h hs:Hp}
theorem Nl (h1:Hp) : ∀ (l:List Nat) (h:Hp),∃ h2,Pi.over h1 l h=some h2/\h2.nx=h.nx
 | [],h=>⟨h,rfl,rfl⟩
 | j::l,h=>by
  unfold Pi.over;split
  ·rename_i b hb;obtain ⟨h3,e3⟩:=Dk h j b;obtain ⟨h2,e2,e4⟩:=Nl h1 l h3;exact ⟨h2,by rw [e3];exact e2,by rw [e4];exact (Hp.get_set e3).2⟩
  ·exact Nl h1 l h
theorem Bj {h:Hp} : ∀ {l:List Nat} {x:Nat},x∈Pi.Co h l->x∈l
 | [],x,hx=>by simp [Pi.Co] at hx
 | j::l,x,hx=>by
  unfold Pi.Co at hx;split at hx
  ·exact List.mem_cons_of_mem _ (Bj hx)
  ·exact List.mem_cons_of_mem _ (Bj hx)
  ·rcases List.mem_cons.1 hx with rfl | hx
   ·simp
   ·exact List.mem_cons_of_mem _ (Bj hx)
theorem P6 {o:Op} (hd:Pi.CA o=true):(A2 o<=1->Pi.Gz o=true)/\(A2 o=2\/A2 o=3->Pi.Gz o=false/\Pi.I8 o=false)/\(A2 o=0\/A2 o=2 -> ∀ t h,Pi.B9 t h o=[])/\(A2 o=4->Pi.Gz o=false):=by
 cases o with
 | slice _ _ _ _ mx=>cases mx<;>simp [A2,Pi.Gz,Pi.I8]
 | makeMap _ r=>cases r<;>simp [A2,Pi.Gz,Pi.I8,Pi.B9]
 | call c =>
  cases hc:c.callee with
  | builtin b=>cases b<;>simp [A2,Pi.Gz,Pi.I8,hc]
  | _=>simp [A2,hc]
 | _=>simp [A2,Pi.Gz,Pi.I8,Pi.B9]
theorem OV {t:T PV} {id:Nat} {o:Oper} {r:Pi.R} (hsl : ∀ ty x lo hi m,o.op = .slice ty x lo hi (some m) -> ∀ p,Pi.GI t x=some p -> ∀ j a b,p ≠ .own j a b) (hdr:Pi.CA o.op=true) (hid:h.get id=none) (e:Pi.A0 P t h id o=some r) :
  (∀ v h1,r = .val v h1->A2 o.op<=2\/A2 o.op=4 -> ∃ h2 wr,(∀ rec,Pi.CL P rec t h id o=some (v,h2,id::Pi.B9 t h o.op,wr))/\(∀ q,h2.get q=h1.get q)/\h2.nx=h.nx/\(A2 o.op<=1->wr=[]/\h1=h) /\ ∀ w∈wr,w∈id::Pi.B9 t h o.op) /\
  (∀ h1,r = .skip h1->A2 o.op=3 -> ∃ h2 wr,(∀ rec,Pi.CL P rec t h id o=some (.tup [],h2,id::Pi.B9 t h o.op,wr))/\(∀ q,h2.get q=h1.get q)/\h2.nx=h.nx /\ ∀ w∈wr,w∈id::Pi.B9 t h o.op):=by
 have cutg : ∀ q∈id::Pi.B9 t h o.op,(h.cut (id::Pi.B9 t h o.op)).get q=h.get q:=λq hq=>by
  rw [Pi.Hg,if_pos ⟨hq,by omega⟩]
 have low:=λhc=>UQ (P:=P) (hs:=h.cut (id::Pi.B9 t h o.op)) hc (λq hq=>cutg q (List.mem_cons_of_mem _ hq)) (λ_=>by rw [cutg id (by simp)];exact hid) e;have sub:Pi.JF (h.cut (id::Pi.B9 t h o.op)) h:=λx b hb=>(Pi.IC hb).2;have blt:Nat.blt id (id+1)=true:=by simp
 have hq:=P6 hdr
 have whole : ∀ {h1' h1:Hp},Pi.Lay (h.cut (id::Pi.B9 t h o.op)) h h1' h1 id -> ∃ h2,Pi.over h1' (id::Pi.B9 t h o.op) h=some h2/\(∀ q,h2.get q=h1.get q)/\h2.nx=h.nx:=fun {h1' h1} l=>by
  obtain ⟨h2,e2,n2⟩:=Nl h1' (id::Pi.B9 t h o.op) h;refine ⟨h2,e2,λq => ?_,n2⟩;rw [Pi.Gl e2 q,l.get q];by_cases hm:q∈id::Pi.B9 t h o.op
  ·rw [if_pos hm]
   all_goals (cases h1'.get q<;>rfl)
  ·rw [if_neg hm];cases hg:h1'.get q with
   | none=>rfl
   | some b =>
    rcases l.keys q b hg with ⟨b0,hb⟩ | hb
    ·exact absurd (Pi.IC hb).1 hm
    ·exact absurd (by simp [hb]) hm
 refine ⟨λv h1 hr hc => ?_,λh1 hr hc => ?_⟩
 ·obtain ⟨v',h1',e'⟩ : ∃ v' h1',Pi.A0 P t (h.cut (id::Pi.B9 t h o.op)) id o=some (.val v' h1'):=by
   rcases hc with hc | hc
   ·exact (low (by omega)).1 v h1 hr
   ·exact Sc hsl hc (λq hq=>cutg q (List.mem_cons_of_mem _ hq)) (λ_=>by rw [cutg id (by simp)];exact hid) ⟨v,h1,by rw [e,hr]⟩
  have lay:=Pi.GL sub (λ_=>hid) hdr e';obtain ⟨h2,k1,k2⟩:=lay;rw [e,hr] at k1;cases k1;by_cases h01:A2 o.op<=1
  ·have hq1:=hq.1 h01;have:=Pi.Le hq1 hdr (by rw [e,hr]);refine ⟨h,[],λrec => ?_,λq=>by rw [this],rfl,λ_=>⟨rfl,this⟩,λ_ hw=>by cases hw⟩;unfold Pi.CL;simp only [hdr,blt,Bool.not_true,Bool.or_self,cond_false,e',hq1,cond_true]
  ·have hq2:Pi.Gz o.op=false:=by
    rcases hc with hc | hc
    ·exact (hq.2.1 (.inl (by omega))).1
    ·exact hq.2.2.2 hc
   obtain ⟨h3,e3,g3,n3⟩:=whole k2;refine ⟨h3,bif Pi.I8 o.op then id::Pi.B9 t h o.op else Pi.Co h (id::Pi.B9 t h o.op),λrec => ?_,g3,n3,λh=>absurd h h01,λw hw => ?_⟩
   ·unfold Pi.CL;simp only [hdr,blt,Bool.not_true,Bool.or_self,cond_false,e',hq2,e3,Option.map_some]
   ·cases hap:Pi.I8 o.op with
    | true=>rw [hap] at hw;exact hw
    | false=>rw [hap] at hw;exact Bj hw
 ·obtain ⟨h1',e'⟩:=(low (by omega)).2 h1 hr;have lay:=Pi.GL sub (λ_=>hid) hdr e';obtain ⟨h2,k1,k2⟩:=lay;rw [e,hr] at k1;cases k1;have hq2:=hq.2.1 (.inr hc);obtain ⟨h3,e3,g3,n3⟩:=whole k2;refine ⟨h3,Pi.Co h (id::Pi.B9 t h o.op),λrec => ?_,g3,n3,λw hw=>Bj hw⟩;unfold Pi.CL;simp only [hdr,blt,Bool.not_true,Bool.or_self,cond_false,e',hq2.1,hq2.2,e3,Option.map_some]
theorem BR.there {X:Cx} {c:BA} {pid m:Nat} (hb:BR X c (some (.blk pid m))) (hl:c.live):X.h.get pid≠none:=by
 cases c with
 | box=>obtain ⟨_,_,_,_,h1,_,h3,_⟩:=hb;cases h1;rw [h3];simp
 | row =>
  rcases hb with ⟨_,_,_,_,h1,_,h3,_⟩ | ⟨h1,_⟩ | ⟨_,h1,_⟩
  ·cases h1;rw [h3];simp
  ·cases h1
  ·cases h1
 | mp=>obtain ⟨_,_,_,h1,_,h3,_⟩:=hb;cases h1;rw [h3];simp
 | lp=>obtain ⟨_,_,_,_,_,h1,_,h3,_⟩:=hb;cases h1;rw [h3];simp
 | df=>obtain ⟨_,_,_,h1,_,h3,_⟩:=hb;cases h1;rw [h3];simp
 | dead=>exact hl.elim
theorem Je {X:Cx} {h:H} {n id pid m:Nat} (r:RH X h n) (hl:Ll h id=true) (hp:X.π id=some (.blk pid m)):X.h.get pid≠none:=by
 unfold Ll at hl;split at hl
 ·cases hl
 ·rename_i c hne hg
  have hlv:c.live:=by
   cases c<;>first | trivial | exact absurd hg (by simpa using hne)
  exact (hp ▸ r.blk _ _ hg).there hlv
 ·cases hl
theorem ZO {X:Cx} {h:H} {n:Nat} (r:RH X h n) {v:V} {p:PV} (hv:VR X v p) (hl:gi h v=true) : ∀ q∈Pi.AW p,X.h.get q≠none:=by
 intro q hq;cases v with
 | ow id =>
  simp only [VR] at hv;cases hp:X.π id with
  | none=>rw [hp] at hv;exact hv.elim
  | some a =>
   rw [hp] at hv;cases a with
   | blk pid len=>simp only at hv;subst hv;simp only [Pi.AW,List.mem_singleton] at hq;subst hq;exact Je r hl hp
   | nil=>simp only at hv;subst hv;simp [Pi.AW] at hq
   | fz es=>simp only at hv;subst hv;simp [Pi.AW] at hq
 | own id off len=>simp only [VR] at hv;obtain ⟨pid,m,h1,rfl⟩:=hv;simp only [Pi.AW,List.mem_singleton] at hq;subst hq;exact Je r hl h1
 | ptr id off=>simp only [VR] at hv;obtain ⟨pid,m,h1,rfl⟩:=hv;simp only [Pi.AW,List.mem_singleton] at hq;subst hq;exact Je r hl h1
 | ept id i off=>simp only [VR] at hv;obtain ⟨pid,m,h1,rfl⟩:=hv;simp only [Pi.AW,List.mem_singleton] at hq;subst hq;exact Je r hl h1
 | mp id=>simp only [VR] at hv;obtain ⟨pid,m,h1,rfl⟩:=hv;simp only [Pi.AW,List.mem_singleton] at hq;subst hq;exact Je r hl h1
 | lf full g c l =>
  simp only [VR] at hv;rcases hv with ⟨h1,_⟩ | ⟨f,es,h1,_⟩ | ⟨pid,off,len,es,ex,fz,h1,h0,h2,h3,_⟩
  ·subst h1;simp [Pi.AW] at hq
  ·subst h1;simp [Pi.AW] at hq
  ·subst h1;simp only [Pi.AW,List.mem_singleton] at hq;subst hq;rw [h3];simp
 | view cs =>
  simp only [VR] at hv;rcases hv with ⟨ps,rfl,_⟩ | ⟨pid,i,off,es,ex,fz,e,rfl,h2,h3,_⟩
  ·simp [Pi.AW] at hq
  ·simp only [Pi.AW,List.mem_singleton] at hq;subst hq;rw [h3];simp
 | exl f es=>simp only [VR] at hv;obtain ⟨_,_,rfl,_⟩:=hv;simp [Pi.AW] at hq
 | pl g c l=>simp only [VR] at hv;rcases hv with ⟨rfl,_⟩ | ⟨_,_,rfl,_⟩<;>simp [Pi.AW] at hq
 | pv cs=>simp only [VR] at hv;obtain ⟨_,rfl,_⟩:=hv;simp [Pi.AW] at hq
 | agg cs=>simp only [VR] at hv;obtain ⟨_,rfl,_⟩:=hv;simp [Pi.AW] at hq
 | tup cs=>simp only [VR] at hv;obtain ⟨_,rfl,_⟩:=hv;simp [Pi.AW] at hq
 | fn f a b=>simp only [VR] at hv;obtain ⟨_,_,rfl,_⟩:=hv;simp [Pi.AW] at hq
 | yl id=>simp only [VR] at hv;obtain ⟨_,_,_,rfl⟩:=hv;simp [Pi.AW] at hq
 | ifc t v=>simp only [VR] at hv;obtain ⟨_,rfl,_⟩:=hv;simp [Pi.AW] at hq
 | _=>simp only [VR] at hv;subst hv;simp [Pi.AW] at hq
theorem Sd {v:Value} {p:PV} (e:Pi.Gr v=some p):Pi.AW p=[]:=by
 unfold Pi.Gr at e;split at e<;>first | cases e | skip
 all_goals first | rfl | (cases e;rfl) | (replace e:=A3 e;cases e.2;rfl) | (split at e<;>first | (cases e;rfl) | cases e)
theorem LA {v:Value} {p:PV} (e:Pi.H6 v=some p):Pi.AW p=[]:=by
 unfold Pi.H6 at e;split at e
 ·obtain ⟨x,_,rfl⟩:=Pi.AL e;rfl
 ·replace e:=A3 e;cases e.2;rfl
 ·split at e
  ·cases e;rfl
  ·cases e
 ·exact Sd e
theorem OW {X:Cx} {h:H} {n:Nat} (r:RH X h n) {t:T V} {tP:T PV} (ht:TR X t tP) : ∀ {l:List Operand},Lm h t l=true -> ∀ q∈Pi.De tP l,X.h.get q≠none
 | [],_,q,hq=>by simp [Pi.De] at hq
 | o::l,hl,q,hq=>by
  unfold Pi.De at hq
  have tl:Lm h t l=true:=by
   cases o with
   | tmp k=>simp only [Lm,Bool.and_eq_true] at hl;exact hl.2
   | _=>exact hl
  split at hq
  ·rename_i p hp;rcases List.mem_append.1 hq with hq | hq
   ·cases o with
    | tmp k =>
     simp only [Lm,Bool.and_eq_true] at hl;have h1:=hl.1;split at h1
     ·rename_i v hv;obtain ⟨p',hp',hvr⟩:=ht _ _ hv;simp only [Pi.GI,hp',Option.getD_some,Option.some.injEq] at hp;subst hp;exact ZO r hvr h1 q hq
     ·cases h1
    | const v=>rw [LA hp] at hq;cases hq
    | func f=>simp only [Pi.GI,Option.some.injEq] at hp;subst hp;simp [Pi.AW] at hq
    | global g=>cases hp
   ·exact OW r ht tl q hq
  ·exact OW r ht tl q hq
theorem LB {t:T PV} {q:Nat} : ∀ {l:List Operand},q∈Pi.HE t l->q∈Pi.De t l
 | [],h=>h
 | o::l,h=>by
  unfold Pi.HE at h;unfold Pi.De;split at h
  ·rename_i p hp
   try rw [hp]
   try simp only
   rcases List.mem_append.1 h with h | h
   ·refine List.mem_append_left _ ?_;cases p<;>first | exact h | (simp [Pi.LP] at h)
   ·exact List.mem_append_right _ (LB h)
  ·rename_i hp
   try rw [hp]
   exact LB h
theorem V5 {X:Cx} {h:H} {n:Nat} (r:RH X h n) {t:T V} {tP:T PV} (ht:TR X t tP) {o:Op} (hc:A2 o<=4) (hd:Pi.CA o=true) (hl:Lm h t (Pi.CN o)=true) : ∀ q∈Pi.B9 tP X.h o,X.h.get q≠none:=by
 intro q hq;have:=OW r ht hl;cases o with
 | load _ _=>exact this q hq
 | indexAddr _ _ _=>exact this q hq
 | store _ _ _=>exact this q hq
 | slice ty x lo hi mx =>
  cases mx with
  | some _=>exact Jd q (by simpa [Pi.B9] using hq)
  | none =>
   refine this q ?_;simp only [Pi.B9,Option.isSome_none,cond_false] at hq
   have app : ∀ {a b:List Operand},q∈Pi.De tP a->q∈Pi.De tP (a++b):=by
    intro a b
    induction a with
    | nil=>intro h;simp [Pi.De] at h
    | cons o a ih =>
     intro h;simp only [List.cons_append,Pi.De] at h ⊢;split at h
     ·rename_i p hp
      try rw [hp]
      try simp only
      rcases List.mem_append.1 h with h | h
      ·exact List.mem_append_left _ h
      ·exact List.mem_append_right _ (ih h)
     ·rename_i hp
      try rw [hp]
      exact ih h
   exact app (a:=[x]) hq
 | call c =>
  simp only [Pi.B9] at hq;split at hq
  ·rename_i b hb;simp only [Pi.CN,hb] at this;refine this q ?_;split at hq
   ·exact LB hq
   ·exact hq
  ·cases hq
 | buildSlice _ _ _=>exact Jd q hq
 | lookup _ _ _ _=>cases hd
 | mapUpdate _ _ _ _=>cases hd
 | insert _ _ _ _=>cases hd
 | _=>simp [Pi.B9] at hq
end
end Go.Proofs.YthpkjfabdccpdaaGreat.Sv
namespace Go.Proofs.YthpkjfabdccpdaaGreat.Sv
open Go.Proofs.YthpkjfabdccpdaaGreat.Pi (PV T Hp Blk DF UM PE Au A8 AM BO By)
section
variable {P:Program} {tab:Ie}
def Cx.with (X:Cx) (h2:Hp):Cx:={ X with h:=h2 }
theorem KG {X:Cx} {h2:Hp} (g : ∀ q,h2.get q=X.h.get q):Up X (X.with h2):=⟨λ_ _ h=>h,λq es ex fz hq hg=>⟨⟨fz,by show h2.get q=_;rw [g];exact hg⟩,hq⟩⟩
theorem RH.with {X:Cx} {h:H} {n:Nat} {h2:Hp} (r:RH X h n) (g : ∀ q,h2.get q=X.h.get q) (hn:h2.nx=X.h.nx):RH (X.with h2) h n :=
 ⟨λi c hi=>(r.blk i c hi).keep (KG g) λ_ _ _ hO=>⟨g _,hO⟩,r.inj,r.dom,λq hq=>by show h2.get q=none;rw [g];exact r.fresh q (by have:h2.nx<=q:=hq;omega),λq hq=>by show h2.get q≠none;rw [g];exact r.ob q hq⟩
theorem St.with {X Y:Cx} {h h':H} {id idP:Nat} {h2:Hp} (s:St X h id idP Y h') (g : ∀ q,h2.get q=Y.h.get q) (hn:h2.nx=Y.h.nx):St X h id idP (Y.with h2) h' :=
 ⟨s.up.trans (KG g),by show h2.nx=_;rw [hn];exact s.nx,s.pin,λq hq k=>by show h2.get q=none;rw [g];exact s.hpn q hq k,s.lk,λq st pe nt t ps asg body d k=>by show h2.get q=_;rw [g];exact s.lps _ _ _ _ _ _ _ _ _ k⟩
def FpA (X:Cx) (l:List Nat×Bool) (q:Nat):Prop:=(∃ j∈l.1,∃ m,X.π j=some (.blk q m))\/(l.2=true/\X.Q q /\ ∃ es ex fz,X.h.get q=some (.row es ex fz))
theorem FpA.mono {X Y:Cx} (u:Up X Y) {l:List Nat×Bool} {q:Nat} (h:FpA X l q):FpA Y l q:=by
 rcases h with ⟨j,hj,m,hp⟩ | ⟨h1,h2,es,ex,fz,h3⟩
 ·exact .inl ⟨j,hj,m,u.pi _ _ hp⟩
 ·obtain ⟨⟨fz',h4⟩,h5⟩:=u.rows _ _ _ _ h2 h3;exact .inr ⟨h1,h5,es,ex,fz',h4⟩
def W5 (X:Cx) (own:Nat) (f:Option (List Nat×Bool)) (rd:List Nat):Prop := ∀ l,f=some l -> ∀ q∈rd,q=own\/FpA X l q
def FpP (X:Cx) (own:Nat) (f:Option (List Nat×Bool)) (rd:List Nat):Prop := ∀ l,f=some l -> ∀ q∈rd,(q=own/\X.h.get q=none)\/FpA X l q
def PastE (X:Cx) (baseP i len:Nat) (a:Nat×Nat×Option (List Nat×Bool)) (b:Nat×List Nat×List Nat):Prop :=
 a.1=b.1/\b.1<i/\(∀ w∈b.2.2,w∈b.2.1)/\(a.2.1<=1->b.2.2=[])/\(∀ q∈b.2.1,∀ k,i<=k->k<len->q≠baseP+k)/\(a.2.1=0->b.2.1=[baseP+b.1]/\X.h.get (baseP+b.1)=none)/\FpP X (baseP+b.1) a.2.2 b.2.1
theorem Cr : ∀ {a b:List Nat},(∀ x∈a,x ∉ b)->Pi.GH a b=false
 | [],b,_=>rfl
 | x::a,b,h=>by
  simp only [Pi.GH,Bool.or_eq_false_iff,List.any_eq_false];refine ⟨λy hy hb => ?_,Cr λz hz=>h z (by simp [hz])⟩;have:=Nat.eq_of_beq_eq_true hb;subst this;exact h x (by simp) hy
theorem Se : ∀ {a b:List Nat},Pi.GH a b=false -> ∀ x∈a,x ∉ b
 | [],_,_,x,hx=>by cases hx
 | y::a,b,h,x,hx=>by
  simp only [Pi.GH,Bool.or_eq_false_iff,List.any_eq_false] at h;rcases List.mem_cons.1 hx with rfl | hx
  ·intro hb;exact h.1 x hb (by simp)
  ·exact Se h.2 x hx
theorem Mi {h:H} : ∀ {l:List Nat},Pk h l=true -> ∀ j∈l,Ll h j=true
 | [],_,j,hj=>by cases hj
 | k::l,hl,j,hj=>by
  simp only [Pk,Bool.and_eq_true] at hl;rcases List.mem_cons.1 hj with rfl | hj
  ·exact hl.1
  ·exact Mi hl.2 j hj
theorem Mj {h:H} {id:Nat} (hl:Ll h id=true) : ∃ b,h.get id=some b/\b.live:=by
 unfold Ll at hl;split at hl
 ·cases hl
 ·rename_i c hne hg;exact ⟨c,hg,by cases c<;>first | trivial | exact absurd hg (by simpa using hne)⟩
 ·cases hl
theorem Ml {h:H} : ∀ {l:List Nat},SI h l=true -> ∀ j∈l,∃ b,h.get j=some b
 | [],_,j,hj=>by cases hj
 | k::l,hl,j,hj=>by
  simp only [SI,Bool.and_eq_true] at hl;rcases List.mem_cons.1 hj with rfl | hj
  ·exact Option.isSome_iff_exists.1 hl.1
  ·exact Ml hl.2 j hj
theorem IL {X:Cx} {h:H} {n:Nat} (rh:RH X h n) {baseP i len bef c:Nat} {f:Option (List Nat×Bool)} {rd wr:List Nat} (hf:W5 X (baseP+i) f rd) (hi:i<len) (hw : ∀ w∈wr,w∈rd) (h1:c<=1->wr=[]) (h0:c=0\/c=2->rd=[baseP+i]) (hex : ∀ q∈rd,q=baseP+i\/X.h.get q≠none) :
  ∀ {pa:List (Nat×Nat×Option (List Nat×Bool))} {pp:List (Nat×List Nat×List Nat)},L2 (PastE X baseP i len) pa pp->HJ h bef c f pa=true->Pi.Kl bef rd wr pp=true
 | [],pp,hl,_=>by rw [L2.nil_inv hl];rfl
 | (j,d,g)::pa,pp,hl,ho=>by
  obtain ⟨⟨j',r,w⟩,pp',rfl,⟨e1,e2,e3,e4,e5,e6,e7⟩,hl'⟩:=L2.cons_inv hl;simp only at e1 e2 e3 e4 e5 e6 e7;subst e1;simp only [HJ,Bool.and_eq_true,Bool.or_eq_true] at ho;simp only [Pi.Kl,Bool.and_eq_true,Bool.or_eq_true,Bool.not_eq_true'];refine ⟨?_,IL rh hf hi hw h1 h0 hex hl' ho.2⟩;have own : ∀ x∈r,x≠baseP+i:=λx hx=>e5 x hx i (Nat.le_refl _) hi;rcases ho.1 with hb | hb | hb | hb | hb | hb
  ·exact .inl hb
  ·have hc:=Nat.eq_of_beq_eq_true hb;refine .inr ?_;rw [h0 (.inl hc),h1 (by omega)];exact Bool.or_eq_false_iff.2 ⟨Cr λx hx hm=>own x (e3 x hx) (by simpa using hm),rfl⟩
  ·have hc:=Nat.eq_of_beq_eq_true hb;have hr:=h0 (.inr hc);refine .inr (Bool.or_eq_false_iff.2 ⟨Cr λx hx hm=>own x (e3 x hx) (by rw [hr] at hm;simpa using hm),Cr λx hx hm=>own x hm (by have:=hw x hx;rw [hr] at this;simpa using this)⟩)
  ·have hd:=Nat.eq_of_beq_eq_true hb;obtain ⟨f1,f2⟩:=e6 hd;refine .inr (Bool.or_eq_false_iff.2 ⟨by rw [e4 (by omega)];rfl,Cr λx hx hm => ?_⟩);rw [f1] at hm;have hxe:x=baseP+j:=by simpa using hm
   rcases hex x (hw x hx) with hh | hh
   ·omega
   ·rw [hxe] at hh;exact hh f2
  ·have hc:=Nat.eq_of_beq_eq_true hb.1;have hd:=Nat.eq_of_beq_eq_true hb.2;exact .inr (Bool.or_eq_false_iff.2 ⟨by rw [e4 (by omega)];rfl,by rw [h1 (by omega)];rfl⟩)
  ·unfold jX at hb;split at hb
   ·rename_i a b;simp only [Bool.and_eq_true,Bool.not_eq_true'] at hb;obtain ⟨hm,hpq,hla,hlb⟩:=hb
    have own1 : ∀ {l:List Nat} {j q m:Nat},Pk h l=true->j∈l->X.π j=some (.blk q m)->X.O q:=λhl hj hp=>by
     obtain ⟨b1,g1,l1⟩:=Mj (Mi hl _ hj);exact (hp ▸ rh.blk _ _ g1).own l1
    have own2 : ∀ {l:List Nat} {j q m:Nat},SI h l=true->j∈l->X.π j=some (.blk q m)->X.O q:=λhl hj hp=>by
     obtain ⟨b1,g1⟩:=Ml hl _ hj;have hB:=rh.blk _ _ g1;cases b1 with
     | dead=>exact (hB _ _ hp).1
     | _=>exact (hp ▸ hB).own trivial
    have no : ∀ x∈rd,x ∉ r:=λx hx hr=>by
     rcases hf a rfl x hx with hh | h1
     ·exact own x hr hh
     ·rcases e7 b rfl x hr with ⟨hh,hh2⟩ | h2
      ·rcases hex x hx with hk | hk
       ·exact own x hr hk
       ·exact hk hh2
      ·rcases h1 with ⟨j1,hj1,m1,hp1⟩ | ⟨q1,q2,_⟩
       ·rcases h2 with ⟨j2,hj2,m2,hp2⟩ | ⟨_,q2,_⟩
        ·obtain ⟨b1,g1,l1⟩:=Mj (Mi hla j1 hj1);obtain ⟨b2,g2⟩:=Ml hlb j2 hj2
         have l2:b2.live:=by
          cases b2 with
          | dead=>exact absurd ((rh.blk _ _ g2) _ _ hp2).2 ((hp1 ▸ rh.blk _ _ g1).nd l1)
          | _=>trivial
         have:=rh.inj _ _ _ _ _ _ _ g1 g2 l1 l2 hp1 hp2;subst this;exact Se hm _ hj1 hj2
        ·exact q2 (own1 hla hj1 hp1)
       ·rcases h2 with ⟨j2,hj2,m2,hp2⟩ | ⟨q3,_,_⟩
        ·exact q2 (own2 hlb hj2 hp2)
        ·rw [q1,q3] at hpq;cases hpq
    exact .inr (Bool.or_eq_false_iff.2 ⟨Cr λx hx hm=>no x hm (e3 x hx),Cr λx hx hm=>no x (hw x hx) hm⟩)
   ·cases hb
theorem FpP.mono {X Y:Cx} (u:Up X Y) {own:Nat} (hn:X.h.get own=none->Y.h.get own=none) {f:Option (List Nat×Bool)} {rd:List Nat} (h:FpP X own f rd):FpP Y own f rd:=λl hl q hq=>by
 rcases h l hl q hq with ⟨rfl,h1⟩ | h1
 ·exact .inl ⟨rfl,hn h1⟩
 ·exact .inr (h1.mono u)
theorem PastE.next {X Y:Cx} {h h':H} {baseP base i len:Nat} {a:Nat×Nat×Option (List Nat×Bool)} {b:Nat×List Nat×List Nat} (s:St X h (base+i) (baseP+i) Y h') (k:PastE X baseP i len a b):PastE Y baseP (i+1) len a b:=by
 obtain ⟨e1,e2,e3,e4,e5,e6,e7⟩:=k;exact ⟨e1,by omega,e3,e4,λq hq k h1 h2=>e5 q hq k (by omega) h2,λhd=>⟨(e6 hd).1,s.hpn _ (by omega) (e6 hd).2⟩,e7.mono s.up λhn=>s.hpn _ (by omega) hn⟩
theorem GT {X:Cx} {t:T V} {tP:T PV} (ht:TR X t tP) : ∀ {ops:List Operand} {l:List Nat×Bool},Wq t ops=some l -> ∀ q∈Pi.De tP ops,FpA X l q
 | [],_,_,q,hq=>by simp [Pi.De] at hq
 | o::ops,l,e,q,hq=>by
  unfold Pi.De at hq;cases o with
  | tmp k =>
   unfold Wq at e
   have hd : ∀ {v:V},t.get k=some v -> ∃ p,Pi.GI tP (.tmp k)=some p/\VR X v p:=λhv=>by
    obtain ⟨p',hp',hvr⟩:=ht _ _ hv;exact ⟨p',by simp only [Pi.GI,hp',Option.getD_some],hvr⟩
   have one : ∀ {v:V} {id:Nat},t.get k=some v->(∀ p,VR X v p -> ∀ q∈Pi.AW p,∃ m,X.π id=some (.blk q m))->((Wq t ops).map (λa=>(id::a.1,a.2))=some l)->FpA X l q:=fun {v id} hv hf e=>by
    obtain ⟨p,hp,hvr⟩:=hd hv;rw [hp] at hq;obtain ⟨l',hl',rfl⟩:=Pi.AL e;rcases List.mem_append.1 hq with hq | hq
    ·obtain ⟨m,hm⟩:=hf p hvr q hq;exact .inl ⟨id,by simp,m,hm⟩
    ·rcases GT ht hl' q hq with ⟨j,hj,m,hm⟩ | hq
     ·exact .inl ⟨j,by simp [hj],m,hm⟩
     ·exact .inr hq
   have two : ∀ {v:V},t.get k=some v->(∀ p,VR X v p -> ∀ q∈Pi.AW p,X.Q q /\ ∃ es ex fz,X.h.get q=some (.row es ex fz))->((Wq t ops).map (λa=>(a.1,true))=some l)->FpA X l q:=fun {v} hv hf e=>by
    obtain ⟨p,hp,hvr⟩:=hd hv;rw [hp] at hq;obtain ⟨l',hl',rfl⟩:=Pi.AL e;rcases List.mem_append.1 hq with hq | hq
    ·exact .inr ⟨rfl,hf p hvr q hq⟩
    ·rcases GT ht hl' q hq with h | hq
     ·exact .inl h
     ·exact .inr ⟨rfl,hq.2⟩
   split at e
   ·rename_i id hv;refine one hv (λp hvr q hq => ?_) e;simp only [VR] at hvr;cases hp:X.π id with
    | none=>rw [hp] at hvr;exact hvr.elim
    | some a =>
     rw [hp] at hvr;cases a with
     | blk pid len=>simp only at hvr;subst hvr;simp only [Pi.AW,List.mem_singleton] at hq;subst hq;exact ⟨_,rfl⟩
     | nil=>simp only at hvr;subst hvr;simp [Pi.AW] at hq
     | fz es=>simp only at hvr;subst hvr;simp [Pi.AW] at hq
   ·rename_i id off len hv;refine one hv (λp hvr q hq => ?_) e;simp only [VR] at hvr;obtain ⟨pid,m,h1,rfl⟩:=hvr;simp only [Pi.AW,List.mem_singleton] at hq;subst hq;exact ⟨_,h1⟩
   ·rename_i id off hv;refine one hv (λp hvr q hq => ?_) e;simp only [VR] at hvr;obtain ⟨pid,m,h1,rfl⟩:=hvr;simp only [Pi.AW,List.mem_singleton] at hq;subst hq;exact ⟨_,h1⟩
   ·rename_i id i off hv;refine one hv (λp hvr q hq => ?_) e;simp only [VR] at hvr;obtain ⟨pid,m,h1,rfl⟩:=hvr;simp only [Pi.AW,List.mem_singleton] at hq;subst hq;exact ⟨_,h1⟩
   ·rename_i id hv;refine one hv (λp hvr q hq => ?_) e;simp only [VR] at hvr;obtain ⟨pid,m,h1,rfl⟩:=hvr;simp only [Pi.AW,List.mem_singleton] at hq;subst hq;exact ⟨_,h1⟩
   ·rename_i f g c l0 hv;refine two hv (λp hvr q hq => ?_) e;simp only [VR] at hvr;rcases hvr with ⟨h1,_⟩ | ⟨f,es,h1,_⟩ | ⟨pid,off,len,es,ex,fz,h1,h0,h2,h3,_⟩
    ·subst h1;simp [Pi.AW] at hq
    ·subst h1;simp [Pi.AW] at hq
    ·subst h1;simp only [Pi.AW,List.mem_singleton] at hq;subst hq;exact ⟨h2,_,_,_,h3⟩
   ·rename_i cs hv;refine two hv (λp hvr q hq => ?_) e;simp only [VR] at hvr;rcases hvr with ⟨ps,rfl,_⟩ | ⟨pid,i,off,es,ex,fz,e,rfl,h2,h3,_⟩
    ·simp [Pi.AW] at hq
    ·simp only [Pi.AW,List.mem_singleton] at hq;subst hq;exact ⟨h2,_,_,_,h3⟩
   ·rename_i v n1 n2 n3 n4 n5 n6 n7 hv;obtain ⟨p,hp,hvr⟩:=hd hv;rw [hp] at hq;rcases List.mem_append.1 hq with hq | hq
    ·exfalso;cases v with
     | ow id=>exact n1 _ rfl
     | own id off len=>exact n2 _ _ _ rfl
     | ptr id off=>exact n3 _ _ rfl
     | ept id i off=>exact n4 _ _ _ rfl
     | mp id=>exact n5 _ rfl
     | lf full g c l=>exact n6 _ _ _ _ rfl
     | view cs=>exact n7 _ rfl
     | pl g c l=>simp only [VR] at hvr;rcases hvr with ⟨rfl,_⟩ | ⟨_,_,rfl,_⟩<;>simp [Pi.AW] at hq
     | pv cs=>simp only [VR] at hvr;obtain ⟨_,rfl,_⟩:=hvr;simp [Pi.AW] at hq
     | exl f es=>simp only [VR] at hvr;obtain ⟨_,_,rfl,_⟩:=hvr;simp [Pi.AW] at hq
     | agg cs=>simp only [VR] at hvr;obtain ⟨_,rfl,_⟩:=hvr;simp [Pi.AW] at hq
     | tup cs=>simp only [VR] at hvr;obtain ⟨_,rfl,_⟩:=hvr;simp [Pi.AW] at hq
     | fn f a b=>simp only [VR] at hvr;obtain ⟨_,_,rfl,_⟩:=hvr;simp [Pi.AW] at hq
     | yl id=>simp only [VR] at hvr;obtain ⟨_,_,_,rfl⟩:=hvr;simp [Pi.AW] at hq
     | ifc t v=>simp only [VR] at hvr;obtain ⟨_,rfl,_⟩:=hvr;simp [Pi.AW] at hq
     | _=>simp only [VR] at hvr;subst hvr;simp [Pi.AW] at hq
    ·exact GT ht e q hq
   ·cases e
  | const v =>
   have e':Wq t ops=some l:=e;split at hq
   ·rename_i p hp;rcases List.mem_append.1 hq with hq | hq
    ·rw [LA hp] at hq;cases hq
    ·exact GT ht e' q hq
   ·exact GT ht e' q hq
  | func f =>
   have e':Wq t ops=some l:=e;split at hq
   ·rename_i p hp;rcases List.mem_append.1 hq with hq | hq
    ·simp only [Pi.GI,Option.some.injEq] at hp;subst hp;simp [Pi.AW] at hq
    ·exact GT ht e' q hq
   ·exact GT ht e' q hq
  | global g =>
   have e':Wq t ops=some l:=e;split at hq
   ·rename_i p hp;cases hp
   ·exact GT ht e' q hq
theorem Mm {t:T PV} {q:Nat} {b:List Operand} : ∀ {a:List Operand},q∈Pi.De t a->q∈Pi.De t (a++b)
 | [],h=>by simp [Pi.De] at h
 | o::a,h=>by
  simp only [List.cons_append,Pi.De] at h ⊢;split at h
  ·rename_i p hp
   try rw [hp]
   try simp only
   rcases List.mem_append.1 h with h | h
   ·exact List.mem_append_left _ h
   ·exact List.mem_append_right _ (Mm h)
  ·rename_i hp
   try rw [hp]
   exact Mm h
theorem OX {f:PV->Option (PV×List Nat)} : ∀ {a b:List PV} {qs:List PV} {ids:List Nat},AM f (a++b)=some (qs,ids) -> ∃ q1 i1 q2 i2,AM f a=some (q1,i1)/\AM f b=some (q2,i2)/\ids=i1++i2
 | [],b,qs,ids,h=>⟨[],[],qs,ids,rfl,h,rfl⟩
 | p::a,b,qs,ids,h=>by
  simp only [List.cons_append,AM] at h;split at h
  ·rename_i q l qs' l' h1 h2;cases h;obtain ⟨q1,i1,q2,i2,k1,k2,rfl⟩:=OX h2;exact ⟨q::q1,l++i1,q2,i2,by simp only [AM,h1,k1],k2,by simp⟩
  ·cases h
theorem Ip {f:PV->Option (PV×List Nat)} {p:PV} {qs:List PV} {ids:List Nat} (h:AM f [p]=some (qs,ids)) : ∃ q,f p=some (q,ids):=by
 simp only [AM] at h;split at h
 ·rename_i q l qs' l' h1 h2;cases h2;cases h;exact ⟨q,by rw [h1];simp⟩
 ·cases h
theorem Mn {f:PV->Option (PV×List Nat)} {p q:PV} {ids:List Nat} (h:f p=some (q,ids)):AM f [p]=some ([q],ids):=by
 simp only [AM,h,List.append_nil]
theorem Iq {f:PV->Option (PV×List Nat)} {T:Nat->Prop} : ∀ {es:List PV},(∀ e∈es,∀ q l,f e=some (q,l) -> ∀ i∈l,T i) -> ∀ {qs:List PV} {ids:List Nat},AM f es=some (qs,ids) -> ∀ i∈ids,T i
 | [],_,qs,ids,h,i,hi=>by cases h;cases hi
 | e::es,hf,qs,ids,h,i,hi=>by
  simp only [AM] at h;split at h
  ·rename_i q l qs' l' h1 h2;cases h;rcases List.mem_append.1 hi with hi | hi
   ·exact hf e (by simp) _ _ h1 i hi
   ·exact Iq (λe he=>hf e (by simp [he])) h2 i hi
  ·cases h
theorem US {α:Type} {R:α->PV->Prop} {l:List α} {es:List PV} (h:L2 R l es) : ∀ e∈es,∃ y,R y e:=by
 induction h with
 | nil=>intro e he;cases he
 | cons a _ ih =>
  intro e he;rcases List.mem_cons.1 he with rfl | he
  ·exact ⟨_,a⟩
  ·exact ih e he
def ZP (hh:Hp) (Q:Nat->Prop) (i:Nat):Prop:=Q i /\ ∃ es ex fz,hh.get i=some (.row es ex fz)
theorem LC {hh:Hp} {Q:Nat->Prop} : ∀ {c:Ty} {x:c.den} {ps:List PV},DR hh Q c x ps -> ∀ {d:Nat} {qs:List PV} {ids:List Nat},AM (BO hh d) ps=some (qs,ids) -> ∀ i∈ids,ZP hh Q i
 | .int _,_,_,e,d,qs,ids,h,i,hi=>by
  subst e;obtain ⟨q,h⟩:=Ip h;cases d<;>cases h;cases hi
 | .bool,_,_,e,d,qs,ids,h,i,hi=>by
  subst e;obtain ⟨q,h⟩:=Ip h;cases d<;>cases h;cases hi
 | .str,_,_,e,d,qs,ids,h,i,hi=>by
  subst e;obtain ⟨q,h⟩:=Ip h;cases d<;>cases h;cases hi
 | .unit,_,_,e,d,qs,ids,h,i,hi=>by subst e;cases h;cases hi
 | .pair a b,_,_,⟨p,q,e,h1,h2⟩,d,qs,ids,h,i,hi=>by
  subst e;obtain ⟨q1,i1,q2,i2,k1,k2,rfl⟩:=OX h;rcases List.mem_append.1 hi with hi | hi
  ·exact LC h1 k1 i hi
  ·exact LC h2 k2 i hi
 | .sl g c,_,_,⟨p,e,hp⟩,d,qs,ids,h,i,hi=>by
  subst e;obtain ⟨q,h⟩:=Ip h;rcases hp with ⟨rfl,_⟩ | ⟨f,es,rfl,_⟩ | ⟨pid,off,len,es,ex,fz,rfl,h2,h3,_,_,h5⟩
  ·cases d<;>cases h;cases hi
  ·cases d<;>cases h;cases hi
  ·cases d with
   | zero=>cases h
   | succ d =>
    simp only [BO,h3] at h;replace h:=A3 h;obtain ⟨_,h⟩:=h;obtain ⟨⟨xs,l⟩,hm,hr⟩:=Pi.AL h;cases hr;rcases List.mem_cons.1 hi with rfl | hi
    ·exact ⟨h2,es,ex,fz,h3⟩
    ·refine Iq (λe he q l hq j hj => ?_) hm i hi;obtain ⟨y,hE⟩:=US h5 e he;cases g with
     | true =>
      obtain ⟨cs,rfl,hD⟩:=hE;cases d with
      | zero=>cases hq
      | succ d =>
       rw [Ii] at hq;obtain ⟨⟨ys,l'⟩,hm',hr'⟩:=Pi.AL hq;cases hr';exact LC hD hm' j hj
     | false=>exact LC (show DR hh Q c y [e] from hE) (Mn hq) j hj
theorem ZQ {hh:Hp} {Q:Nat->Prop} {g:Bool} {c:Ty} {y:c.den} {e q:PV} {d:Nat} {l:List Nat} (hE:EP g (DR hh Q c) y e) (hq:BO hh d e=some (q,l)) : ∀ j∈l,ZP hh Q j:=by
 intro j hj;cases g with
 | true =>
  obtain ⟨cs,rfl,hD⟩:=hE;cases d with
  | zero=>cases hq
  | succ d =>
   rw [Ii] at hq;obtain ⟨⟨ys,l'⟩,hm',hr'⟩:=Pi.AL hq;cases hr';exact LC hD hm' j hj
 | false=>exact LC (show DR hh Q c y [e] from hE) (Mn hq) j hj
theorem UT {X:Cx} {f:V->Option (List Nat×Bool)} {d:Nat} (hf : ∀ {v:V} {p:PV} {l:List Nat×Bool},VR X v p->f v=some l -> ∀ {q:PV} {ids:List Nat},BO X.h d p=some (q,ids) -> ∀ i∈ids,FpA X l i) :
  ∀ {vs:List V} {ps:List PV} {l:List Nat×Bool},VRL X vs ps->jV f vs=some l -> ∀ {qs:List PV} {ids:List Nat},AM (BO X.h d) ps=some (qs,ids) -> ∀ i∈ids,FpA X l i
 | [],ps,l,hv,e,qs,ids,h,i,hi=>by rw [hv.nil_inv] at h;cases h;cases hi
 | v::vs,ps,l,hv,e,qs,ids,h,i,hi=>by
  obtain ⟨p,ps',rfl,h1,h2⟩:=hv.cons_inv;unfold jV at e;split at e
  ·rename_i a b ha hb;cases e;simp only [AM] at h;split at h
   ·rename_i q l qs' l' k1 k2;cases h;rcases List.mem_append.1 hi with hi | hi
    ·rcases hf h1 ha k1 i hi with ⟨j,hj,m,hm⟩ | ⟨hj,hq⟩
     ·exact .inl ⟨j,List.mem_append_left _ hj,m,hm⟩
     ·exact .inr ⟨by simp [hj],hq⟩
    ·rcases UT hf h2 hb k2 i hi with ⟨j,hj,m,hm⟩ | ⟨hj,hq⟩
     ·exact .inl ⟨j,List.mem_append_right _ hj,m,hm⟩
     ·exact .inr ⟨by simp [hj],hq⟩
   ·cases h
  ·cases e
theorem RN {hh:Hp} {Q:Nat->Prop} : ∀ {c:Ty} {x:c.den} {ps:List PV},c.hasSl=false->DR hh Q c x ps->DR hh (λ_=>False) c x ps
 | .int _,_,_,_,h=>h
 | .bool,_,_,_,h=>h
 | .str,_,_,_,h=>h
 | .unit,_,_,_,h=>h
 | .pair a b,_,_,hs,⟨p,q,e,h1,h2⟩=>by
  simp only [Ty.hasSl,Bool.or_eq_false_iff] at hs;exact ⟨p,q,e,RN hs.1 h1,RN hs.2 h2⟩
 | .sl g c,_,_,hs,_=>by cases hs
theorem ZR {hh:Hp} {Q:Nat->Prop} {g:Bool} {c:Ty} {y:c.den} {e q:PV} {d:Nat} {l:List Nat} (hs:c.hasSl=false) (hE:EP g (DR hh Q c) y e) (hq:BO hh d e=some (q,l)) : ∀ j∈l,False:=by
 intro j hj
 have hE2:EP g (DR hh (λ_=>False) c) y e:=by
  cases g with
  | true=>obtain ⟨cs,rfl,hD⟩:=hE;exact ⟨cs,rfl,RN hs hD⟩
  | false=>exact RN hs hE
 exact (ZQ hE2 hq j hj).1
theorem P7 {X:Cx} {h:H} {n:Nat} (r:RH X h n) {id off len pid m d:Nat} {q:PV} {ids:List Nat} (hp:X.π id=some (.blk pid m)) (hl:Ll h id=true) (hq:BO X.h d (.own pid off len)=some (q,ids)) : ∀ i∈ids,FpA X ([id],Yt h id) i:=by
 intro i hi;obtain ⟨b,hb,hlv⟩:=Mj hl;have hB:=r.blk _ _ hb;rw [hp] at hB;cases d with
 | zero=>cases hq
 | succ d =>
  simp only [BO] at hq;split at hq
  ·rename_i es ex fz hrow;replace hq:=A3 hq;obtain ⟨_,hq⟩:=hq;obtain ⟨⟨xs,l⟩,hm,hr⟩:=Pi.AL hq;cases hr;rcases List.mem_cons.1 hi with rfl | hi
   ·exact .inl ⟨id,by simp,m,hp⟩
   ·cases b with
    | row g c l ex2 fz2 lk =>
     rcases hB with ⟨pid',len',es',fz',h1,h2,h3,h4,h5,h7,h6⟩ | ⟨h1,_⟩ | ⟨_,h1,_⟩
     ·cases h1;rw [hrow] at h3;cases h3;cases hs:c.hasSl with
      | true =>
       refine .inr ⟨by unfold Yt;rw [hb];exact hs,Iq (T:=ZP X.h X.Q) (λe he q' l' hq' j hj => ?_) hm i hi⟩;obtain ⟨y,hE⟩:=US h6 e (List.mem_of_mem_drop (List.mem_of_mem_take he));exact ZQ hE hq' j hj
      | false =>
       exact (Iq (T:=λ_=>False) (λe he q' l' hq' j hj=>by
        obtain ⟨y,hE⟩:=US h6 e (List.mem_of_mem_drop (List.mem_of_mem_take he))
        exact ZR hs hE hq' j hj) hm i hi).elim
     ·cases h1
     ·cases h1
    | box cs fz lk=>obtain ⟨_,_,_,_,h1,_,h3,_⟩:=hB;cases h1;rw [hrow] at h3;cases h3
    | mp kk g c l lk=>obtain ⟨_,_,_,h1,_,h3,_⟩:=hB;cases h1;rw [hrow] at h3;cases h3
    | lp st pend nt t ps asg body d=>obtain ⟨_,_,_,_,_,h1,_,h3,_⟩:=hB;cases h1;rw [hrow] at h3;cases h3
    | df ds=>obtain ⟨_,_,_,h1,_,h3,_⟩:=hB;cases h1;rw [hrow] at h3;cases h3
    | dead=>exact hlv.elim
  ·cases hq
theorem UU {X:Cx} {h:H} {n0:Nat} (r:RH X h n0) : ∀ {n:Nat} {v:V} {p:PV} {l:List Nat×Bool},VR X v p->lD h n v=some l -> ∀ {d:Nat} {q:PV} {ids:List Nat},BO X.h d p=some (q,ids) -> ∀ i∈ids,FpA X l i
 | 0,_,_,_,_,e,_,_,_,_,_,_=>by cases e
 | n+1,v,p,l,hv,e,d,q,ids,hp,i,hi=>by
  cases v with
  | bool b=>simp only [VR] at hv;subst hv;cases d<;>cases hp;cases hi
  | int k b=>simp only [VR] at hv;subst hv;cases d<;>cases hp;cases hi
  | str b=>simp only [VR] at hv;subst hv;cases d<;>cases hp;cases hi
  | nils=>simp only [VR] at hv;subst hv;cases d<;>cases hp;cases hi
  | pl g c l=>simp only [VR] at hv;rcases hv with ⟨rfl,_⟩ | ⟨_,_,rfl,_⟩<;>cases d<;>cases hp<;>cases hi
  | exl f es=>simp only [VR] at hv;obtain ⟨_,_,rfl,_⟩:=hv;cases d<;>cases hp;cases hi
  | lf f g c ll =>
   cases e
   have hcs:DR X.h X.Q (.sl g c) ll [p]:=by
    simp only [VR] at hv;refine ⟨p,rfl,?_⟩;rcases hv with h | ⟨f,es,h1,_,h2⟩ | ⟨pid,off,len,es,ex,fz,h1,_,h2,h3,h4,h8,h5⟩
    ·exact .inl h
    ·exact .inr (.inl ⟨f,es,h1,h2⟩)
    ·exact .inr (.inr ⟨pid,off,len,es,ex,fz,h1,h2,h3,h4,h8,h5⟩)
   obtain ⟨h1,h2⟩:=LC hcs (Mn hp) i hi;exact .inr ⟨rfl,h1,h2⟩
  | ow id =>
   replace e:=A3 e;obtain ⟨hlv,e⟩:=e;cases e;simp only [VR] at hv;cases hpi:X.π id with
   | none=>rw [hpi] at hv;exact hv.elim
   | some a =>
    rw [hpi] at hv;cases a with
    | blk pid len=>simp only at hv;subst hv;exact P7 r hpi hlv hp i hi
    | nil=>simp only at hv;subst hv;cases d<;>cases hp;cases hi
    | fz es=>simp only at hv;subst hv;cases d<;>cases hp;cases hi
  | own id off len =>
   replace e:=A3 e;obtain ⟨hlv,e⟩:=e;cases e;simp only [VR] at hv;obtain ⟨pid,m,h1,rfl⟩:=hv;exact P7 r h1 hlv hp i hi
  | agg cs =>
   obtain ⟨ps,rfl,hv'⟩:=hv.agg_inv;cases d with
   | zero=>cases hp
   | succ d =>
    rw [Ii] at hp;obtain ⟨⟨ys,l'⟩,hm',hr'⟩:=Pi.AL hp;cases hr';exact UT (fun {v p l} hv e {q ids} hp i hi=>UU r hv e hp i hi) hv' e hm' i hi
  | _=>cases e
theorem UV {v:Value} {p q:PV} {hh:Hp} {d:Nat} {ids:List Nat} (e:Pi.Gr v=some p) (h:BO hh d p=some (q,ids)):ids=[]:=by
 cases d with
 | zero=>cases h
 | succ d=>rw [K9 e] at h;cases h;rfl
theorem W6 {v:Value} {p q:PV} {hh:Hp} {ids:List Nat} (e:Pi.H6 v=some p) (h:BO hh Pi.BI p=some (q,ids)):ids=[]:=by
 unfold Pi.H6 at e;split at e
 ·obtain ⟨x,hx,rfl⟩:=Pi.AL e;rw [show Pi.BI=11+1 from rfl,Ii,Jc hx 10] at h;cases h;rfl
 ·replace e:=A3 e;cases e.2;cases h;rfl
 ·split at e
  ·rename_i p' hp';cases e;rw [show Pi.BI=11+1 from rfl,Q7,K9 hp' 10] at h;cases h;rfl
  ·cases e
 ·exact UV e h
theorem FpA.left {X:Cx} {a b:List Nat×Bool} {q:Nat} (h:FpA X a q):FpA X (a.1++b.1,a.2||b.2) q:=by
 rcases h with ⟨j,hj,m,hm⟩ | ⟨hj,hq⟩
 ·exact .inl ⟨j,List.mem_append_left _ hj,m,hm⟩
 ·exact .inr ⟨by simp [hj],hq⟩
theorem FpA.right {X:Cx} {a b:List Nat×Bool} {q:Nat} (h:FpA X b q):FpA X (a.1++b.1,a.2||b.2) q:=by
 rcases h with ⟨j,hj,m,hm⟩ | ⟨hj,hq⟩
 ·exact .inl ⟨j,List.mem_append_right _ hj,m,hm⟩
 ·exact .inr ⟨by simp [hj],hq⟩
theorem H3 {X:Cx} {h:H} {n0:Nat} (r:RH X h n0) {t:T V} {tP:T PV} (ht:TR X t tP) : ∀ {ops:List Operand} {l:List Nat×Bool},fG h t ops=some l -> ∀ q∈Pi.I7 tP X.h ops,FpA X l q
 | [],_,_,q,hq=>by simp [Pi.I7] at hq
 | o::ops,l,e,q,hq=>by
  unfold Pi.I7 at hq;cases o with
  | tmp k =>
   unfold fG at e;split at e
   ·rename_i v hv;split at e
    ·rename_i a b ha hb;cases e;obtain ⟨p',hp',hvr⟩:=ht _ _ hv;have hev:Pi.GI tP (.tmp k)=some p':=by simp only [Pi.GI,hp',Option.getD_some]
     rw [hev] at hq;simp only at hq;split at hq
     ·rename_i q' m hm;rcases List.mem_append.1 hq with hq | hq
      ·exact (UU r hvr ha hm q hq).left
      ·exact (H3 r ht hb q hq).right
     ·exact (H3 r ht hb q hq).right
    ·cases e
   ·cases e
  | const v =>
   have e':fG h t ops=some l:=e;split at hq
   ·rename_i p hp;split at hq
    ·rename_i q' m hm;rcases List.mem_append.1 hq with hq | hq
     ·rw [W6 hp hm] at hq;cases hq
     ·exact H3 r ht e' q hq
    ·exact H3 r ht e' q hq
   ·exact H3 r ht e' q hq
  | func f =>
   have e':fG h t ops=some l:=e;simp only [Pi.GI] at hq;split at hq
   ·rename_i q' m hm;rcases List.mem_append.1 hq with hq | hq
    ·have:m=[]:=by
      rw [show Pi.BI=11+1 from rfl,UB] at hm;simp only [AM,List.append_nil,Option.some.injEq,Prod.mk.injEq] at hm;exact hm.2.symm
     rw [this] at hq;cases hq
    ·exact H3 r ht e' q hq
   ·exact H3 r ht e' q hq
  | global g =>
   have e':fG h t ops=some l:=e;split at hq
   ·rename_i p hp;cases hp
   ·exact H3 r ht e' q hq
theorem Jf {X:Cx} {t:T V} {tP:T PV} (ht:TR X t tP) : ∀ {ops:List Operand} {l:List Nat×Bool},fH t ops=some l -> ∀ q∈Pi.HE tP ops,FpA X l q
 | [],_,_,q,hq=>by simp [Pi.HE] at hq
 | o::ops,l,e,q,hq=>by
  unfold Pi.HE at hq;cases o with
  | tmp k =>
   unfold fH at e;split at e
   ·rename_i id hv;obtain ⟨l',hl',rfl⟩:=Pi.AL e;obtain ⟨p',hp',hvr⟩:=ht _ _ hv;have hev:Pi.GI tP (.tmp k)=some p':=by simp only [Pi.GI,hp',Option.getD_some]
    rw [hev] at hq;simp only at hq;simp only [VR] at hvr;obtain ⟨pid,m,h1,rfl⟩:=hvr;rcases List.mem_append.1 hq with hq | hq
    ·simp only [Pi.LP,List.mem_singleton] at hq;subst hq;exact .inl ⟨id,by simp,m,h1⟩
    ·rcases Jf ht hl' q hq with ⟨j,hj,m,hm⟩ | hq
     ·exact .inl ⟨j,by simp [hj],m,hm⟩
     ·exact .inr hq
   ·rename_i v hne hv;obtain ⟨p',hp',hvr⟩:=ht _ _ hv;have hev:Pi.GI tP (.tmp k)=some p':=by simp only [Pi.GI,hp',Option.getD_some]
    rw [hev] at hq;simp only at hq;rcases List.mem_append.1 hq with hq | hq
    ·exfalso;cases p' with
     | mp pid =>
      cases v with
      | mp id=>exact hne _ rfl
      | ow id =>
       simp only [VR] at hvr;split at hvr
       ·cases hvr
       ·cases hvr
       ·cases hvr
       ·exact hvr
      | lf f g c l=>simp only [VR] at hvr;rcases hvr with ⟨h,_⟩ | ⟨_,_,h,_⟩ | ⟨_,_,_,_,_,_,h,_⟩<;>cases h
      | pl g c l=>simp only [VR] at hvr;rcases hvr with ⟨h,_⟩ | ⟨_,_,h,_⟩<;>cases h
      | view cs=>simp only [VR] at hvr;rcases hvr with ⟨_,h,_⟩ | ⟨_,_,_,_,_,_,_,h,_⟩<;>cases h
      | exl f es=>simp only [VR] at hvr;obtain ⟨_,_,h,_⟩:=hvr;cases h
      | agg cs=>simp only [VR] at hvr;obtain ⟨_,h,_⟩:=hvr;cases h
      | tup cs=>simp only [VR] at hvr;obtain ⟨_,h,_⟩:=hvr;cases h
      | pv cs=>simp only [VR] at hvr;obtain ⟨_,h,_⟩:=hvr;cases h
      | fn f a b=>simp only [VR] at hvr;obtain ⟨_,_,h,_⟩:=hvr;cases h
      | yl id=>simp only [VR] at hvr;obtain ⟨_,_,_,h⟩:=hvr;cases h
      | ifc t v=>simp only [VR] at hvr;obtain ⟨_,h,_⟩:=hvr;cases h
      | own a b c=>simp only [VR] at hvr;obtain ⟨_,_,_,h⟩:=hvr;cases h
      | ptr a b=>simp only [VR] at hvr;obtain ⟨_,_,_,h⟩:=hvr;cases h
      | ept a b c=>simp only [VR] at hvr;obtain ⟨_,_,_,h⟩:=hvr;cases h
      | _=>simp only [VR] at hvr;cases hvr
     | _=>simp [Pi.LP] at hq
    ·exact Jf ht e q hq
   ·cases e
  | const v =>
   have e':fH t ops=some l:=e;split at hq
   ·rename_i p hp;rcases List.mem_append.1 hq with hq | hq
    ·have:=LA hp;cases p<;>first | (simp [Pi.LP] at hq;done) | (simp [Pi.AW] at this)
    ·exact Jf ht e' q hq
   ·exact Jf ht e' q hq
  | func f =>
   have e':fH t ops=some l:=e;split at hq
   ·rename_i p hp;rcases List.mem_append.1 hq with hq | hq
    ·simp only [Pi.GI,Option.some.injEq] at hp;subst hp;simp [Pi.LP] at hq
    ·exact Jf ht e' q hq
   ·exact Jf ht e' q hq
  | global g =>
   have e':fH t ops=some l:=e;split at hq
   ·rename_i p hp;cases hp
   ·exact Jf ht e' q hq
theorem gk {X:Cx} {h:H} {n:Nat} (r:RH X h n) {t:T V} {tP:T PV} (ht:TR X t tP) {o:Op} (own:Nat):W5 X own (fp h t o) (own::Pi.B9 tP X.h o):=by
 intro l hl q hq;rcases List.mem_cons.1 hq with hq | hq
 ·exact .inl hq
 refine .inr ?_;unfold fp at hl;cases o with
 | load _ _=>exact GT ht hl q hq
 | indexAddr _ _ _=>exact GT ht hl q hq
 | store _ _ _=>exact GT ht hl q hq
 | buildSlice _ _ parts=>exact H3 r ht hl q hq
 | slice ty x lo hi mx =>
  cases mx with
  | some _=>exact H3 r ht hl q (by simpa [Pi.B9] using hq)
  | none =>
   refine GT ht hl q ?_;simp only [Pi.B9,Option.isSome_none,cond_false] at hq;exact Mm (a:=[x]) hq
 | call c =>
  simp only [Pi.B9] at hq;simp only at hl;split at hq
  ·rename_i b hb;simp only [hb] at hl;cases b<;>first | exact Jf ht hl q hq | exact GT ht hl q hq | cases hl
  ·cases hq
 | alloc _=>simp [Pi.B9] at hq
 | box _ _=>simp [Pi.B9] at hq
 | makeSlice _ _ _=>simp [Pi.B9] at hq
 | makeMap _ r=>simp [Pi.B9] at hq
 | _=>cases hl
theorem fe {t:T PV} {h h1:Hp} {id:Nat} {o:Oper} {v:PV} (hid:h.get id=none) (hdr:Pi.CA o.op=true) (hc:A2 o.op=2\/A2 o.op=4) (e:Pi.A0 P t h id o=some (.val v h1)):h1.get id=none\/Pi.AW v=[id]:=by
 unfold Pi.A0 at e;generalize o.op=op at hdr hc e
 have nw : ∀ {b:Blk} {h:Hp} {v':PV},Pi.AW v'=[id]->(h.new id b).map (λh=>Pi.R.val v' h)=some (.val v h1)->h1.get id=none\/Pi.AW v=[id]:=λhv e=>by
  obtain ⟨h3,hn,hr⟩:=Pi.AL e;cases hr;exact .inr hv
 have fr : ∀ {L:List Nat} {v':PV},(Pi.freeze h L).map (λh=>Pi.R.val v' h)=some (.val v h1)->h1.get id=none\/Pi.AW v=[id]:=λe=>by
  obtain ⟨h3,hn,hr⟩:=Pi.AL e;cases hr;exact .inl ((Io hn id).1 hid)
 have st : ∀ {j:Nat} {b b0:Blk} {v':PV},h.get j=some b0->(h.set j b).map (λh=>Pi.R.val v' h)=some (.val v h1)->h1.get id=none\/Pi.AW v=[id]:=λhj e=>by
  obtain ⟨h3,hn,hr⟩:=Pi.AL e;cases hr;refine .inl ?_;rw [(Hp.get_set hn).1,if_neg (λhh=>by rw [hh,hj] at hid;cases hid)];exact hid
 cases op with
 | alloc _ =>
  simp only at e;unfold Pi.Gb at e;split at e
  ·exact nw rfl e
  ·cases e
 | box _ x =>
  obtain ⟨p,_,e⟩:=Pi.BZ e;unfold Pi.KX at e;split at e
  ·cases e
  ·exact nw rfl e
 | makeMap ty rs =>
  cases rs with
  | none=>exact nw rfl e
  | some _=>cases e
 | makeSlice _ x y =>
  obtain ⟨p,q,_,_,e⟩:=Pi.Fm e;unfold Pi.Gs at e;simp only [Bool.cond_eq_ite] at e
  repeat' split at e
  all_goals first | (cases e;done) | exact nw rfl e
 | buildSlice ty n ps =>
  simp only at e;split at e
  ·unfold Pi.Bi at e;simp only [Bool.cond_eq_ite] at e
   repeat' split at e
   all_goals first | (cases e;done) | exact fr e
  ·cases e
 | slice ty x lo hi mx =>
  simp only at e;split at e
  ·obtain ⟨p,_,e⟩:=Pi.BZ e;unfold Pi.Bq Pi.Ha at e;simp only [Bool.cond_eq_ite] at e
   repeat' split at e
   all_goals first | (cases e;done) | exact fr e | (cases e;exact .inl hid)
  ·cases e
 | call c =>
  simp only at e;split at e
  ·cases hcal:c.callee with
   | builtin b =>
    simp only [A2,hcal] at hc;simp only [hcal] at e;cases b with
    | append =>
     simp only [Pi.Af,Bool.cond_eq_ite] at e;split at e
     ·split at e
      ·unfold Pi.JD at e;simp only [Bool.cond_eq_ite] at e
       repeat' split at e
       all_goals first | (cases e;done) | exact nw rfl e | (cases e;exact .inl hid) | (refine st (b0 := ?_) ?_ e;rotate_left;assumption)
      ·cases e
     ·cases e
    | copy =>
     simp only [Pi.Af,Bool.cond_eq_ite] at e
     repeat' split at e
     all_goals first | (cases e;done) | (refine st (b0 := ?_) ?_ e;rotate_left;assumption)
    | _=>simp at hc
   | value f=>simp [A2,hcal] at hc
   | invoke a b=>simp [A2,hcal] at hc
  ·cases e
 | _=>simp [A2] at hc
theorem Sf {X:Cx} {v:V} {p:PV} (hv:VR X v p) {own:Nat} {f:Option (List Nat×Bool)} {rd:List Nat} (hn:X.h.get own=none\/Pi.AW p=[own]) (hf:W5 X own f rd):FpP X own (SG v f) rd:=by
 intro l hl q hq;cases f with
 | none=>cases hl
 | some a =>
  have old : ∀ {b:Bool} {ids:List Nat},(a.2=true->b=true)->(∀ j∈a.1,j∈ids)->FpA X a q->FpA X (ids,b) q:=λhb hi h=>by
   rcases h with ⟨j,hj,m,hm⟩ | ⟨hj,hq⟩
   ·exact .inl ⟨j,hi j hj,m,hm⟩
   ·exact .inr ⟨hb hj,hq⟩
  have hsub : ∀ x,FpA X a x->FpA X l x:=λx h=>by
   have old : ∀ {b:Bool} {ids:List Nat},(a.2=true->b=true)->(∀ j∈a.1,j∈ids)->FpA X (ids,b) x:=λhb hi=>by
    rcases h with ⟨j,hj,m,hm⟩ | ⟨hj,hq⟩
    ·exact .inl ⟨j,hi j hj,m,hm⟩
    ·exact .inr ⟨hb hj,hq⟩
   unfold SG at hl;simp only at hl;split at hl<;>cases hl<;>first | exact h | exact old (λh=>h) (λj hj=>List.mem_cons_of_mem _ hj) | exact old (λ_=>rfl) (λj hj=>hj)
  rcases hf a rfl q hq with rfl | h
  ·rcases hn with hn | hn
   ·exact .inl ⟨rfl,hn⟩
   ·refine .inr ?_;unfold SG at hl;simp only at hl;split at hl
    ·rename_i id;cases hl;simp only [VR] at hv;cases hpi:X.π id with
     | none=>rw [hpi] at hv;exact hv.elim
     | some b =>
      rw [hpi] at hv;cases b with
      | blk pid len=>simp only at hv;subst hv;simp only [Pi.AW,List.cons.injEq,and_true] at hn;subst hn;exact .inl ⟨id,by simp,len,hpi⟩
      | nil=>simp only at hv;subst hv;simp [Pi.AW] at hn
      | fz es=>simp only at hv;subst hv;simp [Pi.AW] at hn
    ·cases hl;simp only [VR] at hv;obtain ⟨pid,m,h1,rfl⟩:=hv;simp only [Pi.AW,List.cons.injEq,and_true] at hn;subst hn;exact .inl ⟨_,by simp,m,h1⟩
    ·cases hl;simp only [VR] at hv;obtain ⟨pid,m,h1,rfl⟩:=hv;simp only [Pi.AW,List.cons.injEq,and_true] at hn;subst hn;exact .inl ⟨_,by simp,m,h1⟩
    ·cases hl;simp only [VR] at hv;obtain ⟨pid,m,h1,rfl⟩:=hv;simp only [Pi.AW,List.cons.injEq,and_true] at hn;subst hn;exact .inl ⟨_,by simp,m,h1⟩
    ·cases hl;simp only [VR] at hv;obtain ⟨pid,m,h1,rfl⟩:=hv;simp only [Pi.AW,List.cons.injEq,and_true] at hn;subst hn;exact .inl ⟨_,by simp,m,h1⟩
    ·cases hl;simp only [VR] at hv;rcases hv with ⟨rfl,_⟩ | ⟨_,_,rfl,_⟩ | ⟨pid,off,len,es,ex,fz,rfl,_,h2,h3,_⟩
     ·simp [Pi.AW] at hn
     ·simp [Pi.AW] at hn
     ·simp only [Pi.AW,List.cons.injEq,and_true] at hn;subst hn;exact .inr ⟨rfl,h2,es,ex,fz,h3⟩
    ·cases hl;simp only [VR] at hv;rcases hv with ⟨_,rfl,_⟩ | ⟨pid,i,off,es,ex,fz,e,rfl,h2,h3,_⟩
     ·simp [Pi.AW] at hn
     ·simp only [Pi.AW,List.cons.injEq,and_true] at hn;subst hn;exact .inr ⟨rfl,h2,es,ex,fz,h3⟩
    ·rename_i n1 n2 n3 n4 n5 n6 n7;exfalso;cases v with
     | ow id=>exact n1 _ rfl
     | own id off len=>exact n2 _ _ _ rfl
     | ptr id off=>exact n3 _ _ rfl
     | ept id i off=>exact n4 _ _ _ rfl
     | mp id=>exact n5 _ rfl
     | lf f g c l=>exact n6 _ _ _ _ rfl
     | view cs=>exact n7 _ rfl
     | pl g c l=>simp only [VR] at hv;rcases hv with ⟨rfl,_⟩ | ⟨_,_,rfl,_⟩<;>simp [Pi.AW] at hn
     | pv cs=>simp only [VR] at hv;obtain ⟨_,rfl,_⟩:=hv;simp [Pi.AW] at hn
     | exl f es=>simp only [VR] at hv;obtain ⟨_,_,rfl,_⟩:=hv;simp [Pi.AW] at hn
     | agg cs=>simp only [VR] at hv;obtain ⟨_,rfl,_⟩:=hv;simp [Pi.AW] at hn
     | tup cs=>simp only [VR] at hv;obtain ⟨_,rfl,_⟩:=hv;simp [Pi.AW] at hn
     | fn f a b=>simp only [VR] at hv;obtain ⟨_,_,rfl,_⟩:=hv;simp [Pi.AW] at hn
     | yl id=>simp only [VR] at hv;obtain ⟨_,_,_,rfl⟩:=hv;simp [Pi.AW] at hn
     | ifc t v=>simp only [VR] at hv;obtain ⟨_,rfl,_⟩:=hv;simp [Pi.AW] at hn
     | _=>simp only [VR] at hv;subst hv;simp [Pi.AW] at hn
  ·exact .inr (hsub q h)
theorem KI {X:Cx} {h:H} {n0:Nat} (r:RH X h n0) {args:List V} {ps:List PV} (ha:VRL X args ps) {as:List PV} {lP:List Nat} (hp:By X.h ps=some (as,lP)) (own:Nat):W5 X own (Dg h args) (own::lP):=by
 intro l hl q hq;rcases List.mem_cons.1 hq with hq | hq
 ·exact .inl hq
 ·rw [Lw] at hp;exact .inr (UT (fun {v p l} hv e {q ids} hp i hi=>UU r hv e hp i hi) ha hl hp q hq)
theorem OY {h h1:Hp} {j q:Nat} {b b0:Blk} (hj:h.get j=some b0) (hq:h.get q=none) {r:Pi.R} (e:(h.set j b).map Pi.R.skip=some r) (hr:r = .skip h1):h1.get q=none:=by
 subst hr;obtain ⟨h2,e2,e3⟩:=Pi.AL e;cases e3;rw [(Hp.get_set e2).1,if_neg (λhh=>by rw [hh,hj] at hq;cases hq)];exact hq
theorem UW {h h1:Hp} {ty:TypeId} {p v:PV} {q:Nat} (hq:h.get q=none) (e:Pi.Dd P h ty p v=some (.skip h1)):h1.get q=none:=by
 unfold Pi.Dd at e;split at e
 ·replace e:=C4 e;obtain ⟨_,e⟩:=e;split at e
  ·split at e
   ·rename_i hg;replace e:=A3 e;exact OY hg hq e.2 rfl
   ·cases e
  ·split at e
   ·rename_i hg;split at e
    ·replace e:=A3 e;obtain ⟨_,e⟩:=e;split at e
     ·exact OY hg hq e rfl
     ·split at e
      ·replace e:=A3 e;obtain ⟨_,e⟩:=e;split at e
       ·cases e
       ·cases e
       ·exact OY hg hq e rfl
      ·cases e
    ·cases e
   ·cases e
  ·cases e
 ·cases e
theorem W7 {t:T PV} {h h1:Hp} {id q:Nat} {o:Oper} (hc:A2 o.op=3) (hq:h.get q=none) (e:Pi.A0 P t h id o=some (.skip h1)):h1.get q=none:=by
 unfold Pi.A0 at e;generalize o.op=op at hc e;cases op with
 | store ty a x =>
  simp only [Pi.e2] at e;split at e
  ·exact UW hq e
  ·cases e
 | slice _ _ _ _ mx=>cases mx<;>simp [A2] at hc
 | makeMap _ r=>cases r<;>simp [A2] at hc
 | call c =>
  simp only [A2] at hc;split at hc
  ·split at hc<;>cases hc
  ·cases hc
 | _=>simp [A2] at hc
theorem ff {β:Type} {x:β} {X:Cx} {t:T V} {tP:T PV} (ht:TR X t tP) {nt:Nat} (hnt:nt<1048575) {dst:Option Nat} {v:V} {p:PV} (hv:VR X v p) {K:T V->Option β} (e:NY t nt dst v K=some x) :
  ∃ t' tP',K t'=some x/\TR X t' tP'/\(∀ d,dst=some d->Nat.blt d nt=true/\tP'=T.put 20 tP d p)/\(dst=none->tP'=tP):=by
 unfold NY at e;split at e
 ·rename_i d;replace e:=A3 e;obtain ⟨hd,e⟩:=e;have hd':d<nt:=by simpa using hd
  exact ⟨_,_,e,ht.put (d:=d) (by omega) hv,λd' hd2=>(by cases hd2;exact ⟨hd,rfl⟩),λh=>(by cases h)⟩
 ·exact ⟨_,_,e,ht,λd hd=>(by cases hd),λ_=>rfl⟩
theorem DX.flat {hh:Hp} {Q Q':Nat->Prop} : ∀ {c:Ty} {y:c.den} {ps:List PV},c.hasSl=false->DX hh Q Q' c y ps->Pi.DI ps=true
 | .int _,_,_,_,e=>by subst e;rfl
 | .bool,_,_,_,e=>by subst e;rfl
 | .str,_,_,_,e=>by subst e;rfl
 | .unit,_,_,_,e=>by subst e;rfl
 | .pair a b,_,_,hs,⟨p,q,e,h1,h2⟩=>by
  subst e;simp only [Ty.hasSl,Bool.or_eq_false_iff] at hs;have f1:=DX.flat hs.1 h1;have f2:=DX.flat hs.2 h2;clear h1 h2
  induction p with
  | nil=>exact f2
  | cons a p ih =>
   simp only [Pi.DI,Bool.and_eq_true] at f1;simp only [List.cons_append,Pi.DI,f1.1,Bool.true_and];exact ih f1.2
 | .sl _ _,_,_,hs,_=>by cases hs
theorem Sh {hR:Hp} {l:List (Bool×Ty)} {y:AG l} {r:PV} (hs:E6 l=false) (h:PK hR l y r) : ∀ j a b,r ≠ .own j a b:=by
 intro j a b hr;subst hr
 match l,y,h with
 | [],y,⟨rs,h1,_⟩=>cases h1
 | [p],y,h =>
  have hs':p.2.hasSl=false:=by simpa [E6] using hs
  have h':EP p.1 (DX hR (λ_=>True) (λ_=>True) p.2) y (.own j a b):=h;cases hp:p.1 with
  | true=>rw [hp] at h';obtain ⟨cs,h1,_⟩:=h';cases h1
  | false =>
   rw [hp] at h';have:=DX.flat hs' (show DX hR _ _ p.2 y [.own j a b] from h');simp [Pi.DI,Pi.flat] at this
 | p::q::rr,y,⟨rs,h1,_⟩=>cases h1
theorem Kd {hR:Hp} {l:List (Bool×Ty)} {y:AG l} {r:PV} (hd:Gn l=true) (hs:E6 l=false) (h:PK hR l y r) : ∃ q,(∀ (id:Nat) (lP:List Nat) (hh:Hp),Pi.B8 id lP hh hR r=some (q,hh))/\fU l y q/\Pi.flat q=true:=by
 obtain ⟨q,ids,h1,h2⟩:=Vv hd h;have hf:=Pv hs h2;refine ⟨q,λid lP hh => ?_,h2,hf⟩;unfold Pi.B8;have no:=Sh hs h;split
 ·rename_i len qs ex hm;split at hm
  ·exact absurd rfl (no _ _ _)
  ·cases hm
 ·rw [h1];simp only [hf,cond_true]
theorem L3 {tP:T PV} {h h':Hp} {id:Nat} {o:Oper} (hc:Fp o.op=true):Pi.A0 P tP h id o=Pi.A0 P tP h' id o:=by
 unfold Pi.A0;generalize o.op=op at hc;cases op with
 | call c =>
  simp only;split
  ·cases hcal:c.callee with
   | builtin b=>simp [Fp,hcal] at hc
   | value f=>rfl
   | invoke a b=>rfl
  ·rfl
 | _=>cases hc
theorem RO {X:Cx} {h:H} {n idP:Nat} (r:RH X h n) {o:Oper} {tP:T PV} {f:FuncId} {sg:Sg} (TO:FnOK P tab f sg) (hcs:E6 sg.cod=false) {args:List V} {ps:List PV} (hdr:Pi.CA o.op=true) (hco:Fp o.op=true) (hev:Pi.A0 P tP X.h idP o=some (.call f ps)) {β:Type} {x:β} {K:V->H->Option β} (ha:VRL X args ps) (e:Hi h sg args K=some x) :
  ∃ v q rd,K v h=some x/\VR X v q/\(∀ a∈rd,a=idP\/X.h.get a≠none)/\W5 X idP (Dg h args) rd /\ ∃ N,∀ F m,N<=F->N<=m->Pi.CL P (Pi.EQ P (Bc tab) F m) tP X.h idP o=some (q,X.h,rd,[]):=by
 unfold Hi at e;replace e:=C4 e;obtain ⟨hd,e⟩:=e;simp only [Bool.or_eq_false_iff,Bool.not_eq_false'] at hd;obtain ⟨hd1,hd2⟩:=hd
 let Q:Nat->Prop:=λpid=>X.Q pid \/ ∃ id∈HH args,∃ m,X.π id=some (.blk pid m)
 replace e:=Ed (Q:=Q) r (λ_ h => .inl h) (λid pid m hi hp => .inr ⟨id,hi,m,hp⟩) ha e;obtain ⟨y,e,hdx⟩:=e;replace e:=AX e;obtain ⟨h',hfr,e⟩:=e;rw [hcs] at hfr;cases hfr;replace e:=KC e;obtain ⟨z,hz,e⟩:=e;obtain ⟨as,lP,hpl,hdp,hmet⟩:=II (λ_ h => .inl h) hd1 hdx;obtain ⟨rP,up,hR,⟨N,hN⟩,hres⟩:=TO y z hz as hdp;obtain ⟨q,hhb,hq,hfl⟩:=Kd hd2 hcs hres
 have hfoot:Pi.B9 tP X.h o.op=[]:=by
  generalize o.op=op at hco;cases op with
  | call c =>
   simp only [Pi.B9];cases hcal:c.callee with
   | builtin b=>simp [Fp,hcal] at hco
   | _=>rfl
  | _=>cases hco
 refine ⟨_,q,(idP::[])++lP,e,Lv hq,λa ha => ?_,KI r ha hpl idP,N,λF m hF hm => ?_⟩
 ·simp only [List.cons_append,List.nil_append,List.mem_cons] at ha;rcases ha with ha | ha
  ·exact .inl ha
  ·obtain ⟨_,es,ex,fz,hg⟩:=hmet a ha;exact .inr (by rw [hg];simp)
 ·unfold Pi.CL;have blt:Nat.blt idP (idP+1)=true:=by simp
  simp only [hdr,blt,Bool.not_true,Bool.or_self,cond_false,hfoot];rw [L3 (h':=X.h) hco,hev];simp only [hpl];have hpl2:By (X.h.cut (idP::lP)) ps=some (as,lP):=Jb (h:=X.h) (λx hx=>by rw [Pi.Hg,if_pos ⟨by simp [hx],by omega⟩]) hpl;unfold Pi.Cj;simp only [cond_false,hpl2];rw [show ({ m:=.lf,nx:=0 }:Hp)=Hk from rfl,hN F m hF hm];simp only [hhb,Option.map_some,hfl,cond_true]
theorem P8 {X:Cx} {h:H} {n:Nat} (r:RH X h n) : ∀ {dom:List (Bool×Ty)} {args:List V} {ps:List PV} {args2:List V} {js:List Nat},VRL X args ps->JT h dom args=some (args2,js) ->
  ∃ ps2,VRL X args2 ps2 /\ ∀ as lP2,By X.h ps2=some (as,lP2) -> ∃ lP,By X.h ps=some (Lx dom as,lP) /\ ∀ i∈lP,i∈lP2 \/ ∃ j∈js,∃ m,X.π j=some (.blk i m)/\X.h.get i≠none
 | [],args,ps,args2,js,hv,e=>by
  unfold JT at e;cases e;exact ⟨ps,hv,λas lP2 h=>⟨lP2,by unfold Lx;exact h,λi hi => .inl hi⟩⟩
 | p::l,[],ps,args2,js,hv,e=>by
  unfold JT at e;cases e;refine ⟨ps,hv,λas lP2 h=>⟨lP2,?_,λi hi => .inl hi⟩⟩;rw [hv.nil_inv] at h ⊢;cases h;rfl
 | p::l,v::vs,ps,args2,js,hv,e=>by
  obtain ⟨q,qs,rfl,h1,h2⟩:=hv.cons_inv;unfold JT at e;split at e
  ·rename_i a ha;obtain ⟨ps2,k1,k2⟩:=P8 r h2 (show JT h l vs=some (a.1,a.2) from ha);replace e:=E7 e;rcases e with ⟨hp,e⟩ | ⟨hp,e⟩
   ·split at e
    ·rename_i j off;split at e
     ·rename_i cs fz lk hg;replace e:=A3 e;obtain ⟨hoff,e⟩:=e;cases e;simp only [VR] at h1;obtain ⟨pid,n',hpi,rfl⟩:=h1;have hB:=r.blk _ _ hg;rw [hpi] at hB;obtain ⟨pid',n'',cP,fz',hb1,hb2,hb3,hb4,hb5⟩:=hB;cases hb1;have hlen:cs.length=cP.length:=hb5.length;refine ⟨.agg (cP.drop off)::ps2,.cons (by simp only [VR];exact ⟨_,rfl,hb5.drop off⟩) k1,λas lP2 hh => ?_⟩;unfold By at hh;split at hh
      ·rename_i q' a' qs' b' m1 m2;cases hh;obtain ⟨lP,m3,m4⟩:=k2 _ _ m2;rw [show Pi.BI=11+1 from rfl,Ii] at m1;obtain ⟨⟨ys,l'⟩,hm',hr'⟩:=Pi.AL m1;cases hr';refine ⟨(pid::a')++lP,?_,λi hi => ?_⟩
       ·unfold By
        have e1:BO X.h Pi.BI (.ptr pid off)=some (.view ys,pid::a'):=by
         rw [show Pi.BI=11+1 from rfl];unfold BO;simp only [hb3];rw [<- hlen,hoff];simp only [cond_true,hm',Option.map_some]
        rw [e1,m3];simp only [Lx,hp,cond_true,UF]
       ·rcases List.mem_append.1 hi with hi | hi
        ·rcases List.mem_cons.1 hi with rfl | hi
         ·exact .inr ⟨j,by simp,_,hpi,by rw [hb3];simp⟩
         ·exact .inl (List.mem_append_left _ hi)
        ·rcases m4 i hi with hi | ⟨j',hj',m,hm⟩
         ·exact .inl (List.mem_append_right _ hi)
         ·exact .inr ⟨j',List.mem_cons_of_mem _ hj',m,hm⟩
      ·cases hh
     ·cases e
    ·cases e
   ·cases e;refine ⟨q::ps2,.cons h1 k1,λas lP2 hh => ?_⟩;unfold By at hh;split at hh
    ·rename_i q' a' qs' b' m1 m2;cases hh;obtain ⟨lP,m3,m4⟩:=k2 _ _ m2;refine ⟨a'++lP,?_,λi hi => ?_⟩
     ·unfold By;rw [m1,m3];simp only [Lx,hp,cond_false]
     ·rcases List.mem_append.1 hi with hi | hi
      ·exact .inl (List.mem_append_left _ hi)
      ·rcases m4 i hi with hi | hi
       ·exact .inl (List.mem_append_right _ hi)
       ·exact .inr hi
    ·cases hh
  ·cases e
theorem ZS {X:Cx} {own:Nat} {js:List Nat} {f:Option (List Nat×Bool)} {rd lP:List Nat} (hf:W5 X own f rd) (h : ∀ i∈lP,i∈rd \/ ∃ j∈js,∃ m,X.π j=some (.blk i m)/\X.h.get i≠none):W5 X own (jW js f) lP:=by
 intro l hl q hq;obtain ⟨a,ha,rfl⟩:=Pi.AL hl;rcases h q hq with hq | ⟨j,hj,m,hm,_⟩
 ·rcases hf a ha q hq with h1 | ⟨j,hj,m,hm⟩ | h1
  ·exact .inl h1
  ·exact .inr (.inl ⟨j,List.mem_append_right _ hj,m,hm⟩)
  ·exact .inr (.inr h1)
 ·exact .inr (.inl ⟨j,List.mem_append_left _ hj,m,hm⟩)
theorem Si {X:Cx} {h:H} {n idP:Nat} (r:RH X h n) {o:Oper} {tP:T PV} {f:FuncId} {sg:Sg} (TO:FnP P tab f sg) (hcs:E6 sg.cod=false) {args:List V} {ps:List PV} (hdr:Pi.CA o.op=true) (hco:Fp o.op=true) (hev:Pi.A0 P tP X.h idP o=some (.call f ps)) {β:Type} {x:β} {K:V->H->Option β} {args2:List V} {js:List Nat} (hde:JT h sg.dom args=some (args2,js)) (ha:VRL X args ps) (e:Hi h sg args2 K=some x) :
  ∃ v q rd,K v h=some x/\VR X v q/\(∀ a∈rd,a=idP\/X.h.get a≠none)/\W5 X idP (jW js (Dg h args2)) rd /\ ∃ N,∀ F m,N<=F->N<=m->Pi.CL P (Pi.EQ P (Bc tab) F m) tP X.h idP o=some (q,X.h,rd,[]):=by
 obtain ⟨ps2,ha2,hder⟩:=P8 r ha hde;unfold Hi at e;replace e:=C4 e;obtain ⟨hd,e⟩:=e;simp only [Bool.or_eq_false_iff,Bool.not_eq_false'] at hd;obtain ⟨hd1,hd2⟩:=hd
 let Q:Nat->Prop:=λpid=>X.Q pid \/ ∃ id∈HH args2,∃ m,X.π id=some (.blk pid m)
 replace e:=Ed (Q:=Q) r (λ_ h => .inl h) (λid pid m hi hp => .inr ⟨id,hi,m,hp⟩) ha2 e;obtain ⟨y,e,hdx⟩:=e;replace e:=AX e;obtain ⟨h',hfr,e⟩:=e;rw [hcs] at hfr;cases hfr;replace e:=KC e;obtain ⟨z,hz,e⟩:=e;obtain ⟨as,lP2,hpl2',hdp,hmet⟩:=II (λ_ h => .inl h) hd1 hdx;obtain ⟨lP,hpl,hin⟩:=hder _ _ hpl2';obtain ⟨rP,up,hR,⟨N,hN⟩,hres⟩:=TO y z hz as hdp;obtain ⟨q,hhb,hq,hfl⟩:=Kd hd2 hcs hres
 have hfoot:Pi.B9 tP X.h o.op=[]:=by
  generalize o.op=op at hco;cases op with
  | call c =>
   simp only [Pi.B9];cases hcal:c.callee with
   | builtin b=>simp [Fp,hcal] at hco
   | _=>rfl
  | _=>cases hco
 refine ⟨_,q,(idP::[])++lP,e,Lv hq,λa ha => ?_,ZS (rd:=(idP::[])++lP2) (KI r ha2 hpl2' idP) (λi hi=>by
   simp only [List.cons_append,List.nil_append,List.mem_cons] at hi ⊢;rcases hi with hi | hi
   ·exact .inl (.inl hi)
   ·exact (hin i hi).imp .inr id),N,λF m hF hm => ?_⟩
 ·simp only [List.cons_append,List.nil_append,List.mem_cons] at ha;rcases ha with ha | ha
  ·exact .inl ha
  ·rcases hin a ha with ha | ⟨_,_,_,_,hg⟩
   ·obtain ⟨_,es,ex,fz,hg⟩:=hmet a ha;exact .inr (by rw [hg];simp)
   ·exact .inr hg
 ·unfold Pi.CL;have blt:Nat.blt idP (idP+1)=true:=by simp
  simp only [hdr,blt,Bool.not_true,Bool.or_self,cond_false,hfoot];rw [L3 (h':=X.h) hco,hev];simp only [hpl];have hpl2:By (X.h.cut (idP::lP)) ps=some (Lx sg.dom as,lP):=Jb (h:=X.h) (λx hx=>by rw [Pi.Hg,if_pos ⟨by simp [hx],by omega⟩]) hpl;unfold Pi.Cj;simp only [cond_false,hpl2];rw [show ({ m:=.lf,nx:=0 }:Hp)=Hk from rfl,hN F m hF hm];simp only [hhb,Option.map_some,hfl,cond_true]
theorem Jg {X:Cx} {h:H} {n id idP:Nat} (r:RH X h n) (w:Nw X n id idP) {o:Oper} {tP:T PV} {f:FuncId} {args:List V} {ps:List PV} (hdr:Pi.CA o.op=true) (hco:Fp o.op=true) (hev:Pi.A0 P tP X.h idP o=some (.call f ps)) {β:Type} {x:β} {K:V->H->Option β} (ha:VRL X args ps) {T:Hp->PV->Prop}
  (e : ∃ v h' q hP' Y as lP rP up hR,K v h'=some x/\By X.h ps=some (as,lP)/\PD P tab (.fn f) none as Hk (.ret rP,up,hR)/\Pi.B8 idP lP X.h hR rP=some (q,hP')/\(∀ y∈lP,X.h.get y≠none)/\K5 X h n id idP h' hP' Y/\VR Y v q/\T hP' q) :
  ∃ v q h1 Y h2 rd wr,K v h1=some x/\VR Y v q/\(∃ hP1,K5 X h n id idP h1 hP1 Y/\T hP1 q)/\(∀ a∈wr,a∈rd)/\(∀ a∈rd,a=idP\/X.h.get a≠none)/\W5 X idP (Dg h args) rd/\(∀ a,h2.get a=Y.h.get a)/\h2.nx=X.h.nx /\ ∃ N,∀ F m,N<=F->N<=m->Pi.CL P (Pi.EQ P (Bc tab) F m) tP X.h idP o=some (q,h2,rd,wr):=by
 obtain ⟨v,h1,q,hP',Y,as,lP,rP,up,hR,e1,hpl,⟨N,hN⟩,hhb,hmet,hH,hv,hT⟩:=e
 have hfoot:Pi.B9 tP X.h o.op=[]:=by
  generalize o.op=op at hco;cases op with
  | call c =>
   simp only [Pi.B9];cases hcal:c.callee with
   | builtin b=>simp [Fp,hcal] at hco
   | _=>rfl
  | _=>cases hco
 let hs:=X.h.cut (idP::lP)
 have cutg : ∀ q∈idP::lP,hs.get q=X.h.get q:=λq hq=>by
  show (X.h.cut (idP::lP)).get q=_;rw [Pi.Hg,if_pos ⟨hq,by omega⟩]
 have sub:Pi.JF hs X.h:=λx b hb=>(Pi.IC hb).2;obtain ⟨h1',hb1⟩:=RM (hs:=hs) (λx hx=>cutg x (List.mem_cons_of_mem _ hx)) (λ_=>by rw [cutg idP (by simp)];exact w.hp) hhb;have hpl2:By hs ps=some (as,lP):=Jb (h:=X.h) (λx hx=>cutg x (List.mem_cons_of_mem _ hx)) hpl
 have dc : ∀ {hh h2:Hp} {rec:Pi.Np},By hh ps=some (as,lP)->rec (.fn f) none as { m:=.lf,nx:=0 }=some (.ret rP,up,hR)->Pi.B8 idP lP hh hR rP=some (q,h2)->Pi.Cj (λ_=>false) rec idP f ps hh=some (.ret q,h2):=λh1 h2 h3=>by
  unfold Pi.Cj;simp only [cond_false,h1,h2,h3,Option.map_some]
 have c1:=dc (rec:=λ_ _ _ _=>some (.ret rP,up,hR)) hpl2 rfl hb1;have c2:=dc (rec:=λ_ _ _ _=>some (.ret rP,up,hR)) hpl rfl hhb;obtain ⟨⟨h3,k1,lay⟩,kf,_⟩:=Pi.N4 sub (λ_=>w.hp) c1;rw [c2] at k1;cases k1;obtain ⟨_,kf2,_⟩:=Pi.N4 (hs:=X.h) (h:=X.h) (λ_ _ h=>h) (λh=>h) c2;have hy:=hH.1;cases hfl:Pi.flat q with
 | true =>
  have e0:=kf2 hfl;refine ⟨v,q,h1,Y,X.h,idP::lP,[],e1,hv,⟨hP',hH,hT⟩,λ_ h=>(by cases h),λa ha => ?_,KI r ha hpl idP,λa=>(by rw [hy,e0]),rfl,N,λF m hF hm => ?_⟩
  ·rcases List.mem_cons.1 ha with ha | ha
   ·exact .inl ha
   ·exact .inr (hmet a ha)
  ·unfold Pi.CL;have blt:Nat.blt idP (idP+1)=true:=by simp
   simp only [hdr,blt,Bool.not_true,Bool.or_self,cond_false,hfoot];rw [L3 (h':=X.h) hco,hev];simp only [hpl];have:=dc (rec:=Pi.EQ P (Bc tab) F m) hpl2 (hN F m hF hm) hb1;rw [show X.h.cut (idP::lP)=hs from rfl,this];simp only [hfl,cond_true];rfl
 | false =>
  obtain ⟨h2,e2,n2⟩:=Nl h1' (idP::lP) X.h
  have g2 : ∀ a,h2.get a=hP'.get a:=λa=>by
   rw [Pi.Gl e2 a,lay.get a];by_cases hm:a∈idP::lP
   ·rw [if_pos hm]
    all_goals (cases h1'.get a<;>rfl)
   ·rw [if_neg hm];cases hg:h1'.get a with
    | none=>rfl
    | some b =>
     rcases lay.keys a b hg with ⟨b0,hb⟩ | hb
     ·exact absurd (Pi.IC hb).1 hm
     ·exact absurd (by simp [hb]) hm
  refine ⟨v,q,h1,Y,h2,idP::lP,Pi.Co X.h (idP::lP),e1,hv,⟨hP',hH,hT⟩,λa ha=>Bj ha,λa ha => ?_,KI r ha hpl idP,λa=>by rw [hy,g2],n2,N,λF m hF hm => ?_⟩
  ·rcases List.mem_cons.1 ha with ha | ha
   ·exact .inl ha
   ·exact .inr (hmet a ha)
  ·unfold Pi.CL;have blt:Nat.blt idP (idP+1)=true:=by simp
   simp only [hdr,blt,Bool.not_true,Bool.or_self,cond_false,hfoot];rw [L3 (h':=X.h) hco,hev];simp only [hpl];have:=dc (rec:=Pi.EQ P (Bc tab) F m) hpl2 (hN F m hF hm) hb1;rw [show X.h.cut (idP::lP)=hs from rfl,this];simp only [hfl,cond_false,e2,Option.map_some];rfl
theorem Sj (TO:TabOK P tab) {base baseP b bP nt nx:Nat} (hb:b<=base) (hbP:bP<=baseP) (hnt:nt<1048575) (hn:nx<=1048575) {all:List Oper} (hall : ∀ o∈all,∀ d,o.dst=some d->d<nt) {β:Type} {x:β} {len:Nat} :
  ∀ {ops:List Oper} {i:Nat} {ms:List Pi.Mk} {pa:List (Nat×Nat×Option (List Nat×Bool))} {pp:List (Nat×List Nat×List Nat)} {t:T V} {h:H} {K:T V->H->Option β} {X:Cx} {tP:T PV},Dh P tab base nt all i ops ms pa t h K=some x->RH X h nx->TR X t tP->Hl X base baseP i ops.length->base+i+ops.length<=nx->baseP+i+ops.length<=X.h.nx->len=i+ops.length->L2 (PastE X baseP i len) pa pp ->
   ∃ t' h' Y tP',K t' h'=some x/\(∃ N,∀ F n,N<=F->N<=n->Pi.BP P (Pi.EQ P (Bc tab) F n) baseP nt all i ops ms pp tP X.h=some (tP',Y.h))/\RH Y h' nx/\Ext b bP X h Y h'/\TR Y t' tP':=by
 intro ops
 induction ops with
 | nil =>
  intro i ms pa pp t h K X tP e r ht _ _ _ _ _;cases ms<;>exact ⟨t,h,X,tP,e,⟨0,λ_ _ _ _=>rfl⟩,r,Ext.refl _ _ _ _,ht⟩
 | cons o ops ih =>
  intro i ms pa pp t h K X tP e r ht hfr hlen hlenP hl hpast;cases ms with
  | nil=>cases e
  | cons m ms =>
   simp only [List.length_cons] at hlen hlenP hfr hl;have hfr0:=hfr i (Nat.le_refl _) (by omega);have w:Nw X nx (base+i) (baseP+i):=⟨hfr0.1,by omega,hn,hfr0.2,by omega⟩;unfold Dh at e;obtain ⟨t1,ht1,hcase⟩:=Pw (nt:=nt) ht hnt hall e
   have go : ∀ {v:V} {p:PV} {h1:H} {pa1:List (Nat×Nat×Option (List Nat×Bool))} {pp1:List (Nat×List Nat×List Nat)} {Y:Cx},NY t1 nt o.dst v (λt=>Dh P tab base nt all (i+1) ops ms pa1 t h1 K)=some x->RH Y h1 nx->TR Y t1 tP->VR Y v p->St X h (base+i) (baseP+i) Y h1->L2 (PastE Y baseP (i+1) len) pa1 pp1 ->
     (∀ {rr:T PV×Hp},(∃ N,∀ F n,N<=F->N<=n->(match o.dst with
      | some d=>bif Nat.blt d nt then Pi.BP P (Pi.EQ P (Bc tab) F n) baseP nt all (i+1) ops ms pp1 (T.put 20 tP d p) Y.h else none
      | none=>Pi.BP P (Pi.EQ P (Bc tab) F n) baseP nt all (i+1) ops ms pp1 tP Y.h)=some rr) -> ∃ N,∀ F n,N<=F->N<=n->Pi.BP P (Pi.EQ P (Bc tab) F n) baseP nt all i (o::ops) (m::ms) pp tP X.h=some rr) ->
     ∃ t' h' Y tP',K t' h'=some x/\(∃ N,∀ F n,N<=F->N<=n->Pi.BP P (Pi.EQ P (Bc tab) F n) baseP nt all i (o::ops) (m::ms) pp tP X.h=some (tP',Y.h))/\RH Y h' nx/\Ext b bP X h Y h'/\TR Y t' tP':=by
    intro v p h1 pa1 pp1 Y e r1 htY hv s hp1 hP;obtain ⟨t2,tP2,e2,ht2,hd,hnd⟩:=ff htY hnt hv e
    have hfr1:Hl Y base baseP (i+1) ops.length:=λj h1 h2=>by
     obtain ⟨a1,a2⟩:=hfr j (by omega) (by omega);exact ⟨s.pin _ (by omega) a1,s.hpn _ (by omega) a2⟩
    obtain ⟨t',h',Z,tP',k1,⟨N,k2⟩,k3,k4,k5⟩:=ih e2 r1 ht2 hfr1 (by omega) (by rw [s.nx];omega) (by omega) hp1;refine ⟨t',h',Z,tP',k1,hP ⟨N,λF n hF hn => ?_⟩,k3,(s.ext (by omega) (by omega)).trans k4,k5⟩;have:=k2 F n hF hn;cases hdst:o.dst with
    | none=>simp only;rw [<- hnd hdst];exact this
    | some d =>
     obtain ⟨a1,a2⟩:=hd d hdst;simp only [a1,cond_true];rw [<- a2];exact this
   have pnext : ∀ {Y:Cx} {h1:H},St X h (base+i) (baseP+i) Y h1->L2 (PastE Y baseP (i+1) len) pa pp:=λs=>hpast.mono λ_ _ k=>k.next s
   have entry : ∀ {Y:Cx} {h1:H} {c:Nat} {f:Option (List Nat×Bool)} {rd wr:List Nat},St X h (base+i) (baseP+i) Y h1->(∀ w∈wr,w∈rd)->(c<=1->wr=[])->(∀ q∈rd,q=baseP+i\/X.h.get q≠none)->(c=0->rd=[baseP+i]/\Y.h.get (baseP+i)=none)->FpP Y (baseP+i) f rd->L2 (PastE Y baseP (i+1) len) ((i,c,f)::pa) ((i,rd,wr)::pp):=fun {Y h1 c f rd wr} s h1 h2 h3 h4 h5=>by
    refine .cons ⟨rfl,by show i<i+1;omega,h1,h2,λq hq k k1 k2 => ?_,h4,h5⟩ (pnext s);rcases h3 q hq with hh | hh
    ·omega
    ·intro he;obtain ⟨_,a2⟩:=hfr k (by omega) (by omega);rw [he] at hh;exact hh a2
   have quietP : ∀ {Y:Cx} {h1:H} {f:Option (List Nat×Bool)} {rd:List Nat},St X h (base+i) (baseP+i) Y h1->Y.h.get (baseP+i)=none->W5 X (baseP+i) f rd->FpP Y (baseP+i) f rd:=λs hn hf l hl q hq=>by
    rcases hf l hl q hq with rfl | h1
    ·exact .inl ⟨rfl,hn⟩
    ·exact .inr (h1.mono s.up)
   have fpUp : ∀ {Y:Cx} {h1:H} {f:Option (List Nat×Bool)} {rd:List Nat},St X h (base+i) (baseP+i) Y h1->W5 X (baseP+i) f rd->W5 Y (baseP+i) f rd:=λs hf l hl q hq=>(hf l hl q hq).imp id (FpA.mono s.up);rcases hcase with ⟨e,hw⟩ | ⟨e,hw⟩
   ·replace e:=C4 e;obtain ⟨hdr,e⟩:=e;have hdr:Pi.CA o.op=true:=by simpa using hdr
    have ev:=Y8 r w ht1 e;generalize hop:Pi.A0 P tP X.h (baseP+i) o=op at ev;cases ev with
    | @val v h1 p hP1 Y e ok hv =>
     obtain ⟨y1,y2,y3⟩:=ok;simp only at e;replace e:=A3 e;obtain ⟨hck,e⟩:=e;simp only [Bool.and_eq_true] at hck
     have hc2:A2 o.op<=2\/A2 o.op=4:=by
      rcases Bool.or_eq_true_iff.1 hck.1 with hc | hc
      ·exact .inl (Nat.le_of_ble_eq_true hc)
      ·exact .inr (Nat.eq_of_beq_eq_true hc)
     obtain ⟨hpl,hck1,hck2⟩:=hck.2
     have hsl : ∀ ty x lo hi m,o.op = .slice ty x lo hi (some m) -> ∀ p,Pi.GI tP x=some p -> ∀ j a b,p ≠ .own j a b:=λty x lo hi m ho p hp j a b hpe=>by
      rw [ho] at hpl;cases x with
      | tmp k =>
       simp only [iO] at hpl;split at hpl
       ·rename_i hk;obtain ⟨p',hp',hvr⟩:=ht1 _ _ hk;simp only [Pi.GI,hp',Option.getD_some,Option.some.injEq] at hp;subst hp;subst hpe;simp only [VR] at hvr;rcases hvr with ⟨h,_⟩ | ⟨_,_,h,_⟩<;>cases h
       ·rename_i hk;obtain ⟨p',hp',hvr⟩:=ht1 _ _ hk;simp only [Pi.GI,hp',Option.getD_some,Option.some.injEq] at hp;subst hp;subst hpe;simp only [VR] at hvr;cases hvr
       ·cases hpl
      | _=>simp [iO] at hpl
     obtain ⟨h2,wr,d1,d2,d3,d4,d5⟩:=(OV hsl hdr hfr0.2 hop).1 p hP1 rfl hc2;have g2 : ∀ q,h2.get q=Y.h.get q:=λq=>by rw [d2,y1]
     have n2:h2.nx=Y.h.nx:=by rw [d3,y3.nx]
     have s2:=y3.with g2 n2
     have hfo:=(P6 hdr).2.2.1
     have hex : ∀ q∈(baseP+i)::Pi.B9 tP X.h o.op,q=baseP+i\/X.h.get q≠none:=λq hq=>by
      rcases List.mem_cons.1 hq with hq | hq
      ·exact .inl hq
      ·exact .inr (V5 r ht1 (by omega) hdr hck1 q hq)
     have hfp:=gk r ht1 (o:=o.op) (baseP+i);have hheap:=IL r hfp (rd:=(baseP+i)::Pi.B9 tP X.h o.op) (wr:=wr) (len:=len) (by omega) d5 (λhc=>(d4 hc).1) (λhc=>by rw [hfo hc]) hex hpast hck2
     have hq0:A2 o.op<=1->(Y.with h2).h.get (baseP+i)=none:=λhc=>by
      show h2.get _=none;rw [d2,(d4 hc).2];exact hfr0.2
     refine go (p:=p) e (y2.with g2 n2) (ht1.mono s2.up) (hv.mono (KG g2)) s2 (entry s2 d5 (λhc=>(d4 hc).1) hex (λhc=>⟨by rw [hfo (.inl hc)],hq0 (by omega)⟩) ?_) ?_
     ·cases hcl:Nat.ble (A2 o.op) 1 with
      | true=>exact quietP s2 (hq0 (Nat.le_of_ble_eq_true hcl)) hfp
      | false =>
       have hcl' : ¬ A2 o.op<=1:=λhh=>by rw [show Nat.ble (A2 o.op) 1=true from by simpa using hh] at hcl;cases hcl
       refine Sf (hv.mono (KG g2)) ?_ (fpUp s2 hfp);rcases fe hfr0.2 hdr (by omega) hop with hn | hn
       ·exact .inl (by show h2.get _=none;rw [d2];exact hn)
       ·exact .inr hn
     ·rintro rr ⟨N,hN⟩;refine ⟨N,λF n hF hn => ?_⟩;unfold Pi.BP;simp only [hw,cond_true,d1,hheap];exact hN F n hF hn
    | @skip h1 hP1 Y e ok =>
     obtain ⟨y1,y2,y3⟩:=ok;simp only at e;replace e:=A3 e;obtain ⟨hck,e⟩:=e;simp only [Bool.and_eq_true] at hck;have hc3:A2 o.op=3:=Nat.eq_of_beq_eq_true hck.1;obtain ⟨h2,wr,d1,d2,d3,d5⟩:=(OV (λty x lo hi m ho=>by rw [ho] at hc3;simp [A2] at hc3) hdr hfr0.2 hop).2 hP1 rfl hc3;have g2 : ∀ q,h2.get q=Y.h.get q:=λq=>by rw [d2,y1]
     have n2:h2.nx=Y.h.nx:=by rw [d3,y3.nx]
     have s2:=y3.with g2 n2
     have hex : ∀ q∈(baseP+i)::Pi.B9 tP X.h o.op,q=baseP+i\/X.h.get q≠none:=λq hq=>by
      rcases List.mem_cons.1 hq with hq | hq
      ·exact .inl hq
      ·exact .inr (V5 r ht1 (by omega) hdr hck.2.1 q hq)
     have hfp:=gk r ht1 (o:=o.op) (baseP+i);have hheap:=IL r hfp (c:=3) (rd:=(baseP+i)::Pi.B9 tP X.h o.op) (wr:=wr) (len:=len) (by omega) d5 (λhc=>by omega) (λhc=>by omega) hex hpast hck.2.2;refine go (p:=.tup []) e (y2.with g2 n2) (ht1.mono s2.up) (by simp only [VR];exact ⟨[],rfl,.nil⟩) s2 (entry (c:=3) s2 d5 (λhc=>by omega) hex (λhc=>by omega) (quietP s2 (by show h2.get _=none;rw [d2];exact W7 hc3 hfr0.2 hop) hfp)) ?_
     rintro rr ⟨N,hN⟩;refine ⟨N,λF n hF hn => ?_⟩;unfold Pi.BP;simp only [hw,cond_true,d1,hheap];exact hN F n hF hn
    | @call f as ps e ha =>
     simp only at e
     have any : ∀ {v:V} {q:PV} {h1:H} {Y:Cx} {h2:Hp} {rd wr:List Nat} {f':Option (List Nat×Bool)},NY t1 nt o.dst v (λt=>Dh P tab base nt all (i+1) ops ms ((i,4,f')::pa) t h1 K)=some x->VR Y v q->RH Y h1 nx->St X h (base+i) (baseP+i) Y h1->(∀ a∈wr,a∈rd)->(∀ a∈rd,a=baseP+i\/X.h.get a≠none)->W5 X (baseP+i) (Dg h as) rd->FpP (Y.with h2) (baseP+i) f' rd->(∀ a,h2.get a=Y.h.get a)->h2.nx=X.h.nx->HJ h m.bef 4 (Dg h as) pa=true ->
       (∃ N,∀ F m,N<=F->N<=m->Pi.CL P (Pi.EQ P (Bc tab) F m) tP X.h (baseP+i) o=some (q,h2,rd,wr)) ->
       ∃ t' h' Y tP',K t' h'=some x/\(∃ N,∀ F n,N<=F->N<=n->Pi.BP P (Pi.EQ P (Bc tab) F n) baseP nt all i (o::ops) (m::ms) pp tP X.h=some (tP',Y.h))/\RH Y h' nx/\Ext b bP X h Y h'/\TR Y t' tP':=by
      intro v q h1 Y h2 rd wr f' e1 hv y2 y3 d5 hex hfp hfq g2 n2 hck ⟨N0,hN0⟩;have n2':h2.nx=Y.h.nx:=by rw [n2,y3.nx]
      have s2:=y3.with g2 n2'
      have hheap:=IL r hfp (c:=4) (rd:=rd) (wr:=wr) (len:=len) (by omega) d5 (λhc=>by omega) (λhc=>by omega) hex hpast hck;refine go (p:=q) e1 (y2.with g2 n2') (ht1.mono s2.up) (hv.mono (KG g2)) s2 (entry (c:=4) s2 d5 (λhc=>by omega) hex (λhc=>by omega) hfq) ?_
      rintro rr ⟨N,hN⟩;refine ⟨max N0 N,λF n hF hn => ?_⟩;unfold Pi.BP;simp only [hw,cond_true,hN0 F n (by omega) (by omega),hheap];exact hN F n (by omega) (by omega)
     split at e
     ·rename_i sg hsg;replace e:=C4 e;obtain ⟨hco,e⟩:=e;simp only [Bool.or_eq_false_iff,Bool.not_eq_false'] at hco;obtain ⟨hco,hck⟩:=hco;obtain ⟨v,q,h1,Y,h2,rd,wr,e1,hv,⟨hP1,⟨y1,y2,y3⟩,hT⟩,d5,hex,hfp,g2,n2,hN⟩:=Jg r w hdr hco hop ha (NS r w (λdom g' c fn hh=>TO.getR (by rw [hsg,hh])) ha e);have s2:=y3.with g2 (by rw [n2,y3.nx])
      exact any e1 hv y2 y3 d5 hex hfp (Sf (hv.mono (KG g2)) (hT.imp (λhn=>by show h2.get _=none;rw [g2,y1];exact hn) id) (fpUp s2 hfp)) g2 n2 hck hN
     ·split at e
      ·rename_i sg hsg;replace e:=C4 e;obtain ⟨hco,e⟩:=e;have hco:Fp o.op=true:=by simpa using hco
       replace e:=C4 e;obtain ⟨hck,e⟩:=e;have hck:HJ h m.bef 4 (Dg h as) pa=true:=by simpa using hck
       obtain ⟨v,q,h1,Y,h2,rd,wr,e1,hv,⟨hP1,⟨y1,y2,y3⟩,hT⟩,d5,hex,hfp,g2,n2,hN⟩:=Jg r w hdr hco hop ha (T:=λhP _=>hP.get (baseP+i)=none) (SU r w (TO.getL hsg) ha e);have s2:=y3.with g2 (by rw [n2,y3.nx])
       exact any e1 hv y2 y3 d5 hex hfp (quietP s2 (by show h2.get _=none;rw [g2,y1];exact hT) hfp) g2 n2 hck hN
      ·split at e
       ·rename_i sg hsg;replace e:=C4 e;obtain ⟨hco,e⟩:=e;have hco:Fp o.op=true:=by simpa using hco
        replace e:=E7 e;rcases e with ⟨hcs,e⟩ | ⟨hcs,e⟩
        ·replace e:=C4 e;obtain ⟨hck,e⟩:=e;have hck:HJ h m.bef 4 (Dg h as) pa=true:=by simpa using hck
         obtain ⟨v,q,h1,Y,h2,rd,wr,e1,hv,⟨hP1,⟨y1,y2,y3⟩,hT⟩,d5,hex,hfp,g2,n2,hN⟩:=Jg r w hdr hco hop ha (NR r w (TO.getD hsg) ha e);have s2:=y3.with g2 (by rw [n2,y3.nx])
         refine any e1 hv y2 y3 d5 hex hfp ?_ g2 n2 hck hN;cases ho:SH sg.cod with
         | true=>exact λ_ h=>by cases h
         | false=>exact quietP s2 (by show h2.get _=none;rw [g2,y1];exact hT ho) hfp
        ·replace e:=C4 e;obtain ⟨hck,e⟩:=e;have hck:HJ h m.bef 1 (Dg h as) pa=true:=by simpa using hck
         obtain ⟨v,q,rd,e1,hv,hex,hfp,N0,hN0⟩:=RO r (TO.getD hsg) hcs hdr hco hop ha e;have hheap:=IL r hfp (c:=1) (rd:=rd) (wr:=[]) (len:=len) (by omega) (λ_ hw=>by cases hw) (λ_=>rfl) (λhc=>by omega) hex hpast hck;have s2:=St.refl X h (base+i) (baseP+i);refine go (p:=q) e1 r ht1 hv s2 (entry (c:=1) (wr:=[]) s2 (λ_ hw=>by cases hw) (λ_=>rfl) hex (λhc=>by omega) (quietP s2 hfr0.2 hfp)) ?_;rintro rr ⟨N,hN⟩;refine ⟨max N0 N,λF n hF hn => ?_⟩;unfold Pi.BP;simp only [hw,cond_true,hN0 F n (by omega) (by omega),hheap];exact hN F n (by omega) (by omega)
       ·split at e
        ·rename_i sg hsg;replace e:=C4 e;obtain ⟨hco,e⟩:=e;simp only [Bool.or_eq_false_iff,Bool.not_eq_false'] at hco;obtain ⟨hco,hcs⟩:=hco;replace e:=AX e;obtain ⟨⟨args2,js⟩,hde,e⟩:=e;replace e:=C4 e;obtain ⟨hck,e⟩:=e;have hck:HJ h m.bef 1 (jW js (Dg h args2)) pa=true:=by simpa using hck
         obtain ⟨v,q,rd,e1,hv,hex,hfp,N0,hN0⟩:=Si r (TO.getP hsg) hcs hdr hco hop hde ha e;have hheap:=IL r hfp (c:=1) (rd:=rd) (wr:=[]) (len:=len) (by omega) (λ_ hw=>by cases hw) (λ_=>rfl) (λhc=>by omega) hex hpast hck;have s2:=St.refl X h (base+i) (baseP+i);refine go (p:=q) e1 r ht1 hv s2 (entry (c:=1) (wr:=[]) s2 (λ_ hw=>by cases hw) (λ_=>rfl) hex (λhc=>by omega) (quietP s2 hfr0.2 hfp)) ?_;rintro rr ⟨N,hN⟩;refine ⟨max N0 N,λF n hF hn => ?_⟩;unfold Pi.BP;simp only [hw,cond_true,hN0 F n (by omega) (by omega),hheap];exact hN F n (by omega) (by omega)
        ·cases e
    | yield e=>cases e
    | pan e=>cases e
    | rcv e=>cases e
    | dfr e=>cases e
   ·have s2:=St.refl X h (base+i) (baseP+i);refine go (p:=.tup []) e r ht1 (by simp only [VR];exact ⟨[],rfl,.nil⟩) s2 (pnext s2) ?_;rintro rr ⟨N,hN⟩;refine ⟨N,λF n hF hn => ?_⟩;unfold Pi.BP;simp only [hw,cond_false];exact hN F n hF hn
theorem HA (TO:TabOK P tab):DrawnAOK P tab:=by
 constructor;intro β x nx ops fr h K e X fp r hn F hdst;unfold Tw at e;replace e:=AX e;obtain ⟨ms,hms,e⟩:=e
 have fresh:Hl (X.bump ops.length) nx X.h.nx 0 ops.length:=λj _ _=>⟨by
  cases hp:X.π (nx+j) with
  | none=>exact hp
  | some a=>have:=r.dom _ _ hp;omega,by rw [SW];exact r.fresh _ (by omega)⟩
 have main:=λ(b bP:Nat) (hb:b<=nx) (hbP:bP<=X.h.nx)=>Sj TO (nx:=nx+ops.length) hb hbP F.big hn hdst (len:=ops.length) e (r.bump _) (F.t.mono (Lz X _)) fresh (by omega) (by show X.h.nx+0+_<=X.h.nx+ops.length;omega) (by omega) (pa:=[]) (pp:=[]) .nil;obtain ⟨t',h',Y,tP',k1,⟨N,k2⟩,k3,k4,k5⟩:=main nx X.h.nx (Nat.le_refl _) (Nat.le_refl _);have ext:=(L0 X h ops.length nx X.h.nx).trans k4;have up:=ext.full r (Nat.le_refl _);have hnt:fp.nt=fr.nt:=F.nt;refine ⟨{ fr with t:=t' },h',Y,{ fp with t:=tP' },Y.h,k1,⟨N,λFF n hF hn => ?_⟩,λb bP hb hbP=>⟨rfl,k3,hn,Nat.le_add_right _ _,ext.le hb hbP⟩,⟨k5,F.nt,F.big,F.ds.mono λ_ _ k=>k.mono up,F.up.mono up,F.ro.mono up⟩⟩
 unfold Pi.drawn;rw [hms,hnt];simp only [k2 FF n hF hn]
end
end Go.Proofs.YthpkjfabdccpdaaGreat.Sv
namespace Go.Proofs.YthpkjfabdccpdaaGreat.Sv
open Go.Proofs.YthpkjfabdccpdaaGreat.Pi (PV T Hp Blk DF UM PE Au A8 AM BO By)
theorem RP (pu:FuncId->Bool) (L:List (FuncId×Sg)):Bc (AC pu L)=λf => !pu f:=by
 funext f
 unfold Bc AC;cases pu f<;>rfl
theorem PD.mk {P:Program} {pu:FuncId->Bool} {L L':List (FuncId×Sg)} {tg:Pi.Tg} {up:Option UM} {args:List PV} {h:Hp} {r:Pi.Out×Option UM×Hp} (e:PD P (AC pu L) tg up args h r):PD P (AC pu L') tg up args h r:=by
 unfold PD at e ⊢;rw [RP] at e ⊢;exact e
theorem fh (P:Program) (pu:FuncId->Bool):TabOK P (AC pu []):=by
 have : ∀ f sg,AC pu [] f≠some (some sg):=λf sg e=>by
  unfold AC at e;replace e:=E7 e;rcases e with ⟨_,e⟩ | ⟨_,e⟩<;>cases e
 exact ⟨λf sg _ e=>absurd e (this _ _),λf dom g c fn _ e=>absurd e (this _ _),λf sg _ e=>absurd e (this _ _),λf sg _ e=>absurd e (this _ _)⟩
theorem FnOK.mk {P:Program} {pu:FuncId->Bool} {L L':List (FuncId×Sg)} {f:FuncId} {sg:Sg} (h:FnOK P (AC pu L) f sg):FnOK P (AC pu L') f sg:=λx y hx as ha=>by
 obtain ⟨r,up,hR,k1,k2⟩:=h x y hx as ha;exact ⟨r,up,hR,k1.mk,k2⟩
theorem RowOK.mk {P:Program} {pu:FuncId->Bool} {L L':List (FuncId×Sg)} {f:FuncId} {dom:List (Bool×Ty)} {g:Bool} {c:Ty} {fn:AG dom->Option (List c.den)} (h:RowOK P (AC pu L) f dom g c fn):RowOK P (AC pu L') f dom g c fn:=λx y hx as ha=>by
 obtain ⟨r,up,hR,k1,k2⟩:=h x y hx as ha;exact ⟨r,up,hR,k1.mk,k2⟩
theorem FnP.mk {P:Program} {pu:FuncId->Bool} {L L':List (FuncId×Sg)} {f:FuncId} {sg:Sg} (h:FnP P (AC pu L) f sg):FnP P (AC pu L') f sg:=λx y hx as ha=>by
 obtain ⟨r,up,hR,k1,k2⟩:=h x y hx as ha;exact ⟨r,up,hR,k1.mk,k2⟩
theorem FnL.mk {P:Program} {pu:FuncId->Bool} {L L':List (FuncId×Sg)} {f:FuncId} {sg:Sg} (h:FnL P (AC pu L) f sg):FnL P (AC pu L') f sg:=λx y hx as ha=>by
 obtain ⟨r,up,hR,k1,k2⟩:=h x y hx as ha;exact ⟨r,up,hR,k1.mk,k2⟩
theorem ZT {a b c d:Nat} (ha:Nat.blt a c=true) (hd:c<=d) (h:a=b+d):False:=Nat.not_lt.2 (Nat.le_trans hd (Nat.le_add_left d b)) (h ▸ H2 ha)
theorem Cl {pu:FuncId->Bool} {L:List (FuncId×Sg)} {k f:FuncId} {sg sg':Sg} (e:AC pu ((k,sg)::L) f=some (some sg')):(f=k/\sg'=sg)\/AC pu L f=some (some sg'):=by
 unfold AC at e ⊢;replace e:=E7 e;rcases e with ⟨hp,e⟩ | ⟨_,e⟩
 ·simp only [Option.some.injEq] at e;unfold Tx at e;replace e:=E7 e;rcases e with ⟨hb,e⟩ | ⟨_,e⟩
  ·cases e;exact .inl ⟨Nat.eq_of_beq_eq_true hb,rfl⟩
  ·exact .inr (by rw [hp];exact congrArg some e)
 ·cases e
theorem Nm {P:Program} {pu:FuncId->Bool} {L:List (FuncId×Sg)} (TO:TabOK P (AC pu L)) {k:FuncId} {sg:Sg} (hk:Nat.blt k G2=true) (h:FnOK P (AC pu L) (gh k) sg):TabOK P (AC pu ((k,sg)::L)) where
 std:=λf sg' hf e=>by
  rcases Cl e with ⟨rfl,rfl⟩ | e
  ·exact h.mk
  ·exact (TO.std f sg' hf e).mk
 row:=λf dom g c fn hl e=>by
  rcases Cl e with ⟨rfl,_⟩ | e
  ·exfalso;exact Nat.not_lt.2 (Nat.le_add_left G2 f) (H2 hk)
  ·exact (TO.row f dom g c fn hl e).mk
 dat:=λf sg' hf e=>by
  rcases Cl e with ⟨rfl,_⟩ | e
  ·exfalso;exact Nat.not_lt.2 (Nat.le_trans (by decide:G2<=fF) (Nat.le_add_left fF f)) (H2 hk)
  ·exact (TO.dat f sg' hf e).mk
 ptr:=λf sg' hf e=>by
  rcases Cl e with ⟨rfl,_⟩ | e
  ·exfalso;exact Nat.not_lt.2 (Nat.le_trans (by decide:G2<=Qv) (Nat.le_add_left Qv f)) (H2 hk)
  ·exact (TO.ptr f sg' hf e).mk
theorem fi {P:Program} {pu:FuncId->Bool} {L:List (FuncId×Sg)} (TO:TabOK P (AC pu L)) {f:FuncId} (hfl:Nat.blt f HI=true) {dom:List (Bool×Ty)} {g:Bool} {c:Ty} {fn:AG dom->Option (List c.den)} (h:RowOK P (AC pu L) f dom g c fn):TabOK P (AC pu ((f+G2,⟨dom,[(false,.sl g c)],fn⟩)::L)) where
 std:=λf' sg' hf e=>by
  rcases Cl e with ⟨rfl,_⟩ | e
  ·exfalso;exact Nat.not_lt.2 (Nat.le_add_left G2 f) (H2 hf)
  ·exact (TO.std f' sg' hf e).mk
 row:=λf' dom' g' c' fn' hl e=>by
  rcases Cl e with ⟨h1,h2⟩ | e
  ·have:f'=f:=Nat.add_right_cancel h1;subst this;cases h2;exact h.mk
  ·exact (TO.row _ _ _ _ _ hl e).mk
 dat:=λf' sg' hf e=>by
  rcases Cl e with ⟨h1,_⟩ | e
  ·exfalso
   have h2:f=f'+G2:=by
    have:f'+(G2+G2)=f+G2:=h1;rw [<- Nat.add_assoc] at this;exact (Nat.add_right_cancel this).symm
   exact ZT hfl (by decide) h2
  ·exact (TO.dat f' sg' hf e).mk
 ptr:=λf' sg' hf e=>by
  rcases Cl e with ⟨h1,_⟩ | e
  ·exfalso
   have h2:f'+1048576=f:=by
    have:f'+(1048576+G2)=f+G2:=h1;rw [<- Nat.add_assoc] at this;exact Nat.add_right_cancel this
   rw [<- h2] at hfl;exact Nat.not_lt.2 (Nat.le_add_left _ f') (H2 hfl)
  ·exact (TO.ptr f' sg' hf e).mk
theorem fj {P:Program} {pu:FuncId->Bool} {L:List (FuncId×Sg)} (TO:TabOK P (AC pu L)) {ann:Pj} {F n:Nat} {f:FuncId} {dom cod:List (Bool×Ty)} {fn:AG dom->Option (AG cod)} (h : ∀ x,Vo P (AC pu L) ann F n f dom cod x=fn x) (hc:E6 cod=false:=by rfl) (hfl:Nat.blt f HI=true:=by rfl):TabOK P (AC pu ((f+Qv,⟨dom,cod,fn⟩)::L)) where
 std:=λf' sg' hf e=>by
  rcases Cl e with ⟨rfl,_⟩ | e
  ·exfalso;exact Nat.not_lt.2 (Nat.le_trans (by decide:G2<=Qv) (Nat.le_add_left Qv f)) (H2 hf)
  ·exact (TO.std f' sg' hf e).mk
 row:=λf' dom' g' c' fn' hl e=>by
  rcases Cl e with ⟨_,h2⟩ | e
  ·cases h2;cases hc
  ·exact (TO.row _ _ _ _ _ hl e).mk
 dat:=λf' sg' hf e=>by
  rcases Cl e with ⟨h1,_⟩ | e
  ·exfalso
   have h2:f=f'+HI:=by
    have:f'+(HI+Qv)=f+Qv:=h1;rw [<- Nat.add_assoc] at this;exact (Nat.add_right_cancel this).symm
   exact ZT hfl (by decide) h2
  ·exact (TO.dat f' sg' hf e).mk
 ptr:=λf' sg' hf e=>by
  rcases Cl e with ⟨h1,rfl⟩ | e
  ·have:f'=f:=Nat.add_right_cancel h1;subst this;exact FnP.mk λx y hx as ha=>ZF TO (HA TO) ((h x).trans hx) ha
  ·exact (TO.ptr _ _ hf e).mk
theorem AF {P:Program} {pu:FuncId->Bool} {L:List (FuncId×Sg)} (TO:TabOK P (AC pu L)) {ann:Pj} {F n:Nat} {g k:FuncId} {dom cod:List (Bool×Ty)} {fn:AG dom->Option (AG cod)} (h : ∀ x,Ac P (AC pu L) ann F n g dom cod x=fn x) (hk:Nat.blt k G2=true:=by rfl) (hg:gh k=g:=by rfl) :
  TabOK P (AC pu ((k,⟨dom,cod,fn⟩)::L)):=Nm TO hk (by rw [hg];exact λx y hx as ha=>Nk TO (HA TO) ((h x).trans hx) ha)
def Jh {α β:Type} (body:(α->Option β)->α->Option β):Nat->α->Option β
 | 0=>λ_=>none
 | n+1=>body (Jh body n)
theorem fm {P:Program} {pu:FuncId->Bool} {L:List (FuncId×Sg)} (TO:TabOK P (AC pu L)) {ann:Pj} {F n:Nat} {g:FuncId} {dom cod:List (Bool×Ty)} {body:(AG dom->Option (AG cod))->AG dom->Option (AG cod)}
  (h : ∀ r x,Ac P (AC pu ((g,⟨dom,cod,r⟩)::L)) ann F n g dom cod x=body r x) (hk:Nat.blt g G2=true:=by rfl) (hg:gh g=g:=by rfl) : ∀ d,TabOK P (AC pu ((g,⟨dom,cod,Jh body d⟩)::L)):=by
 intro d
 induction d with
 | zero=>exact Nm TO hk λx y hx=>by cases hx
 | succ d ih =>
  refine Nm TO hk ?_;rw [hg];have:FnOK P (AC pu ((g,⟨dom,cod,Jh body d⟩)::L)) g ⟨dom,cod,Jh body (d+1)⟩:=λx y hx as ha=>Nk ih (HA ih) ((h _ x).trans hx) ha;exact this.mk
end Go.Proofs.YthpkjfabdccpdaaGreat.Sv
namespace Go.Proofs.YthpkjfabdccpdaaGreat.Sv
open Go.Proofs.YthpkjfabdccpdaaGreat.Pi (PV T Hp Blk DF UM PE Rep RepL mu0 B5 Sim)
open Go.RowKit
theorem iZ {M:B5} {w:World} (hM : ∀ a v,M a=some v->a.spot=none/\w.cell? a=some v):Sim M mu0 Hk w:=by
 refine ⟨λa v h=>hM a v h,λid b hb => ?_,λid r hr => ?_,λid id' r r' b b' hr => ?_,λid r b a v hb => ?_⟩
 ·rw [show Hk={ m:=.lf,nx:=0 } from rfl,Pi.Hp.get_lf] at hb;cases hb
 ·simp [mu0] at hr
 ·simp [mu0] at hr
 ·rw [show Hk={ m:=.lf,nx:=0 } from rfl,Pi.Hp.get_lf] at hb;cases hb
theorem W8 {P:Program} {tab:Ie} (TO:TabOK P tab) {ann:Pj} {F n:Nat} {f:FuncId} {dom:List (Bool×Ty)} {x:AG dom} (e:Ac P tab ann F n f dom [(false,.bool)] x=some true)
  {as:List PV} (ha:H1 dom x as) {M:B5} {w:World} (hM : ∀ a v,M a=some v->a.spot=none/\w.cell? a=some v) {vs:List Value} (hr:RepL M mu0 as vs) :
  Calls P f vs.toArray w λe w'=>e = .returned (.bool true)/\Grown w w':=by
 intro cs;obtain ⟨r,up,hR,⟨N,pd⟩,k⟩:=Nk TO (HA TO) e ha;have R:=Pi.Yb (sh:=Bc tab) (λrec R=>Pi.Yh (P:=P) (rec:=rec) R) N N;obtain ⟨M',μ',w',fr,s1,g1,st,hfn,x,hx,hl⟩:=R.nrm (pd N N (Nat.le_refl _) (Nat.le_refl _)) (iZ hM) hr cs
 have hrb:r = .bool true:=by
  have:[r]=[PV.bool true]:=k;simpa using this
 subst hrb;cases hx;refine ⟨.returned (.bool true),w',fr,⟨rfl,⟨⟨g1.os,g1.output,λi hi => ?_⟩,λa => ?_,g1.size⟩⟩,st,hfn,hl⟩
 ·have hk:w'.heap[i]? = w.heap[i]? := g1.keeps _ hi;rw [hk];cases hx:w.heap[i]? with
  | none=>trivial
  | some o=>cases o<;>first | exact ⟨rfl,rfl,rfl,λ_ _=>rfl⟩ | exact .inr ⟨rfl,rfl⟩ | rfl
 ·by_cases hlt:a.block<w.heap.size
  ·simp only [World.frozen?,g1.keeps _ hlt]
  ·have hn:w.heap[a.block]? = none:=Array.getElem?_eq_none (by omega);simp only [World.frozen?,hn];split
   ·rename_i arr ty lo hi hc;rcases g1.nf _ _ _ _ hc with h0 | ⟨arr0,h0⟩
    ·cases h0;simp
    ·rw [hn] at h0;cases h0
   ·rfl
end Go.Proofs.YthpkjfabdccpdaaGreat.Sv
namespace Go.Proofs.YthpkjfabdccpdaaGreat.Sv
open Go.Proofs.YthpkjfabdccpdaaGreat.Pi (PV T Hp Blk DF UM PE)
theorem gm {P:Program} {tab:Ie} {tg:Pi.Tg} {up:Option UM} {args:List PV} {h:Hp} {r:Pi.Out×Option UM×Hp} {F n:Nat} (e:Pi.EQ P (Bc tab) F n tg up args h=some r):PD P tab tg up args h r :=
 ⟨max F n,λF' n' hF hn=>Pi.Yj (by omega) (by omega) _ _ _ _ _ e⟩
def lF (P:Program) (sh:FuncId->Bool) (F n:Nat) (g:FuncId):Bool:=match Pi.EQ P sh F n (.fn g) none [] Hk with
 | some (.ret v,_,_)=>(match v with
  | .bool b=>b
  | _=>false)
 | _=>false
def Mo (P:Program) (sh:FuncId->Bool) (F n:Nat) (g:FuncId) (p:PV):Bool:=match Pi.EQ P sh F n (.fn g) none [p] Hk with
 | some (.ret v,_,_)=>(match v with
  | .nils=>true
  | .lst _ es=>es.isEmpty
  | _=>false)
 | _=>false
theorem W9 {P:Program} {sh:FuncId->Bool} {F n:Nat} {g:FuncId} {p:PV} (e:Mo P sh F n g p=true) : ∃ v up h,Pi.EQ P sh F n (.fn g) none [p] Hk=some (.ret v,up,h)/\(v = .nils \/ ∃ f,v = .lst f []):=by
 unfold Mo at e;split at e
 ·rename_i v up h hd;refine ⟨v,up,h,hd,?_⟩;split at e
  ·exact .inl rfl
  ·rename_i f es;cases es with
   | nil=>exact .inr ⟨f,rfl⟩
   | cons _ _=>cases e
  ·cases e
 ·cases e
def Mq (P:Program) (sh:FuncId->Bool) (F n:Nat) (g:FuncId):Bool:=Mo P sh F n g .nils&&(Mo P sh F n g (.lst false [])&&Mo P sh F n g (.lst true []))
theorem ZU {P:Program} {pu:FuncId->Bool} {L:List (FuncId×Sg)} {F0 n0:Nat} {g:FuncId} {gg:Bool} {c:Ty} (h0:Mq P (λf => !pu f) F0 n0 g=true) {as:List PV} (ha:H1 [(false,.sl gg c)] ([]:List c.den) as) : ∃ v up h,PD P (AC pu L) (.fn g) none as Hk (.ret v,up,h)/\(v = .nils \/ ∃ f,v = .lst f []):=by
 obtain ⟨p,rfl,hp⟩:=ha;have hp : ∃ q,[p]=[q]/\((q = .nils/\([]:List c.den)=[]) \/ ∃ f es,q = .lst f es/\L2 (EP gg (DP c)) [] es):=hp;obtain ⟨q,hq,hp⟩:=hp;cases hq;unfold Mq at h0;simp only [Bool.and_eq_true] at h0
 have fin:Mo P (λf => !pu f) F0 n0 g p=true -> ∃ v up h,PD P (AC pu L) (.fn g) none [p] Hk (.ret v,up,h)/\(v = .nils \/ ∃ f,v = .lst f []):=λe=>by
  obtain ⟨v,up,hR,hd,hv⟩:=W9 e;exact ⟨v,up,hR,gm (by rw [RP];exact hd),hv⟩
 rcases hp with ⟨rfl,_⟩ | ⟨fl,es,rfl,hl⟩
 ·exact fin h0.1
 ·have:=hl.nil_inv;subst this;cases fl with
  | false=>exact fin h0.2.1
  | true=>exact fin h0.2.2
theorem OZ {P:Program} {pu:FuncId->Bool} {L:List (FuncId×Sg)} (TO:TabOK P (AC pu L)) {ann:Pj} {F n F0 n0:Nat} {g:FuncId} {gg:Bool} {c:Ty} {fn:List c.den->Option (List c.den)}
  (h0:Mq P (λf => !pu f) F0 n0 g=true) (hfn:fn []=some []) (h : ∀ a l,Ac P (AC pu L) ann F n g [(false,.sl gg c)] [(false,.sl gg c)] (a::l)=fn (a::l)) (hk:Nat.blt g G2=true:=by rfl) (hg:gh g=g:=by rfl) :
  TabOK P (AC pu ((g,⟨[(false,.sl gg c)],[(false,.sl gg c)],fn⟩)::L)):=Nm TO hk (by
 rw [hg]
 have key : ∀ (x y:List c.den) (as:List PV),fn x=some y->H1 [(false,.sl gg c)] x as -> ∃ r up hR,PD P (AC pu L) (.fn g) none as Hk (.ret r,up,hR)/\PK hR [(false,.sl gg c)] y r:=by
  intro x y as hx ha;cases x with
  | cons a l=>exact Nk TO (HA TO) ((h a l).trans hx) ha
  | nil =>
   rw [hfn] at hx;cases hx;obtain ⟨v,up,hR,pd,hv⟩:=ZU h0 ha;refine ⟨v,up,hR,pd,?_⟩;show DX hR (λ_=>True) (λ_=>True) (.sl gg c) [] [v];refine ⟨v,rfl,?_⟩;rcases hv with rfl | ⟨f,rfl⟩
   ·exact .inl ⟨rfl,rfl⟩
   ·exact .inr (.inl ⟨f,[],rfl,.nil⟩)
 exact λx y hx as ha=>key x y as hx ha)
def Mr (P:Program) (sh:FuncId->Bool) (F n:Nat) (g:FuncId) (p:PV):Bool:=match Pi.EQ P sh F n (.fn g) none [p] Hk with
 | some (.ret v,_,_)=>(match v with
  | .nils=>true
  | .lst true es=>es.isEmpty
  | _=>false)
 | _=>false
theorem XB {P:Program} {sh:FuncId->Bool} {F n:Nat} {g:FuncId} {p:PV} (e:Mr P sh F n g p=true) : ∃ v up h,Pi.EQ P sh F n (.fn g) none [p] Hk=some (.ret v,up,h)/\(v = .nils\/v = .lst true []):=by
 unfold Mr at e;split at e
 ·rename_i v up h hd;refine ⟨v,up,h,hd,?_⟩;split at e
  ·exact .inl rfl
  ·rename_i es;cases es with
   | nil=>exact .inr rfl
   | cons _ _=>cases e
  ·cases e
 ·cases e
def Oa (P:Program) (sh:FuncId->Bool) (F n:Nat) (g:FuncId):Bool:=Mr P sh F n g .nils&&(Mr P sh F n g (.lst false [])&&Mr P sh F n g (.lst true []))
theorem Ob {P:Program} {pu:FuncId->Bool} {L:List (FuncId×Sg)} (TO:TabOK P (AC pu L)) {ann:Pj} {F n F0 n0:Nat} {g:FuncId} {gg:Bool} {c:Ty} {fn:List c.den->Option (List c.den)}
  (h0:Oa P (λf => !pu f) F0 n0 g=true) (hfn:fn []=some []) (hne : ∀ a l y,fn (a::l)=some y->y≠[]) (h : ∀ a l,Pn P (AC pu L) ann F n g [(false,.sl gg c)] gg c (a::l)=fn (a::l)) (hfl:Nat.blt g HI=true:=by rfl) :
  TabOK P (AC pu ((g+G2,⟨[(false,.sl gg c)],[(false,.sl gg c)],fn⟩)::L)):=fi TO hfl (by
 have key : ∀ (x y:List c.den) (as:List PV),fn x=some y->H1 [(false,.sl gg c)] x as -> ∃ r up hR,PD P (AC pu L) (.fn g) none as Hk (.ret r,up,hR)/\Y9 hR gg c y r:=by
  intro x y as hx ha;cases x with
  | cons a l=>exact ZG TO (HA TO) ((h a l).trans hx) (hne _ _ _ hx) ha
  | nil =>
   rw [hfn] at hx;cases hx;obtain ⟨p,rfl,hp⟩:=ha;have hp : ∃ q,[p]=[q]/\((q = .nils/\([]:List c.den)=[]) \/ ∃ f es,q = .lst f es/\L2 (EP gg (DP c)) [] es):=hp;obtain ⟨q,hq,hp⟩:=hp;cases hq;unfold Oa at h0;simp only [Bool.and_eq_true] at h0
   have fin:Mr P (λf => !pu f) F0 n0 g p=true -> ∃ r up hR,PD P (AC pu L) (.fn g) none [p] Hk (.ret r,up,hR)/\Y9 hR gg c [] r:=λe=>by
    obtain ⟨v,up,hR,hd,hv⟩:=XB e;exact ⟨v,up,hR,gm (by rw [RP];exact hd),.inl ⟨rfl,hv⟩⟩
   rcases hp with ⟨rfl,_⟩ | ⟨fl,es,rfl,hl⟩
   ·exact fin h0.1
   ·have:=hl.nil_inv;subst this;cases fl with
    | false=>exact fin h0.2.1
    | true=>exact fin h0.2.2
 exact λx y hx as ha=>key x y as hx ha)
theorem Oc {α:Type} {a:α} {l y:List α} (h:gd (A6 (AA (a::l)) 1048576) (λ_=>some (a::l))=some y):y≠[]:=by
 unfold gd at h;cases hb:A6 (AA (a::l)) 1048576 with
 | true=>rw [hb] at h;cases h;simp
 | false=>rw [hb] at h;cases h
end Go.Proofs.YthpkjfabdccpdaaGreat.Sv
namespace Go.Proofs.YthpkjfabdccpdaaGreat.Sv
open Go.Proofs.YthpkjfabdccpdaaGreat.Pi (PV Rep RepL mu0 B5)
open Go.RowKit Go.ChangeShapes Go.WideShapes
def NU (w:World):B5:=λa=>if a.spot=none then w.cell? a else none
theorem ZV (w:World) : ∀ a v,NU w a=some v->a.spot=none/\w.cell? a=some v:=λa v h=>by
 unfold NU at h;split at h
 ·rename_i hs;exact ⟨hs,h⟩
 ·cases h
def gn:(c:Ty)->c.den->Prop
 | .int k,n=>(Lit.int k n).wf=true
 | .bool,_=>True
 | .str,s=>s.length<=maxLen
 | .unit,_=>True
 | .pair a b,x=>gn a x.1/\gn b x.2
 | .sl _ c,l=>l.length<=maxLen /\ ∀ x∈l,gn c x
def gp:(l:List (Bool×Ty))->AG l->Prop
 | [],_=>True
 | [p],x=>gn p.2 x
 | p::q::r,x=>gn p.2 x.1/\gp (q::r) x.2
def TT (P:Program):Nat->TypeId->Option (Bool×Ty)
 | 0,_=>none
 | d+1,t=>match P.underlying t with
  | some (.int k)=>some (false,.int k)
  | some .bool=>some (false,.bool)
  | some .string=>some (false,.str)
  | some (.slice e)=>match TT P d e with
   | some (g,c)=>bif Nat.blt 0 c.wd then some (false,.sl g c) else none
   | none=>none
  | some (.struct fs)=>(Yl (TT P d) fs.toList).map λc=>(true,c)
  | _=>none
theorem V6 {P:Program} : ∀ {d:Nat} {t:TypeId} {c:Ty},TT P d t=some (false,c)->(∃ k,c = .int k)\/c = .bool\/c = .str \/ ∃ g e,c = .sl g e
 | 0,t,c,h=>by cases h
 | d+1,t,c,h=>by
  unfold TT at h;split at h
  ·cases h;exact .inl ⟨_,rfl⟩
  ·cases h;exact .inr (.inl rfl)
  ·cases h;exact .inr (.inr (.inl rfl))
  ·split at h
   ·replace h:=A3 h;cases h.2;exact .inr (.inr (.inr ⟨_,_,rfl⟩))
   ·cases h
  ·obtain ⟨x,_,hx⟩:=Pi.AL h;cases hx
  ·cases h
structure Cells (w:World) (c:Ty) (x:c.den) (ps:List PV) (cs:List Value):Prop where
 dp:DP c x ps
 ok:gn c x
 len:ps.length=cs.length
 wd:cs.length=c.wd
 rep : ∀ (i:Nat) p v,ps[i]? = some p->cs[i]? = some v->Rep (NU w) mu0 p v
 one : ∀ v∈cs,v.oneCell'=true
theorem Cells.ep {w:World} {d:Nat} {P:Program} {t:TypeId} {g:Bool} {c:Ty} (hc:TT P d t=some (g,c)) {x:c.den} {ps:List PV} {cs:List Value} (h:Cells w c x ps cs) : ∃ e,EP g (DP c) x e/\e.cells=ps:=by
 cases g with
 | true=>exact ⟨.agg ps,⟨ps,rfl,h.dp⟩,rfl⟩
 | false =>
  rcases V6 hc with ⟨k,rfl⟩ | rfl | rfl | ⟨g,e,rfl⟩
  ·have:=h.dp;exact ⟨.int k x,rfl,this.symm⟩
  ·have:=h.dp;exact ⟨.bool x,rfl,this.symm⟩
  ·have:=h.dp;exact ⟨.str x,rfl,this.symm⟩
  ·obtain ⟨p,hp,hd⟩:=h.dp;refine ⟨p,⟨p,rfl,hd⟩,?_⟩;rw [hp];rcases hd with ⟨rfl,_⟩ | ⟨f,es,rfl,_⟩<;>rfl
section
variable {H:Type} {enc:TypeId×Value->H} {P:Program} {w:World}
theorem V7 {a:Addr} (ha:a.spot=none) (n:Nat):a.add n=⟨a.block,a.off+n,none⟩:=by
 unfold Addr.add;split
 ·rename_i h;subst h;cases a;simp at ha;subst ha;rfl
 ·rfl
theorem XC {a:Addr} {v:Value} (h:w.cell? a=some v):a.spot=none:=by
 unfold World.cell? at h;split at h
 ·split at h
  ·cases h
  ·rename_i hs;cases hx:a.spot with
   | none=>rfl
   | some _=>rw [hx] at hs;simp at hs
 ·cases h
theorem LD (K:Kids P (· < P.types.size)) : ∀ (D:Nat) {t:TypeId} {g:Bool} {c:Ty},TT P D t=some (g,c)->t<P.types.size -> ∀ {fuel:Nat} {cs:List Value} {y:DataW H×List MemPlace},DataW.trod enc P w 0 (λ_=>true) true fuel t cs=some y -> ∃ x ps,Cells w c x ps cs
 | 0,t,g,c,hc,_,_,_,_,_=>by cases hc
 | D+1,t,g,c,hc,ht,fuel,cs,y,h=>by
  unfold TT at hc;split at hc
  ·rename_i k hu;cases hc;obtain ⟨n,rfl,_,hw⟩:=DataW.trod_int hu h;exact ⟨n,[.int k n],rfl,hw,rfl,rfl,λi p v h1 h2=>by cases i<;>simp at h1 h2;subst h1;subst h2;exact .int _ _ _,λv hv=>by simp at hv;subst hv;rfl⟩
  ·rename_i hu;cases hc;obtain ⟨b,rfl,_⟩:=DataW.trod_bool hu h;exact ⟨b,[.bool b],rfl,trivial,rfl,rfl,λi p v h1 h2=>by cases i<;>simp at h1 h2;subst h1;subst h2;exact .bool _ _,λv hv=>by simp at hv;subst hv;rfl⟩
  ·rename_i hu;cases hc;obtain ⟨s,rfl,_,hs⟩:=DataW.trod_string hu h;exact ⟨s.data.toList,[.str s.data.toList],rfl,(by show s.data.toList.length<=maxLen;simpa using hs),rfl,rfl,λi p v h1 h2=>by cases i<;>simp at h1 h2;subst h1;subst h2;exact .str _ _,λv hv=>by simp at hv;subst hv;rfl⟩
  ·rename_i e hu;split at hc
   ·rename_i ge ce hce;replace hc:=A3 hc;obtain ⟨hwd,hc⟩:=hc;cases hc;have hwd:0<ce.wd:=by simpa using hwd
    have hte:=K.slice ht hu;rcases DataW.trod_slice hu h with ⟨rfl,_⟩ | ⟨a,len,cap,elems,rest,n,_,rfl,_,_,hlc,hcm,hel,hels,_,_⟩
    ·exact ⟨[],[.nils],⟨_,rfl,.inl ⟨rfl,rfl⟩⟩,⟨Nat.zero_le _,λ_ h=>by cases h⟩,rfl,rfl,λi p v h1 h2=>by cases i<;>simp at h1 h2;subst h1;subst h2;exact .nils _,λv hv=>by simp at hv;subst hv;rfl⟩
    ·
     have each : ∀ i,i<len -> ∃ x ps cs,Cells w ce x ps cs/\(∀ (j:Nat),j<cs.length->w.cell? ((a.add (i*P.cellsOf e)).add j)=cs[j]?)/\cs.length=P.cellsOf e:=λi hi=>by
      have h1:=hels i hi;rw [show elems[i]? = some elems[i] by simp [hel,hi]] at h1;cases hcs:w.cells? 0 (a.add (i*P.cellsOf e)) (P.cellsOf e) with
      | none=>rw [hcs] at h1;cases h1
      | some cs =>
       rw [hcs] at h1;obtain ⟨x,ps,hx⟩:=LD K D hce hte (show DataW.trod enc P w 0 (λ_=>true) true n e cs=some _ from h1);obtain ⟨_,hl,hcell⟩:=World.cells?_some hcs;exact ⟨x,ps,cs,hx,λj hj=>hcell j (by omega),hl⟩
     by_cases h0:len=0
     ·subst h0;exact ⟨[],[.lst false []],⟨_,rfl,.inr ⟨_,_,rfl,.nil⟩⟩,⟨Nat.zero_le _,λ_ h=>by cases h⟩,rfl,rfl,λi p v h1 h2=>by cases i<;>simp at h1 h2;subst h1;subst h2;exact .lst0 _ _ _ _ (λh=>by cases h),λv hv=>by simp at hv;subst hv;rfl⟩
     ·have hspot:a.spot=none:=by
       obtain ⟨x,ps,cs,hx,hcell,hl⟩:=each 0 (by omega);have hlen:=hx.wd;have:=hcell 0 (by omega);rw [show cs[0]? = some cs[0] from by simp] at this;have hs:=XC this;simpa [Addr.add] using hs
      have all : ∀ m,m<=len -> ∃ (xs:List ce.den) (es:List PV) (vs:List (List Value)),xs.length=m/\es.length=m/\vs.length=m/\L2 (EP ge (DP ce)) xs es/\(∀ x∈xs,gn ce x) /\
        ∀ (i:Nat) e' c',es[i]? = some e'->vs[i]? = some c'->e'.cells.length=c'.length/\c'.length=P.cellsOf e/\(∀ (j:Nat) p v,e'.cells[j]? = some p->c'[j]? = some v->Rep (NU w) mu0 p v/\v.oneCell'=true/\w.cell? ((a.add (i*P.cellsOf e)).add j)=some v):=by
       intro m
       induction m with
       | zero=>exact λ_=>⟨[],[],[],rfl,rfl,rfl,.nil,(λ_ h=>by cases h),λi e' c' h=>by simp at h⟩
       | succ m ih =>
        intro hm;obtain ⟨xs,es,vs,l1,l2,l3,hl,hok,hr⟩:=ih (by omega);obtain ⟨x,ps,cs,hx,hcell,hlc⟩:=each m (by omega);obtain ⟨e1,he1,he2⟩:=hx.ep hce;refine ⟨xs++[x],es++[e1],vs++[cs],by simp [l1],by simp [l2],by simp [l3],hl.append (.cons he1 .nil),λy hy => ?_,λi e' c' h1 h2 => ?_⟩
        ·rcases List.mem_append.1 hy with hy | hy
         ·exact hok y hy
         ·simp at hy;subst hy;exact hx.ok
        ·by_cases hi:i<m
         ·rw [List.getElem?_append_left (by omega)] at h1 h2;exact hr i e' c' h1 h2
         ·have him:i=m:=by
           have:=(List.getElem?_eq_some_iff.1 h1).1;simp [l2] at this;omega
          subst him;rw [List.getElem?_append_right (by omega),l2] at h1;rw [List.getElem?_append_right (by omega),l3] at h2;simp at h1 h2;subst h1;subst h2;refine ⟨by rw [he2,hx.len],hlc,λj p v h1 h2 => ?_⟩;rw [he2] at h1;have hj:=(List.getElem?_eq_some_iff.1 h2).1;exact ⟨hx.rep j p v h1 h2,hx.one v (List.mem_of_getElem? h2),by rw [hcell j hj,h2]⟩
      obtain ⟨xs,es,vs,l1,l2,l3,hl,hok,hr⟩:=all len (Nat.le_refl _)
      have hrow : ∀ (i:Nat) (e':PV),es[i]? = some e' -> ∃ c',vs[i]? = some c':=λi e' h1=>by
       have:=(List.getElem?_eq_some_iff.1 h1).1;exact ⟨vs[i]'(by omega),by simp [show i<vs.length by omega]⟩
      have hcell : ∀ (i:Nat) (e':PV) (j:Nat) (p:PV),es[i]? = some e'->e'.cells[j]? = some p -> ∃ v,((vs.getD i []).getD j .nilIface)=v/\Rep (NU w) mu0 p v/\v.oneCell'=true/\w.cell? ⟨a.block,a.off+i*P.cellsOf e+j,none⟩=some v:=λi e' j p h1 h2=>by
       obtain ⟨c',h3⟩:=hrow i e' h1;obtain ⟨k1,k2,k3⟩:=hr i e' c' h1 h3;have hj:=(List.getElem?_eq_some_iff.1 h2).1;have hv:c'[j]? = some (c'[j]'(by omega)):=by simp [show j<c'.length by omega]
       obtain ⟨q1,q2,q3⟩:=k3 j p _ h2 hv;rw [V7 hspot] at q3;rw [V7 rfl] at q3;exact ⟨_,by simp [List.getD_eq_getElem?_getD,h3,hv],q1,q2,q3⟩
      refine ⟨xs,[.lst false es],⟨_,rfl,.inr ⟨_,_,rfl,hl⟩⟩,⟨by omega,hok⟩,rfl,rfl,λi p v h1 h2 => ?_,λv hv=>by simp at hv;subst hv;rfl⟩;cases i with
      | succ i=>simp at h1
      | zero =>
       simp at h1 h2;subst h1;subst h2;have ea:a=⟨a.block,a.off,none⟩:=by cases a;simp at hspot;subst hspot;rfl
       rw [ea,show len=es.length from l2.symm];refine .lst _ _ es a.block a.off (P.cellsOf e) cap (λi j=>(vs.getD i []).getD j .nilIface) (λh=>by cases h) (by omega) (λi e' h1 => ?_) (λi e' j p h1 h2 => ?_) (λi e' j p h1 h2 => ?_) (λi e' j p h1 h2 => ?_)
       ·obtain ⟨c',h3⟩:=hrow i e' h1;obtain ⟨k1,k2,_⟩:=hr i e' c' h1 h3;omega
       ·obtain ⟨v,e1,_,_,e4⟩:=hcell i e' j p h1 h2;simp only [NU,if_true,e4,e1]
       ·obtain ⟨v,e1,_,e3,_⟩:=hcell i e' j p h1 h2;simp only [e1];exact e3
       ·obtain ⟨v,e1,e2,_,_⟩:=hcell i e' j p h1 h2;simp only [e1];exact e2
   ·cases hc
  ·rename_i fs hu;obtain ⟨c',hgo,hx⟩:=Pi.AL hc;cases hx;obtain ⟨xs,n,_,_,hlen,hxs,hf⟩:=DataW.trod_struct hu h;obtain ⟨hty,hcells,hoff⟩:=K.struct ht hu
   have go : ∀ (r pre:List Field) (c':Ty),fs.toList=pre++r->Yl (TT P D) r=some c' -> ∃ x ps,Cells w c' x ps ((cs.drop ((pre.map λf=>P.cellsOf f.type).sum)).take ((r.map λf=>P.cellsOf f.type).sum)):=by
    intro r
    induction r with
    | nil =>
     intro pre c' _ hg;cases hg;exact ⟨(),[],rfl,trivial,by simp,by simp [Ty.wd],λi p v h1=>by simp at h1,λv hv=>by simp at hv⟩
    | cons f r ih =>
     intro pre c' hfs hg
     have hfi:fs[pre.length]? = some f:=by
      rw [<- Array.getElem?_toList,hfs];simp
     have hfi':fs.toList[pre.length]? = some f:=by rw [hfs];simp
     have ho:=hoff _ _ hfi';rw [show (fs.toList.take pre.length)=pre by rw [hfs];simp] at ho;have hfe:=hf _ _ hfi
     have hi:pre.length<xs.length:=by
      have:=(Array.getElem?_eq_some_iff.1 hfi).1;omega
     rw [show xs[pre.length]? = some xs[pre.length] by simp [hi],ho] at hfe;have htf:=hty f (by rw [hfs];simp)
     have htot:cs.length=((pre.map λf=>P.cellsOf f.type).sum)+(P.cellsOf f.type+(r.map λf=>P.cellsOf f.type).sum):=by
      rw [hlen,hcells,hfs];simp [List.sum_append]
     have one : ∀ {g:Bool} {c1:Ty},TT P D f.type=some (g,c1) -> ∃ x ps,Cells w c1 x ps ((cs.drop ((pre.map λf=>P.cellsOf f.type).sum)).take (P.cellsOf f.type)):=λh1=>LD K D h1 htf hfe;cases r with
     | nil =>
      have hg':(TT P D f.type).map (·.2)=some c':=hg;obtain ⟨⟨g,c1⟩,h1,h2⟩:=Pi.AL hg';simp only at h2;subst h2;simpa using one h1
     | cons f2 r =>
      have hg':(match TT P D f.type,Yl (TT P D) (f2::r) with
       | some (_,c),some r=>some (.pair c r)
       | _,_=>none)=some c':=hg
      split at hg'
      ·rename_i g1 c1 c2 h1 h2;cases hg';obtain ⟨x1,p1,k1⟩:=one h1;obtain ⟨x2,p2,k2⟩:=ih (pre++[f]) c2 (by rw [hfs];simp) h2;rw [show (((pre++[f]).map λf=>P.cellsOf f.type).sum)=((pre.map λf=>P.cellsOf f.type).sum)+P.cellsOf f.type by simp [List.sum_append]] at k2
       have hsplit:(cs.drop ((pre.map λf=>P.cellsOf f.type).sum)).take (((f::f2::r).map λf=>P.cellsOf f.type).sum)=(cs.drop ((pre.map λf=>P.cellsOf f.type).sum)).take (P.cellsOf f.type)++(cs.drop ((pre.map λf=>P.cellsOf f.type).sum+P.cellsOf f.type)).take (((f2::r).map λf=>P.cellsOf f.type).sum):=by
        rw [List.map_cons,List.sum_cons,List.take_add,List.drop_drop]
       rw [hsplit];refine ⟨(x1,x2),p1++p2,⟨p1,p2,rfl,k1.dp,k2.dp⟩,⟨k1.ok,k2.ok⟩,by simp only [List.length_append,k1.len,k2.len],by rw [List.length_append,k1.wd,k2.wd];rfl,λi p v h3 h4 => ?_,λv hv => ?_⟩
       ·by_cases hi:i<p1.length
        ·rw [List.getElem?_append_left hi] at h3;rw [List.getElem?_append_left (by rw [<- k1.len];exact hi)] at h4;exact k1.rep i p v h3 h4
        ·rw [List.getElem?_append_right (by omega)] at h3;rw [List.getElem?_append_right (by rw [<- k1.len];omega),<- k1.len] at h4;exact k2.rep _ p v h3 h4
       ·rcases List.mem_append.1 hv with hv | hv
        ·exact k1.one v hv
        ·exact k2.one v hv
      ·cases hg'
   obtain ⟨x,ps,k⟩:=go fs.toList [] c (by simp) hgo;refine ⟨x,ps,?_⟩
   have:(cs.drop ((([]:List Field).map λf=>P.cellsOf f.type).sum)).take ((fs.toList.map λf=>P.cellsOf f.type).sum)=cs:=by
    rw [<- hcells,<- hlen];simp
   rw [this] at k;exact k
  ·cases hc
def ZW (P:Program) (D:Nat):List TypeId->Option (List (Bool×Ty))
 | []=>some []
 | t::ts=>match TT P D t,ZW P D ts with
  | some p,some l=>bif Nat.blt t P.types.size then some (p::l) else none
  | _,_=>none
theorem RQ {D:Nat} {t:TypeId} {g:Bool} {c:Ty} (hc:TT P D t=some (g,c)) {r:Reach} {b0:Nat} {v:Value} (hv:Value.okWide P w r b0 t v):(g=true /\ ∃ cs,v = .agg cs)\/(g=false/\v.cells = #[v]):=by
 cases D with
 | zero=>cases hc
 | succ D =>
  unfold TT at hc;split at hc
  ·rename_i hu;cases hc;obtain ⟨n,rfl⟩:=okWide_int hu hv;exact .inr ⟨rfl,rfl⟩
  ·rename_i hu;cases hc;obtain ⟨n,rfl⟩:=okWide_bool hu hv;exact .inr ⟨rfl,rfl⟩
  ·rename_i hu;cases hc;obtain ⟨n,rfl⟩:=okWide_string hu hv;exact .inr ⟨rfl,rfl⟩
  ·rename_i hu;split at hc
   ·replace hc:=A3 hc;cases hc.2;obtain ⟨a,len,cap,rfl⟩:=okWide_slice hu hv;exact .inr ⟨rfl,rfl⟩
   ·cases hc
  ·rename_i hu;obtain ⟨x,_,hx⟩:=Pi.AL hc;cases hx;obtain ⟨cs,rfl,_⟩:=okWide_struct hu hv;exact .inl ⟨rfl,cs,rfl⟩
  ·cases hc
theorem ZX (K:Kids P (· < P.types.size)) {D:Nat} {t:TypeId} {g:Bool} {c:Ty} (hc:TT P D t=some (g,c)) (ht:t<P.types.size) {r:Reach} {b0:Nat} {v:Value} (hv:Value.okWide P w r b0 t v) {d:DataW H} {q:List MemPlace} (h:DataW.Trod enc P w 0 (λ_=>true) true t v d q) :
  ∃ x p,EP g (DP c) x p/\gn c x/\Rep (NU w) mu0 p v:=by
 obtain ⟨fuel,h⟩:=h;obtain ⟨x,ps,k⟩:=LD K D hc ht h;rcases RQ hc hv with ⟨rfl,cs,rfl⟩ | ⟨rfl,hcs⟩
 ·refine ⟨x,.agg ps,⟨ps,rfl,k.dp⟩,k.ok,.agg _ _ _ (by have:=k.len;rw [Array.length_toList] at this;exact this) (λi v hi=>k.one v ?_) λi p v h1 h2=>k.rep i p v h1 ?_⟩
  ·have:cs.toList[i]? = some v:=by simpa using hi
   exact List.mem_of_getElem? this
  ·show cs.toList[i]? = some v;simpa using h2
 ·obtain ⟨e,he,hcell⟩:=k.ep hc;have hl:=k.len;rw [hcs] at hl
  have hps : ∃ p,ps=[p]:=by
   match ps,hl with
   | [p],_=>exact ⟨p,rfl⟩
  obtain ⟨p,rfl⟩:=hps;refine ⟨x,e,he,k.ok,?_⟩
  have hep:e=p:=by
   rcases V6 hc with ⟨kk,rfl⟩ | rfl | rfl | ⟨g,ee,rfl⟩
   ·have h1:[e]=[PV.int kk x]:=he;simp at h1;subst h1;simpa [PV.cells] using hcell
   ·have h1:[e]=[PV.bool x]:=he;simp at h1;subst h1;simpa [PV.cells] using hcell
   ·have h1:[e]=[PV.str x]:=he;simp at h1;subst h1;simpa [PV.cells] using hcell
   ·obtain ⟨p',hp',hd⟩:=he;simp at hp';subst hp';rcases hd with ⟨rfl,_⟩ | ⟨f,es,rfl,_⟩<;>simpa [PV.cells] using hcell
  subst hep;exact k.rep 0 e v rfl (by rw [hcs];rfl)
theorem P9 (K:Kids P (· < P.types.size)) {D:Nat} {r:Reach} {b0:Nat} : ∀ {ts:List TypeId} {dom:List (Bool×Ty)},ZW P D ts=some dom -> ∀ {vs:List Value} {ds:List (DataW H)} {q:List MemPlace},(∀ (j:Nat) t v,ts[j]? = some t->vs[j]? = some v->Value.okWide P w r b0 t v)->DataW.TrodAll enc P w 0 (λ_=>true) true ts vs ds q ->
  ∃ x as,H1 dom x as/\gp dom x/\RepL (NU w) mu0 as vs
 | [],dom,h,vs,ds,q,hv,ht=>by
  cases h;obtain ⟨rfl,_,_⟩:=trodAll_nil ht;exact ⟨(),[],rfl,trivial,.nil _ _⟩
 | t::ts,dom,h,vs,ds,q,hv,ht=>by
  unfold ZW at h;split at h
  ·rename_i p l h1 h2;replace h:=A3 h;obtain ⟨hlt,h⟩:=h;cases h;obtain ⟨v,vs',d,ds',p0,q0,rfl,rfl,rfl,k1,k2⟩:=trodAll_cons ht;obtain ⟨x,a,e1,e2,e3⟩:=ZX K h1 (by simpa using hlt) (hv 0 t v rfl rfl) k1;obtain ⟨y,as,f1,f2,f3⟩:=P9 K h2 (λj t v h3 h4=>hv (j+1) t v h3 h4) k2;cases l with
   | nil =>
    have:as=[]:=f1;subst this;exact ⟨x,[a],⟨a,rfl,e1⟩,e2,.cons e3 f3⟩
   | cons q r=>exact ⟨(x,y),a::as,⟨a,as,rfl,e1,f1⟩,⟨e2,f2⟩,.cons e3 f3⟩
  ·cases h
theorem QA (K:Kids P (· < P.types.size)) (hz : ∀ t e,t<P.types.size->P.underlying t=some (.slice e)->0<P.cellsOf e) {w':World} {sp:Nat->Bool} : ∀ {ts:List TypeId} {vs:List Value} {ds:List (DataW H)} {ps:List MemPlace},(∀ t∈ts,t<P.types.size)->DataW.TrodAll enc P w 0 (λ_=>true) true ts vs ds ps->(∀ p∈ps,w.sameAt w' p)->(∀ p∈ps,sp p.block=true)->DataW.TrodAll enc P w' 0 sp true ts vs ds ps
 | [],[],[],_,_,h,_,_=>h
 | _::_,_::_,_::_,_,hT,⟨p,q,⟨n,h1⟩,h2,e⟩,hm,hs=>⟨p,q,⟨n,DataW.trod_stays K (λh1 h2=>hz _ _ h1 h2) (λh=>by cases h) (hT _ (by simp)) h1 (λx hx=>hm x (by rw [e];exact List.mem_append_left _ hx)) (λx hx=>hs x (by rw [e];exact List.mem_append_left _ hx))⟩,
   QA K hz (λt ht=>hT t (by simp [ht])) h2 (λx hx=>hm x (by rw [e];exact List.mem_append_right _ hx)) (λx hx=>hs x (by rw [e];exact List.mem_append_right _ hx)),e⟩
end
end Go.Proofs.YthpkjfabdccpdaaGreat.Sv
namespace Go.Proofs.YthpkjfabdccpdaaGreat.Sv
section
variable {α β γ:Type}
theorem NZ {c:Bool} {p:Prop} [Decidable p] (h:c=true<->p) (x y:Unit->Option β):br c x y=if p then x () else y ():=by
 unfold br;by_cases hp:p
 ·rw [h.2 hp,if_pos hp];rfl
 ·have:c=false:=by cases c with
   | false=>rfl
   | true=>exact absurd (h.1 rfl) hp
  rw [this,if_neg hp];rfl
theorem ib {c:Bool} {p:Prop} [Decidable p] (h:c=true<->p) (k:Unit->Option β):gd c k=if p then k () else none:=NZ h k λ_=>none
theorem BD (a b:Int) (x y:Unit->Option β):br (Ah a b) x y=if a<b then x () else y ():=NZ (by unfold Ah;simp) x y
theorem gr (a b:Int) (x y:Unit->Option β):br (SC a b) x y=if a<=b then x () else y ():=NZ (by unfold SC;simp) x y
theorem Ax (a b:Int) (x y:Unit->Option β):br (Bz a b) x y=if a>b then x () else y ():=NZ (by unfold Bz;simp) x y
theorem Fw (a b:Int) (x y:Unit->Option β):br (Hz a b) x y=if a>=b then x () else y ():=NZ (by unfold Hz;simp) x y
theorem CP (a b:Int) (x y:Unit->Option β):br (Bm a b) x y=if a=b then x () else y ():=NZ (by unfold Bm;simp) x y
theorem AR (a b:Int) (x y:Unit->Option β):br (Ao a b) x y=if a=b then y () else x ():=by
 rw [NZ (p:=a≠b) (by unfold Ao;simp)];by_cases h:a=b<;>simp [h]
theorem ic (c:Bool) (x y:Unit->Option β):br (AZ c) x y=br c y x:=by unfold br AZ;cases c<;>rfl
theorem Gp (c:Bool) (x y:Unit->Option β):br c x y=if c=true then x () else y ():=by unfold br;cases c<;>rfl
theorem CO (a b:Nat) (x y:Unit->Option β):br (neq a b) x y=if a=b then x () else y ():=NZ (by unfold neq;simp) x y
theorem ie (a b:Nat) (x y:Unit->Option β):br (B6 a b) x y=if a<b then x () else y ():=NZ (by unfold B6;exact iff_of_eq Nat.blt_eq) x y
theorem AN (x y:Unit->Option β):br true x y=x ():=rfl
theorem Ag (x y:Unit->Option β):br false x y=y ():=rfl
theorem AD (x:α) (k:α->Option β):bd (some x) k=k x:=rfl
theorem ig (a b:Nat) (k:Unit->Option β):gd (neq a b) k=if a=b then k () else none:=ib (by unfold neq;simp) k
theorem UX (a b:Nat) (k:Unit->Option β):gd (A6 a b) k=if a<=b then k () else none:=ib (by unfold A6;simp) k
theorem Ms (a b:Nat) (k:Unit->Option β):gd (B6 a b) k=if a<b then k () else none:=ib (by unfold B6;exact iff_of_eq Nat.blt_eq) k
theorem V8 {n:Int} (h:0<=n) (k:Nat->Option β):AS n k=k n.toNat:=by unfold AS;simp [h]
theorem AK {l:List α} {i:Nat} {x:α} (h:l[i]? = some x) (k:α->Option β):ix l i k=k x:=by unfold ix;rw [h]
theorem CT {a b:Int} (h : -9223372036854775808<=a+b/\a+b<=9223372036854775807):AH .i64 a b=a+b:=IntWalk.i64_in _ h
theorem Bl {a b:Int} (h : -9223372036854775808<=a-b/\a-b<=9223372036854775807):BJ .i64 a b=a-b:=IntWalk.i64_in _ h
theorem V9 {a b:Int} (h : -9223372036854775808<=a*b/\a*b<=9223372036854775807):Kv .i64 a b=a*b:=IntWalk.i64_in _ h
end
end Go.Proofs.YthpkjfabdccpdaaGreat.Sv
