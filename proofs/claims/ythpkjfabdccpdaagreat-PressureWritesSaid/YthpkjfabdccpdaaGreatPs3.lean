/- A part of the evaluator over typed open values for any program, and of the proof that it is sound. No condition. -/
import Derived.Test.YthpkjfabdccpdaaGreatPs2
import Derived.RowKit3
import Derived.WalkKit
import Derived.ProofKit
import Derived.OpenShut
import Derived.ReadAgain
import Derived.ChangeStays
import Derived.IntWalk
set_option linter.all false
namespace Go.Proofs.YthpkjfabdccpdaaGreat.Sv
open Go.Proofs.YthpkjfabdccpdaaGreat.Pi (PV T Hp Blk DF UM PE Ay BG AS BY B9)
theorem PF {X:Cx} : ∀ {args:List V} {ps:List PV} {i:Nat} {t:T V} {tP:T PV},VRL X args ps->TR X t tP->i+args.length<=1048575->TR X (MQ i args t) (Pi.Eg i ps tP)
 | [],ps,i,t,tP,hv,ht,_=>by
  rw [hv.nil_inv];exact ht
 | a::l,ps,i,t,tP,hv,ht,hb=>by
  obtain ⟨p,qs,rfl,h1,h2⟩:=hv.cons_inv;simp only [List.length_cons] at hb;show TR X (MQ (i+1) l (T.put 20 t i a)) (Pi.Eg (i+1) qs (T.put 20 tP i p));exact PF h2 (ht.put (d:=i) (by omega) h1) (by omega)
theorem VRL.len {X:Cx} {vs:List V} {ps:List PV} (h:VRL X vs ps):ps.length=vs.length:=h.length.symm
theorem GJ {X:Cx} {nt:Nat} (hnt:nt<1048575) : ∀ {l:List Nat} {args:List V} {ps:List PV} {t t':T V} {tP:T PV},VRL X args ps->TR X t tP->JK nt l args t=some t' -> ∃ tP',Pi.FC nt l ps tP=some tP'/\TR X t' tP'
 | [],[],ps,t,t',tP,hv,ht,e=>by
  rw [hv.nil_inv];cases e;exact ⟨tP,rfl,ht⟩
 | p::l,a::args,ps,t,t',tP,hv,ht,e=>by
  obtain ⟨q,qs,rfl,h1,h2⟩:=hv.cons_inv;unfold JK at e;replace e:=A9 e;obtain ⟨hp,e⟩:=e;have hp':p<nt:=by simpa using hp
  obtain ⟨tP',k1,k2⟩:=GJ hnt h2 (ht.put (d:=p) (by omega) h1) e;exact ⟨tP',by rw [Pi.FC,hp];exact k1,k2⟩
 | [],_::_,_,_,_,_,_,_,e=>by cases e
 | _::_,[],_,_,_,_,_,_,e=>by cases e
section
variable {P:Program} {tab:JB} {rec:Oz}
theorem Ki {β:Type} {x:β} {X:Cx} {h:H} {n:Nat} (r:RH X h n) {t:T V} {tP:T PV} (ht:TR X t tP) : ∀ {l:List ResultVar} {K:List V->Option β},QX P h t l K=some x -> ∃ vs ps,K vs=some x/\Pi.Py P X.h tP l=some ps/\VRL X vs ps
 | [],K,e=>⟨[],[],e,rfl,.nil⟩
 | .tmp k::l,K,e=>by
  unfold QX at e;replace e:=Ac e;obtain ⟨v,hv,e⟩:=e;obtain ⟨p,hp,h1⟩:=ht _ _ hv;obtain ⟨vs,ps,e,h2,h3⟩:=Ki r ht e;exact ⟨v::vs,p::ps,e,by simp [Pi.Py,Pi.Z8,hp,h2],.cons h1 h3⟩
 | .cell a ty::l,K,e=>by
  unfold QX at e;split at e
  ·rename_i j off hv;obtain ⟨p,hp,h1⟩:=ht _ _ hv;split at e
   ·rename_i cs fz lk hg;replace e:=Ac e;obtain ⟨v,hv2,e⟩:=e;obtain ⟨pid,m,ps,fz',k1,k2,k3,k4,k5⟩:=r.blk _ _ hg;simp only [VR] at h1;obtain ⟨pid',m',h4,rfl⟩:=h1;rw [k1] at h4;cases h4;obtain ⟨q,q1,q2⟩:=EL (k5.drop off) hv2;obtain ⟨vs,ps',e,h2,h3⟩:=Ki r ht e;exact ⟨v::vs,q::ps',e,by simp [Pi.Py,Pi.Z8,hp,k3,q1,h2],.cons q2 h3⟩
   ·cases e
  ·cases e
theorem LU {X : Cx} {fn : Func} {tP : T PV} {ps : List PV} (h1 : Pi.Py P X.h tP fn.results.toList = some ps) : ∀ {vs : List V}, VRL X vs ps -> ∃ pv, Pi.results P fn X.h tP = some pv /\ VR X (match vs with
            | [v] => v
            | vs => .tup vs) pv := by
          intro vs h2;unfold Pi.results;rw [h1]
          match vs, ps, h2 with
          | [], [], _ => exact ⟨.tup [], rfl, by simp only [VR]; exact ⟨[], rfl, .nil⟩⟩
          | [v], [p], h2 => exact ⟨p, rfl, by obtain ⟨_, _, h, h3, _⟩ := h2.cons_inv; cases h; exact h3⟩
          | a :: b :: c, p :: q :: s, h2 => exact ⟨.tup (p :: q :: s), rfl, by simp only [VR]; exact ⟨_, rfl, h2⟩⟩
          | [], _ :: _, h2 => cases h2.nil_inv
          | _ :: _, [], h2 => obtain ⟨_, _, h, _⟩ := h2.cons_inv; cases h
          | [_], _ :: _ :: _, h2 => obtain ⟨_, _, h, _, h3⟩ := h2.cons_inv; cases h; cases h3.nil_inv
          | _ :: _ :: _, [_], h2 => obtain ⟨_, _, h, _, h3⟩ := h2.cons_inv; cases h; obtain ⟨_, _, h, _⟩ := h3.cons_inv; cases h
theorem NA {X:Cx} {u:UMA} {uP:UM} (h:UMR X (some u) (some uP)):UMR X (some (W4 u)) (some (Pi.RO uP)):=by
 cases u with
 | ret =>
  have:some uP=some UM.ret:=h;cases this;exact h
 | pan ch =>
  obtain ⟨c,h1,h2⟩:=h;cases h1;cases ch with
  | nil=>rw [L2.nil_inv h2];exact ⟨[],rfl,.nil⟩
  | cons a ch =>
   obtain ⟨⟨bv,br⟩,t,rfl,h3,h4⟩:=L2.cons_inv h2;obtain ⟨av,ar⟩:=a;have:ar=br:=h3.2;subst this;cases ar with
   | true=>rfl
   | false=>exact ⟨_,rfl,.cons h3 h4⟩
theorem YO (R:RecAOK P tab rec) {fn:Func} {β:Type} {x:β} : ∀ {n:Nat} {ds:List DFA} {u:UMA} {t:T V} {h:H} {nx:Nat} {K:OutA->H->Nat->Option β},JL P rec fn β n ds u t h nx K=some x ->
  ∀ {X:Cx} {b bP:Nat} {dsP:List DF} {uP:UM} {tP:T PV},RH X h nx->nx<=1048575->L2 (DFR X) ds dsP->UMR X (some u) (some uP)->TR X t tP->b<=nx->bP<=X.h.nx ->
   ∃ o h' nx' Y oP hP',K o h' nx'=some x/\(∃ N,∀ m F k,N<=m->N<=F->N<=k->Pi.leave P (Pi.Eh P (Bm tab) F k) fn m dsP uP tP X.h=some (oP,hP'))/\Ao b bP X h nx Y h' nx' hP'/\U8 Y o oP:=by
 intro n
 induction n with
 | zero=>intro ds u t h nx K e;cases e
 | succ n ih =>
  intro ds u t h nx K e X b bP dsP uP tP r hn hds hu ht hb hbP;unfold JL at e;split at e
  ·have:=L2.nil_inv hds;subst this;split at e
   ·have:some uP=some UM.ret:=hu;cases this;replace e:=Ki r ht e;obtain ⟨vs,ps,e,h1,h2⟩:=e;obtain ⟨pv,k1,k2⟩:=LU h1 h2;refine ⟨_,h,nx,X,.ret pv,X.h,e,⟨1,λm F k hm _ _ => ?_⟩,⟨rfl,r,hn,Nat.le_refl _,Ext.refl _ _ _ _⟩,⟨pv,rfl,k2⟩⟩;obtain ⟨m,rfl⟩ : ∃ m',m=m'+1:=⟨m-1,by omega⟩;unfold Pi.leave;rw [k1]
   ·obtain ⟨c,h1,h2⟩:=hu;cases h1;refine ⟨_,h,nx,X,.pan c,X.h,e,⟨1,λm F k hm _ _ => ?_⟩,⟨rfl,r,hn,Nat.le_refl _,Ext.refl _ _ _ _⟩,⟨c,rfl,h2⟩⟩;obtain ⟨m,rfl⟩ : ∃ m',m=m'+1:=⟨m-1,by omega⟩;rfl
  ·rename_i id ds';obtain ⟨dP,dsP',rfl,h1,h2⟩:=L2.cons_inv hds;obtain ⟨pid,m0,k1,rfl⟩:=h1;split at e
   ·rename_i l hg;obtain ⟨pid',m',q,b1,b2,b3,b4⟩:=r.blk _ _ hg;rw [k1] at b1;cases b1;cases q with
    | none=>exact b4.elim
    | some lP =>
     simp only at b4;obtain ⟨hq,e1⟩:=Dz X.h pid (.df none);obtain ⟨Y,y1,y2,y3,y4,y5⟩:=r.set (b':=.df none) (by have:=r.dom _ _ k1;omega) hg trivial rfl k1 b3 (λ_ _ _ _ _ _ _ _=>by simp) e1 (λY z1 z2 z3 u=>⟨pid,m0,none,k1,by rw [z3];exact b2,by rw [z2,(Hp.get_set e1).1,if_pos rfl],trivial⟩) X.h.nx;have u:=(y5 nx).up;obtain ⟨o,h',nx',Z,oP,hP',c1,⟨N,c2⟩,c3,c4⟩:=ih e (b:=b) (bP:=bP) y4 hn ((b4.append h2).mono λ_ _ k=>k.mono u) (hu.mono u) (ht.mono u) hb (by rw [y2,(Hp.get_set e1).2];exact hbP);refine ⟨o,h',nx',Z,oP,hP',c1,⟨N+1,λm F k hm hF hk => ?_⟩,⟨c3.hp,c3.rh,c3.big,c3.le,((y5 nx).ext hb hbP).trans c3.ext⟩,c4⟩;obtain ⟨m,rfl⟩ : ∃ m',m=m'+1:=⟨m-1,by omega⟩;rw [Pi.leave];simp only [b3,e1];rw [<- y2];exact c2 m F k (by omega) (by omega) (by omega)
   ·cases e
  ·rename_i b0 ats ty0 args ds';obtain ⟨dP,dsP',rfl,h1,h2⟩:=L2.cons_inv hds;obtain ⟨ps,rfl,h3⟩:=h1;split at e
   ·rename_i j ty hty;obtain ⟨p,qs,rfl,h4,h5⟩:=h3.cons_inv;have:=h5.nil_inv;subst this;split at e
    ·rename_i kt et kk g c l hu1 hg;simp only [VR] at h4;obtain ⟨pid,m,hpi,rfl⟩:=h4;have hbr:=r.blk _ _ hg;rw [hpi] at hbr;obtain ⟨_,_,es,k2,k3,k4,k6⟩:=hbr;cases k2;obtain ⟨hP1,Y,e1,y1⟩:=r.mapSet hn hg hpi k4 (l':=[]) (es':=[]) .nil;obtain ⟨z1,z2,z3⟩:=y1 nx X.h.nx;have u:=z3.up;obtain ⟨o,h',nx',Z,oP,hP',c1,⟨N,c2⟩,c3,c4⟩:=ih e (b:=b) (bP:=bP) z2 hn (h2.mono λ_ _ k=>k.mono u) (hu.mono u) (ht.mono u) hb (by rw [z3.nx];exact hbP);refine ⟨o,h',nx',Z,oP,hP',c1,⟨N+1,λm F k hm hF hk => ?_⟩,⟨c3.hp,c3.rh,c3.big,c3.le,(z3.ext hb hbP).trans c3.ext⟩,c4⟩;obtain ⟨m,rfl⟩ : ∃ m',m=m'+1:=⟨m-1,by omega⟩;rw [Pi.leave];simp only [Pi.Ah,hty,hu1,k4,e1,Option.map_some];rw [<- z1];exact c2 m F k (by omega) (by omega) (by omega)
    ·cases e
   ·cases e
  ·rename_i f args ds';obtain ⟨dP,dsP',rfl,h1,h2⟩:=L2.cons_inv hds;obtain ⟨fP,ps,rfl,h3,h4⟩:=h1;split at e
   ·rename_i g a b';simp only [VR] at h3;obtain ⟨aP,bP',rfl,h5,h6⟩:=h3;obtain ⟨g',as,qs,e1,hinv,hargs⟩:=JO h5 h6 h4 e;obtain ⟨o',up',h',nx',Y,oP,upP',hP',e2,⟨N1,hN1⟩,run,ho,hu'⟩:=R.fn e1 r hn hargs hu;have hup:=run.ext.full r (Nat.le_refl _);split at e2
    ·rename_i v u';obtain ⟨vP,rfl,hv⟩:=ho;cases upP' with
     | none=>cases u' with
      | ret=>cases hu'
      | pan=>obtain ⟨_,h,_⟩:=hu';cases h
     | some uP' =>
      obtain ⟨o,h'',nx'',Z,oP,hP'',c1,⟨N,c2⟩,c3,c4⟩:=ih e2 (b:=b) (bP:=bP) run.rh run.big (h2.mono λ_ _ k=>k.mono hup) (NA hu') (ht.mono hup) (Nat.le_trans hb run.le) (Nat.le_trans hbP run.ext.nx);refine ⟨o,h'',nx'',Z,oP,hP'',c1,⟨max N N1+1,λm F k hm hF hk => ?_⟩,⟨c3.hp,c3.rh,c3.big,Nat.le_trans run.le c3.le,(run.ext.le hb hbP).trans c3.ext⟩,c4⟩;obtain ⟨m,rfl⟩ : ∃ m',m=m'+1:=⟨m-1,by omega⟩;rw [Pi.leave];simp only [hinv,hN1 F k (by omega) (by omega)];rw [<- run.hp];exact c2 m F k (by omega) (by omega) (by omega)
    ·cases e2
   ·cases e
theorem TR.lf (X:Cx):TR X .lf .lf:=λk v e=>by cases e
theorem J3 {β:Type} {x:β} {X:Cx} {h:H} {nx l lP m b bP:Nat} {jump:Option Code} {K:OutA->Option UMA->H->Nat->Option β} (r:RH X h nx) (hn:nx<=1048575) (hl:X.π l=some (.blk lP m)) (e:Gz h nx l jump K=some x) :
  ∃ o up' h' Y oP upP' hP',K o up' h' nx=some x/\Pi.Cp X.h lP jump=some (oP,upP',hP')/\Ao b bP X h nx Y h' nx hP'/\U8 Y o oP/\UMR Y up' upP':=by
 unfold Gz at e;split at e
 ·rename_i st pd nt t ps asg body d hg;have hbr:=r.blk _ _ hg;obtain ⟨pid,n',tP,dP',m',k1,k2,k3,k4,k5,k6⟩:=hbr;rw [hl] at k1;cases k1
  have main : ∀ st2:Nat,K (.ret (.bool jump.isNone)) none (Af h l (.lp st2 jump nt t ps asg body d)) nx=some x->(∀ hP2,X.h.set lP (.lp st2 jump nt tP ps asg body dP')=some hP2->Pi.Cp X.h lP jump=some (.ret (.bool jump.isNone),none,hP2)) ->
    ∃ o up' h' Y oP upP' hP',K o up' h' nx=some x/\Pi.Cp X.h lP jump=some (oP,upP',hP')/\Ao b bP X h nx Y h' nx hP'/\U8 Y o oP/\UMR Y up' upP':=λst2 e1 e2=>by
   obtain ⟨hP2,es⟩:=Dz X.h lP (.lp st2 jump nt tP ps asg body dP');obtain ⟨Z,z1,z2,z3,z4,z5,z6⟩:=r.setLp hn hg hl k3 es b bP;exact ⟨_,_,_,Z,.ret (.bool jump.isNone),none,hP2,e1,e2 _ es,⟨z2,z5,hn,Nat.le_refl _,z6⟩,⟨_,rfl,by simp [VR]⟩,rfl⟩
  unfold Pi.Cp at main ⊢;simp only [k3] at main ⊢;cases jump with
  | none=>exact main 0 e λhP2 es=>by rw [es]
  | some j=>exact main 2 e λhP2 es=>by rw [es]
 ·cases e
theorem PG (T:TabOK P tab) (D:DrawnAOK P tab) {ann:Ox} {F0:Nat} : ∀ n,RecAOK P tab (W5 P tab ann F0 n)
 | 0=>⟨λe=>(by cases e),λe=>(by cases e)⟩
 | n+1=>by
  have R:=PG T D (ann:=ann) (F0:=F0) n;constructor
  ·intro β x f up args h nx K e X upP ps r hn ha hu;simp only [W5] at e;replace e:=Ac e;obtain ⟨fn,hf,e⟩:=e;replace e:=Ac e;obtain ⟨c,hc,e⟩:=e;replace e:=A9 e;obtain ⟨hb,e⟩:=e;have hb2:=hb;simp only [Bool.and_eq_true] at hb2;have hlen:args.length<=fn.ntmps:=Nat.le_of_ble_eq_true hb2.1;have hnt:fn.ntmps<1048575:=by simpa using hb2.2
   have hlP:ps.length=args.length:=VRL.len ha;obtain ⟨ex,fr',h',nx',Y,exP,fp',hP',q1,⟨N,q2⟩,q3,q4,q5⟩:=VF R T D F0 c e (fp:={ t:=Pi.Eg 0 ps .lf,nt:=fn.ntmps,ds:=[],up:=upP,ro:=none }) r hn ⟨PF ha (TR.lf X) (by omega),rfl,hnt,.nil,hu,rfl⟩ (Nat.le_refl _) (Nat.le_refl _)
   have go : ∀ {u:UMA} {uP:UM} {o:OutA->H->Nat->Option β},JL P (W5 P tab ann F0 n) fn β F0 fr'.ds u fr'.t h' nx' (λo h nx=>K o fr'.up h nx)=some x->UMR Y (some u) (some uP) ->
     (∀ FF nn,N<=FF->N<=nn -> ∀ {oP:Pi.Out} {hP:Hp},Pi.leave P (Pi.Eh P (Bm tab) FF nn) fn FF fp'.ds uP fp'.t hP'=some (oP,hP)->Pi.Eh P (Bm tab) FF (nn+1) (.fn f) upP ps X.h=some (oP,fp'.up,hP)) ->
     ∃ o up' h' nx' Y oP upP' hP',K o up' h' nx'=some x/\PD P tab (.fn f) upP ps X.h (oP,upP',hP')/\Ao nx X.h.nx X h nx Y h' nx' hP'/\U8 Y o oP/\UMR Y up' upP':=fun {u uP _} e hu hP=>by
    obtain ⟨o,h2,nx2,Z,oP,hP2,c1,⟨N2,c2⟩,c3,c4⟩:=YO R e (b:=nx') (bP:=Y.h.nx) q3.rh q3.big q4.ds hu q4.t (Nat.le_refl _) (Nat.le_refl _);have hup:=c3.ext.full q3.rh (Nat.le_refl _);refine ⟨o,fr'.up,h2,nx2,Z,oP,fp'.up,hP2,c1,⟨max N N2+1,λFF nn hF hnn => ?_⟩,⟨c3.hp,c3.rh,c3.big,Nat.le_trans q3.le c3.le,q3.ext.trans (c3.ext.le q3.le q3.ext.nx)⟩,c4,q4.up.mono hup⟩;obtain ⟨nn,rfl⟩ : ∃ m',nn=m'+1:=⟨nn-1,by omega⟩;refine hP FF nn (by omega) (by omega) ?_;rw [<- q3.hp];exact c2 FF FF nn (by omega) (by omega) (by omega)
   have head : ∀ FF nn,Pi.Eh P (Bm tab) FF (nn+1) (.fn f) upP ps X.h=(match (Pi.exec P (Bm tab) (Pi.Eh P (Bm tab) FF nn) FF c { t:=Pi.Eg 0 ps .lf,nt:=fn.ntmps,ds:=[],up:=upP,ro:=none } X.h) with
     | some (.normal,fr,h) | some (.ret,fr,h)=>(match Pi.leave P (Pi.Eh P (Bm tab) FF nn) fn FF fr.ds .ret fr.t h with
      | some (o,h)=>some (o,fr.up,h)
      | none=>none)
     | some (.panic e,fr,h)=>(match Pi.leave P (Pi.Eh P (Bm tab) FF nn) fn FF fr.ds (.pan [{ v:=e,recovered:=false }]) fr.t h with
      | some (o,h)=>some (o,fr.up,h)
      | none=>none)
     | _=>none):=λFF nn=>by
    rw [Pi.Eh];simp only [hf,hc,hlP,hb,cond_true];rfl
   cases ex with
   | normal =>
    have:exP = .normal:=q5;subst this
    exact go (o:=λ_ _ _=>none) q1 (show UMR Y (some .ret) (some .ret) from rfl) λFF nn hF hnn oP hP hl=>by
     rw [head,q2 FF FF nn hF hF hnn];simp only [hl]
   | ret =>
    have:exP = .ret:=q5;subst this
    exact go (o:=λ_ _ _=>none) q1 (show UMR Y (some .ret) (some .ret) from rfl) λFF nn hF hnn oP hP hl=>by
     rw [head,q2 FF FF nn hF hF hnn];simp only [hl]
   | panic v =>
    obtain ⟨p,rfl,hv⟩:=q5
    exact go (o:=λ_ _ _=>none) q1 (uP:=.pan [{ v:=p,recovered:=false }]) (show UMR Y (some (.pan [{ v:=v,recovered:=false }])) (some (.pan [{ v:=p,recovered:=false }])) from ⟨_,rfl,.cons ⟨hv,rfl⟩ .nil⟩) λFF nn hF hnn oP hP hl=>by
     rw [head,q2 FF FF nn hF hF hnn];simp only [hl]
   | _=>cases q1
  ·intro β x l args h nx K e X lP m ps r hn hl ha;simp only [W5] at e;split at e
   ·rename_i st0 pd0 nt t psl asg body0 d0 hg;replace e:=Ac e;obtain ⟨t1,ht1,e⟩:=e;obtain ⟨pid,n',tP,dP,m',k1,k2,k3,k4,k5,k6⟩:=r.blk _ _ hg;rw [hl] at k1;cases k1;obtain ⟨tP1,s1,s2⟩:=GJ k6 ha k4 ht1;obtain ⟨ex,fr',h',nx',Y,exP,fp',hP',q1,⟨N,q2⟩,q3,q4,q5⟩:=VF R T D F0 asg e (fp:={ t:=tP1,nt:=nt,ds:=[],up:=none,ro:=some lP }) r hn ⟨s2,rfl,k6,.nil,rfl,⟨_,_,hl,rfl⟩⟩ (Nat.le_refl _) (Nat.le_refl _);cases ex with
    | normal =>
     have:exP = .normal:=q5;subst this;simp only at q1;have hup:=q3.ext.full r (Nat.le_refl _);have hlY:=hup.pi _ _ hl;split at q1
     ·rename_i pend nt2 t2 ps2 asg2 body2 d2 hg2;obtain ⟨pid,n',tP2,dP2,m2,j1,j2,j3,j4,j5,j6⟩:=q3.rh.blk _ _ hg2;rw [hlY] at j1;cases j1;obtain ⟨hP2,es⟩:=Dz Y.h lP (.lp 1 pend nt2 tP2 ps2 asg2 body2 dP2);obtain ⟨Z,z1,z2,z3,z4,z5,z6⟩:=q3.rh.setLp q3.big hg2 hlY j3 es nx X.h.nx;obtain ⟨ex3,fr3,h3,nx3,Y3,exP3,fp3,hP3,w1,⟨N3,w2⟩,w3,w4,w5⟩:=VF R T D F0 body0 q1 (fp:=fp') z5 q3.big (q4.mono z4) (Nat.le_refl _) (bP:=X.h.nx) (by rw [z2,(Hp.get_set es).2];exact q3.ext.nx);have x3:=(q3.ext.trans z6).trans (w3.ext.le (b:=nx) (bP:=X.h.nx) q3.le (Nat.le_refl _));have hl3:Y3.π l=some (.blk lP m):=x3.up.pi _ _ (by rw [Cx.low_eq (r.dom _ _ hl)];exact hl)
      have fin : ∀ {jump:Option Code},Gz h3 nx3 l jump K=some x ->
        (∀ {rr},Pi.Cp hP3 lP jump=some rr -> ∀ FF nn,max N N3<=FF->max N N3<=nn->Pi.Eh P (Bm tab) FF (nn+1) (.yl lP) none ps X.h=some rr) ->
        ∃ o up' h' nx' Y oP upP' hP',K o up' h' nx'=some x/\PD P tab (.yl lP) none ps X.h (oP,upP',hP')/\Ao nx X.h.nx X h nx Y h' nx' hP'/\U8 Y o oP/\UMR Y up' upP':=λe hh=>by
       obtain ⟨o,up',h4,Y4,oP,upP',hP4,v1,v2,v3,v4,v5⟩:=J3 (b:=nx) (bP:=X.h.nx) w3.rh w3.big hl3 e;rw [w3.hp] at v2;refine ⟨o,up',h4,nx3,Y4,oP,upP',hP4,v1,⟨max N N3+1,λFF nn hF hnn => ?_⟩,⟨v3.hp,v3.rh,v3.big,Nat.le_trans q3.le (Nat.le_trans w3.le v3.le),x3.trans v3.ext⟩,v4,v5⟩;obtain ⟨nn,rfl⟩ : ∃ m',nn=m'+1:=⟨nn-1,by omega⟩;exact hh v2 FF nn (by omega) (by omega)
      have head : ∀ FF nn,max N N3<=FF->max N N3<=nn->Pi.Eh P (Bm tab) FF (nn+1) (.yl lP) none ps X.h=(match some (exP3,fp3,hP3) with
        | some (.normal,_,h)=>Pi.Cp h lP none
        | some (.ret,_,h)=>Pi.Cp h lP (some .ret)
        | some (.exit id,_,h)=>Pi.Cp h lP (some (.exit id))
        | some (.goto id,_,h)=>Pi.Cp h lP (some (.goto id))
        | _=>none):=λFF nn hF hnn=>by
       have a1:=q2 FF FF nn (by omega) (by omega) (by omega);rw [<- q3.hp] at a1;have a2:=w2 FF FF nn (by omega) (by omega) (by omega);rw [z2] at a2;rw [Pi.Eh];simp only [k3,s1,a1,j3,es,a2];rfl
      cases ex3 with
      | normal =>
       have:exP3 = .normal:=w5;subst this;exact fin w1 λhr FF nn h1 h2=>(head FF nn h1 h2).trans hr
      | ret =>
       have:exP3 = .ret:=w5;subst this;exact fin w1 λhr FF nn h1 h2=>(head FF nn h1 h2).trans hr
      | exit i =>
       have:exP3 = .exit i:=w5;subst this;exact fin w1 λhr FF nn h1 h2=>(head FF nn h1 h2).trans hr
      | goto i =>
       have:exP3 = .goto i:=w5;subst this;exact fin w1 λhr FF nn h1 h2=>(head FF nn h1 h2).trans hr
      | panic=>cases w1
     ·cases q1
    | _=>cases q1
   ·cases e
theorem DX.wide {hh:Hp} {Q Q':Nat->Prop} : ∀ {c:Ty} {x:c.den} {ps:List PV},DX hh Q Q' c x ps->DX hh (λ_=>True) (λ_=>True) c x ps
 | .int _,_,_,e=>e
 | .bool,_,_,e=>e
 | .str,_,_,e=>e
 | .unit,_,_,e=>e
 | .pair _ _,_,_,⟨p,q,e,h1,h2⟩=>⟨p,q,e,DX.wide h1,DX.wide h2⟩
 | .sl _ _,_,_,⟨p,e,h⟩=>⟨p,e,by
  rcases h with h | h | ⟨pid,off,len,es,ex,fz,h1,h2,h3,h4,h5,h6⟩
  ·exact .inl h
  ·exact .inr (.inl h)
  ·exact .inr (.inr ⟨pid,off,len,es,ex,fz,h1,trivial,h3,h4,h5,h6.mono λ_ _ k=>k.mono λ_ _ k=>DR.mono (λq es ex fz hq hg=>⟨⟨fz,hg⟩,trivial⟩) k⟩)⟩
theorem domX.wide {hh:Hp} {Q Q':Nat->Prop} : ∀ {l:List (Bool×Ty)} {y:AG l} {ps:List PV},domX hh Q Q' l y ps->domX hh (λ_=>True) (λ_=>True) l y ps
 | [],_,_,h=>h
 | [p],_,_,⟨a,h1,h2⟩=>⟨a,h1,h2.mono λ_ _ k=>k.wide⟩
 | p::q::r,_,_,⟨a,t,h1,h2,h3⟩=>⟨a,t,h1,h2.mono λ_ _ k=>k.wide,domX.wide h3⟩
def lr:Cx:={ π:=λ_=>none,h:=If,O:=λ_=>False }
theorem nS:RH lr .lf 0:=⟨λ_ _ h=>(by cases h),λ_ _ _ _ _ _ _ h=>(by cases h),λ_ _ h=>(by cases h),λ_ _=>rfl,λ_ h=>h.elim⟩
theorem OV (T:TabOK P tab) (D:DrawnAOK P tab) {ann:Ox} {F0 n:Nat} {f:FuncId} {dom cod:List (Bool×Ty)} {x:AG dom} {y:AG cod} (e:Ab P tab ann F0 n f dom cod x=some y) {as:List PV} (ha:ID dom x as) :
  ∃ r up hR,PD P tab (.fn f) none as If (.ret r,up,hR)/\OK hR cod y r:=by
 unfold Ab at e;obtain ⟨o,up',h',nx',Y,oP,upP',hP',e1,pd,run,ho,_⟩:=(PG T D n).fn e nS (Nat.zero_le _) (Iy ha) (show UMR lr none none from rfl);split at e1
 ·rename_i v;obtain ⟨p,rfl,hv⟩:=ho;refine ⟨p,upP',hP',pd,?_⟩;rw [<- run.hp]
  have dec : ∀ (vs:List V) (ps:List PV),VRL Y vs ps->FH h' cod vs some=some y->domX Y.h (λ_=>True) (λ_=>True) cod y ps:=λvs ps hvs hd=>by
   obtain ⟨z,k1,k2⟩:=Et (Q:=λ_=>True) run.rh (λ_ _=>trivial) (λ_ _ _ _ _=>trivial) hvs hd;cases k1;exact k2.wide
  match cod,y,e1,dec with
  | [],y,e1,dec =>
   simp only at e1;split at e1
   ·simp only [VR] at hv;obtain ⟨ps,rfl,h2⟩:=hv;exact ⟨ps,rfl,dec _ _ h2 e1⟩
   ·cases e1
  | [c],y,e1,dec =>
   obtain ⟨a,h1,h2⟩:=dec _ _ (.cons hv .nil) e1;cases h1;exact h2
  | c::d::l,y,e1,dec =>
   simp only at e1;split at e1
   ·simp only [VR] at hv;obtain ⟨ps,rfl,h2⟩:=hv;exact ⟨ps,rfl,dec _ _ h2 e1⟩
   ·unfold FH at e1;simp only at e1;replace e1:=MW (Q:=λ_=>True) run.rh (λ_ _ _ _ _=>trivial) (λ_ _=>trivial) hv e1;obtain ⟨z,k1,k2⟩:=e1;cases l<;>cases k1
 ·cases e1
theorem bF (T:TabOK P tab) (D:DrawnAOK P tab) {ann:Ox} {F0 n:Nat} {f:FuncId} {dom:List (Bool×Ty)} {g:Bool} {c:Ty} {x:AG dom} {y:List c.den} (e:W6 P tab ann F0 n f dom g c x=some y) {as:List PV} (ha:ID dom x as) :
  ∃ r up hR,PD P tab (.fn f) none as If (.ret r,up,hR)/\OK hR [(false,.sl g c)] y r /\ ∀ j o len,r ≠ .own j o len:=by
 unfold W6 at e;obtain ⟨o,up',h',nx',Y,oP,upP',hP',e1,pd,run,ho,_⟩:=(PG T D n).fn e nS (Nat.zero_le _) (Iy ha) (show UMR lr none none from rfl);split at e1
 ·rename_i v;obtain ⟨p,rfl,hv⟩:=ho;refine ⟨p,upP',hP',pd,?_⟩;rw [<- run.hp]
  have fin:MK h' false (.sl g c) v some=some y->OK Y.h [(false,.sl g c)] y p:=λhd=>by
   obtain ⟨z,k1,k2⟩:=MW (Q:=λ_=>True) run.rh (λ_ _ _ _ _=>trivial) (λ_ _=>trivial) hv hd;cases k1;have hx:domX Y.h (λ_=>True) Y.Q [(false,.sl g c)] y [p]:=⟨p,rfl,k2⟩;obtain ⟨a,h1,h2⟩:=hx.wide;cases h1;exact h2
  split at e1
  ·refine ⟨fin e1,λj o len hh => ?_⟩;subst hh;simp only [VR] at hv;rcases hv with ⟨h,_⟩ | ⟨_,_,h,_⟩<;>cases h
  ·refine ⟨fin e1,λj o len hh => ?_⟩;subst hh;simp only [VR] at hv;cases hv
  ·cases e1
 ·cases e1
theorem TU {X:Cx} {p:Bool×Ty} {y:p.2.den} {a:PV} (h:EP p.1 (DP p.2) y a):VR X (bif lK p then lX (elP p.1 p.2 y) else elP p.1 p.2 y) (bif lK p then U9 a else a):=by
 cases hp:lK p with
 | false=>exact Hy h
 | true =>
  obtain ⟨g,c⟩:=p;cases g with
  | false=>cases hp
  | true =>
   have h2:=Hy (X:=Cx.pure) h;obtain ⟨ps,rfl,_⟩:=h;simp only [elP,cond_true,VR] at h2;obtain ⟨ps',e,hv⟩:=h2;cases e;show VR X (.pv _) (.view _);simp only [VR];exact ⟨ps,rfl,hv⟩
theorem Qm {X:Cx} : ∀ {l:List (Bool×Ty)} {y:AG l} {ps:List PV},ID l y ps->VRL X (aj l (JJ l y)) (Mb l ps)
 | [],_,_,h=>by rw [show _=[] from h];exact .nil
 | [p],_,_,⟨a,h1,h2⟩=>by subst h1;exact .cons (TU h2) .nil
 | p::q::r,_,_,⟨a,t,h1,h2,h3⟩=>by subst h1;exact .cons (TU h2) (Qm h3)
theorem bG (T:TabOK P tab) (D:DrawnAOK P tab) {ann:Ox} {F0 n:Nat} {f:FuncId} {dom cod:List (Bool×Ty)} {x:AG dom} {y:AG cod} (e:W7 P tab ann F0 n f dom cod x=some y) {as:List PV} (ha:ID dom x as) :
  ∃ r up hR,PD P tab (.fn f) none (Mb dom as) If (.ret r,up,hR)/\OK hR cod y r:=by
 unfold W7 at e;obtain ⟨o,up',h',nx',Y,oP,upP',hP',e1,pd,run,ho,_⟩:=(PG T D n).fn e nS (Nat.zero_le _) (Qm ha) (show UMR lr none none from rfl);split at e1
 ·rename_i v;obtain ⟨p,rfl,hv⟩:=ho;refine ⟨p,upP',hP',pd,?_⟩;rw [<- run.hp]
  have dec : ∀ (vs:List V) (ps:List PV),VRL Y vs ps->FH h' cod vs some=some y->domX Y.h (λ_=>True) (λ_=>True) cod y ps:=λvs ps hvs hd=>by
   obtain ⟨z,k1,k2⟩:=Et (Q:=λ_=>True) run.rh (λ_ _=>trivial) (λ_ _ _ _ _=>trivial) hvs hd;cases k1;exact k2.wide
  match cod,y,e1,dec with
  | [],y,e1,dec =>
   simp only at e1;split at e1
   ·simp only [VR] at hv;obtain ⟨ps,rfl,h2⟩:=hv;exact ⟨ps,rfl,dec _ _ h2 e1⟩
   ·cases e1
  | [c],y,e1,dec =>
   obtain ⟨a,h1,h2⟩:=dec _ _ (.cons hv .nil) e1;cases h1;exact h2
  | c::d::l,y,e1,dec =>
   simp only at e1;split at e1
   ·simp only [VR] at hv;obtain ⟨ps,rfl,h2⟩:=hv;exact ⟨ps,rfl,dec _ _ h2 e1⟩
   ·unfold FH at e1;simp only at e1;replace e1:=MW (Q:=λ_=>True) run.rh (λ_ _ _ _ _=>trivial) (λ_ _=>trivial) hv e1;obtain ⟨z,k1,k2⟩:=e1;cases l<;>cases k1
 ·cases e1
theorem bH (T:TabOK P tab) (D:DrawnAOK P tab) {ann:Ox} {F0 n:Nat} {f:FuncId} {dom:List (Bool×Ty)} {g:Bool} {c:Ty} {x:AG dom} {y:List c.den} (e:QY P tab ann F0 n f dom g c x=some y) (hy:y≠[]) {as:List PV} (ha:ID dom x as) :
  ∃ r up hR,PD P tab (.fn f) none as If (.ret r,up,hR)/\az hR g c y r:=by
 unfold QY at e;obtain ⟨o,up',h',nx',Y,oP,upP',hP',e1,pd,run,ho,_⟩:=(PG T D n).fn e nS (Nat.zero_le _) (Iy ha) (show UMR lr none none from rfl);split at e1
 ·rename_i j;obtain ⟨p,rfl,hv⟩:=ho;refine ⟨p,upP',hP',pd,?_⟩;rw [<- run.hp];split at e1
  ·rename_i g' c' l lk hg;replace e1:=A9 e1;obtain ⟨hgg,e1⟩:=e1;have:=eq_of_beq hgg;subst this;obtain ⟨hc,e1⟩:=Cm e1;subst hc;cases e1;have hb:=run.rh.blk _ _ hg;simp only [VR] at hv;cases hpi:Y.π j with
   | none=>rw [hpi] at hv;exact hv.elim
   | some a =>
    rw [hpi] at hv hb;rcases hb with ⟨pid,len,es,fz',h1,h2,h3,h4,h5,h7,h6⟩ | ⟨_,_,h2⟩ | ⟨es,h1,_,h2,_⟩
    ·cases h1;simp only at hv;subst hv;have:=h4 rfl;subst this;subst h5;exact .inr ⟨pid,es,rfl,h3,h7 rfl,h6.mono λ_ _ k=>k.mono λ_ _ k=>DR.mono (λq es ex fz hq hg=>⟨⟨fz,hg⟩,λhh=>hq (hh ▸ h2)⟩) k⟩
    ·exact absurd h2 hy
    ·rcases h2 with h2 | h2
     ·cases h2
     ·exact absurd h2 hy
  ·cases e1
 ·cases e1
end
end Go.Proofs.YthpkjfabdccpdaaGreat.Sv
namespace Go.Proofs.YthpkjfabdccpdaaGreat.Sv
open Go.Proofs.YthpkjfabdccpdaaGreat.Pi (PV T Hp Blk DF UM PE Ay BG AS BY B9)
def re (hs:Hp):Pi.R->Pi.R
 | .val v _ => .val v hs
 | .skip _ => .skip hs
 | r=>r
section
variable {P:Program} {h hs:Hp}
theorem Jo {o:Option PV}:Pi.vl o hs=(Pi.vl o h).map (re hs):=by cases o<;>rfl
theorem R4 {c:Bool} {v:PV}:(bif c then some (Pi.R.val v hs) else none)=(bif c then some (Pi.R.val v h) else none).map (re hs):=by cases c<;>rfl
theorem i4 {c a b:PV}:Pi.IX hs c a b=(Pi.IX h c a b).map (re hs):=by unfold Pi.IX;split<;>rfl
theorem bI {ty:TypeId} {ps:List (Nat×PV)}:Pi.FA P hs ty ps=(Pi.FA P h ty ps).map (re hs):=by
 unfold Pi.FA;split
 ·cases hc:(Array.toList _).all _ with
  | true=>simp only [cond_true];split<;>(try rfl);rename_i pl _;cases Pi.K8 _ pl<;>rfl
  | false=>rfl
 ·split
  ·rename_i n _;cases Nat.blt 0 n with
   | true=>simp only [cond_true];cases Pi.K8 _ _<;>rfl
   | false=>rfl
  ·rfl
 ·rfl
theorem kX {p:PV}:Pi.Jx hs p=(Pi.Jx h p).map (re hs):=by unfold Pi.Jx;split<;>rfl
theorem kY {op:BinOp} {ty:TypeId} {x y:Operand} {a b:PV}:Pi.IF P hs op ty x y a b=(Pi.IF P h op ty x y a b).map (re hs):=by
 unfold Pi.IF;split
 ·cases Pi.GG x||Pi.GG y<;>simp only [cond_true,cond_false]
  ·rfl
  ·exact Jo
 ·cases P.eqGuardType P.depth ty<;>simp only [cond_true,cond_false]
  ·exact Jo
  ·rfl
 ·exact Jo
theorem VG {s d:TypeId} {x:PV}:Pi.DO P hs s d x=(Pi.DO P h s d x).map (re hs):=by unfold Pi.DO;split<;>rfl
theorem kZ {ty:TypeId} {v:PV}:Pi.Ji P hs ty v=(Pi.Ji P h ty v).map (re hs):=by unfold Pi.Ji;split<;>rfl
theorem TV {f:Fn} {a b:List PV}:Pi.C7 hs f a b=(Pi.C7 h f a b).map (re hs):=by unfold Pi.C7;split<;>rfl
theorem R5 {s:TypeId} {x:PV} {f:Nat}:Pi.CM P hs s x f=(Pi.CM P h s x f).map (re hs):=by
 unfold Pi.CM;split
 ·split
  ·split
   ·rename_i n _;cases Nat.beq n 0 with
    | true=>rfl
    | false=>simp only [cond_false];split<;>rfl
   ·rfl
  ·rfl
 ·rfl
theorem bJ {s:TypeId} {x:PV} {f:Nat}:Pi.Fu P hs s x f=(Pi.Fu P h s x f).map (re hs):=by
 unfold Pi.Fu;split
 ·split
  ·exact Jo
  ·rfl
 ·rfl
theorem bK {s:TypeId} {x i:PV}:Pi.FB P hs s x i=(Pi.FB P h s x i).map (re hs):=by
 unfold Pi.FB;split
 ·rename_i len e cs k _ _;cases Nat.blt k len with
  | true =>
   simp only [cond_true];split
   ·exact Jo
   ·rfl
  | false=>rfl
 ·split<;>rfl
 ·rfl
theorem YP {ty:TypeId} {v:PV} {ok:Bool}:Pi.DV P hs ty v ok=(Pi.DV P h ty v ok).map (re hs):=by
 have z : ∀ {e:TypeId},(bif ok then (match Pi.En P e with
   | some z=>some (Pi.R.val (.tup [z,.bool false]) hs)
   | none=>none) else none)=(bif ok then (match Pi.En P e with
   | some z=>some (Pi.R.val (.tup [z,.bool false]) h)
   | none=>none) else none).map (re hs):=by
  intro e;cases ok with
  | true=>simp only [cond_true];split<;>rfl
  | false=>rfl
 unfold Pi.DV;split
 ·split
  ·split
   ·split
    ·rfl
    ·exact z
   ·rfl
  ·exact z
  ·rfl
 ·split
  ·rename_i u a;cases Nat.beq u ty with
   | true=>rfl
   | false=>exact z
  ·exact z
  ·rfl
 ·rfl
theorem VH {x:PV} {i:Nat}:Pi.EU hs x i=(Pi.EU h x i).map (re hs):=by
 unfold Pi.EU;split
 ·exact Jo
 ·rfl
theorem i5 {ty:TypeId} {p:PV} (hf : ∀ q∈Pi.Aa p,hs.get q=h.get q):Pi.GF P hs ty p=(Pi.GF P h ty p).map (re hs):=by
 unfold Pi.GF;cases p with
 | ptr j off =>
  simp only;rw [hf j (by simp [Pi.Aa])];split
  ·exact Jo
  ·rfl
 | view cs=>exact Jo
 | ept j i off =>
  simp only;rw [hf j (by simp [Pi.Aa])];split
  ·split
   ·exact Jo
   ·rfl
  ·rfl
 | _=>rfl
theorem R6 {ty:TypeId} {x i:PV} (hf : ∀ q∈Pi.Aa x,hs.get q=h.get q):Pi.CA P hs ty x i=(Pi.CA P h ty x i).map (re hs):=by
 unfold Pi.CA;split
 ·rename_i e k _ _;split
  ·rename_i n _;split
   ·split
    ·rename_i el _;cases Nat.beq el.cells.length n<;>rfl
    ·rfl
   ·rename_i j off len;rw [hf j (by simp [Pi.Aa])];cases Nat.blt k len with
    | true =>
     simp only [cond_true];split
     ·split
      ·rename_i el _;cases Nat.beq el.cells.length n<;>rfl
      ·rfl
     ·rfl
    | false=>rfl
   ·rfl
  ·rfl
 ·rename_i len e k _ _;split
  ·cases Nat.blt k len with
   | true=>simp only [cond_true];split<;>rfl
   | false=>rfl
  ·rfl
 ·rfl
theorem bL {ty:TypeId} {x:PV} {lo hi:Option PV} (hf : ∀ q∈Pi.Aa x,hs.get q=h.get q):Pi.Bz P hs ty x lo hi none=(Pi.Bz P h ty x lo hi none).map (re hs):=by
 unfold Pi.Bz;split
 ·split
  ·exact R4
  ·rfl
 ·split
  ·rfl
  ·rename_i n _;split
   ·split
    ·rename_i hh _ _ _;cases (none:Option PV).isSome && !hi.isSome<;>rfl
    ·rfl
   ·rename_i full es;cases !Pi.Gu n es with
    | true=>rfl
    | false =>
     simp only [cond_false];split
     ·rename_i l hh _ _;cases Nat.ble hh es.length&&Nat.ble l hh<;>rfl
     ·rfl
   ·rename_i j off len;rw [hf j (by simp [Pi.Aa])];split
    ·rename_i es ex fz _;cases !Pi.Gu n es with
     | true=>rfl
     | false =>
      simp only [cond_false];split
      ·rename_i l hh _ _;cases !Nat.ble l hh || !Nat.ble (off+hh) es.length with
       | true=>rfl
       | false =>
        simp only [cond_false];cases Nat.blt (off+l) es.length<;>rfl
      ·rfl
    ·rfl
   ·rfl
 ·rfl
theorem YQ {ty:TypeId} {x:PV} {lo hi mx:Option PV} (hp : ∀ j a b,x ≠ .own j a b):Pi.Bz P hs ty x lo hi mx=(Pi.Bz P h ty x lo hi mx).map (re hs):=by
 unfold Pi.Bz;split
 ·split
  ·exact R4
  ·rfl
 ·split
  ·rfl
  ·rename_i n _;split
   ·split
    ·cases mx.isSome && !hi.isSome<;>rfl
    ·rfl
   ·rename_i full es;cases !Pi.Gu n es with
    | true=>rfl
    | false =>
     simp only [cond_false];split
     ·cases mx with
      | none=>exact R4
      | some m =>
       dsimp only;split
       ·exact R4
       ·rfl
     ·rfl
   ·exact absurd rfl (hp _ _ _)
   ·rfl
 ·rfl
theorem LH {t:T PV} {x:Operand} {k k':PV->Option Pi.R} (f : ∀ p,Pi.Gt t x=some p->k' p=(k p).map (re hs)):Pi.e1 t x k'=(Pi.e1 t x k).map (re hs):=by
 unfold Pi.e1;split
 ·rename_i p hp;exact f p hp
 ·rfl
theorem bM {t:T PV} {x y:Operand} {k k':PV->PV->Option Pi.R} (f : ∀ p q,Pi.Gt t x=some p->Pi.Gt t y=some q->k' p q=(k p q).map (re hs)):Pi.e2 t x y k'=(Pi.e2 t x y k).map (re hs):=by
 unfold Pi.e2;split
 ·rename_i p q hp hq;exact f p q hp hq
 ·rfl
theorem lu {t:T PV} {x y z:Operand} {k k':PV->PV->PV->Option Pi.R} (f : ∀ p q r,k' p q r=(k p q r).map (re hs)):Pi.e3 t x y z k'=(Pi.e3 t x y z k).map (re hs):=by
 unfold Pi.e3;split
 ·exact f _ _ _
 ·rfl
theorem XN {t:T PV} {x:Operand} {l:List Operand} {p:PV} (hp:Pi.Gt t x=some p) : ∀ q∈Pi.Aa p,q∈Pi.Du t (x::l):=λq hq=>by
 simp only [Pi.Du,hp];exact List.mem_append_left _ hq
theorem VI {id:Nat} {b:Builtin} {ats:Array TypeId} {args:List PV} (hb:b = .len\/b = .cap\/b = .max\/b = .min) (hm:b = .len -> ∀ p∈args,∀ q∈Pi.L1 p,hs.get q=h.get q) (hf:b ≠ .len -> ∀ p∈args,∀ q∈Pi.Aa p,hs.get q=h.get q):Pi.Ah P hs id b ats args=(Pi.Ah P h id b ats args).map (re hs):=by
 unfold Pi.Ah;rcases hb with rfl | rfl | rfl | rfl
 ·simp only;split
  ·rename_i x t _;split
   ·rename_i j _;rw [hm rfl (.mp j) (by simp) j (by simp [Pi.L1])];split<;>rfl
   all_goals rfl
  ·rfl
 ·simp only;split
  ·rename_i x t _;split
   ·rename_i j off ln _;rw [hf (by simp) (.own j off ln) (by simp) j (by simp [Pi.Aa])];split<;>rfl
   all_goals rfl
  ·rfl
 ·simp only;split
  ·cases Pi.Fs _ _ _ _<;>rfl
  ·rfl
  ·rfl
 ·simp only;split
  ·cases Pi.Fs _ _ _ _<;>rfl
  ·rfl
  ·rfl
theorem R7 {t:T PV} : ∀ {l:List Operand} {ps:List PV},Pi.UZ t l=some ps -> ∀ p∈ps,∀ q∈Pi.Aa p,q∈Pi.Du t l
 | [],ps,e,p,hp,q,hq=>by cases e;cases hp
 | o::l,ps,e,p,hp,q,hq=>by
  unfold Pi.UZ at e;split at e
  ·rename_i a as h1 h2;cases e;rcases List.mem_cons.1 hp with rfl | hp
   ·simp only [Pi.Du,h1];exact List.mem_append_left _ hq
   ·simp only [Pi.Du,h1];exact List.mem_append_right _ (R7 h2 p hp q hq)
  ·cases e
theorem TW {t:T PV} : ∀ {l:List Operand} {ps:List PV},Pi.UZ t l=some ps -> ∀ p∈ps,∀ q∈Pi.L1 p,q∈Pi.Hr t l
 | [],ps,e,p,hp,q,hq=>by cases e;cases hp
 | o::l,ps,e,p,hp,q,hq=>by
  unfold Pi.UZ at e;split at e
  ·rename_i a as h1 h2;cases e;rcases List.mem_cons.1 hp with rfl | hp
   ·simp only [Pi.Hr,h1];exact List.mem_append_left _ hq
   ·simp only [Pi.Hr,h1];exact List.mem_append_right _ (TW h2 p hp q hq)
  ·cases e
theorem YR {t:T PV} {id:Nat} {o:Oper} (hc:A8 o.op<=1) (hf : ∀ q∈Pi.CH t h o.op,hs.get q=h.get q):Pi.A5 P t hs id o=(Pi.A5 P t h id o).map (re hs):=by
 unfold Pi.A5;generalize o.op=op at hc hf;cases op with
 | move x=>exact Jo
 | assign x=>exact Jo
 | pick c a b=>exact lu λ_ _ _=>i4
 | build ty ps =>
  simp only;split
  ·exact bI
  ·rfl
 | nilCheck x=>exact LH λ_ _=>kX
 | binOp _ _ x y _=>exact bM λ_ _ _ _=>kY
 | unOp _ _ x=>exact LH λ_ _=>Jo
 | convert _ _ x=>exact LH λ_ _=>VG
 | makeInterface _ x=>exact LH λ_ _=>kZ
 | makeFunc f a b =>
  simp only;split
  ·exact TV
  ·rfl
 | fieldAddr _ x _=>exact LH λ_ _=>R5
 | field _ x _=>exact LH λ_ _=>bJ
 | index _ x y=>exact bM λ_ _ _ _=>bK
 | typeAssert x _ _ _=>exact LH λ_ _=>YP
 | extract x _=>exact LH λ_ _=>VH
 | load _ x=>exact LH λp hp=>i5 λq hq=>hf q (XN hp q hq)
 | indexAddr _ x y=>exact bM λp p' hp _=>R6 λq hq=>hf q (XN hp q hq)
 | slice ty x lo hi mx =>
  cases mx with
  | some _=>simp [A8] at hc
  | none =>
   simp only;split
   ·rename_i lo' hi' mx' _ _ hmx;cases hmx;exact LH λp hp=>bL λq hq=>hf q (XN hp q hq)
   ·rfl
 | call c =>
  simp only;split
  ·rename_i args hargs;cases hcal:c.callee with
   | builtin b =>
    simp only [A8,hcal] at hc;simp only [Pi.CH,hcal] at hf;refine VI ?_ (λhb p hp q hq=>hf q ?_) λhb p hp q hq=>hf q ?_
    ·cases b<;>simp at hc ⊢
    ·subst hb;exact TW hargs p hp q hq
    ·cases b<;>first | exact absurd rfl hb | exact R7 hargs p hp q hq
   | value _=>simp [A8,hcal] at hc
   | invoke _ _=>simp [A8,hcal] at hc
  ·rfl
 | makeMap _ r=>cases r<;>simp [A8] at hc
 | _=>simp [A8] at hc
theorem R8 {id:Nat} {b:Blk} {h1:Hp} (hid:h.get id=none->hs.get id=none) (e:h.new id b=some h1) : ∃ h1',hs.new id b=some h1' :=
 Lf hs id b (hid (Hp.get_new e).1)
theorem YS {ty:TypeId} {p v:PV} {r:Pi.R} (hf : ∀ q∈Pi.Aa p,hs.get q=h.get q) (e:Pi.Dq P h ty p v=some r) : ∃ h1',Pi.Dq P hs ty p v=some (.skip h1'):=by
 have st : ∀ (j:Nat) (b:Blk),∃ h1',(hs.set j b).map Pi.R.skip=some (.skip h1'):=λj b=>by
  obtain ⟨h1,e⟩:=Dz hs j b;exact ⟨h1,by rw [e];rfl⟩
 unfold Pi.Dq at e ⊢;split at e
 ·rename_i n hn
  try simp only [hn]
  replace e:=C9 e;obtain ⟨hb,e⟩:=e;rw [hb];simp only [cond_false];cases p with
  | ptr j off =>
   simp only at e ⊢;rw [hf j (by simp [Pi.Aa])];split at e
   ·rename_i cs hg
    try simp only [hg]
    replace e:=A9 e;obtain ⟨hb,e⟩:=e;rw [hb];simp only [cond_true];exact st _ _
   ·cases e
  | ept j i off =>
   simp only at e ⊢;rw [hf j (by simp [Pi.Aa])];split at e
   ·rename_i es ex hg
    try simp only [hg]
    split at e
    ·rename_i el hel
     try simp only [hel]
     replace e:=A9 e;obtain ⟨hb,e⟩:=e;rw [hb];simp only [cond_true];cases el with
     | agg cs=>exact st _ _
     | _ =>
      dsimp only at e ⊢;split at e
      ·rename_i c hc;replace e:=A9 e;obtain ⟨hb,e⟩:=e
       try simp only [hc]
       rw [hb];simp only [cond_true];cases c<;>first | exact st _ _ | cases e
      ·cases e
    ·cases e
   ·cases e
  | _=>cases e
 ·cases e
theorem VJ {t:T PV} {id:Nat} {o:Oper} {r:Pi.R} (hc:A8 o.op<=3) (hf : ∀ q∈Pi.CH t h o.op,hs.get q=h.get q) (hid:h.get id=none->hs.get id=none) (e:Pi.A5 P t h id o=some r) :
  (∀ v h1,r = .val v h1 -> ∃ v' h1',Pi.A5 P t hs id o=some (.val v' h1'))/\(∀ h1,r = .skip h1 -> ∃ h1',Pi.A5 P t hs id o=some (.skip h1')):=by
 have hcase:A8 o.op<=1\/A8 o.op=2\/A8 o.op=3:=by omega
 rcases hcase with hc | hc | hc
 ·have:=YR (P:=P) (id:=id) hc hf;rw [e] at this;exact ⟨λv h1 hr=>⟨v,hs,by rw [this,hr];rfl⟩,λh1 hr=>⟨hs,by rw [this,hr];rfl⟩⟩
 ·have nw : ∀ {b:Blk} {g:Hp->Pi.R},(h.new id b).map g=some r->(∃ v,∀ h,g h = .val v h)->(∀ v h1,r = .val v h1 -> ∃ v' h1',(hs.new id b).map g=some (.val v' h1'))/\(∀ h1,r = .skip h1 -> ∃ h1',(hs.new id b).map g=some (.skip h1')):=fun {b g} e ⟨v,hg⟩=>by
   cases hn:h.new id b with
   | none=>rw [hn] at e;cases e
   | some h1 =>
    rw [hn] at e;cases e;obtain ⟨h1',e1⟩:=R8 hid hn;exact ⟨λ_ _ _=>⟨v,h1',by rw [e1];simp [hg]⟩,λ_ hr=>by rw [hg] at hr;cases hr⟩
  unfold Pi.A5 at e ⊢;generalize o.op=op at hc hf e;cases op with
  | alloc ty =>
   dsimp only at e ⊢;unfold Pi.HB at e ⊢;split at e
   ·rename_i cs hz
    try simp only [hz]
    exact nw e ⟨_,λ_=>rfl⟩
   ·cases e
  | box _ x =>
   simp only [Pi.e1] at e ⊢;split at e
   ·rename_i v hv
    try simp only [hv]
    unfold Pi.LB at e ⊢;split at e
    ·cases e
    ·exact nw e ⟨_,λ_=>rfl⟩
   ·cases e
  | makeMap _ r =>
   cases r with
   | none=>exact nw e ⟨_,λ_=>rfl⟩
   | some _=>simp [A8] at hc
  | makeSlice _ x y =>
   simp only [Pi.e2] at e ⊢;split at e
   ·rename_i a b ha hb
    try simp only [ha,hb]
    unfold Pi.HT at e ⊢;split at e
    ·split at e
     ·split at e
      ·rename_i z hz
       try simp only [hz]
       replace e:=A9 e;obtain ⟨hb,e⟩:=e;rw [hb];simp only [cond_true];exact nw e ⟨_,λ_=>rfl⟩
      ·cases e
     ·cases e
    ·cases e
   ·cases e
  | slice _ _ _ _ mx=>cases mx<;>simp [A8] at hc
  | call c =>
   simp only [A8] at hc;split at hc
   ·split at hc<;>cases hc
   ·cases hc
  | _=>simp [A8] at hc
 ·unfold Pi.A5 at e ⊢;generalize o.op=op at hc hf e;cases op with
  | store ty a x =>
   simp only [Pi.e2] at e ⊢;split at e
   ·rename_i p v hp hv
    try simp only [hp,hv]
    have:=YS (hs:=hs) (λq hq=>hf q (XN hp q hq)) e;refine ⟨λv h1 hr => ?_,λ_ _=>this⟩;exfalso;subst hr
    have st : ∀ {j:Nat} {b:Blk},(h.set j b).map Pi.R.skip=some (.val v h1)->False:=fun {j b} e=>by
     cases hset:h.set j b with
     | none=>rw [hset] at e;cases e
     | some _=>rw [hset] at e;cases e
    unfold Pi.Dq at e;split at e
    ·replace e:=C9 e;obtain ⟨_,e⟩:=e;split at e
     ·split at e
      ·replace e:=A9 e;exact st e.2
      ·cases e
     ·split at e
      ·split at e
       ·replace e:=A9 e;obtain ⟨_,e⟩:=e;split at e
        ·exact st e
        ·split at e
         ·replace e:=A9 e;obtain ⟨_,e⟩:=e;split at e
          ·cases e
          ·cases e
          ·exact st e
         ·cases e
       ·cases e
      ·cases e
     ·cases e
    ·cases e
   ·cases e
  | slice _ _ _ _ mx=>cases mx<;>simp [A8] at hc
  | makeMap _ r=>cases r<;>simp [A8] at hc
  | call c =>
   simp only [A8] at hc;split at hc
   ·split at hc<;>cases hc
   ·cases hc
  | _=>simp [A8] at hc
end
end Go.Proofs.YthpkjfabdccpdaaGreat.Sv
namespace Go.Proofs.YthpkjfabdccpdaaGreat.Sv
open Go.Proofs.YthpkjfabdccpdaaGreat.Pi (PV T Hp Blk DF UM PE Ay BG AS BY B9)
def F7 (o:Option Pi.R):Prop := ∃ v h,o=some (.val v h)
section
variable {P:Program} {h hs:Hp}
theorem Qn {p:PV} (hf : ∀ q∈Pi.Aa p,hs.get q=h.get q):Pi.D9 hs p=Pi.D9 h p:=by
 unfold Pi.D9;cases p with
 | own id off len=>simp only;rw [hf id (by simp [Pi.Aa])]
 | _=>rfl
theorem Kw {id:Nat} {b:Blk} {v:PV} (hid:h.get id=none->hs.get id=none) (e:F7 ((h.new id b).map λh => .val v h)):F7 ((hs.new id b).map λh => .val v h):=by
 obtain ⟨v0,h0,e⟩:=e;cases hn:h.new id b with
 | none=>rw [hn] at e;cases e
 | some h1 =>
  obtain ⟨h2,e2⟩:=R8 hid hn;exact ⟨v,h2,by rw [e2];rfl⟩
theorem Qo {j:Nat} {b:Blk} {v:PV} (e:F7 ((h.set j b).map λh => .val v h)):F7 ((hs.set j b).map λh => .val v h):=by
 obtain ⟨h2,e2⟩:=Dz hs j b;exact ⟨v,h2,by rw [e2];rfl⟩
theorem A3 (e:F7 none) {α:Prop}:α:=by obtain ⟨_,_,e⟩:=e;cases e
theorem Ci {c:Bool} {a b a' b':Option Pi.R} (e:F7 (bif c then a else b)) (ha:c=true->F7 a->F7 a') (hb:c=false->F7 b->F7 b'):F7 (bif c then a' else b'):=by
 cases c with
 | true=>exact ha rfl e
 | false=>exact hb rfl e
theorem bN {id st:Nat} {s x:PV} (hs1 : ∀ q∈Pi.Aa s,hs.get q=h.get q) (hx : ∀ q∈Pi.Aa x,hs.get q=h.get q) (hid:h.get id=none->hs.get id=none) (e:F7 (Pi.Js P h id st s x)):F7 (Pi.Js P hs id st s x):=by
 unfold Pi.Js at e ⊢;split at e
 ·rename_i el hu
  try simp only [hu]
  rw [Qn hx];split at e
  ·rename_i sz ti new z k1 k2 k3 k4
   try simp only [k1,k2,k3,k4]
   refine Ci e (λ_ e=>A3 e) λ_ e => ?_;cases s with
   | nils =>
    simp only at e ⊢;exact Ci e (λ_ _=>⟨_,_,rfl⟩) λ_ e=>Ci e (λ_ e=>Kw hid e) λ_ e=>A3 e
   | lst f es =>
    cases f with
    | true =>
     simp only at e ⊢;exact Ci e (λ_ _=>⟨_,_,rfl⟩) λ_ e=>Ci e (λ_ e=>Kw hid e) λ_ e=>A3 e
    | false=>exact A3 e
   | own j off len =>
    simp only at e ⊢;rw [hs1 j (by simp [Pi.Aa])];split at e
    ·rename_i es ex fz hb
     try simp only [hb]
     refine Ci e (λ_ e=>A3 e) λ_ e => ?_;refine Ci e (λ_ e => ?_) λ_ e => ?_
     ·refine Ci e (λ_ _=>⟨_,_,rfl⟩) λ_ e=>Ci e (λ_ e => ?_) λ_ e=>Kw hid e;exact Ci e (λ_ e=>A3 e) λ_ e=>Qo e
     ·refine Ci e (λ_ e => ?_) λ_ e=>A3 e;obtain ⟨hd,ed⟩:=Dz h j .dead;obtain ⟨hd',ed'⟩:=Dz hs j .dead;rw [ed] at e;rw [ed'];simp only at e ⊢;refine Kw (λhn => ?_) e;rw [(Hp.get_set ed).1] at hn;rw [(Hp.get_set ed').1];by_cases hij:id=j
      ·rw [if_pos hij] at hn;cases hn
      ·rw [if_neg hij] at hn ⊢;exact hid hn
    ·exact A3 e
   | _=>exact A3 e
  ·exact A3 e
 ·exact A3 e
theorem YT {id:Nat} {ats:Array TypeId} {args:List PV} (hf : ∀ p∈args,∀ q∈Pi.Aa p,hs.get q=h.get q) (e:F7 (Pi.Ah P h id .copy ats args)):F7 (Pi.Ah P hs id .copy ats args):=by
 simp only [Pi.Ah] at e ⊢;split at e
 ·rename_i j off len x t hat
  try simp only [hat]
  rw [hf (.own j off len) (by simp) j (by simp [Pi.Aa]),Qn (hf x (by simp))];split at e
  ·rename_i ety es ex new k1 k2 k3
   try simp only [k1,k2,k3]
   split at e
   ·rename_i sz hsz
    try simp only [hsz]
    exact Ci e (λ_ e=>A3 e) λ_ e=>Qo e
   ·exact A3 e
  ·exact A3 e
 ·exact A3 e
theorem JR : ∀ {L:List Nat} {h hs h1:Hp},(∀ x∈L,hs.get x=h.get x)->Pi.freeze h L=some h1 -> ∃ h1',Pi.freeze hs L=some h1' /\ ∀ x,hs.get x=h.get x->h1'.get x=h1.get x
 | [],h,hs,h1,_,e=>by simp [Pi.freeze] at e;subst e;exact ⟨hs,rfl,λ_ h=>h⟩
 | j::L,h,hs,h1,hl,e=>by
  unfold Pi.freeze at e ⊢;rw [hl j (by simp)]
  have step : ∀ {b:Blk},(match h.set j b with
    | some h=>Pi.freeze h L
    | none=>none)=some h1 -> ∃ h1',(match hs.set j b with
    | some h=>Pi.freeze h L
    | none=>none)=some h1' /\ ∀ x,hs.get x=h.get x->h1'.get x=h1.get x:=by
   intro b e;obtain ⟨ha,ea⟩:=Dz h j b;obtain ⟨hb,eb⟩:=Dz hs j b;rw [ea] at e;rw [eb];simp only at e ⊢
   have agree : ∀ x,hs.get x=h.get x->hb.get x=ha.get x:=λx hx=>by
    rw [(Hp.get_set ea).1,(Hp.get_set eb).1];by_cases hxj:x=j
    ·rw [if_pos hxj,if_pos hxj]
    ·rw [if_neg hxj,if_neg hxj];exact hx
   obtain ⟨h1',e1,g1⟩:=JR (λx hx=>agree x (hl x (List.mem_cons_of_mem _ hx))) e;exact ⟨h1',e1,λx hx=>g1 x (agree x hx)⟩
  split at e
  ·rename_i cs fz hg
   try simp only [hg]
   exact step e
  ·rename_i es ex fz hg
   try simp only [hg]
   exact step e
  ·cases e
theorem PH {f g:PV->Option (PV×List Nat)} : ∀ {ps qs:List PV} {l:List Nat},(∀ p q l',f p=some (q,l')->(∀ x∈l',x∈l)->g p=some (q,l'))->AS f ps=some (qs,l)->AS g ps=some (qs,l)
 | [],qs,l,_,e=>e
 | p::ps,qs,l,hfg,e=>by
  unfold AS at e ⊢;split at e
  ·rename_i q a qs' b h1 h2;cases e;rw [hfg _ _ _ h1 λx hx=>List.mem_append_left _ hx,PH (λp q l' h hl=>hfg p q l' h λx hx=>List.mem_append_right _ (hl x hx)) h2]
  ·cases e
theorem R9 : ∀ (n:Nat) (p:PV) (q:PV) (l:List Nat),(∀ x∈l,hs.get x=h.get x)->BY h n p=some (q,l)->BY hs n p=some (q,l)
 | 0,p,q,l,hl,e=>by simp [BY] at e
 | n+1,p,q,l,hl,e=>by
  have ih : ∀ {ps qs:List PV} {l':List Nat},(∀ x∈l',x∈l)->AS (BY h n) ps=some (qs,l')->AS (BY hs n) ps=some (qs,l'):=λhm e =>
   PH (λp q l2 h1 h2=>R9 n p q l2 (λx hx=>hl x (hm x (h2 x hx))) h1) e
  cases p with
  | agg cs=>simp only [BY] at e ⊢;obtain ⟨⟨x,l'⟩,hx,hr⟩:=Pi.AQ e;cases hr;rw [ih (λ_ h=>h) hx];rfl
  | tup cs=>simp only [BY] at e ⊢;obtain ⟨⟨x,l'⟩,hx,hr⟩:=Pi.AQ e;cases hr;rw [ih (λ_ h=>h) hx];rfl
  | ifc t x=>simp only [BY] at e ⊢;obtain ⟨⟨y,l'⟩,hy,hr⟩:=Pi.AQ e;cases hr;rw [R9 n _ _ _ hl hy];rfl
  | fn f a b =>
   simp only [BY] at e ⊢;split at e
   ·rename_i x l1 y m h1 h2;cases e;rw [ih (λx h=>List.mem_append_left _ h) h1,ih (λx h=>List.mem_append_right _ h) h2]
   ·cases e
  | own j off len =>
   simp only [BY] at e ⊢;split at e
   ·rename_i es ex fz hb;replace e:=A9 e;obtain ⟨hc,e⟩:=e;obtain ⟨⟨x,l'⟩,hx,hr⟩:=Pi.AQ e;cases hr;rw [hl j (by simp),hb];simp only [hc,cond_true];rw [ih (λx h=>List.mem_cons_of_mem _ h) hx];rfl
   ·cases e
  | ptr j off =>
   simp only [BY] at e ⊢;split at e
   ·rename_i cs fz hb;replace e:=A9 e;obtain ⟨hc,e⟩:=e;obtain ⟨⟨x,l'⟩,hx,hr⟩:=Pi.AQ e;cases hr;rw [hl j (by simp),hb];simp only [hc,cond_true];rw [ih (λx h=>List.mem_cons_of_mem _ h) hx];rfl
   ·cases e
  | ept j i off =>
   simp only [BY] at e ⊢;split at e
   ·rename_i es ex fz hb;split at e
    ·rename_i el hel;replace e:=A9 e;obtain ⟨hc,e⟩:=e;obtain ⟨⟨x,l'⟩,hx,hr⟩:=Pi.AQ e;cases hr;rw [hl j (by simp),hb];simp only [hel,hc,cond_true];rw [ih (λx h=>List.mem_cons_of_mem _ h) hx];rfl
    ·cases e
   ·cases e
  | yl _=>simp [BY] at e
  | mp _=>simp [BY] at e
  | _=>exact e
theorem KJ : ∀ {ps qs:List PV} {l:List Nat},(∀ x∈l,hs.get x=h.get x)->B9 h ps=some (qs,l)->B9 hs ps=some (qs,l)
 | [],qs,l,_,e=>e
 | p::ps,qs,l,hl,e=>by
  unfold B9 at e ⊢;split at e
  ·rename_i q a qs' b k1 k2;cases e;rw [R9 _ _ _ _ (λx hx=>hl x (List.mem_append_left _ hx)) k1,KJ (λx hx=>hl x (List.mem_append_right _ hx)) k2]
  ·cases e
theorem Lk {v:Value} {p:PV} (e:Pi.HS v=some p) (n:Nat):BY h (n+1) p=some (p,[]):=by
 unfold Pi.HS at e;split at e<;>first | cases e | skip
 all_goals first
  | rfl
  | (split at e<;>cases e;rfl)
theorem KK : ∀ {vs:List Value} {ps:List PV},Pi.cellsOf vs=some ps -> ∀ n,AS (BY h (n+1)) ps=some (ps,[])
 | [],ps,e,n=>by cases e;rfl
 | v::vs,ps,e,n=>by
  unfold Pi.cellsOf at e;split at e
  ·rename_i p qs h1 h2;cases e;unfold AS;rw [Lk h1,KK h2];rfl
  ·cases e
theorem bO {t:TypeId} {z:List PV} {ag:Bool} {z1:PV} (hz:Pi.zeroCells P t=some z) (h1:Pi.SV ag z=some z1) (n:Nat) : ∃ q,BY h (n+2) z1=some (q,[]):=by
 unfold Pi.zeroCells at hz;split at hz
 ·split at hz
  ·have hp:=λn=>KK (h:=h) hz n;unfold Pi.SV at h1;cases ag with
   | true =>
    simp only [cond_true,Option.some.injEq] at h1;subst h1;refine ⟨.agg z,?_⟩;show (AS (BY h (n+1)) z).map _=_;rw [hp n];rfl
   | false =>
    simp only [cond_false] at h1;split at h1
    ·rename_i c;cases h1;have:=hp (n+1);unfold AS at this;split at this
     ·rename_i q a qs b k1 k2;simp only [AS,Option.some.injEq,Prod.mk.injEq] at k2 this;obtain ⟨_,rfl⟩:=k2;have:a=[]:=by simpa using this.2
      subst this;exact ⟨q,k1⟩
     ·cases this
    ·cases h1
  ·cases hz
 ·cases hz
theorem Qp : ∀ {n:Nat} {ps:List (Nat×PV)} {es es':List PV},Pi.K9 n es ps=some es' -> ∀ e∈es',e∈es \/ ∃ i,(i,e)∈ps
 | n,[],es,es',e,x,hx=>by simp only [Pi.K9,Option.some.injEq] at e;subst e;exact .inl hx
 | n,(i,v)::r,es,es',e,x,hx=>by
  unfold Pi.K9 at e;replace e:=A9 e;obtain ⟨_,e⟩:=e;rcases Qp e x hx with h | ⟨j,h⟩
  ·rw [Pi.BG] at h;rcases List.mem_or_eq_of_mem_set h with h | h
   ·exact .inl h
   ·subst h;exact .inr ⟨i,by simp⟩
  ·exact .inr ⟨j,by simp [h]⟩
theorem TX : ∀ {es qs:List PV} {l:List Nat},B9 h es=some (qs,l) -> ∀ x∈l,∃ e∈es,∃ q l',BY h Pi.BN e=some (q,l')/\x∈l'
 | [],qs,l,e,x,hx=>by cases e;cases hx
 | p::ps,qs,l,e,x,hx=>by
  unfold B9 at e;split at e
  ·rename_i q a qs' b h1 h2;cases e;rcases List.mem_append.1 hx with hx | hx
   ·exact ⟨p,by simp,q,a,h1,hx⟩
   ·obtain ⟨e,he,k⟩:=TX h2 x hx;exact ⟨e,by simp [he],k⟩
  ·cases e
theorem Mf {t:T PV} : ∀ {l:List (Nat×Operand)} {ps:List (Nat×PV)},Pi.Fq t l=some ps -> ∀ i p,(i,p)∈ps -> ∀ q m,BY h Pi.BN p=some (q,m) -> ∀ x∈m,x∈Pi.Jj t h (l.map (·.2))
 | [],ps,e,i,p,hp,_,_,_,_,_=>by cases e;cases hp
 | (j,o)::l,ps,e,i,p,hp,q,m,hm,x,hx=>by
  unfold Pi.Fq at e;split at e
  ·rename_i a as h1 h2;cases e;simp only [List.map_cons,Pi.Jj,h1];rcases List.mem_cons.1 hp with hp | hp
   ·cases hp;rw [hm];exact List.mem_append_left _ hx
   ·have:=Mf h2 i p hp q m hm x hx;split
    ·exact List.mem_append_right _ this
    ·exact this
  ·cases e
theorem PI {ty:TypeId} {len:Nat} {ps:List (Nat×PV)} (hf : ∀ i p,(i,p)∈ps -> ∀ q m,BY h Pi.BN p=some (q,m) -> ∀ x∈m,hs.get x=h.get x) (e:F7 (Pi.Bs P h ty len ps)):F7 (Pi.Bs P hs ty len ps):=by
 unfold Pi.Bs at e ⊢;split at e
 ·rename_i el hu
  try simp only [hu]
  split at e
  ·rename_i n ag z k1 k2 k3
   try simp only [k1,k2,k3]
   split at e
   ·rename_i z1 hz1
    try simp only [hz1]
    refine Ci e (λ_ e=>A3 e) λ_ e => ?_;split at e
    ·rename_i es hes
     try simp only [hes]
     split at e
     ·rename_i qs l hpl
      have hl : ∀ x∈l,hs.get x=h.get x:=λx hx=>by
       obtain ⟨el',he,q,l',h1,h2⟩:=TX hpl x hx;rcases Qp hes el' he with hm | ⟨i,hm⟩
       ·have:=List.eq_of_mem_replicate hm;subst this;obtain ⟨q',h3⟩:=bO (h:=h) k3 hz1 10;have h1':BY h (10+2) el'=some (q,l'):=h1;rw [h3] at h1';cases h1';cases h2
       ·exact hf i el' hm q l' h1 x h2
      rw [KJ hl hpl];obtain ⟨_,_,e⟩:=e;obtain ⟨h1,hfz,_⟩:=Pi.AQ e;obtain ⟨h1',e1,_⟩:=JR hl hfz;show F7 ((Pi.freeze hs l).map λh=>Pi.R.val (.lst true qs) h);rw [e1];exact ⟨_,h1',rfl⟩
     ·exact A3 e
    ·exact A3 e
   ·exact A3 e
  ·exact A3 e
 ·exact A3 e
theorem JS : ∀ {L:List Nat} {h h1:Hp},Pi.freeze h L=some h1 -> ∀ x,(h.get x=none->h1.get x=none)/\(h.get x≠none->h1.get x≠none)
 | [],h,h1,e,x=>by simp [Pi.freeze] at e;subst e;exact ⟨λh=>h,λh=>h⟩
 | j::L,h,h1,e,x=>by
  unfold Pi.freeze at e
  have step : ∀ {b b0:Blk},h.get j=some b0->(match h.set j b with
    | some h=>Pi.freeze h L
    | none=>none)=some h1->(h.get x=none->h1.get x=none)/\(h.get x≠none->h1.get x≠none):=by
   intro b b0 hj e;obtain ⟨ha,ea⟩:=Dz h j b;rw [ea] at e;obtain ⟨k1,k2⟩:=JS e x;have g:=(Hp.get_set ea).1 x;by_cases hxj:x=j
   ·subst hxj;rw [if_pos rfl] at g;exact ⟨λhn=>(by rw [hj] at hn;cases hn),λ_=>k2 (by rw [g];simp)⟩
   ·rw [if_neg hxj] at g;exact ⟨λhn=>k1 (by rw [g];exact hn),λhn=>k2 (by rw [g];exact hn)⟩
  split at e
  ·rename_i cs fz hg;exact step hg e
  ·rename_i es ex fz hg;exact step hg e
  ·cases e
theorem TY {t:T PV} {id:Nat} {o:Oper} (hsl : ∀ ty x lo hi m,o.op = .slice ty x lo hi (some m) -> ∀ p,Pi.Gt t x=some p -> ∀ j a b,p ≠ .own j a b) (hc:A8 o.op=4) (hf : ∀ q∈Pi.CH t h o.op,hs.get q=h.get q) (hid:h.get id=none->hs.get id=none) (e:F7 (Pi.A5 P t h id o)):F7 (Pi.A5 P t hs id o):=by
 unfold Pi.A5 at e ⊢;generalize o.op=op at hc hf e hsl;cases op with
 | buildSlice ty len parts =>
  simp only at e ⊢;split at e
  ·rename_i ps hps
   try simp only [hps]
   exact PI (λi p hp q m hm x hx=>hf x (Mf hps i p hp q m hm x hx)) e
  ·exact A3 e
 | call c =>
  simp only at e ⊢;split at e
  ·rename_i args hargs
   try simp only [hargs]
   cases hcal:c.callee with
   | builtin b =>
    simp only [A8,hcal] at hc;simp only [hcal] at e ⊢
    replace hf : ∀ q∈Pi.Du t c.args.toList,hs.get q=h.get q:=by
     simp only [Pi.CH,hcal] at hf;cases b<;>simp at hc<;>exact hf
    have hfa : ∀ p∈args,∀ q∈Pi.Aa p,hs.get q=h.get q:=λp hp q hq=>hf q (R7 hargs p hp q hq);cases b with
    | append =>
     simp only [Pi.Ah] at e ⊢;split at e
     ·rename_i p q t t' hats
      try simp only [hats]
      exact Ci e (λ_ e=>bN (hfa p (by simp)) (hfa q (by simp)) hid e) λ_ e=>A3 e
     ·exact A3 e
    | copy=>exact YT hfa e
    | _=>simp at hc
   | value _=>simp [A8,hcal] at hc
   | invoke _ _=>simp [A8,hcal] at hc
  ·exact A3 e
 | slice ty x lo hi mx =>
  cases mx with
  | none=>simp [A8] at hc
  | some m =>
   simp only at e ⊢;split at e
   ·rename_i lo' hi' mx' k1 k2 k3
    try simp only [k1,k2,k3]
    obtain ⟨v,h1,e⟩:=e;obtain ⟨p,hp,e⟩:=Pi.Bh e;have:=YQ (P:=P) (hs:=hs) (h:=h) (ty:=ty) (lo:=lo') (hi:=hi') (mx:=mx') (hsl _ _ _ _ _ rfl p hp);rw [e] at this;unfold Pi.e1;rw [hp];exact ⟨v,hs,this⟩
   ·exact A3 e
 | makeMap _ r=>cases r<;>simp [A8] at hc
 | _=>simp [A8] at hc
theorem SA {id:Nat} {l:List Nat} {h':Hp} {r q:PV} {h2:Hp} (hf : ∀ x∈l,hs.get x=h.get x) (hid:h.get id=none->hs.get id=none) (e:Pi.CG id l h h' r=some (q,h2)) : ∃ h2',Pi.CG id l hs h' r=some (q,h2'):=by
 unfold Pi.CG at e ⊢;split at e
 ·rename_i len qs ex hm
  try dsimp only
  split at e
  ·rename_i h3 hfz;obtain ⟨h4,hn,hq⟩:=Pi.AQ e;cases hq
   have : ∃ h3',(bif Pi.DU qs then some hs else Pi.freeze hs l)=some h3'/\(h3.get id=none->h3'.get id=none):=by
    cases hfl:Pi.DU qs with
    | true =>
     rw [hfl] at hfz;cases hfz;exact ⟨hs,rfl,hid⟩
    | false =>
     rw [hfl] at hfz;obtain ⟨h3',e3,g3⟩:=JR hf hfz;refine ⟨h3',e3,λhn => ?_⟩;by_cases hg:h.get id=none
     ·rw [g3 id (by rw [hid hg,hg])];exact hn
     ·exact absurd hn ((JS hfz id).2 hg)
   obtain ⟨h3',e3,g3⟩:=this;obtain ⟨h4',e4⟩:=R8 g3 hn;rw [e3];exact ⟨h4',by simp only [e4,Option.map_some]⟩
  ·cases e
 ·rename_i hm
  try dsimp only
  split at e
  ·rename_i q' l2 hq'
   try simp only [hq']
   cases hfl:Pi.flat q' with
   | true =>
    rw [hfl] at e;cases e;exact ⟨hs,by simp only [cond_true]⟩
   | false =>
    rw [hfl] at e;simp only [cond_false] at e ⊢;obtain ⟨h3,hfz,hq⟩:=Pi.AQ e;cases hq;obtain ⟨h3',e3,_⟩:=JR hf hfz;exact ⟨h3',by simp only [e3,Option.map_some]⟩
  ·cases e
theorem VK : ∀ (n:Nat) (p q:PV) (l:List Nat),BY h n p=some (q,l) -> ∀ x∈l,h.get x≠none
 | 0,p,q,l,e,x,hx=>by simp [BY] at e
 | n+1,p,q,l,e,x,hx=>by
  have ih : ∀ {ps qs:List PV} {l':List Nat},AS (BY h n) ps=some (qs,l') -> ∀ x∈l',h.get x≠none:=by
   intro ps
   induction ps with
   | nil=>intro qs l' e x hx;cases e;cases hx
   | cons p ps ihp =>
    intro qs l' e x hx;unfold AS at e;split at e
    ·rename_i q a qs' b h1 h2;cases e;rcases List.mem_append.1 hx with hx | hx
     ·exact VK n _ _ _ h1 x hx
     ·exact ihp h2 x hx
    ·cases e
  cases p with
  | agg cs=>simp only [BY] at e;obtain ⟨⟨y,l'⟩,hy,hr⟩:=Pi.AQ e;cases hr;exact ih hy x hx
  | tup cs=>simp only [BY] at e;obtain ⟨⟨y,l'⟩,hy,hr⟩:=Pi.AQ e;cases hr;exact ih hy x hx
  | ifc t v=>simp only [BY] at e;obtain ⟨⟨y,l'⟩,hy,hr⟩:=Pi.AQ e;cases hr;exact VK n _ _ _ hy x hx
  | fn f a b =>
   simp only [BY] at e;split at e
   ·rename_i y l1 z m h1 h2;cases e;rcases List.mem_append.1 hx with hx | hx
    ·exact ih h1 x hx
    ·exact ih h2 x hx
   ·cases e
  | own j off len =>
   simp only [BY] at e;split at e
   ·rename_i es ex fz hb;replace e:=A9 e;obtain ⟨_,e⟩:=e;obtain ⟨⟨y,l'⟩,hy,hr⟩:=Pi.AQ e;cases hr;rcases List.mem_cons.1 hx with rfl | hx
    ·rw [hb];simp
    ·exact ih hy x hx
   ·cases e
  | ptr j off =>
   simp only [BY] at e;split at e
   ·rename_i cs fz hb;replace e:=A9 e;obtain ⟨_,e⟩:=e;obtain ⟨⟨y,l'⟩,hy,hr⟩:=Pi.AQ e;cases hr;rcases List.mem_cons.1 hx with rfl | hx
    ·rw [hb];simp
    ·exact ih hy x hx
   ·cases e
  | ept j i off =>
   simp only [BY] at e;split at e
   ·rename_i es ex fz hb;split at e
    ·replace e:=A9 e;obtain ⟨_,e⟩:=e;obtain ⟨⟨y,l'⟩,hy,hr⟩:=Pi.AQ e;cases hr;rcases List.mem_cons.1 hx with rfl | hx
     ·rw [hb];simp
     ·exact ih hy x hx
    ·cases e
   ·cases e
  | yl _=>simp [BY] at e
  | mp _=>simp [BY] at e
  | _=>cases e;cases hx
theorem KL {t:T PV} : ∀ {l:List Operand},∀ x∈Pi.Jj t h l,h.get x≠none
 | [],x,hx=>by cases hx
 | o::l,x,hx=>by
  unfold Pi.Jj at hx;split at hx
  ·split at hx
   ·rename_i q m hm;rcases List.mem_append.1 hx with hx | hx
    ·exact VK _ _ _ _ hm x hx
    ·exact KL x hx
   ·exact KL x hx
  ·exact KL x hx
end
end Go.Proofs.YthpkjfabdccpdaaGreat.Sv
namespace Go.Proofs.YthpkjfabdccpdaaGreat.Sv
open Go.Proofs.YthpkjfabdccpdaaGreat.Pi (PV T Hp Blk DF UM PE Ay BG AS BY B9)
section
variable {P:Program} {h hs:Hp}
theorem OW (h1:Hp) : ∀ (l:List Nat) (h:Hp),∃ h2,Pi.over h1 l h=some h2/\h2.nx=h.nx
 | [],h=>⟨h,rfl,rfl⟩
 | j::l,h=>by
  unfold Pi.over;split
  ·rename_i b hb;obtain ⟨h3,e3⟩:=Dz h j b;obtain ⟨h2,e2,e4⟩:=OW h1 l h3;exact ⟨h2,by rw [e3];exact e2,by rw [e4];exact (Hp.get_set e3).2⟩
  ·exact OW h1 l h
theorem Bt {h:Hp} : ∀ {l:List Nat} {x:Nat},x∈Pi.Co h l->x∈l
 | [],x,hx=>by simp [Pi.Co] at hx
 | j::l,x,hx=>by
  unfold Pi.Co at hx;split at hx
  ·exact List.mem_cons_of_mem _ (Bt hx)
  ·exact List.mem_cons_of_mem _ (Bt hx)
  ·rcases List.mem_cons.1 hx with rfl | hx
   ·simp
   ·exact List.mem_cons_of_mem _ (Bt hx)
theorem Qq {o:Op} (hd:Pi.CI o=true):(A8 o<=1->Pi.Hc o=true)/\(A8 o=2\/A8 o=3->Pi.Hc o=false/\Pi.Jk o=false)/\(A8 o=0\/A8 o=2 -> ∀ t h,Pi.CH t h o=[])/\(A8 o=4->Pi.Hc o=false):=by
 cases o with
 | slice _ _ _ _ mx=>cases mx<;>simp [A8,Pi.Hc,Pi.Jk]
 | makeMap _ r=>cases r<;>simp [A8,Pi.Hc,Pi.Jk,Pi.CH]
 | call c =>
  cases hc:c.callee with
  | builtin b=>cases b<;>simp [A8,Pi.Hc,Pi.Jk,hc]
  | _=>simp [A8,hc]
 | _=>simp [A8,Pi.Hc,Pi.Jk,Pi.CH]
theorem PJ {t:T PV} {id:Nat} {o:Oper} {r:Pi.R} (hsl : ∀ ty x lo hi m,o.op = .slice ty x lo hi (some m) -> ∀ p,Pi.Gt t x=some p -> ∀ j a b,p ≠ .own j a b) (hdr:Pi.CI o.op=true) (hid:h.get id=none) (e:Pi.A5 P t h id o=some r) :
  (∀ v h1,r = .val v h1->A8 o.op<=2\/A8 o.op=4 -> ∃ h2 wr,(∀ rec,Pi.CP P rec t h id o=some (v,h2,id::Pi.CH t h o.op,wr))/\(∀ q,h2.get q=h1.get q)/\h2.nx=h.nx/\(A8 o.op<=1->wr=[]/\h1=h) /\ ∀ w∈wr,w∈id::Pi.CH t h o.op) /\
  (∀ h1,r = .skip h1->A8 o.op=3 -> ∃ h2 wr,(∀ rec,Pi.CP P rec t h id o=some (.tup [],h2,id::Pi.CH t h o.op,wr))/\(∀ q,h2.get q=h1.get q)/\h2.nx=h.nx /\ ∀ w∈wr,w∈id::Pi.CH t h o.op):=by
 have cutg : ∀ q∈id::Pi.CH t h o.op,(h.cut (id::Pi.CH t h o.op)).get q=h.get q:=λq hq=>by
  rw [Pi.IM,if_pos ⟨hq,by omega⟩]
 have low:=λhc=>VJ (P:=P) (hs:=h.cut (id::Pi.CH t h o.op)) hc (λq hq=>cutg q (List.mem_cons_of_mem _ hq)) (λ_=>by rw [cutg id (by simp)];exact hid) e;have sub:Pi.Jv (h.cut (id::Pi.CH t h o.op)) h:=λx b hb=>(Pi.Iq hb).2;have blt:Nat.blt id (id+1)=true:=by simp
 have hq:=Qq hdr
 have whole : ∀ {h1' h1:Hp},Pi.Lay (h.cut (id::Pi.CH t h o.op)) h h1' h1 id -> ∃ h2,Pi.over h1' (id::Pi.CH t h o.op) h=some h2/\(∀ q,h2.get q=h1.get q)/\h2.nx=h.nx:=fun {h1' h1} l=>by
  obtain ⟨h2,e2,n2⟩:=OW h1' (id::Pi.CH t h o.op) h;refine ⟨h2,e2,λq => ?_,n2⟩;rw [Pi.HL e2 q,l.get q];by_cases hm:q∈id::Pi.CH t h o.op
  ·rw [if_pos hm]
   all_goals (cases h1'.get q<;>rfl)
  ·rw [if_neg hm];cases hg:h1'.get q with
   | none=>rfl
   | some b =>
    rcases l.keys q b hg with ⟨b0,hb⟩ | hb
    ·exact absurd (Pi.Iq hb).1 hm
    ·exact absurd (by simp [hb]) hm
 refine ⟨λv h1 hr hc => ?_,λh1 hr hc => ?_⟩
 ·obtain ⟨v',h1',e'⟩ : ∃ v' h1',Pi.A5 P t (h.cut (id::Pi.CH t h o.op)) id o=some (.val v' h1'):=by
   rcases hc with hc | hc
   ·exact (low (by omega)).1 v h1 hr
   ·exact TY hsl hc (λq hq=>cutg q (List.mem_cons_of_mem _ hq)) (λ_=>by rw [cutg id (by simp)];exact hid) ⟨v,h1,by rw [e,hr]⟩
  have lay:=Pi.Gw sub (λ_=>hid) hdr e';obtain ⟨h2,k1,k2⟩:=lay;rw [e,hr] at k1;cases k1;by_cases h01:A8 o.op<=1
  ·have hq1:=hq.1 h01;have:=Pi.MF hq1 hdr (by rw [e,hr]);refine ⟨h,[],λrec => ?_,λq=>by rw [this],rfl,λ_=>⟨rfl,this⟩,λ_ hw=>by cases hw⟩;unfold Pi.CP;simp only [hdr,blt,Bool.not_true,Bool.or_self,cond_false,e',hq1,cond_true]
  ·have hq2:Pi.Hc o.op=false:=by
    rcases hc with hc | hc
    ·exact (hq.2.1 (.inl (by omega))).1
    ·exact hq.2.2.2 hc
   obtain ⟨h3,e3,g3,n3⟩:=whole k2;refine ⟨h3,bif Pi.Jk o.op then id::Pi.CH t h o.op else Pi.Co h (id::Pi.CH t h o.op),λrec => ?_,g3,n3,λh=>absurd h h01,λw hw => ?_⟩
   ·unfold Pi.CP;simp only [hdr,blt,Bool.not_true,Bool.or_self,cond_false,e',hq2,e3,Option.map_some]
   ·cases hap:Pi.Jk o.op with
    | true=>rw [hap] at hw;exact hw
    | false=>rw [hap] at hw;exact Bt hw
 ·obtain ⟨h1',e'⟩:=(low (by omega)).2 h1 hr;have lay:=Pi.Gw sub (λ_=>hid) hdr e';obtain ⟨h2,k1,k2⟩:=lay;rw [e,hr] at k1;cases k1;have hq2:=hq.2.1 (.inr hc);obtain ⟨h3,e3,g3,n3⟩:=whole k2;refine ⟨h3,Pi.Co h (id::Pi.CH t h o.op),λrec => ?_,g3,n3,λw hw=>Bt hw⟩;unfold Pi.CP;simp only [hdr,blt,Bool.not_true,Bool.or_self,cond_false,e',hq2.1,hq2.2,e3,Option.map_some]
theorem BR.there {X:Cx} {c:BA} {pid m:Nat} (hb:BR X c (some (.blk pid m))) (hl:c.live):X.h.get pid≠none:=by
 cases c with
 | box=>obtain ⟨_,_,_,_,h1,_,h3,_⟩:=hb;cases h1;rw [h3];simp
 | row =>
  rcases hb with ⟨_,_,_,_,h1,_,h3,_⟩ | ⟨h1,_⟩ | ⟨_,h1,_⟩
  ·cases h1;rw [h3];simp
  ·cases h1
  ·cases h1
 | mp=>obtain ⟨_,_,_,h1,_,h3,_⟩:=hb;cases h1;rw [h3];simp
 | lp=>obtain ⟨_,_,_,_,_,h1,_,h3,_⟩:=hb;cases h1;rw [h3];simp
 | df=>obtain ⟨_,_,_,h1,_,h3,_⟩:=hb;cases h1;rw [h3];simp
 | dead=>exact hl.elim
theorem KM {X:Cx} {h:H} {n id pid m:Nat} (r:RH X h n) (hl:MN h id=true) (hp:X.π id=some (.blk pid m)):X.h.get pid≠none:=by
 unfold MN at hl;split at hl
 ·cases hl
 ·rename_i c hne hg
  have hlv:c.live:=by
   cases c<;>first | trivial | exact absurd hg (by simpa using hne)
  exact (hp ▸ r.blk _ _ hg).there hlv
 ·cases hl
theorem bQ {X:Cx} {h:H} {n:Nat} (r:RH X h n) {v:V} {p:PV} (hv:VR X v p) (hl:jr h v=true) : ∀ q∈Pi.Aa p,X.h.get q≠none:=by
 intro q hq;cases v with
 | ow id =>
  simp only [VR] at hv;cases hp:X.π id with
  | none=>rw [hp] at hv;exact hv.elim
  | some a =>
   rw [hp] at hv;cases a with
   | blk pid len=>simp only at hv;subst hv;simp only [Pi.Aa,List.mem_singleton] at hq;subst hq;exact KM r hl hp
   | nil=>simp only at hv;subst hv;simp [Pi.Aa] at hq
   | fz es=>simp only at hv;subst hv;simp [Pi.Aa] at hq
 | own id off len=>simp only [VR] at hv;obtain ⟨pid,m,h1,rfl⟩:=hv;simp only [Pi.Aa,List.mem_singleton] at hq;subst hq;exact KM r hl h1
 | ptr id off=>simp only [VR] at hv;obtain ⟨pid,m,h1,rfl⟩:=hv;simp only [Pi.Aa,List.mem_singleton] at hq;subst hq;exact KM r hl h1
 | ept id i off=>simp only [VR] at hv;obtain ⟨pid,m,h1,rfl⟩:=hv;simp only [Pi.Aa,List.mem_singleton] at hq;subst hq;exact KM r hl h1
 | mp id=>simp only [VR] at hv;obtain ⟨pid,m,h1,rfl⟩:=hv;simp only [Pi.Aa,List.mem_singleton] at hq;subst hq;exact KM r hl h1
 | lf full g c l =>
  simp only [VR] at hv;rcases hv with ⟨h1,_⟩ | ⟨f,es,h1,_⟩ | ⟨pid,off,len,es,ex,fz,h1,h0,h2,h3,_⟩
  ·subst h1;simp [Pi.Aa] at hq
  ·subst h1;simp [Pi.Aa] at hq
  ·subst h1;simp only [Pi.Aa,List.mem_singleton] at hq;subst hq;rw [h3];simp
 | view cs =>
  simp only [VR] at hv;rcases hv with ⟨ps,rfl,_⟩ | ⟨pid,i,off,es,ex,fz,e,rfl,h2,h3,_⟩
  ·simp [Pi.Aa] at hq
  ·simp only [Pi.Aa,List.mem_singleton] at hq;subst hq;rw [h3];simp
 | exl f es=>simp only [VR] at hv;obtain ⟨_,_,rfl,_⟩:=hv;simp [Pi.Aa] at hq
 | pl g c l=>simp only [VR] at hv;rcases hv with ⟨rfl,_⟩ | ⟨_,_,rfl,_⟩<;>simp [Pi.Aa] at hq
 | pv cs=>simp only [VR] at hv;obtain ⟨_,rfl,_⟩:=hv;simp [Pi.Aa] at hq
 | agg cs=>simp only [VR] at hv;obtain ⟨_,rfl,_⟩:=hv;simp [Pi.Aa] at hq
 | tup cs=>simp only [VR] at hv;obtain ⟨_,rfl,_⟩:=hv;simp [Pi.Aa] at hq
 | fn f a b=>simp only [VR] at hv;obtain ⟨_,_,rfl,_⟩:=hv;simp [Pi.Aa] at hq
 | yl id=>simp only [VR] at hv;obtain ⟨_,_,_,rfl⟩:=hv;simp [Pi.Aa] at hq
 | ifc t v=>simp only [VR] at hv;obtain ⟨_,rfl,_⟩:=hv;simp [Pi.Aa] at hq
 | _=>simp only [VR] at hv;subst hv;simp [Pi.Aa] at hq
theorem TZ {v:Value} {p:PV} (e:Pi.HS v=some p):Pi.Aa p=[]:=by
 unfold Pi.HS at e;split at e<;>first | cases e | skip
 all_goals first | rfl | (cases e;rfl) | (replace e:=A9 e;cases e.2;rfl) | (split at e<;>first | (cases e;rfl) | cases e)
theorem Ll {v:Value} {p:PV} (e:Pi.Ij v=some p):Pi.Aa p=[]:=by
 unfold Pi.Ij at e;split at e
 ·obtain ⟨x,_,rfl⟩:=Pi.AQ e;rfl
 ·replace e:=A9 e;cases e.2;rfl
 ·split at e
  ·cases e;rfl
  ·cases e
 ·exact TZ e
theorem PK {X:Cx} {h:H} {n:Nat} (r:RH X h n) {t:T V} {tP:T PV} (ht:TR X t tP) : ∀ {l:List Operand},MO h t l=true -> ∀ q∈Pi.Du tP l,X.h.get q≠none
 | [],_,q,hq=>by simp [Pi.Du] at hq
 | o::l,hl,q,hq=>by
  unfold Pi.Du at hq
  have tl:MO h t l=true:=by
   cases o with
   | tmp k=>simp only [MO,Bool.and_eq_true] at hl;exact hl.2
   | _=>exact hl
  split at hq
  ·rename_i p hp;rcases List.mem_append.1 hq with hq | hq
   ·cases o with
    | tmp k =>
     simp only [MO,Bool.and_eq_true] at hl;have h1:=hl.1;split at h1
     ·rename_i v hv;obtain ⟨p',hp',hvr⟩:=ht _ _ hv;simp only [Pi.Gt,hp',Option.getD_some,Option.some.injEq] at hp;subst hp;exact bQ r hvr h1 q hq
     ·cases h1
    | const v=>rw [Ll hp] at hq;cases hq
    | func f=>simp only [Pi.Gt,Option.some.injEq] at hp;subst hp;simp [Pi.Aa] at hq
    | global g=>cases hp
   ·exact PK r ht tl q hq
  ·exact PK r ht tl q hq
theorem Lm {t:T PV} {q:Nat} : ∀ {l:List Operand},q∈Pi.Hr t l->q∈Pi.Du t l
 | [],h=>h
 | o::l,h=>by
  unfold Pi.Hr at h;unfold Pi.Du;split at h
  ·rename_i p hp
   try rw [hp]
   try simp only
   rcases List.mem_append.1 h with h | h
   ·refine List.mem_append_left _ ?_;cases p<;>first | exact h | (simp [Pi.L1] at h)
   ·exact List.mem_append_right _ (Lm h)
  ·rename_i hp
   try rw [hp]
   exact Lm h
theorem XO {X:Cx} {h:H} {n:Nat} (r:RH X h n) {t:T V} {tP:T PV} (ht:TR X t tP) {o:Op} (hc:A8 o<=4) (hd:Pi.CI o=true) (hl:MO h t (Pi.CR o)=true) : ∀ q∈Pi.CH tP X.h o,X.h.get q≠none:=by
 intro q hq;have:=PK r ht hl;cases o with
 | load _ _=>exact this q hq
 | indexAddr _ _ _=>exact this q hq
 | store _ _ _=>exact this q hq
 | slice ty x lo hi mx =>
  cases mx with
  | some _=>exact KL q (by simpa [Pi.CH] using hq)
  | none =>
   refine this q ?_;simp only [Pi.CH,Option.isSome_none,cond_false] at hq
   have app : ∀ {a b:List Operand},q∈Pi.Du tP a->q∈Pi.Du tP (a++b):=by
    intro a b
    induction a with
    | nil=>intro h;simp [Pi.Du] at h
    | cons o a ih =>
     intro h;simp only [List.cons_append,Pi.Du] at h ⊢;split at h
     ·rename_i p hp
      try rw [hp]
      try simp only
      rcases List.mem_append.1 h with h | h
      ·exact List.mem_append_left _ h
      ·exact List.mem_append_right _ (ih h)
     ·rename_i hp
      try rw [hp]
      exact ih h
   exact app (a:=[x]) hq
 | call c =>
  simp only [Pi.CH] at hq;split at hq
  ·rename_i b hb;simp only [Pi.CR,hb] at this;refine this q ?_;split at hq
   ·exact Lm hq
   ·exact hq
  ·cases hq
 | buildSlice _ _ _=>exact KL q hq
 | lookup _ _ _ _=>cases hd
 | mapUpdate _ _ _ _=>cases hd
 | insert _ _ _ _=>cases hd
 | _=>simp [Pi.CH] at hq
end
end Go.Proofs.YthpkjfabdccpdaaGreat.Sv
namespace Go.Proofs.YthpkjfabdccpdaaGreat.Sv
open Go.Proofs.YthpkjfabdccpdaaGreat.Pi (PV T Hp Blk DF UM PE Ay BG AS BY B9)
section
variable {P:Program} {tab:JB}
def Cx.with (X:Cx) (h2:Hp):Cx:={ X with h:=h2 }
theorem Kx {X:Cx} {h2:Hp} (g : ∀ q,h2.get q=X.h.get q):Up X (X.with h2):=⟨λ_ _ h=>h,λq es ex fz hq hg=>⟨⟨fz,by show h2.get q=_;rw [g];exact hg⟩,hq⟩⟩
theorem RH.with {X:Cx} {h:H} {n:Nat} {h2:Hp} (r:RH X h n) (g : ∀ q,h2.get q=X.h.get q) (hn:h2.nx=X.h.nx):RH (X.with h2) h n :=
 ⟨λi c hi=>(r.blk i c hi).keep (Kx g) λ_ _ _ hO=>⟨g _,hO⟩,r.inj,r.dom,λq hq=>by show h2.get q=none;rw [g];exact r.fresh q (by have:h2.nx<=q:=hq;omega),λq hq=>by show h2.get q≠none;rw [g];exact r.ob q hq⟩
theorem St.with {X Y:Cx} {h h':H} {id idP:Nat} {h2:Hp} (s:St X h id idP Y h') (g : ∀ q,h2.get q=Y.h.get q) (hn:h2.nx=Y.h.nx):St X h id idP (Y.with h2) h' :=
 ⟨s.up.trans (Kx g),by show h2.nx=_;rw [hn];exact s.nx,s.pin,λq hq k=>by show h2.get q=none;rw [g];exact s.hpn q hq k,s.lk,λq st pe nt t ps asg body d k=>by show h2.get q=_;rw [g];exact s.lps _ _ _ _ _ _ _ _ _ k⟩
def FpA (X:Cx) (l:List Nat×Bool) (q:Nat):Prop:=(∃ j∈l.1,∃ m,X.π j=some (.blk q m))\/(l.2=true/\X.Q q /\ ∃ es ex fz,X.h.get q=some (.row es ex fz))
theorem FpA.mono {X Y:Cx} (u:Up X Y) {l:List Nat×Bool} {q:Nat} (h:FpA X l q):FpA Y l q:=by
 rcases h with ⟨j,hj,m,hp⟩ | ⟨h1,h2,es,ex,fz,h3⟩
 ·exact .inl ⟨j,hj,m,u.pi _ _ hp⟩
 ·obtain ⟨⟨fz',h4⟩,h5⟩:=u.rows _ _ _ _ h2 h3;exact .inr ⟨h1,h5,es,ex,fz',h4⟩
def YU (X:Cx) (own:Nat) (f:Option (List Nat×Bool)) (rd:List Nat):Prop := ∀ l,f=some l -> ∀ q∈rd,q=own\/FpA X l q
def FpP (X:Cx) (own:Nat) (f:Option (List Nat×Bool)) (rd:List Nat):Prop := ∀ l,f=some l -> ∀ q∈rd,(q=own/\X.h.get q=none)\/FpA X l q
def PastE (X:Cx) (baseP i len:Nat) (a:Nat×Nat×Option (List Nat×Bool)) (b:Nat×List Nat×List Nat):Prop :=
 a.1=b.1/\b.1<i/\(∀ w∈b.2.2,w∈b.2.1)/\(a.2.1<=1->b.2.2=[])/\(∀ q∈b.2.1,∀ k,i<=k->k<len->q≠baseP+k)/\(a.2.1=0->b.2.1=[baseP+b.1]/\X.h.get (baseP+b.1)=none)/\FpP X (baseP+b.1) a.2.2 b.2.1
theorem Ct : ∀ {a b:List Nat},(∀ x∈a,x ∉ b)->Pi.Gs a b=false
 | [],b,_=>rfl
 | x::a,b,h=>by
  simp only [Pi.Gs,Bool.or_eq_false_iff,List.any_eq_false];refine ⟨λy hy hb => ?_,Ct λz hz=>h z (by simp [hz])⟩;have:=Nat.eq_of_beq_eq_true hb;subst this;exact h x (by simp) hy
theorem Ta : ∀ {a b:List Nat},Pi.Gs a b=false -> ∀ x∈a,x ∉ b
 | [],_,_,x,hx=>by cases hx
 | y::a,b,h,x,hx=>by
  simp only [Pi.Gs,Bool.or_eq_false_iff,List.any_eq_false] at h;rcases List.mem_cons.1 hx with rfl | hx
  ·intro hb;exact h.1 x hb (by simp)
  ·exact Ta h.2 x hx
theorem NQ {h:H} : ∀ {l:List Nat},QW h l=true -> ∀ j∈l,MN h j=true
 | [],_,j,hj=>by cases hj
 | k::l,hl,j,hj=>by
  simp only [QW,Bool.and_eq_true] at hl;rcases List.mem_cons.1 hj with rfl | hj
  ·exact hl.1
  ·exact NQ hl.2 j hj
theorem NR {h:H} {id:Nat} (hl:MN h id=true) : ∃ b,h.get id=some b/\b.live:=by
 unfold MN at hl;split at hl
 ·cases hl
 ·rename_i c hne hg;exact ⟨c,hg,by cases c<;>first | trivial | exact absurd hg (by simpa using hne)⟩
 ·cases hl
theorem NS {h:H} : ∀ {l:List Nat},TC h l=true -> ∀ j∈l,∃ b,h.get j=some b
 | [],_,j,hj=>by cases hj
 | k::l,hl,j,hj=>by
  simp only [TC,Bool.and_eq_true] at hl;rcases List.mem_cons.1 hj with rfl | hj
  ·exact Option.isSome_iff_exists.1 hl.1
  ·exact NS hl.2 j hj
theorem I1 {X:Cx} {h:H} {n:Nat} (rh:RH X h n) {baseP i len bef c:Nat} {f:Option (List Nat×Bool)} {rd wr:List Nat} (hf:YU X (baseP+i) f rd) (hi:i<len) (hw : ∀ w∈wr,w∈rd) (h1:c<=1->wr=[]) (h0:c=0\/c=2->rd=[baseP+i]) (hex : ∀ q∈rd,q=baseP+i\/X.h.get q≠none) :
  ∀ {pa:List (Nat×Nat×Option (List Nat×Bool))} {pp:List (Nat×List Nat×List Nat)},L2 (PastE X baseP i len) pa pp->Hv h bef c f pa=true->Pi.LN bef rd wr pp=true
 | [],pp,hl,_=>by rw [L2.nil_inv hl];rfl
 | (j,d,g)::pa,pp,hl,ho=>by
  obtain ⟨⟨j',r,w⟩,pp',rfl,⟨e1,e2,e3,e4,e5,e6,e7⟩,hl'⟩:=L2.cons_inv hl;simp only at e1 e2 e3 e4 e5 e6 e7;subst e1;simp only [Hv,Bool.and_eq_true,Bool.or_eq_true] at ho;simp only [Pi.LN,Bool.and_eq_true,Bool.or_eq_true,Bool.not_eq_true'];refine ⟨?_,I1 rh hf hi hw h1 h0 hex hl' ho.2⟩;have own : ∀ x∈r,x≠baseP+i:=λx hx=>e5 x hx i (Nat.le_refl _) hi;rcases ho.1 with hb | hb | hb | hb | hb | hb
  ·exact .inl hb
  ·have hc:=Nat.eq_of_beq_eq_true hb;refine .inr ?_;rw [h0 (.inl hc),h1 (by omega)];exact Bool.or_eq_false_iff.2 ⟨Ct λx hx hm=>own x (e3 x hx) (by simpa using hm),rfl⟩
  ·have hc:=Nat.eq_of_beq_eq_true hb;have hr:=h0 (.inr hc);refine .inr (Bool.or_eq_false_iff.2 ⟨Ct λx hx hm=>own x (e3 x hx) (by rw [hr] at hm;simpa using hm),Ct λx hx hm=>own x hm (by have:=hw x hx;rw [hr] at this;simpa using this)⟩)
  ·have hd:=Nat.eq_of_beq_eq_true hb;obtain ⟨f1,f2⟩:=e6 hd;refine .inr (Bool.or_eq_false_iff.2 ⟨by rw [e4 (by omega)];rfl,Ct λx hx hm => ?_⟩);rw [f1] at hm;have hxe:x=baseP+j:=by simpa using hm
   rcases hex x (hw x hx) with hh | hh
   ·omega
   ·rw [hxe] at hh;exact hh f2
  ·have hc:=Nat.eq_of_beq_eq_true hb.1;have hd:=Nat.eq_of_beq_eq_true hb.2;exact .inr (Bool.or_eq_false_iff.2 ⟨by rw [e4 (by omega)];rfl,by rw [h1 (by omega)];rfl⟩)
  ·unfold ld at hb;split at hb
   ·rename_i a b;simp only [Bool.and_eq_true,Bool.not_eq_true'] at hb;obtain ⟨hm,hpq,hla,hlb⟩:=hb
    have own1 : ∀ {l:List Nat} {j q m:Nat},QW h l=true->j∈l->X.π j=some (.blk q m)->X.O q:=λhl hj hp=>by
     obtain ⟨b1,g1,l1⟩:=NR (NQ hl _ hj);exact (hp ▸ rh.blk _ _ g1).own l1
    have own2 : ∀ {l:List Nat} {j q m:Nat},TC h l=true->j∈l->X.π j=some (.blk q m)->X.O q:=λhl hj hp=>by
     obtain ⟨b1,g1⟩:=NS hl _ hj;have hB:=rh.blk _ _ g1;cases b1 with
     | dead=>exact (hB _ _ hp).1
     | _=>exact (hp ▸ hB).own trivial
    have no : ∀ x∈rd,x ∉ r:=λx hx hr=>by
     rcases hf a rfl x hx with hh | h1
     ·exact own x hr hh
     ·rcases e7 b rfl x hr with ⟨hh,hh2⟩ | h2
      ·rcases hex x hx with hk | hk
       ·exact own x hr hk
       ·exact hk hh2
      ·rcases h1 with ⟨j1,hj1,m1,hp1⟩ | ⟨q1,q2,_⟩
       ·rcases h2 with ⟨j2,hj2,m2,hp2⟩ | ⟨_,q2,_⟩
        ·obtain ⟨b1,g1,l1⟩:=NR (NQ hla j1 hj1);obtain ⟨b2,g2⟩:=NS hlb j2 hj2
         have l2:b2.live:=by
          cases b2 with
          | dead=>exact absurd ((rh.blk _ _ g2) _ _ hp2).2 ((hp1 ▸ rh.blk _ _ g1).nd l1)
          | _=>trivial
         have:=rh.inj _ _ _ _ _ _ _ g1 g2 l1 l2 hp1 hp2;subst this;exact Ta hm _ hj1 hj2
        ·exact q2 (own1 hla hj1 hp1)
       ·rcases h2 with ⟨j2,hj2,m2,hp2⟩ | ⟨q3,_,_⟩
        ·exact q2 (own2 hlb hj2 hp2)
        ·rw [q1,q3] at hpq;cases hpq
    exact .inr (Bool.or_eq_false_iff.2 ⟨Ct λx hx hm=>no x hm (e3 x hx),Ct λx hx hm=>no x (hw x hx) hm⟩)
   ·cases hb
theorem FpP.mono {X Y:Cx} (u:Up X Y) {own:Nat} (hn:X.h.get own=none->Y.h.get own=none) {f:Option (List Nat×Bool)} {rd:List Nat} (h:FpP X own f rd):FpP Y own f rd:=λl hl q hq=>by
 rcases h l hl q hq with ⟨rfl,h1⟩ | h1
 ·exact .inl ⟨rfl,hn h1⟩
 ·exact .inr (h1.mono u)
theorem PastE.next {X Y:Cx} {h h':H} {baseP base i len:Nat} {a:Nat×Nat×Option (List Nat×Bool)} {b:Nat×List Nat×List Nat} (s:St X h (base+i) (baseP+i) Y h') (k:PastE X baseP i len a b):PastE Y baseP (i+1) len a b:=by
 obtain ⟨e1,e2,e3,e4,e5,e6,e7⟩:=k;exact ⟨e1,by omega,e3,e4,λq hq k h1 h2=>e5 q hq k (by omega) h2,λhd=>⟨(e6 hd).1,s.hpn _ (by omega) (e6 hd).2⟩,e7.mono s.up λhn=>s.hpn _ (by omega) hn⟩
theorem G3 {X:Cx} {t:T V} {tP:T PV} (ht:TR X t tP) : ∀ {ops:List Operand} {l:List Nat×Bool},YG t ops=some l -> ∀ q∈Pi.Du tP ops,FpA X l q
 | [],_,_,q,hq=>by simp [Pi.Du] at hq
 | o::ops,l,e,q,hq=>by
  unfold Pi.Du at hq;cases o with
  | tmp k =>
   unfold YG at e
   have hd : ∀ {v:V},t.get k=some v -> ∃ p,Pi.Gt tP (.tmp k)=some p/\VR X v p:=λhv=>by
    obtain ⟨p',hp',hvr⟩:=ht _ _ hv;exact ⟨p',by simp only [Pi.Gt,hp',Option.getD_some],hvr⟩
   have one : ∀ {v:V} {id:Nat},t.get k=some v->(∀ p,VR X v p -> ∀ q∈Pi.Aa p,∃ m,X.π id=some (.blk q m))->((YG t ops).map (λa=>(id::a.1,a.2))=some l)->FpA X l q:=fun {v id} hv hf e=>by
    obtain ⟨p,hp,hvr⟩:=hd hv;rw [hp] at hq;obtain ⟨l',hl',rfl⟩:=Pi.AQ e;rcases List.mem_append.1 hq with hq | hq
    ·obtain ⟨m,hm⟩:=hf p hvr q hq;exact .inl ⟨id,by simp,m,hm⟩
    ·rcases G3 ht hl' q hq with ⟨j,hj,m,hm⟩ | hq
     ·exact .inl ⟨j,by simp [hj],m,hm⟩
     ·exact .inr hq
   have two : ∀ {v:V},t.get k=some v->(∀ p,VR X v p -> ∀ q∈Pi.Aa p,X.Q q /\ ∃ es ex fz,X.h.get q=some (.row es ex fz))->((YG t ops).map (λa=>(a.1,true))=some l)->FpA X l q:=fun {v} hv hf e=>by
    obtain ⟨p,hp,hvr⟩:=hd hv;rw [hp] at hq;obtain ⟨l',hl',rfl⟩:=Pi.AQ e;rcases List.mem_append.1 hq with hq | hq
    ·exact .inr ⟨rfl,hf p hvr q hq⟩
    ·rcases G3 ht hl' q hq with h | hq
     ·exact .inl h
     ·exact .inr ⟨rfl,hq.2⟩
   split at e
   ·rename_i id hv;refine one hv (λp hvr q hq => ?_) e;simp only [VR] at hvr;cases hp:X.π id with
    | none=>rw [hp] at hvr;exact hvr.elim
    | some a =>
     rw [hp] at hvr;cases a with
     | blk pid len=>simp only at hvr;subst hvr;simp only [Pi.Aa,List.mem_singleton] at hq;subst hq;exact ⟨_,rfl⟩
     | nil=>simp only at hvr;subst hvr;simp [Pi.Aa] at hq
     | fz es=>simp only at hvr;subst hvr;simp [Pi.Aa] at hq
   ·rename_i id off len hv;refine one hv (λp hvr q hq => ?_) e;simp only [VR] at hvr;obtain ⟨pid,m,h1,rfl⟩:=hvr;simp only [Pi.Aa,List.mem_singleton] at hq;subst hq;exact ⟨_,h1⟩
   ·rename_i id off hv;refine one hv (λp hvr q hq => ?_) e;simp only [VR] at hvr;obtain ⟨pid,m,h1,rfl⟩:=hvr;simp only [Pi.Aa,List.mem_singleton] at hq;subst hq;exact ⟨_,h1⟩
   ·rename_i id i off hv;refine one hv (λp hvr q hq => ?_) e;simp only [VR] at hvr;obtain ⟨pid,m,h1,rfl⟩:=hvr;simp only [Pi.Aa,List.mem_singleton] at hq;subst hq;exact ⟨_,h1⟩
   ·rename_i id hv;refine one hv (λp hvr q hq => ?_) e;simp only [VR] at hvr;obtain ⟨pid,m,h1,rfl⟩:=hvr;simp only [Pi.Aa,List.mem_singleton] at hq;subst hq;exact ⟨_,h1⟩
   ·rename_i f g c l0 hv;refine two hv (λp hvr q hq => ?_) e;simp only [VR] at hvr;rcases hvr with ⟨h1,_⟩ | ⟨f,es,h1,_⟩ | ⟨pid,off,len,es,ex,fz,h1,h0,h2,h3,_⟩
    ·subst h1;simp [Pi.Aa] at hq
    ·subst h1;simp [Pi.Aa] at hq
    ·subst h1;simp only [Pi.Aa,List.mem_singleton] at hq;subst hq;exact ⟨h2,_,_,_,h3⟩
   ·rename_i cs hv;refine two hv (λp hvr q hq => ?_) e;simp only [VR] at hvr;rcases hvr with ⟨ps,rfl,_⟩ | ⟨pid,i,off,es,ex,fz,e,rfl,h2,h3,_⟩
    ·simp [Pi.Aa] at hq
    ·simp only [Pi.Aa,List.mem_singleton] at hq;subst hq;exact ⟨h2,_,_,_,h3⟩
   ·rename_i v n1 n2 n3 n4 n5 n6 n7 hv;obtain ⟨p,hp,hvr⟩:=hd hv;rw [hp] at hq;rcases List.mem_append.1 hq with hq | hq
    ·exfalso;cases v with
     | ow id=>exact n1 _ rfl
     | own id off len=>exact n2 _ _ _ rfl
     | ptr id off=>exact n3 _ _ rfl
     | ept id i off=>exact n4 _ _ _ rfl
     | mp id=>exact n5 _ rfl
     | lf full g c l=>exact n6 _ _ _ _ rfl
     | view cs=>exact n7 _ rfl
     | pl g c l=>simp only [VR] at hvr;rcases hvr with ⟨rfl,_⟩ | ⟨_,_,rfl,_⟩<;>simp [Pi.Aa] at hq
     | pv cs=>simp only [VR] at hvr;obtain ⟨_,rfl,_⟩:=hvr;simp [Pi.Aa] at hq
     | exl f es=>simp only [VR] at hvr;obtain ⟨_,_,rfl,_⟩:=hvr;simp [Pi.Aa] at hq
     | agg cs=>simp only [VR] at hvr;obtain ⟨_,rfl,_⟩:=hvr;simp [Pi.Aa] at hq
     | tup cs=>simp only [VR] at hvr;obtain ⟨_,rfl,_⟩:=hvr;simp [Pi.Aa] at hq
     | fn f a b=>simp only [VR] at hvr;obtain ⟨_,_,rfl,_⟩:=hvr;simp [Pi.Aa] at hq
     | yl id=>simp only [VR] at hvr;obtain ⟨_,_,_,rfl⟩:=hvr;simp [Pi.Aa] at hq
     | ifc t v=>simp only [VR] at hvr;obtain ⟨_,rfl,_⟩:=hvr;simp [Pi.Aa] at hq
     | _=>simp only [VR] at hvr;subst hvr;simp [Pi.Aa] at hq
    ·exact G3 ht e q hq
   ·cases e
  | const v =>
   have e':YG t ops=some l:=e;split at hq
   ·rename_i p hp;rcases List.mem_append.1 hq with hq | hq
    ·rw [Ll hp] at hq;cases hq
    ·exact G3 ht e' q hq
   ·exact G3 ht e' q hq
  | func f =>
   have e':YG t ops=some l:=e;split at hq
   ·rename_i p hp;rcases List.mem_append.1 hq with hq | hq
    ·simp only [Pi.Gt,Option.some.injEq] at hp;subst hp;simp [Pi.Aa] at hq
    ·exact G3 ht e' q hq
   ·exact G3 ht e' q hq
  | global g =>
   have e':YG t ops=some l:=e;split at hq
   ·rename_i p hp;cases hp
   ·exact G3 ht e' q hq
theorem NT {t:T PV} {q:Nat} {b:List Operand} : ∀ {a:List Operand},q∈Pi.Du t a->q∈Pi.Du t (a++b)
 | [],h=>by simp [Pi.Du] at h
 | o::a,h=>by
  simp only [List.cons_append,Pi.Du] at h ⊢;split at h
  ·rename_i p hp
   try rw [hp]
   try simp only
   rcases List.mem_append.1 h with h | h
   ·exact List.mem_append_left _ h
   ·exact List.mem_append_right _ (NT h)
  ·rename_i hp
   try rw [hp]
   exact NT h
theorem PL {f:PV->Option (PV×List Nat)} : ∀ {a b:List PV} {qs:List PV} {ids:List Nat},AS f (a++b)=some (qs,ids) -> ∃ q1 i1 q2 i2,AS f a=some (q1,i1)/\AS f b=some (q2,i2)/\ids=i1++i2
 | [],b,qs,ids,h=>⟨[],[],qs,ids,rfl,h,rfl⟩
 | p::a,b,qs,ids,h=>by
  simp only [List.cons_append,AS] at h;split at h
  ·rename_i q l qs' l' h1 h2;cases h;obtain ⟨q1,i1,q2,i2,k1,k2,rfl⟩:=PL h2;exact ⟨q::q1,l++i1,q2,i2,by simp only [AS,h1,k1],k2,by simp⟩
  ·cases h
theorem JT {f:PV->Option (PV×List Nat)} {p:PV} {qs:List PV} {ids:List Nat} (h:AS f [p]=some (qs,ids)) : ∃ q,f p=some (q,ids):=by
 simp only [AS] at h;split at h
 ·rename_i q l qs' l' h1 h2;cases h2;cases h;exact ⟨q,by rw [h1];simp⟩
 ·cases h
theorem NU {f:PV->Option (PV×List Nat)} {p q:PV} {ids:List Nat} (h:f p=some (q,ids)):AS f [p]=some ([q],ids):=by
 simp only [AS,h,List.append_nil]
theorem JU {f:PV->Option (PV×List Nat)} {T:Nat->Prop} : ∀ {es:List PV},(∀ e∈es,∀ q l,f e=some (q,l) -> ∀ i∈l,T i) -> ∀ {qs:List PV} {ids:List Nat},AS f es=some (qs,ids) -> ∀ i∈ids,T i
 | [],_,qs,ids,h,i,hi=>by cases h;cases hi
 | e::es,hf,qs,ids,h,i,hi=>by
  simp only [AS] at h;split at h
  ·rename_i q l qs' l' h1 h2;cases h;rcases List.mem_append.1 hi with hi | hi
   ·exact hf e (by simp) _ _ h1 i hi
   ·exact JU (λe he=>hf e (by simp [he])) h2 i hi
  ·cases h
theorem VM {α:Type} {R:α->PV->Prop} {l:List α} {es:List PV} (h:L2 R l es) : ∀ e∈es,∃ y,R y e:=by
 induction h with
 | nil=>intro e he;cases he
 | cons a _ ih =>
  intro e he;rcases List.mem_cons.1 he with rfl | he
  ·exact ⟨_,a⟩
  ·exact ih e he
def bR (hh:Hp) (Q:Nat->Prop) (i:Nat):Prop:=Q i /\ ∃ es ex fz,hh.get i=some (.row es ex fz)
theorem Ln {hh:Hp} {Q:Nat->Prop} : ∀ {c:Ty} {x:c.den} {ps:List PV},DR hh Q c x ps -> ∀ {d:Nat} {qs:List PV} {ids:List Nat},AS (BY hh d) ps=some (qs,ids) -> ∀ i∈ids,bR hh Q i
 | .int _,_,_,e,d,qs,ids,h,i,hi=>by
  subst e;obtain ⟨q,h⟩:=JT h;cases d<;>cases h;cases hi
 | .bool,_,_,e,d,qs,ids,h,i,hi=>by
  subst e;obtain ⟨q,h⟩:=JT h;cases d<;>cases h;cases hi
 | .str,_,_,e,d,qs,ids,h,i,hi=>by
  subst e;obtain ⟨q,h⟩:=JT h;cases d<;>cases h;cases hi
 | .unit,_,_,e,d,qs,ids,h,i,hi=>by subst e;cases h;cases hi
 | .pair a b,_,_,⟨p,q,e,h1,h2⟩,d,qs,ids,h,i,hi=>by
  subst e;obtain ⟨q1,i1,q2,i2,k1,k2,rfl⟩:=PL h;rcases List.mem_append.1 hi with hi | hi
  ·exact Ln h1 k1 i hi
  ·exact Ln h2 k2 i hi
 | .sl g c,_,_,⟨p,e,hp⟩,d,qs,ids,h,i,hi=>by
  subst e;obtain ⟨q,h⟩:=JT h;rcases hp with ⟨rfl,_⟩ | ⟨f,es,rfl,_⟩ | ⟨pid,off,len,es,ex,fz,rfl,h2,h3,_,_,h5⟩
  ·cases d<;>cases h;cases hi
  ·cases d<;>cases h;cases hi
  ·cases d with
   | zero=>cases h
   | succ d =>
    simp only [BY,h3] at h;replace h:=A9 h;obtain ⟨_,h⟩:=h;obtain ⟨⟨xs,l⟩,hm,hr⟩:=Pi.AQ h;cases hr;rcases List.mem_cons.1 hi with rfl | hi
    ·exact ⟨h2,es,ex,fz,h3⟩
    ·refine JU (λe he q l hq j hj => ?_) hm i hi;obtain ⟨y,hE⟩:=VM h5 e he;cases g with
     | true =>
      obtain ⟨cs,rfl,hD⟩:=hE;cases d with
      | zero=>cases hq
      | succ d =>
       rw [JN] at hq;obtain ⟨⟨ys,l'⟩,hm',hr'⟩:=Pi.AQ hq;cases hr';exact Ln hD hm' j hj
     | false=>exact Ln (show DR hh Q c y [e] from hE) (NU hq) j hj
theorem bS {hh:Hp} {Q:Nat->Prop} {g:Bool} {c:Ty} {y:c.den} {e q:PV} {d:Nat} {l:List Nat} (hE:EP g (DR hh Q c) y e) (hq:BY hh d e=some (q,l)) : ∀ j∈l,bR hh Q j:=by
 intro j hj;cases g with
 | true =>
  obtain ⟨cs,rfl,hD⟩:=hE;cases d with
  | zero=>cases hq
  | succ d =>
   rw [JN] at hq;obtain ⟨⟨ys,l'⟩,hm',hr'⟩:=Pi.AQ hq;cases hr';exact Ln hD hm' j hj
 | false=>exact Ln (show DR hh Q c y [e] from hE) (NU hq) j hj
theorem VN {X:Cx} {f:V->Option (List Nat×Bool)} {d:Nat} (hf : ∀ {v:V} {p:PV} {l:List Nat×Bool},VR X v p->f v=some l -> ∀ {q:PV} {ids:List Nat},BY X.h d p=some (q,ids) -> ∀ i∈ids,FpA X l i) :
  ∀ {vs:List V} {ps:List PV} {l:List Nat×Bool},VRL X vs ps->lY f vs=some l -> ∀ {qs:List PV} {ids:List Nat},AS (BY X.h d) ps=some (qs,ids) -> ∀ i∈ids,FpA X l i
 | [],ps,l,hv,e,qs,ids,h,i,hi=>by rw [hv.nil_inv] at h;cases h;cases hi
 | v::vs,ps,l,hv,e,qs,ids,h,i,hi=>by
  obtain ⟨p,ps',rfl,h1,h2⟩:=hv.cons_inv;unfold lY at e;split at e
  ·rename_i a b ha hb;cases e;simp only [AS] at h;split at h
   ·rename_i q l qs' l' k1 k2;cases h;rcases List.mem_append.1 hi with hi | hi
    ·rcases hf h1 ha k1 i hi with ⟨j,hj,m,hm⟩ | ⟨hj,hq⟩
     ·exact .inl ⟨j,List.mem_append_left _ hj,m,hm⟩
     ·exact .inr ⟨by simp [hj],hq⟩
    ·rcases VN hf h2 hb k2 i hi with ⟨j,hj,m,hm⟩ | ⟨hj,hq⟩
     ·exact .inl ⟨j,List.mem_append_right _ hj,m,hm⟩
     ·exact .inr ⟨by simp [hj],hq⟩
   ·cases h
  ·cases e
theorem SB {hh:Hp} {Q:Nat->Prop} : ∀ {c:Ty} {x:c.den} {ps:List PV},c.hasSl=false->DR hh Q c x ps->DR hh (λ_=>False) c x ps
 | .int _,_,_,_,h=>h
 | .bool,_,_,_,h=>h
 | .str,_,_,_,h=>h
 | .unit,_,_,_,h=>h
 | .pair a b,_,_,hs,⟨p,q,e,h1,h2⟩=>by
  simp only [Ty.hasSl,Bool.or_eq_false_iff] at hs;exact ⟨p,q,e,SB hs.1 h1,SB hs.2 h2⟩
 | .sl g c,_,_,hs,_=>by cases hs
theorem bT {hh:Hp} {Q:Nat->Prop} {g:Bool} {c:Ty} {y:c.den} {e q:PV} {d:Nat} {l:List Nat} (hs:c.hasSl=false) (hE:EP g (DR hh Q c) y e) (hq:BY hh d e=some (q,l)) : ∀ j∈l,False:=by
 intro j hj
 have hE2:EP g (DR hh (λ_=>False) c) y e:=by
  cases g with
  | true=>obtain ⟨cs,rfl,hD⟩:=hE;exact ⟨cs,rfl,SB hs hD⟩
  | false=>exact SB hs hE
 exact (bS hE2 hq j hj).1
theorem Qr {X:Cx} {h:H} {n:Nat} (r:RH X h n) {id off len pid m d:Nat} {q:PV} {ids:List Nat} (hp:X.π id=some (.blk pid m)) (hl:MN h id=true) (hq:BY X.h d (.own pid off len)=some (q,ids)) : ∀ i∈ids,FpA X ([id],ak h id) i:=by
 intro i hi;obtain ⟨b,hb,hlv⟩:=NR hl;have hB:=r.blk _ _ hb;rw [hp] at hB;cases d with
 | zero=>cases hq
 | succ d =>
  simp only [BY] at hq;split at hq
  ·rename_i es ex fz hrow;replace hq:=A9 hq;obtain ⟨_,hq⟩:=hq;obtain ⟨⟨xs,l⟩,hm,hr⟩:=Pi.AQ hq;cases hr;rcases List.mem_cons.1 hi with rfl | hi
   ·exact .inl ⟨id,by simp,m,hp⟩
   ·cases b with
    | row g c l ex2 fz2 lk =>
     rcases hB with ⟨pid',len',es',fz',h1,h2,h3,h4,h5,h7,h6⟩ | ⟨h1,_⟩ | ⟨_,h1,_⟩
     ·cases h1;rw [hrow] at h3;cases h3;cases hs:c.hasSl with
      | true =>
       refine .inr ⟨by unfold ak;rw [hb];exact hs,JU (T:=bR X.h X.Q) (λe he q' l' hq' j hj => ?_) hm i hi⟩;obtain ⟨y,hE⟩:=VM h6 e (List.mem_of_mem_drop (List.mem_of_mem_take he));exact bS hE hq' j hj
      | false =>
       exact (JU (T:=λ_=>False) (λe he q' l' hq' j hj=>by
        obtain ⟨y,hE⟩:=VM h6 e (List.mem_of_mem_drop (List.mem_of_mem_take he))
        exact bT hs hE hq' j hj) hm i hi).elim
     ·cases h1
     ·cases h1
    | box cs fz lk=>obtain ⟨_,_,_,_,h1,_,h3,_⟩:=hB;cases h1;rw [hrow] at h3;cases h3
    | mp kk g c l lk=>obtain ⟨_,_,_,h1,_,h3,_⟩:=hB;cases h1;rw [hrow] at h3;cases h3
    | lp st pend nt t ps asg body d=>obtain ⟨_,_,_,_,_,h1,_,h3,_⟩:=hB;cases h1;rw [hrow] at h3;cases h3
    | df ds=>obtain ⟨_,_,_,h1,_,h3,_⟩:=hB;cases h1;rw [hrow] at h3;cases h3
    | dead=>exact hlv.elim
  ·cases hq
theorem VO {X:Cx} {h:H} {n0:Nat} (r:RH X h n0) : ∀ {n:Nat} {v:V} {p:PV} {l:List Nat×Bool},VR X v p->nR h n v=some l -> ∀ {d:Nat} {q:PV} {ids:List Nat},BY X.h d p=some (q,ids) -> ∀ i∈ids,FpA X l i
 | 0,_,_,_,_,e,_,_,_,_,_,_=>by cases e
 | n+1,v,p,l,hv,e,d,q,ids,hp,i,hi=>by
  cases v with
  | bool b=>simp only [VR] at hv;subst hv;cases d<;>cases hp;cases hi
  | int k b=>simp only [VR] at hv;subst hv;cases d<;>cases hp;cases hi
  | str b=>simp only [VR] at hv;subst hv;cases d<;>cases hp;cases hi
  | nils=>simp only [VR] at hv;subst hv;cases d<;>cases hp;cases hi
  | pl g c l=>simp only [VR] at hv;rcases hv with ⟨rfl,_⟩ | ⟨_,_,rfl,_⟩<;>cases d<;>cases hp<;>cases hi
  | exl f es=>simp only [VR] at hv;obtain ⟨_,_,rfl,_⟩:=hv;cases d<;>cases hp;cases hi
  | lf f g c ll =>
   cases e
   have hcs:DR X.h X.Q (.sl g c) ll [p]:=by
    simp only [VR] at hv;refine ⟨p,rfl,?_⟩;rcases hv with h | ⟨f,es,h1,_,h2⟩ | ⟨pid,off,len,es,ex,fz,h1,_,h2,h3,h4,h8,h5⟩
    ·exact .inl h
    ·exact .inr (.inl ⟨f,es,h1,h2⟩)
    ·exact .inr (.inr ⟨pid,off,len,es,ex,fz,h1,h2,h3,h4,h8,h5⟩)
   obtain ⟨h1,h2⟩:=Ln hcs (NU hp) i hi;exact .inr ⟨rfl,h1,h2⟩
  | ow id =>
   replace e:=A9 e;obtain ⟨hlv,e⟩:=e;cases e;simp only [VR] at hv;cases hpi:X.π id with
   | none=>rw [hpi] at hv;exact hv.elim
   | some a =>
    rw [hpi] at hv;cases a with
    | blk pid len=>simp only at hv;subst hv;exact Qr r hpi hlv hp i hi
    | nil=>simp only at hv;subst hv;cases d<;>cases hp;cases hi
    | fz es=>simp only at hv;subst hv;cases d<;>cases hp;cases hi
  | own id off len =>
   replace e:=A9 e;obtain ⟨hlv,e⟩:=e;cases e;simp only [VR] at hv;obtain ⟨pid,m,h1,rfl⟩:=hv;exact Qr r h1 hlv hp i hi
  | agg cs =>
   obtain ⟨ps,rfl,hv'⟩:=hv.agg_inv;cases d with
   | zero=>cases hp
   | succ d =>
    rw [JN] at hp;obtain ⟨⟨ys,l'⟩,hm',hr'⟩:=Pi.AQ hp;cases hr';exact VN (fun {v p l} hv e {q ids} hp i hi=>VO r hv e hp i hi) hv' e hm' i hi
  | _=>cases e
theorem VP {v:Value} {p q:PV} {hh:Hp} {d:Nat} {ids:List Nat} (e:Pi.HS v=some p) (h:BY hh d p=some (q,ids)):ids=[]:=by
 cases d with
 | zero=>cases h
 | succ d=>rw [Lk e] at h;cases h;rfl
theorem YV {v:Value} {p q:PV} {hh:Hp} {ids:List Nat} (e:Pi.Ij v=some p) (h:BY hh Pi.BN p=some (q,ids)):ids=[]:=by
 unfold Pi.Ij at e;split at e
 ·obtain ⟨x,hx,rfl⟩:=Pi.AQ e;rw [show Pi.BN=11+1 from rfl,JN,KK hx 10] at h;cases h;rfl
 ·replace e:=A9 e;cases e.2;cases h;rfl
 ·split at e
  ·rename_i p' hp';cases e;rw [show Pi.BN=11+1 from rfl,Rx,Lk hp' 10] at h;cases h;rfl
  ·cases e
 ·exact VP e h
theorem FpA.left {X:Cx} {a b:List Nat×Bool} {q:Nat} (h:FpA X a q):FpA X (a.1++b.1,a.2||b.2) q:=by
 rcases h with ⟨j,hj,m,hm⟩ | ⟨hj,hq⟩
 ·exact .inl ⟨j,List.mem_append_left _ hj,m,hm⟩
 ·exact .inr ⟨by simp [hj],hq⟩
theorem FpA.right {X:Cx} {a b:List Nat×Bool} {q:Nat} (h:FpA X b q):FpA X (a.1++b.1,a.2||b.2) q:=by
 rcases h with ⟨j,hj,m,hm⟩ | ⟨hj,hq⟩
 ·exact .inl ⟨j,List.mem_append_right _ hj,m,hm⟩
 ·exact .inr ⟨by simp [hj],hq⟩
theorem Ih {X:Cx} {h:H} {n0:Nat} (r:RH X h n0) {t:T V} {tP:T PV} (ht:TR X t tP) : ∀ {ops:List Operand} {l:List Nat×Bool},iZ h t ops=some l -> ∀ q∈Pi.Jj tP X.h ops,FpA X l q
 | [],_,_,q,hq=>by simp [Pi.Jj] at hq
 | o::ops,l,e,q,hq=>by
  unfold Pi.Jj at hq;cases o with
  | tmp k =>
   unfold iZ at e;split at e
   ·rename_i v hv;split at e
    ·rename_i a b ha hb;cases e;obtain ⟨p',hp',hvr⟩:=ht _ _ hv;have hev:Pi.Gt tP (.tmp k)=some p':=by simp only [Pi.Gt,hp',Option.getD_some]
     rw [hev] at hq;simp only at hq;split at hq
     ·rename_i q' m hm;rcases List.mem_append.1 hq with hq | hq
      ·exact (VO r hvr ha hm q hq).left
      ·exact (Ih r ht hb q hq).right
     ·exact (Ih r ht hb q hq).right
    ·cases e
   ·cases e
  | const v =>
   have e':iZ h t ops=some l:=e;split at hq
   ·rename_i p hp;split at hq
    ·rename_i q' m hm;rcases List.mem_append.1 hq with hq | hq
     ·rw [YV hp hm] at hq;cases hq
     ·exact Ih r ht e' q hq
    ·exact Ih r ht e' q hq
   ·exact Ih r ht e' q hq
  | func f =>
   have e':iZ h t ops=some l:=e;simp only [Pi.Gt] at hq;split at hq
   ·rename_i q' m hm;rcases List.mem_append.1 hq with hq | hq
    ·have:m=[]:=by
      rw [show Pi.BN=11+1 from rfl,U5] at hm;simp only [AS,List.append_nil,Option.some.injEq,Prod.mk.injEq] at hm;exact hm.2.symm
     rw [this] at hq;cases hq
    ·exact Ih r ht e' q hq
   ·exact Ih r ht e' q hq
  | global g =>
   have e':iZ h t ops=some l:=e;split at hq
   ·rename_i p hp;cases hp
   ·exact Ih r ht e' q hq
theorem KN {X:Cx} {t:T V} {tP:T PV} (ht:TR X t tP) : ∀ {ops:List Operand} {l:List Nat×Bool},ib t ops=some l -> ∀ q∈Pi.Hr tP ops,FpA X l q
 | [],_,_,q,hq=>by simp [Pi.Hr] at hq
 | o::ops,l,e,q,hq=>by
  unfold Pi.Hr at hq;cases o with
  | tmp k =>
   unfold ib at e;split at e
   ·rename_i id hv;obtain ⟨l',hl',rfl⟩:=Pi.AQ e;obtain ⟨p',hp',hvr⟩:=ht _ _ hv;have hev:Pi.Gt tP (.tmp k)=some p':=by simp only [Pi.Gt,hp',Option.getD_some]
    rw [hev] at hq;simp only at hq;simp only [VR] at hvr;obtain ⟨pid,m,h1,rfl⟩:=hvr;rcases List.mem_append.1 hq with hq | hq
    ·simp only [Pi.L1,List.mem_singleton] at hq;subst hq;exact .inl ⟨id,by simp,m,h1⟩
    ·rcases KN ht hl' q hq with ⟨j,hj,m,hm⟩ | hq
     ·exact .inl ⟨j,by simp [hj],m,hm⟩
     ·exact .inr hq
   ·rename_i v hne hv;obtain ⟨p',hp',hvr⟩:=ht _ _ hv;have hev:Pi.Gt tP (.tmp k)=some p':=by simp only [Pi.Gt,hp',Option.getD_some]
    rw [hev] at hq;simp only at hq;rcases List.mem_append.1 hq with hq | hq
    ·exfalso;cases p' with
     | mp pid =>
      cases v with
      | mp id=>exact hne _ rfl
      | ow id =>
       simp only [VR] at hvr;split at hvr
       ·cases hvr
       ·cases hvr
       ·cases hvr
       ·exact hvr
      | lf f g c l=>simp only [VR] at hvr;rcases hvr with ⟨h,_⟩ | ⟨_,_,h,_⟩ | ⟨_,_,_,_,_,_,h,_⟩<;>cases h
      | pl g c l=>simp only [VR] at hvr;rcases hvr with ⟨h,_⟩ | ⟨_,_,h,_⟩<;>cases h
      | view cs=>simp only [VR] at hvr;rcases hvr with ⟨_,h,_⟩ | ⟨_,_,_,_,_,_,_,h,_⟩<;>cases h
      | exl f es=>simp only [VR] at hvr;obtain ⟨_,_,h,_⟩:=hvr;cases h
      | agg cs=>simp only [VR] at hvr;obtain ⟨_,h,_⟩:=hvr;cases h
      | tup cs=>simp only [VR] at hvr;obtain ⟨_,h,_⟩:=hvr;cases h
      | pv cs=>simp only [VR] at hvr;obtain ⟨_,h,_⟩:=hvr;cases h
      | fn f a b=>simp only [VR] at hvr;obtain ⟨_,_,h,_⟩:=hvr;cases h
      | yl id=>simp only [VR] at hvr;obtain ⟨_,_,_,h⟩:=hvr;cases h
      | ifc t v=>simp only [VR] at hvr;obtain ⟨_,h,_⟩:=hvr;cases h
      | own a b c=>simp only [VR] at hvr;obtain ⟨_,_,_,h⟩:=hvr;cases h
      | ptr a b=>simp only [VR] at hvr;obtain ⟨_,_,_,h⟩:=hvr;cases h
      | ept a b c=>simp only [VR] at hvr;obtain ⟨_,_,_,h⟩:=hvr;cases h
      | _=>simp only [VR] at hvr;cases hvr
     | _=>simp [Pi.L1] at hq
    ·exact KN ht e q hq
   ·cases e
  | const v =>
   have e':ib t ops=some l:=e;split at hq
   ·rename_i p hp;rcases List.mem_append.1 hq with hq | hq
    ·have:=Ll hp;cases p<;>first | (simp [Pi.L1] at hq;done) | (simp [Pi.Aa] at this)
    ·exact KN ht e' q hq
   ·exact KN ht e' q hq
  | func f =>
   have e':ib t ops=some l:=e;split at hq
   ·rename_i p hp;rcases List.mem_append.1 hq with hq | hq
    ·simp only [Pi.Gt,Option.some.injEq] at hp;subst hp;simp [Pi.L1] at hq
    ·exact KN ht e' q hq
   ·exact KN ht e' q hq
  | global g =>
   have e':ib t ops=some l:=e;split at hq
   ·rename_i p hp;cases hp
   ·exact KN ht e' q hq
theorem ju {X:Cx} {h:H} {n:Nat} (r:RH X h n) {t:T V} {tP:T PV} (ht:TR X t tP) {o:Op} (own:Nat):YU X own (fp h t o) (own::Pi.CH tP X.h o):=by
 intro l hl q hq;rcases List.mem_cons.1 hq with hq | hq
 ·exact .inl hq
 refine .inr ?_;unfold fp at hl;cases o with
 | load _ _=>exact G3 ht hl q hq
 | indexAddr _ _ _=>exact G3 ht hl q hq
 | store _ _ _=>exact G3 ht hl q hq
 | buildSlice _ _ parts=>exact Ih r ht hl q hq
 | slice ty x lo hi mx =>
  cases mx with
  | some _=>exact Ih r ht hl q (by simpa [Pi.CH] using hq)
  | none =>
   refine G3 ht hl q ?_;simp only [Pi.CH,Option.isSome_none,cond_false] at hq;exact NT (a:=[x]) hq
 | call c =>
  simp only [Pi.CH] at hq;simp only at hl;split at hq
  ·rename_i b hb;simp only [hb] at hl;cases b<;>first | exact KN ht hl q hq | exact G3 ht hl q hq | cases hl
  ·cases hq
 | alloc _=>simp [Pi.CH] at hq
 | box _ _=>simp [Pi.CH] at hq
 | makeSlice _ _ _=>simp [Pi.CH] at hq
 | makeMap _ r=>simp [Pi.CH] at hq
 | _=>cases hl
theorem i6 {t:T PV} {h h1:Hp} {id:Nat} {o:Oper} {v:PV} (hid:h.get id=none) (hdr:Pi.CI o.op=true) (hc:A8 o.op=2\/A8 o.op=4) (e:Pi.A5 P t h id o=some (.val v h1)):h1.get id=none\/Pi.Aa v=[id]:=by
 unfold Pi.A5 at e;generalize o.op=op at hdr hc e
 have nw : ∀ {b:Blk} {h:Hp} {v':PV},Pi.Aa v'=[id]->(h.new id b).map (λh=>Pi.R.val v' h)=some (.val v h1)->h1.get id=none\/Pi.Aa v=[id]:=λhv e=>by
  obtain ⟨h3,hn,hr⟩:=Pi.AQ e;cases hr;exact .inr hv
 have fr : ∀ {L:List Nat} {v':PV},(Pi.freeze h L).map (λh=>Pi.R.val v' h)=some (.val v h1)->h1.get id=none\/Pi.Aa v=[id]:=λe=>by
  obtain ⟨h3,hn,hr⟩:=Pi.AQ e;cases hr;exact .inl ((JS hn id).1 hid)
 have st : ∀ {j:Nat} {b b0:Blk} {v':PV},h.get j=some b0->(h.set j b).map (λh=>Pi.R.val v' h)=some (.val v h1)->h1.get id=none\/Pi.Aa v=[id]:=λhj e=>by
  obtain ⟨h3,hn,hr⟩:=Pi.AQ e;cases hr;refine .inl ?_;rw [(Hp.get_set hn).1,if_neg (λhh=>by rw [hh,hj] at hid;cases hid)];exact hid
 cases op with
 | alloc _ =>
  simp only at e;unfold Pi.HB at e;split at e
  ·exact nw rfl e
  ·cases e
 | box _ x =>
  obtain ⟨p,_,e⟩:=Pi.Bh e;unfold Pi.LB at e;split at e
  ·cases e
  ·exact nw rfl e
 | makeMap ty rs =>
  cases rs with
  | none=>exact nw rfl e
  | some _=>cases e
 | makeSlice _ x y =>
  obtain ⟨p,q,_,_,e⟩:=Pi.GK e;unfold Pi.HT at e;simp only [Bool.cond_eq_ite] at e
  repeat' split at e
  all_goals first | (cases e;done) | exact nw rfl e
 | buildSlice ty n ps =>
  simp only at e;split at e
  ·unfold Pi.Bs at e;simp only [Bool.cond_eq_ite] at e
   repeat' split at e
   all_goals first | (cases e;done) | exact fr e
  ·cases e
 | slice ty x lo hi mx =>
  simp only at e;split at e
  ·obtain ⟨p,_,e⟩:=Pi.Bh e;unfold Pi.Bz Pi.IG at e;simp only [Bool.cond_eq_ite] at e
   repeat' split at e
   all_goals first | (cases e;done) | exact fr e | (cases e;exact .inl hid)
  ·cases e
 | call c =>
  simp only at e;split at e
  ·cases hcal:c.callee with
   | builtin b =>
    simp only [A8,hcal] at hc;simp only [hcal] at e;cases b with
    | append =>
     simp only [Pi.Ah,Bool.cond_eq_ite] at e;split at e
     ·split at e
      ·unfold Pi.Js at e;simp only [Bool.cond_eq_ite] at e
       repeat' split at e
       all_goals first | (cases e;done) | exact nw rfl e | (cases e;exact .inl hid) | (refine st (b0 := ?_) ?_ e;rotate_left;assumption)
      ·cases e
     ·cases e
    | copy =>
     simp only [Pi.Ah,Bool.cond_eq_ite] at e
     repeat' split at e
     all_goals first | (cases e;done) | (refine st (b0 := ?_) ?_ e;rotate_left;assumption)
    | _=>simp at hc
   | value f=>simp [A8,hcal] at hc
   | invoke a b=>simp [A8,hcal] at hc
  ·cases e
 | _=>simp [A8] at hc
theorem Tb {X:Cx} {v:V} {p:PV} (hv:VR X v p) {own:Nat} {f:Option (List Nat×Bool)} {rd:List Nat} (hn:X.h.get own=none\/Pi.Aa p=[own]) (hf:YU X own f rd):FpP X own (TA v f) rd:=by
 intro l hl q hq;cases f with
 | none=>cases hl
 | some a =>
  have old : ∀ {b:Bool} {ids:List Nat},(a.2=true->b=true)->(∀ j∈a.1,j∈ids)->FpA X a q->FpA X (ids,b) q:=λhb hi h=>by
   rcases h with ⟨j,hj,m,hm⟩ | ⟨hj,hq⟩
   ·exact .inl ⟨j,hi j hj,m,hm⟩
   ·exact .inr ⟨hb hj,hq⟩
  have hsub : ∀ x,FpA X a x->FpA X l x:=λx h=>by
   have old : ∀ {b:Bool} {ids:List Nat},(a.2=true->b=true)->(∀ j∈a.1,j∈ids)->FpA X (ids,b) x:=λhb hi=>by
    rcases h with ⟨j,hj,m,hm⟩ | ⟨hj,hq⟩
    ·exact .inl ⟨j,hi j hj,m,hm⟩
    ·exact .inr ⟨hb hj,hq⟩
   unfold TA at hl;simp only at hl;split at hl<;>cases hl<;>first | exact h | exact old (λh=>h) (λj hj=>List.mem_cons_of_mem _ hj) | exact old (λ_=>rfl) (λj hj=>hj)
  rcases hf a rfl q hq with rfl | h
  ·rcases hn with hn | hn
   ·exact .inl ⟨rfl,hn⟩
   ·refine .inr ?_;unfold TA at hl;simp only at hl;split at hl
    ·rename_i id;cases hl;simp only [VR] at hv;cases hpi:X.π id with
     | none=>rw [hpi] at hv;exact hv.elim
     | some b =>
      rw [hpi] at hv;cases b with
      | blk pid len=>simp only at hv;subst hv;simp only [Pi.Aa,List.cons.injEq,and_true] at hn;subst hn;exact .inl ⟨id,by simp,len,hpi⟩
      | nil=>simp only at hv;subst hv;simp [Pi.Aa] at hn
      | fz es=>simp only at hv;subst hv;simp [Pi.Aa] at hn
    ·cases hl;simp only [VR] at hv;obtain ⟨pid,m,h1,rfl⟩:=hv;simp only [Pi.Aa,List.cons.injEq,and_true] at hn;subst hn;exact .inl ⟨_,by simp,m,h1⟩
    ·cases hl;simp only [VR] at hv;obtain ⟨pid,m,h1,rfl⟩:=hv;simp only [Pi.Aa,List.cons.injEq,and_true] at hn;subst hn;exact .inl ⟨_,by simp,m,h1⟩
    ·cases hl;simp only [VR] at hv;obtain ⟨pid,m,h1,rfl⟩:=hv;simp only [Pi.Aa,List.cons.injEq,and_true] at hn;subst hn;exact .inl ⟨_,by simp,m,h1⟩
    ·cases hl;simp only [VR] at hv;obtain ⟨pid,m,h1,rfl⟩:=hv;simp only [Pi.Aa,List.cons.injEq,and_true] at hn;subst hn;exact .inl ⟨_,by simp,m,h1⟩
    ·cases hl;simp only [VR] at hv;rcases hv with ⟨rfl,_⟩ | ⟨_,_,rfl,_⟩ | ⟨pid,off,len,es,ex,fz,rfl,_,h2,h3,_⟩
     ·simp [Pi.Aa] at hn
     ·simp [Pi.Aa] at hn
     ·simp only [Pi.Aa,List.cons.injEq,and_true] at hn;subst hn;exact .inr ⟨rfl,h2,es,ex,fz,h3⟩
    ·cases hl;simp only [VR] at hv;rcases hv with ⟨_,rfl,_⟩ | ⟨pid,i,off,es,ex,fz,e,rfl,h2,h3,_⟩
     ·simp [Pi.Aa] at hn
     ·simp only [Pi.Aa,List.cons.injEq,and_true] at hn;subst hn;exact .inr ⟨rfl,h2,es,ex,fz,h3⟩
    ·rename_i n1 n2 n3 n4 n5 n6 n7;exfalso;cases v with
     | ow id=>exact n1 _ rfl
     | own id off len=>exact n2 _ _ _ rfl
     | ptr id off=>exact n3 _ _ rfl
     | ept id i off=>exact n4 _ _ _ rfl
     | mp id=>exact n5 _ rfl
     | lf f g c l=>exact n6 _ _ _ _ rfl
     | view cs=>exact n7 _ rfl
     | pl g c l=>simp only [VR] at hv;rcases hv with ⟨rfl,_⟩ | ⟨_,_,rfl,_⟩<;>simp [Pi.Aa] at hn
     | pv cs=>simp only [VR] at hv;obtain ⟨_,rfl,_⟩:=hv;simp [Pi.Aa] at hn
     | exl f es=>simp only [VR] at hv;obtain ⟨_,_,rfl,_⟩:=hv;simp [Pi.Aa] at hn
     | agg cs=>simp only [VR] at hv;obtain ⟨_,rfl,_⟩:=hv;simp [Pi.Aa] at hn
     | tup cs=>simp only [VR] at hv;obtain ⟨_,rfl,_⟩:=hv;simp [Pi.Aa] at hn
     | fn f a b=>simp only [VR] at hv;obtain ⟨_,_,rfl,_⟩:=hv;simp [Pi.Aa] at hn
     | yl id=>simp only [VR] at hv;obtain ⟨_,_,_,rfl⟩:=hv;simp [Pi.Aa] at hn
     | ifc t v=>simp only [VR] at hv;obtain ⟨_,rfl,_⟩:=hv;simp [Pi.Aa] at hn
     | _=>simp only [VR] at hv;subst hv;simp [Pi.Aa] at hn
  ·exact .inr (hsub q h)
theorem Ky {X:Cx} {h:H} {n0:Nat} (r:RH X h n0) {args:List V} {ps:List PV} (ha:VRL X args ps) {as:List PV} {lP:List Nat} (hp:B9 X.h ps=some (as,lP)) (own:Nat):YU X own (Dv h args) (own::lP):=by
 intro l hl q hq;rcases List.mem_cons.1 hq with hq | hq
 ·exact .inl hq
 ·rw [Ma] at hp;exact .inr (VN (fun {v p l} hv e {q ids} hp i hi=>VO r hv e hp i hi) ha hl hp q hq)
theorem PM {h h1:Hp} {j q:Nat} {b b0:Blk} (hj:h.get j=some b0) (hq:h.get q=none) {r:Pi.R} (e:(h.set j b).map Pi.R.skip=some r) (hr:r = .skip h1):h1.get q=none:=by
 subst hr;obtain ⟨h2,e2,e3⟩:=Pi.AQ e;cases e3;rw [(Hp.get_set e2).1,if_neg (λhh=>by rw [hh,hj] at hq;cases hq)];exact hq
theorem VQ {h h1:Hp} {ty:TypeId} {p v:PV} {q:Nat} (hq:h.get q=none) (e:Pi.Dq P h ty p v=some (.skip h1)):h1.get q=none:=by
 unfold Pi.Dq at e;split at e
 ·replace e:=C9 e;obtain ⟨_,e⟩:=e;split at e
  ·split at e
   ·rename_i hg;replace e:=A9 e;exact PM hg hq e.2 rfl
   ·cases e
  ·split at e
   ·rename_i hg;split at e
    ·replace e:=A9 e;obtain ⟨_,e⟩:=e;split at e
     ·exact PM hg hq e rfl
     ·split at e
      ·replace e:=A9 e;obtain ⟨_,e⟩:=e;split at e
       ·cases e
       ·cases e
       ·exact PM hg hq e rfl
      ·cases e
    ·cases e
   ·cases e
  ·cases e
 ·cases e
theorem YW {t:T PV} {h h1:Hp} {id q:Nat} {o:Oper} (hc:A8 o.op=3) (hq:h.get q=none) (e:Pi.A5 P t h id o=some (.skip h1)):h1.get q=none:=by
 unfold Pi.A5 at e;generalize o.op=op at hc e;cases op with
 | store ty a x =>
  simp only [Pi.e2] at e;split at e
  ·exact VQ hq e
  ·cases e
 | slice _ _ _ _ mx=>cases mx<;>simp [A8] at hc
 | makeMap _ r=>cases r<;>simp [A8] at hc
 | call c =>
  simp only [A8] at hc;split at hc
  ·split at hc<;>cases hc
  ·cases hc
 | _=>simp [A8] at hc
theorem i7 {β:Type} {x:β} {X:Cx} {t:T V} {tP:T PV} (ht:TR X t tP) {nt:Nat} (hnt:nt<1048575) {dst:Option Nat} {v:V} {p:PV} (hv:VR X v p) {K:T V->Option β} (e:OJ t nt dst v K=some x) :
  ∃ t' tP',K t'=some x/\TR X t' tP'/\(∀ d,dst=some d->Nat.blt d nt=true/\tP'=T.put 20 tP d p)/\(dst=none->tP'=tP):=by
 unfold OJ at e;split at e
 ·rename_i d;replace e:=A9 e;obtain ⟨hd,e⟩:=e;have hd':d<nt:=by simpa using hd
  exact ⟨_,_,e,ht.put (d:=d) (by omega) hv,λd' hd2=>(by cases hd2;exact ⟨hd,rfl⟩),λh=>(by cases h)⟩
 ·exact ⟨_,_,e,ht,λd hd=>(by cases hd),λ_=>rfl⟩
theorem DX.flat {hh:Hp} {Q Q':Nat->Prop} : ∀ {c:Ty} {y:c.den} {ps:List PV},c.hasSl=false->DX hh Q Q' c y ps->Pi.DU ps=true
 | .int _,_,_,_,e=>by subst e;rfl
 | .bool,_,_,_,e=>by subst e;rfl
 | .str,_,_,_,e=>by subst e;rfl
 | .unit,_,_,_,e=>by subst e;rfl
 | .pair a b,_,_,hs,⟨p,q,e,h1,h2⟩=>by
  subst e;simp only [Ty.hasSl,Bool.or_eq_false_iff] at hs;have f1:=DX.flat hs.1 h1;have f2:=DX.flat hs.2 h2;clear h1 h2
  induction p with
  | nil=>exact f2
  | cons a p ih =>
   simp only [Pi.DU,Bool.and_eq_true] at f1;simp only [List.cons_append,Pi.DU,f1.1,Bool.true_and];exact ih f1.2
 | .sl _ _,_,_,hs,_=>by cases hs
theorem Tc {hR:Hp} {l:List (Bool×Ty)} {y:AG l} {r:PV} (hs:FV l=false) (h:OK hR l y r) : ∀ j a b,r ≠ .own j a b:=by
 intro j a b hr;subst hr
 match l,y,h with
 | [],y,⟨rs,h1,_⟩=>cases h1
 | [p],y,h =>
  have hs':p.2.hasSl=false:=by simpa [FV] using hs
  have h':EP p.1 (DX hR (λ_=>True) (λ_=>True) p.2) y (.own j a b):=h;cases hp:p.1 with
  | true=>rw [hp] at h';obtain ⟨cs,h1,_⟩:=h';cases h1
  | false =>
   rw [hp] at h';have:=DX.flat hs' (show DX hR _ _ p.2 y [.own j a b] from h');simp [Pi.DU,Pi.flat] at this
 | p::q::rr,y,⟨rs,h1,_⟩=>cases h1
theorem LI {hR:Hp} {l:List (Bool×Ty)} {y:AG l} {r:PV} (hd:HN l=true) (hs:FV l=false) (h:OK hR l y r) : ∃ q,(∀ (id:Nat) (lP:List Nat) (hh:Hp),Pi.CG id lP hh hR r=some (q,hh))/\ir l y q/\Pi.flat q=true:=by
 obtain ⟨q,ids,h1,h2⟩:=XE hd h;have hf:=Qf hs h2;refine ⟨q,λid lP hh => ?_,h2,hf⟩;unfold Pi.CG;have no:=Tc hs h;split
 ·rename_i len qs ex hm;split at hm
  ·exact absurd rfl (no _ _ _)
  ·cases hm
 ·rw [h1];simp only [hf,cond_true]
theorem Mg {tP:T PV} {h h':Hp} {id:Nat} {o:Oper} (hc:GN o.op=true):Pi.A5 P tP h id o=Pi.A5 P tP h' id o:=by
 unfold Pi.A5;generalize o.op=op at hc;cases op with
 | call c =>
  simp only;split
  ·cases hcal:c.callee with
   | builtin b=>simp [GN,hcal] at hc
   | value f=>rfl
   | invoke a b=>rfl
  ·rfl
 | _=>cases hc
theorem SC {X:Cx} {h:H} {n idP:Nat} (r:RH X h n) {o:Oper} {tP:T PV} {f:FuncId} {sg:Sg} (TO:FnOK P tab f sg) (hcs:FV sg.cod=false) {args:List V} {ps:List PV} (hdr:Pi.CI o.op=true) (hco:GN o.op=true) (hev:Pi.A5 P tP X.h idP o=some (.call f ps)) {β:Type} {x:β} {K:V->H->Option β} (ha:VRL X args ps) (e:IP h sg args K=some x) :
  ∃ v q rd,K v h=some x/\VR X v q/\(∀ a∈rd,a=idP\/X.h.get a≠none)/\YU X idP (Dv h args) rd /\ ∃ N,∀ F m,N<=F->N<=m->Pi.CP P (Pi.Eh P (Bm tab) F m) tP X.h idP o=some (q,X.h,rd,[]):=by
 unfold IP at e;replace e:=C9 e;obtain ⟨hd,e⟩:=e;simp only [Bool.or_eq_false_iff,Bool.not_eq_false'] at hd;obtain ⟨hd1,hd2⟩:=hd
 let Q:Nat->Prop:=λpid=>X.Q pid \/ ∃ id∈Hu args,∃ m,X.π id=some (.blk pid m)
 replace e:=Et (Q:=Q) r (λ_ h => .inl h) (λid pid m hi hp => .inr ⟨id,hi,m,hp⟩) ha e;obtain ⟨y,e,hdx⟩:=e;replace e:=Ac e;obtain ⟨h',hfr,e⟩:=e;rw [hcs] at hfr;cases hfr;replace e:=Ku e;obtain ⟨z,hz,e⟩:=e;obtain ⟨as,lP,hpl,hdp,hmet⟩:=Ix (λ_ h => .inl h) hd1 hdx;obtain ⟨rP,up,hR,⟨N,hN⟩,hres⟩:=TO y z hz as hdp;obtain ⟨q,hhb,hq,hfl⟩:=LI hd2 hcs hres
 have hfoot:Pi.CH tP X.h o.op=[]:=by
  generalize o.op=op at hco;cases op with
  | call c =>
   simp only [Pi.CH];cases hcal:c.callee with
   | builtin b=>simp [GN,hcal] at hco
   | _=>rfl
  | _=>cases hco
 refine ⟨_,q,(idP::[])++lP,e,MZ hq,λa ha => ?_,Ky r ha hpl idP,N,λF m hF hm => ?_⟩
 ·simp only [List.cons_append,List.nil_append,List.mem_cons] at ha;rcases ha with ha | ha
  ·exact .inl ha
  ·obtain ⟨_,es,ex,fz,hg⟩:=hmet a ha;exact .inr (by rw [hg];simp)
 ·unfold Pi.CP;have blt:Nat.blt idP (idP+1)=true:=by simp
  simp only [hdr,blt,Bool.not_true,Bool.or_self,cond_false,hfoot];rw [Mg (h':=X.h) hco,hev];simp only [hpl];have hpl2:B9 (X.h.cut (idP::lP)) ps=some (as,lP):=KJ (h:=X.h) (λx hx=>by rw [Pi.IM,if_pos ⟨by simp [hx],by omega⟩]) hpl;unfold Pi.Cl;simp only [cond_false,hpl2];rw [show ({ m:=.lf,nx:=0 }:Hp)=If from rfl,hN F m hF hm];simp only [hhb,Option.map_some,hfl,cond_true]
theorem Qs {X:Cx} {h:H} {n:Nat} (r:RH X h n) : ∀ {dom:List (Bool×Ty)} {args:List V} {ps:List PV} {args2:List V} {js:List Nat},VRL X args ps->J8 h dom args=some (args2,js) ->
  ∃ ps2,VRL X args2 ps2 /\ ∀ as lP2,B9 X.h ps2=some (as,lP2) -> ∃ lP,B9 X.h ps=some (Mb dom as,lP) /\ ∀ i∈lP,i∈lP2 \/ ∃ j∈js,∃ m,X.π j=some (.blk i m)/\X.h.get i≠none
 | [],args,ps,args2,js,hv,e=>by
  unfold J8 at e;cases e;exact ⟨ps,hv,λas lP2 h=>⟨lP2,by unfold Mb;exact h,λi hi => .inl hi⟩⟩
 | p::l,[],ps,args2,js,hv,e=>by
  unfold J8 at e;cases e;refine ⟨ps,hv,λas lP2 h=>⟨lP2,?_,λi hi => .inl hi⟩⟩;rw [hv.nil_inv] at h ⊢;cases h;rfl
 | p::l,v::vs,ps,args2,js,hv,e=>by
  obtain ⟨q,qs,rfl,h1,h2⟩:=hv.cons_inv;unfold J8 at e;split at e
  ·rename_i a ha;obtain ⟨ps2,k1,k2⟩:=Qs r h2 (show J8 h l vs=some (a.1,a.2) from ha);replace e:=FW e;rcases e with ⟨hp,e⟩ | ⟨hp,e⟩
   ·split at e
    ·rename_i j off;split at e
     ·rename_i cs fz lk hg;replace e:=A9 e;obtain ⟨hoff,e⟩:=e;cases e;simp only [VR] at h1;obtain ⟨pid,n',hpi,rfl⟩:=h1;have hB:=r.blk _ _ hg;rw [hpi] at hB;obtain ⟨pid',n'',cP,fz',hb1,hb2,hb3,hb4,hb5⟩:=hB;cases hb1;have hlen:cs.length=cP.length:=hb5.length;refine ⟨.agg (cP.drop off)::ps2,.cons (by simp only [VR];exact ⟨_,rfl,hb5.drop off⟩) k1,λas lP2 hh => ?_⟩;unfold B9 at hh;split at hh
      ·rename_i q' a' qs' b' m1 m2;cases hh;obtain ⟨lP,m3,m4⟩:=k2 _ _ m2;rw [show Pi.BN=11+1 from rfl,JN] at m1;obtain ⟨⟨ys,l'⟩,hm',hr'⟩:=Pi.AQ m1;cases hr';refine ⟨(pid::a')++lP,?_,λi hi => ?_⟩
       ·unfold B9
        have e1:BY X.h Pi.BN (.ptr pid off)=some (.view ys,pid::a'):=by
         rw [show Pi.BN=11+1 from rfl];unfold BY;simp only [hb3];rw [<- hlen,hoff];simp only [cond_true,hm',Option.map_some]
        rw [e1,m3];simp only [Mb,hp,cond_true,U9]
       ·rcases List.mem_append.1 hi with hi | hi
        ·rcases List.mem_cons.1 hi with rfl | hi
         ·exact .inr ⟨j,by simp,_,hpi,by rw [hb3];simp⟩
         ·exact .inl (List.mem_append_left _ hi)
        ·rcases m4 i hi with hi | ⟨j',hj',m,hm⟩
         ·exact .inl (List.mem_append_right _ hi)
         ·exact .inr ⟨j',List.mem_cons_of_mem _ hj',m,hm⟩
      ·cases hh
     ·cases e
    ·cases e
   ·cases e;refine ⟨q::ps2,.cons h1 k1,λas lP2 hh => ?_⟩;unfold B9 at hh;split at hh
    ·rename_i q' a' qs' b' m1 m2;cases hh;obtain ⟨lP,m3,m4⟩:=k2 _ _ m2;refine ⟨a'++lP,?_,λi hi => ?_⟩
     ·unfold B9;rw [m1,m3];simp only [Mb,hp,cond_false]
     ·rcases List.mem_append.1 hi with hi | hi
      ·exact .inl (List.mem_append_left _ hi)
      ·rcases m4 i hi with hi | hi
       ·exact .inl (List.mem_append_right _ hi)
       ·exact .inr hi
    ·cases hh
  ·cases e
theorem bU {X:Cx} {own:Nat} {js:List Nat} {f:Option (List Nat×Bool)} {rd lP:List Nat} (hf:YU X own f rd) (h : ∀ i∈lP,i∈rd \/ ∃ j∈js,∃ m,X.π j=some (.blk i m)/\X.h.get i≠none):YU X own (lZ js f) lP:=by
 intro l hl q hq;obtain ⟨a,ha,rfl⟩:=Pi.AQ hl;rcases h q hq with hq | ⟨j,hj,m,hm,_⟩
 ·rcases hf a ha q hq with h1 | ⟨j,hj,m,hm⟩ | h1
  ·exact .inl h1
  ·exact .inr (.inl ⟨j,List.mem_append_right _ hj,m,hm⟩)
  ·exact .inr (.inr h1)
 ·exact .inr (.inl ⟨j,List.mem_append_left _ hj,m,hm⟩)
theorem Td {X:Cx} {h:H} {n idP:Nat} (r:RH X h n) {o:Oper} {tP:T PV} {f:FuncId} {sg:Sg} (TO:FnP P tab f sg) (hcs:FV sg.cod=false) {args:List V} {ps:List PV} (hdr:Pi.CI o.op=true) (hco:GN o.op=true) (hev:Pi.A5 P tP X.h idP o=some (.call f ps)) {β:Type} {x:β} {K:V->H->Option β} {args2:List V} {js:List Nat} (hde:J8 h sg.dom args=some (args2,js)) (ha:VRL X args ps) (e:IP h sg args2 K=some x) :
  ∃ v q rd,K v h=some x/\VR X v q/\(∀ a∈rd,a=idP\/X.h.get a≠none)/\YU X idP (lZ js (Dv h args2)) rd /\ ∃ N,∀ F m,N<=F->N<=m->Pi.CP P (Pi.Eh P (Bm tab) F m) tP X.h idP o=some (q,X.h,rd,[]):=by
 obtain ⟨ps2,ha2,hder⟩:=Qs r ha hde;unfold IP at e;replace e:=C9 e;obtain ⟨hd,e⟩:=e;simp only [Bool.or_eq_false_iff,Bool.not_eq_false'] at hd;obtain ⟨hd1,hd2⟩:=hd
 let Q:Nat->Prop:=λpid=>X.Q pid \/ ∃ id∈Hu args2,∃ m,X.π id=some (.blk pid m)
 replace e:=Et (Q:=Q) r (λ_ h => .inl h) (λid pid m hi hp => .inr ⟨id,hi,m,hp⟩) ha2 e;obtain ⟨y,e,hdx⟩:=e;replace e:=Ac e;obtain ⟨h',hfr,e⟩:=e;rw [hcs] at hfr;cases hfr;replace e:=Ku e;obtain ⟨z,hz,e⟩:=e;obtain ⟨as,lP2,hpl2',hdp,hmet⟩:=Ix (λ_ h => .inl h) hd1 hdx;obtain ⟨lP,hpl,hin⟩:=hder _ _ hpl2';obtain ⟨rP,up,hR,⟨N,hN⟩,hres⟩:=TO y z hz as hdp;obtain ⟨q,hhb,hq,hfl⟩:=LI hd2 hcs hres
 have hfoot:Pi.CH tP X.h o.op=[]:=by
  generalize o.op=op at hco;cases op with
  | call c =>
   simp only [Pi.CH];cases hcal:c.callee with
   | builtin b=>simp [GN,hcal] at hco
   | _=>rfl
  | _=>cases hco
 refine ⟨_,q,(idP::[])++lP,e,MZ hq,λa ha => ?_,bU (rd:=(idP::[])++lP2) (Ky r ha2 hpl2' idP) (λi hi=>by
   simp only [List.cons_append,List.nil_append,List.mem_cons] at hi ⊢;rcases hi with hi | hi
   ·exact .inl (.inl hi)
   ·exact (hin i hi).imp .inr id),N,λF m hF hm => ?_⟩
 ·simp only [List.cons_append,List.nil_append,List.mem_cons] at ha;rcases ha with ha | ha
  ·exact .inl ha
  ·rcases hin a ha with ha | ⟨_,_,_,_,hg⟩
   ·obtain ⟨_,es,ex,fz,hg⟩:=hmet a ha;exact .inr (by rw [hg];simp)
   ·exact .inr hg
 ·unfold Pi.CP;have blt:Nat.blt idP (idP+1)=true:=by simp
  simp only [hdr,blt,Bool.not_true,Bool.or_self,cond_false,hfoot];rw [Mg (h':=X.h) hco,hev];simp only [hpl];have hpl2:B9 (X.h.cut (idP::lP)) ps=some (Mb sg.dom as,lP):=KJ (h:=X.h) (λx hx=>by rw [Pi.IM,if_pos ⟨by simp [hx],by omega⟩]) hpl;unfold Pi.Cl;simp only [cond_false,hpl2];rw [show ({ m:=.lf,nx:=0 }:Hp)=If from rfl,hN F m hF hm];simp only [hhb,Option.map_some,hfl,cond_true]
theorem KO {X:Cx} {h:H} {n id idP:Nat} (r:RH X h n) (w:Nw X n id idP) {o:Oper} {tP:T PV} {f:FuncId} {args:List V} {ps:List PV} (hdr:Pi.CI o.op=true) (hco:GN o.op=true) (hev:Pi.A5 P tP X.h idP o=some (.call f ps)) {β:Type} {x:β} {K:V->H->Option β} (ha:VRL X args ps) {T:Hp->PV->Prop}
  (e : ∃ v h' q hP' Y as lP rP up hR,K v h'=some x/\B9 X.h ps=some (as,lP)/\PD P tab (.fn f) none as If (.ret rP,up,hR)/\Pi.CG idP lP X.h hR rP=some (q,hP')/\(∀ y∈lP,X.h.get y≠none)/\Lg X h n id idP h' hP' Y/\VR Y v q/\T hP' q) :
  ∃ v q h1 Y h2 rd wr,K v h1=some x/\VR Y v q/\(∃ hP1,Lg X h n id idP h1 hP1 Y/\T hP1 q)/\(∀ a∈wr,a∈rd)/\(∀ a∈rd,a=idP\/X.h.get a≠none)/\YU X idP (Dv h args) rd/\(∀ a,h2.get a=Y.h.get a)/\h2.nx=X.h.nx /\ ∃ N,∀ F m,N<=F->N<=m->Pi.CP P (Pi.Eh P (Bm tab) F m) tP X.h idP o=some (q,h2,rd,wr):=by
 obtain ⟨v,h1,q,hP',Y,as,lP,rP,up,hR,e1,hpl,⟨N,hN⟩,hhb,hmet,hH,hv,hT⟩:=e
 have hfoot:Pi.CH tP X.h o.op=[]:=by
  generalize o.op=op at hco;cases op with
  | call c =>
   simp only [Pi.CH];cases hcal:c.callee with
   | builtin b=>simp [GN,hcal] at hco
   | _=>rfl
  | _=>cases hco
 let hs:=X.h.cut (idP::lP)
 have cutg : ∀ q∈idP::lP,hs.get q=X.h.get q:=λq hq=>by
  show (X.h.cut (idP::lP)).get q=_;rw [Pi.IM,if_pos ⟨hq,by omega⟩]
 have sub:Pi.Jv hs X.h:=λx b hb=>(Pi.Iq hb).2;obtain ⟨h1',hb1⟩:=SA (hs:=hs) (λx hx=>cutg x (List.mem_cons_of_mem _ hx)) (λ_=>by rw [cutg idP (by simp)];exact w.hp) hhb;have hpl2:B9 hs ps=some (as,lP):=KJ (h:=X.h) (λx hx=>cutg x (List.mem_cons_of_mem _ hx)) hpl
 have dc : ∀ {hh h2:Hp} {rec:Pi.Oc},B9 hh ps=some (as,lP)->rec (.fn f) none as { m:=.lf,nx:=0 }=some (.ret rP,up,hR)->Pi.CG idP lP hh hR rP=some (q,h2)->Pi.Cl (λ_=>false) rec idP f ps hh=some (.ret q,h2):=λh1 h2 h3=>by
  unfold Pi.Cl;simp only [cond_false,h1,h2,h3,Option.map_some]
 have c1:=dc (rec:=λ_ _ _ _=>some (.ret rP,up,hR)) hpl2 rfl hb1;have c2:=dc (rec:=λ_ _ _ _=>some (.ret rP,up,hR)) hpl rfl hhb;obtain ⟨⟨h3,k1,lay⟩,kf,_⟩:=Pi.Om sub (λ_=>w.hp) c1;rw [c2] at k1;cases k1;obtain ⟨_,kf2,_⟩:=Pi.Om (hs:=X.h) (h:=X.h) (λ_ _ h=>h) (λh=>h) c2;have hy:=hH.1;cases hfl:Pi.flat q with
 | true =>
  have e0:=kf2 hfl;refine ⟨v,q,h1,Y,X.h,idP::lP,[],e1,hv,⟨hP',hH,hT⟩,λ_ h=>(by cases h),λa ha => ?_,Ky r ha hpl idP,λa=>(by rw [hy,e0]),rfl,N,λF m hF hm => ?_⟩
  ·rcases List.mem_cons.1 ha with ha | ha
   ·exact .inl ha
   ·exact .inr (hmet a ha)
  ·unfold Pi.CP;have blt:Nat.blt idP (idP+1)=true:=by simp
   simp only [hdr,blt,Bool.not_true,Bool.or_self,cond_false,hfoot];rw [Mg (h':=X.h) hco,hev];simp only [hpl];have:=dc (rec:=Pi.Eh P (Bm tab) F m) hpl2 (hN F m hF hm) hb1;rw [show X.h.cut (idP::lP)=hs from rfl,this];simp only [hfl,cond_true];rfl
 | false =>
  obtain ⟨h2,e2,n2⟩:=OW h1' (idP::lP) X.h
  have g2 : ∀ a,h2.get a=hP'.get a:=λa=>by
   rw [Pi.HL e2 a,lay.get a];by_cases hm:a∈idP::lP
   ·rw [if_pos hm]
    all_goals (cases h1'.get a<;>rfl)
   ·rw [if_neg hm];cases hg:h1'.get a with
    | none=>rfl
    | some b =>
     rcases lay.keys a b hg with ⟨b0,hb⟩ | hb
     ·exact absurd (Pi.Iq hb).1 hm
     ·exact absurd (by simp [hb]) hm
  refine ⟨v,q,h1,Y,h2,idP::lP,Pi.Co X.h (idP::lP),e1,hv,⟨hP',hH,hT⟩,λa ha=>Bt ha,λa ha => ?_,Ky r ha hpl idP,λa=>by rw [hy,g2],n2,N,λF m hF hm => ?_⟩
  ·rcases List.mem_cons.1 ha with ha | ha
   ·exact .inl ha
   ·exact .inr (hmet a ha)
  ·unfold Pi.CP;have blt:Nat.blt idP (idP+1)=true:=by simp
   simp only [hdr,blt,Bool.not_true,Bool.or_self,cond_false,hfoot];rw [Mg (h':=X.h) hco,hev];simp only [hpl];have:=dc (rec:=Pi.Eh P (Bm tab) F m) hpl2 (hN F m hF hm) hb1;rw [show X.h.cut (idP::lP)=hs from rfl,this];simp only [hfl,cond_false,e2,Option.map_some];rfl
theorem Te (TO:TabOK P tab) {base baseP b bP nt nx:Nat} (hb:b<=base) (hbP:bP<=baseP) (hnt:nt<1048575) (hn:nx<=1048575) {all:List Oper} (hall : ∀ o∈all,∀ d,o.dst=some d->d<nt) {β:Type} {x:β} {len:Nat} :
  ∀ {ops:List Oper} {i:Nat} {ms:List Pi.Mk} {pa:List (Nat×Nat×Option (List Nat×Bool))} {pp:List (Nat×List Nat×List Nat)} {t:T V} {h:H} {K:T V->H->Option β} {X:Cx} {tP:T PV},Dw P tab base nt all i ops ms pa t h K=some x->RH X h nx->TR X t tP->IR X base baseP i ops.length->base+i+ops.length<=nx->baseP+i+ops.length<=X.h.nx->len=i+ops.length->L2 (PastE X baseP i len) pa pp ->
   ∃ t' h' Y tP',K t' h'=some x/\(∃ N,∀ F n,N<=F->N<=n->Pi.BZ P (Pi.Eh P (Bm tab) F n) baseP nt all i ops ms pp tP X.h=some (tP',Y.h))/\RH Y h' nx/\Ext b bP X h Y h'/\TR Y t' tP':=by
 intro ops
 induction ops with
 | nil =>
  intro i ms pa pp t h K X tP e r ht _ _ _ _ _;cases ms<;>exact ⟨t,h,X,tP,e,⟨0,λ_ _ _ _=>rfl⟩,r,Ext.refl _ _ _ _,ht⟩
 | cons o ops ih =>
  intro i ms pa pp t h K X tP e r ht hfr hlen hlenP hl hpast;cases ms with
  | nil=>cases e
  | cons m ms =>
   simp only [List.length_cons] at hlen hlenP hfr hl;have hfr0:=hfr i (Nat.le_refl _) (by omega);have w:Nw X nx (base+i) (baseP+i):=⟨hfr0.1,by omega,hn,hfr0.2,by omega⟩;unfold Dw at e;obtain ⟨t1,ht1,hcase⟩:=Qg (nt:=nt) ht hnt hall e
   have go : ∀ {v:V} {p:PV} {h1:H} {pa1:List (Nat×Nat×Option (List Nat×Bool))} {pp1:List (Nat×List Nat×List Nat)} {Y:Cx},OJ t1 nt o.dst v (λt=>Dw P tab base nt all (i+1) ops ms pa1 t h1 K)=some x->RH Y h1 nx->TR Y t1 tP->VR Y v p->St X h (base+i) (baseP+i) Y h1->L2 (PastE Y baseP (i+1) len) pa1 pp1 ->
     (∀ {rr:T PV×Hp},(∃ N,∀ F n,N<=F->N<=n->(match o.dst with
      | some d=>bif Nat.blt d nt then Pi.BZ P (Pi.Eh P (Bm tab) F n) baseP nt all (i+1) ops ms pp1 (T.put 20 tP d p) Y.h else none
      | none=>Pi.BZ P (Pi.Eh P (Bm tab) F n) baseP nt all (i+1) ops ms pp1 tP Y.h)=some rr) -> ∃ N,∀ F n,N<=F->N<=n->Pi.BZ P (Pi.Eh P (Bm tab) F n) baseP nt all i (o::ops) (m::ms) pp tP X.h=some rr) ->
     ∃ t' h' Y tP',K t' h'=some x/\(∃ N,∀ F n,N<=F->N<=n->Pi.BZ P (Pi.Eh P (Bm tab) F n) baseP nt all i (o::ops) (m::ms) pp tP X.h=some (tP',Y.h))/\RH Y h' nx/\Ext b bP X h Y h'/\TR Y t' tP':=by
    intro v p h1 pa1 pp1 Y e r1 htY hv s hp1 hP;obtain ⟨t2,tP2,e2,ht2,hd,hnd⟩:=i7 htY hnt hv e
    have hfr1:IR Y base baseP (i+1) ops.length:=λj h1 h2=>by
     obtain ⟨a1,a2⟩:=hfr j (by omega) (by omega);exact ⟨s.pin _ (by omega) a1,s.hpn _ (by omega) a2⟩
    obtain ⟨t',h',Z,tP',k1,⟨N,k2⟩,k3,k4,k5⟩:=ih e2 r1 ht2 hfr1 (by omega) (by rw [s.nx];omega) (by omega) hp1;refine ⟨t',h',Z,tP',k1,hP ⟨N,λF n hF hn => ?_⟩,k3,(s.ext (by omega) (by omega)).trans k4,k5⟩;have:=k2 F n hF hn;cases hdst:o.dst with
    | none=>simp only;rw [<- hnd hdst];exact this
    | some d =>
     obtain ⟨a1,a2⟩:=hd d hdst;simp only [a1,cond_true];rw [<- a2];exact this
   have pnext : ∀ {Y:Cx} {h1:H},St X h (base+i) (baseP+i) Y h1->L2 (PastE Y baseP (i+1) len) pa pp:=λs=>hpast.mono λ_ _ k=>k.next s
   have entry : ∀ {Y:Cx} {h1:H} {c:Nat} {f:Option (List Nat×Bool)} {rd wr:List Nat},St X h (base+i) (baseP+i) Y h1->(∀ w∈wr,w∈rd)->(c<=1->wr=[])->(∀ q∈rd,q=baseP+i\/X.h.get q≠none)->(c=0->rd=[baseP+i]/\Y.h.get (baseP+i)=none)->FpP Y (baseP+i) f rd->L2 (PastE Y baseP (i+1) len) ((i,c,f)::pa) ((i,rd,wr)::pp):=fun {Y h1 c f rd wr} s h1 h2 h3 h4 h5=>by
    refine .cons ⟨rfl,by show i<i+1;omega,h1,h2,λq hq k k1 k2 => ?_,h4,h5⟩ (pnext s);rcases h3 q hq with hh | hh
    ·omega
    ·intro he;obtain ⟨_,a2⟩:=hfr k (by omega) (by omega);rw [he] at hh;exact hh a2
   have quietP : ∀ {Y:Cx} {h1:H} {f:Option (List Nat×Bool)} {rd:List Nat},St X h (base+i) (baseP+i) Y h1->Y.h.get (baseP+i)=none->YU X (baseP+i) f rd->FpP Y (baseP+i) f rd:=λs hn hf l hl q hq=>by
    rcases hf l hl q hq with rfl | h1
    ·exact .inl ⟨rfl,hn⟩
    ·exact .inr (h1.mono s.up)
   have fpUp : ∀ {Y:Cx} {h1:H} {f:Option (List Nat×Bool)} {rd:List Nat},St X h (base+i) (baseP+i) Y h1->YU X (baseP+i) f rd->YU Y (baseP+i) f rd:=λs hf l hl q hq=>(hf l hl q hq).imp id (FpA.mono s.up);rcases hcase with ⟨e,hw⟩ | ⟨e,hw⟩
   ·replace e:=C9 e;obtain ⟨hdr,e⟩:=e;have hdr:Pi.CI o.op=true:=by simpa using hdr
    have ev:=ay r w ht1 e;generalize hop:Pi.A5 P tP X.h (baseP+i) o=op at ev;cases ev with
    | @val v h1 p hP1 Y e ok hv =>
     obtain ⟨y1,y2,y3⟩:=ok;simp only at e;replace e:=A9 e;obtain ⟨hck,e⟩:=e;simp only [Bool.and_eq_true] at hck
     have hc2:A8 o.op<=2\/A8 o.op=4:=by
      rcases Bool.or_eq_true_iff.1 hck.1 with hc | hc
      ·exact .inl (Nat.le_of_ble_eq_true hc)
      ·exact .inr (Nat.eq_of_beq_eq_true hc)
     obtain ⟨hpl,hck1,hck2⟩:=hck.2
     have hsl : ∀ ty x lo hi m,o.op = .slice ty x lo hi (some m) -> ∀ p,Pi.Gt tP x=some p -> ∀ j a b,p ≠ .own j a b:=λty x lo hi m ho p hp j a b hpe=>by
      rw [ho] at hpl;cases x with
      | tmp k =>
       simp only [kP] at hpl;split at hpl
       ·rename_i hk;obtain ⟨p',hp',hvr⟩:=ht1 _ _ hk;simp only [Pi.Gt,hp',Option.getD_some,Option.some.injEq] at hp;subst hp;subst hpe;simp only [VR] at hvr;rcases hvr with ⟨h,_⟩ | ⟨_,_,h,_⟩<;>cases h
       ·rename_i hk;obtain ⟨p',hp',hvr⟩:=ht1 _ _ hk;simp only [Pi.Gt,hp',Option.getD_some,Option.some.injEq] at hp;subst hp;subst hpe;simp only [VR] at hvr;cases hvr
       ·cases hpl
      | _=>simp [kP] at hpl
     obtain ⟨h2,wr,d1,d2,d3,d4,d5⟩:=(PJ hsl hdr hfr0.2 hop).1 p hP1 rfl hc2;have g2 : ∀ q,h2.get q=Y.h.get q:=λq=>by rw [d2,y1]
     have n2:h2.nx=Y.h.nx:=by rw [d3,y3.nx]
     have s2:=y3.with g2 n2
     have hfo:=(Qq hdr).2.2.1
     have hex : ∀ q∈(baseP+i)::Pi.CH tP X.h o.op,q=baseP+i\/X.h.get q≠none:=λq hq=>by
      rcases List.mem_cons.1 hq with hq | hq
      ·exact .inl hq
      ·exact .inr (XO r ht1 (by omega) hdr hck1 q hq)
     have hfp:=ju r ht1 (o:=o.op) (baseP+i);have hheap:=I1 r hfp (rd:=(baseP+i)::Pi.CH tP X.h o.op) (wr:=wr) (len:=len) (by omega) d5 (λhc=>(d4 hc).1) (λhc=>by rw [hfo hc]) hex hpast hck2
     have hq0:A8 o.op<=1->(Y.with h2).h.get (baseP+i)=none:=λhc=>by
      show h2.get _=none;rw [d2,(d4 hc).2];exact hfr0.2
     refine go (p:=p) e (y2.with g2 n2) (ht1.mono s2.up) (hv.mono (Kx g2)) s2 (entry s2 d5 (λhc=>(d4 hc).1) hex (λhc=>⟨by rw [hfo (.inl hc)],hq0 (by omega)⟩) ?_) ?_
     ·cases hcl:Nat.ble (A8 o.op) 1 with
      | true=>exact quietP s2 (hq0 (Nat.le_of_ble_eq_true hcl)) hfp
      | false =>
       have hcl' : ¬ A8 o.op<=1:=λhh=>by rw [show Nat.ble (A8 o.op) 1=true from by simpa using hh] at hcl;cases hcl
       refine Tb (hv.mono (Kx g2)) ?_ (fpUp s2 hfp);rcases i6 hfr0.2 hdr (by omega) hop with hn | hn
       ·exact .inl (by show h2.get _=none;rw [d2];exact hn)
       ·exact .inr hn
     ·rintro rr ⟨N,hN⟩;refine ⟨N,λF n hF hn => ?_⟩;unfold Pi.BZ;simp only [hw,cond_true,d1,hheap];exact hN F n hF hn
    | @skip h1 hP1 Y e ok =>
     obtain ⟨y1,y2,y3⟩:=ok;simp only at e;replace e:=A9 e;obtain ⟨hck,e⟩:=e;simp only [Bool.and_eq_true] at hck;have hc3:A8 o.op=3:=Nat.eq_of_beq_eq_true hck.1;obtain ⟨h2,wr,d1,d2,d3,d5⟩:=(PJ (λty x lo hi m ho=>by rw [ho] at hc3;simp [A8] at hc3) hdr hfr0.2 hop).2 hP1 rfl hc3;have g2 : ∀ q,h2.get q=Y.h.get q:=λq=>by rw [d2,y1]
     have n2:h2.nx=Y.h.nx:=by rw [d3,y3.nx]
     have s2:=y3.with g2 n2
     have hex : ∀ q∈(baseP+i)::Pi.CH tP X.h o.op,q=baseP+i\/X.h.get q≠none:=λq hq=>by
      rcases List.mem_cons.1 hq with hq | hq
      ·exact .inl hq
      ·exact .inr (XO r ht1 (by omega) hdr hck.2.1 q hq)
     have hfp:=ju r ht1 (o:=o.op) (baseP+i);have hheap:=I1 r hfp (c:=3) (rd:=(baseP+i)::Pi.CH tP X.h o.op) (wr:=wr) (len:=len) (by omega) d5 (λhc=>by omega) (λhc=>by omega) hex hpast hck.2.2;refine go (p:=.tup []) e (y2.with g2 n2) (ht1.mono s2.up) (by simp only [VR];exact ⟨[],rfl,.nil⟩) s2 (entry (c:=3) s2 d5 (λhc=>by omega) hex (λhc=>by omega) (quietP s2 (by show h2.get _=none;rw [d2];exact YW hc3 hfr0.2 hop) hfp)) ?_
     rintro rr ⟨N,hN⟩;refine ⟨N,λF n hF hn => ?_⟩;unfold Pi.BZ;simp only [hw,cond_true,d1,hheap];exact hN F n hF hn
    | @call f as ps e ha =>
     simp only at e
     have any : ∀ {v:V} {q:PV} {h1:H} {Y:Cx} {h2:Hp} {rd wr:List Nat} {f':Option (List Nat×Bool)},OJ t1 nt o.dst v (λt=>Dw P tab base nt all (i+1) ops ms ((i,4,f')::pa) t h1 K)=some x->VR Y v q->RH Y h1 nx->St X h (base+i) (baseP+i) Y h1->(∀ a∈wr,a∈rd)->(∀ a∈rd,a=baseP+i\/X.h.get a≠none)->YU X (baseP+i) (Dv h as) rd->FpP (Y.with h2) (baseP+i) f' rd->(∀ a,h2.get a=Y.h.get a)->h2.nx=X.h.nx->Hv h m.bef 4 (Dv h as) pa=true ->
       (∃ N,∀ F m,N<=F->N<=m->Pi.CP P (Pi.Eh P (Bm tab) F m) tP X.h (baseP+i) o=some (q,h2,rd,wr)) ->
       ∃ t' h' Y tP',K t' h'=some x/\(∃ N,∀ F n,N<=F->N<=n->Pi.BZ P (Pi.Eh P (Bm tab) F n) baseP nt all i (o::ops) (m::ms) pp tP X.h=some (tP',Y.h))/\RH Y h' nx/\Ext b bP X h Y h'/\TR Y t' tP':=by
      intro v q h1 Y h2 rd wr f' e1 hv y2 y3 d5 hex hfp hfq g2 n2 hck ⟨N0,hN0⟩;have n2':h2.nx=Y.h.nx:=by rw [n2,y3.nx]
      have s2:=y3.with g2 n2'
      have hheap:=I1 r hfp (c:=4) (rd:=rd) (wr:=wr) (len:=len) (by omega) d5 (λhc=>by omega) (λhc=>by omega) hex hpast hck;refine go (p:=q) e1 (y2.with g2 n2') (ht1.mono s2.up) (hv.mono (Kx g2)) s2 (entry (c:=4) s2 d5 (λhc=>by omega) hex (λhc=>by omega) hfq) ?_
      rintro rr ⟨N,hN⟩;refine ⟨max N0 N,λF n hF hn => ?_⟩;unfold Pi.BZ;simp only [hw,cond_true,hN0 F n (by omega) (by omega),hheap];exact hN F n (by omega) (by omega)
     split at e
     ·rename_i sg hsg;replace e:=C9 e;obtain ⟨hco,e⟩:=e;simp only [Bool.or_eq_false_iff,Bool.not_eq_false'] at hco;obtain ⟨hco,hck⟩:=hco;obtain ⟨v,q,h1,Y,h2,rd,wr,e1,hv,⟨hP1,⟨y1,y2,y3⟩,hT⟩,d5,hex,hfp,g2,n2,hN⟩:=KO r w hdr hco hop ha (OD r w (λdom g' c fn hh=>TO.getR (by rw [hsg,hh])) ha e);have s2:=y3.with g2 (by rw [n2,y3.nx])
      exact any e1 hv y2 y3 d5 hex hfp (Tb (hv.mono (Kx g2)) (hT.imp (λhn=>by show h2.get _=none;rw [g2,y1];exact hn) id) (fpUp s2 hfp)) g2 n2 hck hN
     ·split at e
      ·rename_i sg hsg;replace e:=C9 e;obtain ⟨hco,e⟩:=e;have hco:GN o.op=true:=by simpa using hco
       replace e:=C9 e;obtain ⟨hck,e⟩:=e;have hck:Hv h m.bef 4 (Dv h as) pa=true:=by simpa using hck
       obtain ⟨v,q,h1,Y,h2,rd,wr,e1,hv,⟨hP1,⟨y1,y2,y3⟩,hT⟩,d5,hex,hfp,g2,n2,hN⟩:=KO r w hdr hco hop ha (T:=λhP _=>hP.get (baseP+i)=none) (TP r w (TO.getL hsg) ha e);have s2:=y3.with g2 (by rw [n2,y3.nx])
       exact any e1 hv y2 y3 d5 hex hfp (quietP s2 (by show h2.get _=none;rw [g2,y1];exact hT) hfp) g2 n2 hck hN
      ·split at e
       ·rename_i sg hsg;replace e:=C9 e;obtain ⟨hco,e⟩:=e;have hco:GN o.op=true:=by simpa using hco
        replace e:=FW e;rcases e with ⟨hcs,e⟩ | ⟨hcs,e⟩
        ·replace e:=C9 e;obtain ⟨hck,e⟩:=e;have hck:Hv h m.bef 4 (Dv h as) pa=true:=by simpa using hck
         obtain ⟨v,q,h1,Y,h2,rd,wr,e1,hv,⟨hP1,⟨y1,y2,y3⟩,hT⟩,d5,hex,hfp,g2,n2,hN⟩:=KO r w hdr hco hop ha (OC r w (TO.getD hsg) ha e);have s2:=y3.with g2 (by rw [n2,y3.nx])
         refine any e1 hv y2 y3 d5 hex hfp ?_ g2 n2 hck hN;cases ho:TB sg.cod with
         | true=>exact λ_ h=>by cases h
         | false=>exact quietP s2 (by show h2.get _=none;rw [g2,y1];exact hT ho) hfp
        ·replace e:=C9 e;obtain ⟨hck,e⟩:=e;have hck:Hv h m.bef 1 (Dv h as) pa=true:=by simpa using hck
         obtain ⟨v,q,rd,e1,hv,hex,hfp,N0,hN0⟩:=SC r (TO.getD hsg) hcs hdr hco hop ha e;have hheap:=I1 r hfp (c:=1) (rd:=rd) (wr:=[]) (len:=len) (by omega) (λ_ hw=>by cases hw) (λ_=>rfl) (λhc=>by omega) hex hpast hck;have s2:=St.refl X h (base+i) (baseP+i);refine go (p:=q) e1 r ht1 hv s2 (entry (c:=1) (wr:=[]) s2 (λ_ hw=>by cases hw) (λ_=>rfl) hex (λhc=>by omega) (quietP s2 hfr0.2 hfp)) ?_;rintro rr ⟨N,hN⟩;refine ⟨max N0 N,λF n hF hn => ?_⟩;unfold Pi.BZ;simp only [hw,cond_true,hN0 F n (by omega) (by omega),hheap];exact hN F n (by omega) (by omega)
       ·split at e
        ·rename_i sg hsg;replace e:=C9 e;obtain ⟨hco,e⟩:=e;simp only [Bool.or_eq_false_iff,Bool.not_eq_false'] at hco;obtain ⟨hco,hcs⟩:=hco;replace e:=Ac e;obtain ⟨⟨args2,js⟩,hde,e⟩:=e;replace e:=C9 e;obtain ⟨hck,e⟩:=e;have hck:Hv h m.bef 1 (lZ js (Dv h args2)) pa=true:=by simpa using hck
         obtain ⟨v,q,rd,e1,hv,hex,hfp,N0,hN0⟩:=Td r (TO.getP hsg) hcs hdr hco hop hde ha e;have hheap:=I1 r hfp (c:=1) (rd:=rd) (wr:=[]) (len:=len) (by omega) (λ_ hw=>by cases hw) (λ_=>rfl) (λhc=>by omega) hex hpast hck;have s2:=St.refl X h (base+i) (baseP+i);refine go (p:=q) e1 r ht1 hv s2 (entry (c:=1) (wr:=[]) s2 (λ_ hw=>by cases hw) (λ_=>rfl) hex (λhc=>by omega) (quietP s2 hfr0.2 hfp)) ?_;rintro rr ⟨N,hN⟩;refine ⟨max N0 N,λF n hF hn => ?_⟩;unfold Pi.BZ;simp only [hw,cond_true,hN0 F n (by omega) (by omega),hheap];exact hN F n (by omega) (by omega)
        ·cases e
    | yield e=>cases e
    | pan e=>cases e
    | rcv e=>cases e
    | dfr e=>cases e
   ·have s2:=St.refl X h (base+i) (baseP+i);refine go (p:=.tup []) e r ht1 (by simp only [VR];exact ⟨[],rfl,.nil⟩) s2 (pnext s2) ?_;rintro rr ⟨N,hN⟩;refine ⟨N,λF n hF hn => ?_⟩;unfold Pi.BZ;simp only [hw,cond_false];exact hN F n hF hn
theorem G4 (TO:TabOK P tab):DrawnAOK P tab:=by
 constructor;intro β x nx ops fr h K e X fp r hn F hdst;unfold U1 at e;replace e:=Ac e;obtain ⟨ms,hms,e⟩:=e
 have fresh:IR (X.bump ops.length) nx X.h.nx 0 ops.length:=λj _ _=>⟨by
  cases hp:X.π (nx+j) with
  | none=>exact hp
  | some a=>have:=r.dom _ _ hp;omega,by rw [TS];exact r.fresh _ (by omega)⟩
 have main:=λ(b bP:Nat) (hb:b<=nx) (hbP:bP<=X.h.nx)=>Te TO (nx:=nx+ops.length) hb hbP F.big hn hdst (len:=ops.length) e (r.bump _) (F.t.mono (Md X _)) fresh (by omega) (by show X.h.nx+0+_<=X.h.nx+ops.length;omega) (by omega) (pa:=[]) (pp:=[]) .nil;obtain ⟨t',h',Y,tP',k1,⟨N,k2⟩,k3,k4,k5⟩:=main nx X.h.nx (Nat.le_refl _) (Nat.le_refl _);have ext:=(Me X h ops.length nx X.h.nx).trans k4;have up:=ext.full r (Nat.le_refl _);have hnt:fp.nt=fr.nt:=F.nt;refine ⟨{ fr with t:=t' },h',Y,{ fp with t:=tP' },Y.h,k1,⟨N,λFF n hF hn => ?_⟩,λb bP hb hbP=>⟨rfl,k3,hn,Nat.le_add_right _ _,ext.le hb hbP⟩,⟨k5,F.nt,F.big,F.ds.mono λ_ _ k=>k.mono up,F.up.mono up,F.ro.mono up⟩⟩
 unfold Pi.drawn;rw [hms,hnt];simp only [k2 FF n hF hn]
end
end Go.Proofs.YthpkjfabdccpdaaGreat.Sv
namespace Go.Proofs.YthpkjfabdccpdaaGreat.Sv
open Go.Proofs.YthpkjfabdccpdaaGreat.Pi (PV T Hp Blk DF UM PE Ay BG AS BY B9)
theorem SD (pu:FuncId->Bool) (L:List (FuncId×Sg)):Bm (AD pu L)=λf => !pu f:=by
 funext f
 unfold Bm AD;cases pu f<;>rfl
theorem PD.mk {P:Program} {pu:FuncId->Bool} {L L':List (FuncId×Sg)} {tg:Pi.Tg} {up:Option UM} {args:List PV} {h:Hp} {r:Pi.Out×Option UM×Hp} (e:PD P (AD pu L) tg up args h r):PD P (AD pu L') tg up args h r:=by
 unfold PD at e ⊢;rw [SD] at e ⊢;exact e
theorem i8 (P:Program) (pu:FuncId->Bool):TabOK P (AD pu []):=by
 have : ∀ f sg,AD pu [] f≠some (some sg):=λf sg e=>by
  unfold AD at e;replace e:=FW e;rcases e with ⟨_,e⟩ | ⟨_,e⟩<;>cases e
 exact ⟨λf sg _ e=>absurd e (this _ _),λf dom g c fn _ e=>absurd e (this _ _),λf sg _ e=>absurd e (this _ _),λf sg _ e=>absurd e (this _ _)⟩
theorem FnOK.mk {P:Program} {pu:FuncId->Bool} {L L':List (FuncId×Sg)} {f:FuncId} {sg:Sg} (h:FnOK P (AD pu L) f sg):FnOK P (AD pu L') f sg:=λx y hx as ha=>by
 obtain ⟨r,up,hR,k1,k2⟩:=h x y hx as ha;exact ⟨r,up,hR,k1.mk,k2⟩
theorem RowOK.mk {P:Program} {pu:FuncId->Bool} {L L':List (FuncId×Sg)} {f:FuncId} {dom:List (Bool×Ty)} {g:Bool} {c:Ty} {fn:AG dom->Option (List c.den)} (h:RowOK P (AD pu L) f dom g c fn):RowOK P (AD pu L') f dom g c fn:=λx y hx as ha=>by
 obtain ⟨r,up,hR,k1,k2⟩:=h x y hx as ha;exact ⟨r,up,hR,k1.mk,k2⟩
theorem FnP.mk {P:Program} {pu:FuncId->Bool} {L L':List (FuncId×Sg)} {f:FuncId} {sg:Sg} (h:FnP P (AD pu L) f sg):FnP P (AD pu L') f sg:=λx y hx as ha=>by
 obtain ⟨r,up,hR,k1,k2⟩:=h x y hx as ha;exact ⟨r,up,hR,k1.mk,k2⟩
theorem FnL.mk {P:Program} {pu:FuncId->Bool} {L L':List (FuncId×Sg)} {f:FuncId} {sg:Sg} (h:FnL P (AD pu L) f sg):FnL P (AD pu L') f sg:=λx y hx as ha=>by
 obtain ⟨r,up,hR,k1,k2⟩:=h x y hx as ha;exact ⟨r,up,hR,k1.mk,k2⟩
theorem SE {a b c d:Nat} (ha:Nat.blt a c=true) (hd:c<=d) (h:a=b+d):False:=Nat.not_lt.2 (Nat.le_trans hd (Nat.le_add_left d b)) (h ▸ Hz ha)
theorem Bx {pu:FuncId->Bool} {L:List (FuncId×Sg)} {k f:FuncId} {sg sg':Sg} (e:AD pu ((k,sg)::L) f=some (some sg')):(f=k/\sg'=sg)\/AD pu L f=some (some sg'):=by
 unfold AD at e ⊢;replace e:=FW e;rcases e with ⟨hp,e⟩ | ⟨_,e⟩
 ·simp only [Option.some.injEq] at e;unfold U2 at e;replace e:=FW e;rcases e with ⟨hb,e⟩ | ⟨_,e⟩
  ·cases e;exact .inl ⟨Nat.eq_of_beq_eq_true hb,rfl⟩
  ·exact .inr (by rw [hp];exact congrArg some e)
 ·cases e
theorem OX {P:Program} {pu:FuncId->Bool} {L:List (FuncId×Sg)} (TO:TabOK P (AD pu L)) {k:FuncId} {sg:Sg} (hk:Nat.blt k GM=true) (h:FnOK P (AD pu L) (jq k) sg):TabOK P (AD pu ((k,sg)::L)) where
 std:=λf sg' hf e=>by
  rcases Bx e with ⟨rfl,rfl⟩ | e
  ·exact h.mk
  ·exact (TO.std f sg' hf e).mk
 row:=λf dom g c fn hl e=>by
  rcases Bx e with ⟨rfl,_⟩ | e
  ·exfalso;exact Nat.not_lt.2 (Nat.le_add_left GM f) (Hz hk)
  ·exact (TO.row f dom g c fn hl e).mk
 dat:=λf sg' hf e=>by
  rcases Bx e with ⟨rfl,_⟩ | e
  ·exfalso;exact Nat.not_lt.2 (Nat.le_trans (by decide:GM<=U0) (Nat.le_add_left U0 f)) (Hz hk)
  ·exact (TO.dat f sg' hf e).mk
 ptr:=λf sg' hf e=>by
  rcases Bx e with ⟨rfl,_⟩ | e
  ·exfalso;exact Nat.not_lt.2 (Nat.le_trans (by decide:GM<=Oy) (Nat.le_add_left Oy f)) (Hz hk)
  ·exact (TO.ptr f sg' hf e).mk
theorem i9 {P:Program} {pu:FuncId->Bool} {L:List (FuncId×Sg)} (TO:TabOK P (AD pu L)) {f:FuncId} (hfl:Nat.blt f HO=true) {dom:List (Bool×Ty)} {g:Bool} {c:Ty} {fn:AG dom->Option (List c.den)} (h:RowOK P (AD pu L) f dom g c fn):TabOK P (AD pu ((f+GM,⟨dom,[(false,.sl g c)],fn⟩)::L)) where
 std:=λf' sg' hf e=>by
  rcases Bx e with ⟨rfl,_⟩ | e
  ·exfalso;exact Nat.not_lt.2 (Nat.le_add_left GM f) (Hz hf)
  ·exact (TO.std f' sg' hf e).mk
 row:=λf' dom' g' c' fn' hl e=>by
  rcases Bx e with ⟨h1,h2⟩ | e
  ·have:f'=f:=Nat.add_right_cancel h1;subst this;cases h2;exact h.mk
  ·exact (TO.row _ _ _ _ _ hl e).mk
 dat:=λf' sg' hf e=>by
  rcases Bx e with ⟨h1,_⟩ | e
  ·exfalso
   have h2:f=f'+GM:=by
    have:f'+(GM+GM)=f+GM:=h1;rw [<- Nat.add_assoc] at this;exact (Nat.add_right_cancel this).symm
   exact SE hfl (by decide) h2
  ·exact (TO.dat f' sg' hf e).mk
 ptr:=λf' sg' hf e=>by
  rcases Bx e with ⟨h1,_⟩ | e
  ·exfalso
   have h2:f'+1048576=f:=by
    have:f'+(1048576+GM)=f+GM:=h1;rw [<- Nat.add_assoc] at this;exact Nat.add_right_cancel this
   rw [<- h2] at hfl;exact Nat.not_lt.2 (Nat.le_add_left _ f') (Hz hfl)
  ·exact (TO.ptr f' sg' hf e).mk
theorem jA {P:Program} {pu:FuncId->Bool} {L:List (FuncId×Sg)} (TO:TabOK P (AD pu L)) {ann:Ox} {F n:Nat} {f:FuncId} {dom cod:List (Bool×Ty)} {fn:AG dom->Option (AG cod)} (h : ∀ x,W7 P (AD pu L) ann F n f dom cod x=fn x) (hc:FV cod=false:=by rfl) (hfl:Nat.blt f HO=true:=by rfl):TabOK P (AD pu ((f+Oy,⟨dom,cod,fn⟩)::L)) where
 std:=λf' sg' hf e=>by
  rcases Bx e with ⟨rfl,_⟩ | e
  ·exfalso;exact Nat.not_lt.2 (Nat.le_trans (by decide:GM<=Oy) (Nat.le_add_left Oy f)) (Hz hf)
  ·exact (TO.std f' sg' hf e).mk
 row:=λf' dom' g' c' fn' hl e=>by
  rcases Bx e with ⟨_,h2⟩ | e
  ·cases h2;cases hc
  ·exact (TO.row _ _ _ _ _ hl e).mk
 dat:=λf' sg' hf e=>by
  rcases Bx e with ⟨h1,_⟩ | e
  ·exfalso
   have h2:f=f'+HO:=by
    have:f'+(HO+Oy)=f+Oy:=h1;rw [<- Nat.add_assoc] at this;exact (Nat.add_right_cancel this).symm
   exact SE hfl (by decide) h2
  ·exact (TO.dat f' sg' hf e).mk
 ptr:=λf' sg' hf e=>by
  rcases Bx e with ⟨h1,rfl⟩ | e
  ·have:f'=f:=Nat.add_right_cancel h1;subst this;exact FnP.mk λx y hx as ha=>bG TO (G4 TO) ((h x).trans hx) ha
  ·exact (TO.ptr _ _ hf e).mk
theorem jB {P:Program} {pu:FuncId->Bool} {L:List (FuncId×Sg)} (TO:TabOK P (AD pu L)) {ann:Ox} {F n:Nat} {f:FuncId} {dom:List (Bool×Ty)} {g:Bool} {c:Ty} {fn:AG dom->Option (List c.den)} (h : ∀ x,W6 P (AD pu L) ann F n f dom g c x=fn x) (hfl:Nat.blt f HO=true:=by rfl):TabOK P (AD pu ((f+U0,⟨dom,[(false,.sl g c)],fn⟩)::L)) where
 std:=λf' sg' hf e=>by
  rcases Bx e with ⟨rfl,_⟩ | e
  ·exfalso;exact Nat.not_lt.2 (Nat.le_trans (by decide:GM<=U0) (Nat.le_add_left U0 f)) (Hz hf)
  ·exact (TO.std f' sg' hf e).mk
 row:=λf' dom' g' c' fn' hl e=>by
  rcases Bx e with ⟨h1,_⟩ | e
  ·exfalso
   have h2:f'=f+GM:=by
    have:f'+GM=f+(GM+GM):=h1;rw [<- Nat.add_assoc] at this;exact Nat.add_right_cancel this
   exact SE hl (by decide) h2
  ·exact (TO.row _ _ _ _ _ hl e).mk
 ptr:=λf' sg' hf e=>by
  rcases Bx e with ⟨h1,_⟩ | e
  ·exfalso
   have h2:f'=f+HO:=by
    have:f'+Oy=f+(HO+Oy):=h1;rw [<- Nat.add_assoc] at this;exact Nat.add_right_cancel this
   exact SE hf (by decide) h2
  ·exact (TO.ptr f' sg' hf e).mk
 dat:=λf' sg' hf e=>by
  rcases Bx e with ⟨h1,rfl⟩ | e
  ·have:f'=f:=Nat.add_right_cancel h1;subst this;exact FnL.mk λx y hx as ha=>bF TO (G4 TO) ((h x).trans hx) ha
  ·exact (TO.dat _ _ hf e).mk
theorem AF {P:Program} {pu:FuncId->Bool} {L:List (FuncId×Sg)} (TO:TabOK P (AD pu L)) {ann:Ox} {F n:Nat} {g k:FuncId} {dom cod:List (Bool×Ty)} {fn:AG dom->Option (AG cod)} (h : ∀ x,Ab P (AD pu L) ann F n g dom cod x=fn x) (hk:Nat.blt k GM=true:=by rfl) (hg:jq k=g:=by rfl) :
  TabOK P (AD pu ((k,⟨dom,cod,fn⟩)::L)):=OX TO hk (by rw [hg];exact λx y hx as ha=>OV TO (G4 TO) ((h x).trans hx) ha)
def KP {α β:Type} (body:(α->Option β)->α->Option β):Nat->α->Option β
 | 0=>λ_=>none
 | n+1=>body (KP body n)
theorem jC {P:Program} {pu:FuncId->Bool} {L:List (FuncId×Sg)} (TO:TabOK P (AD pu L)) {ann:Ox} {F n:Nat} {g:FuncId} {dom cod:List (Bool×Ty)} {body:(AG dom->Option (AG cod))->AG dom->Option (AG cod)}
  (h : ∀ r x,Ab P (AD pu ((g,⟨dom,cod,r⟩)::L)) ann F n g dom cod x=body r x) (hk:Nat.blt g GM=true:=by rfl) (hg:jq g=g:=by rfl) : ∀ d,TabOK P (AD pu ((g,⟨dom,cod,KP body d⟩)::L)):=by
 intro d
 induction d with
 | zero=>exact OX TO hk λx y hx=>by cases hx
 | succ d ih =>
  refine OX TO hk ?_;rw [hg];have:FnOK P (AD pu ((g,⟨dom,cod,KP body d⟩)::L)) g ⟨dom,cod,KP body (d+1)⟩:=λx y hx as ha=>OV ih (G4 ih) ((h _ x).trans hx) ha;exact this.mk
end Go.Proofs.YthpkjfabdccpdaaGreat.Sv
namespace Go.Proofs.YthpkjfabdccpdaaGreat.Sv
open Go.Proofs.YthpkjfabdccpdaaGreat.Pi (PV T Hp Blk DF UM PE Rep RepL mu0 CC Sim)
open Go.RowKit
theorem ka {M:CC} {w:World} (hM : ∀ a v,M a=some v->a.spot=none/\w.cell? a=some v):Sim M mu0 If w:=by
 refine ⟨λa v h=>hM a v h,λid b hb => ?_,λid r hr => ?_,λid id' r r' b b' hr => ?_,λid r b a v hb => ?_⟩
 ·rw [show If={ m:=.lf,nx:=0 } from rfl,Pi.Hp.get_lf] at hb;cases hb
 ·simp [mu0] at hr
 ·simp [mu0] at hr
 ·rw [show If={ m:=.lf,nx:=0 } from rfl,Pi.Hp.get_lf] at hb;cases hb
theorem YX {P:Program} {tab:JB} (TO:TabOK P tab) {ann:Ox} {F n:Nat} {f:FuncId} {dom:List (Bool×Ty)} {x:AG dom} (e:Ab P tab ann F n f dom [(false,.bool)] x=some true)
  {as:List PV} (ha:ID dom x as) {M:CC} {w:World} (hM : ∀ a v,M a=some v->a.spot=none/\w.cell? a=some v) {vs:List Value} (hr:RepL M mu0 as vs) :
  Calls P f vs.toArray w λe w'=>e = .returned (.bool true)/\Grown w w':=by
 intro cs;obtain ⟨r,up,hR,⟨N,pd⟩,k⟩:=OV TO (G4 TO) e ha;have R:=Pi.aS (sh:=Bm tab) (λrec R=>Pi.aY (P:=P) (rec:=rec) R) N N;obtain ⟨M',μ',w',fr,s1,g1,st,hfn,x,hx,hl⟩:=R.nrm (pd N N (Nat.le_refl _) (Nat.le_refl _)) (ka hM) hr cs
 have hrb:r = .bool true:=by
  have:[r]=[PV.bool true]:=k;simpa using this
 subst hrb;cases hx;refine ⟨.returned (.bool true),w',fr,⟨rfl,⟨⟨g1.os,g1.output,λi hi => ?_⟩,λa => ?_,g1.size⟩⟩,st,hfn,hl⟩
 ·have hk:w'.heap[i]? = w.heap[i]? := g1.keeps _ hi;rw [hk];cases hx:w.heap[i]? with
  | none=>trivial
  | some o=>cases o<;>first | exact ⟨rfl,rfl,rfl,λ_ _=>rfl⟩ | exact .inr ⟨rfl,rfl⟩ | rfl
 ·by_cases hlt:a.block<w.heap.size
  ·simp only [World.frozen?,g1.keeps _ hlt]
  ·have hn:w.heap[a.block]? = none:=Array.getElem?_eq_none (by omega);simp only [World.frozen?,hn];split
   ·rename_i arr ty lo hi hc;rcases g1.nf _ _ _ _ hc with h0 | ⟨arr0,h0⟩
    ·cases h0;simp
    ·rw [hn] at h0;cases h0
   ·rfl
end Go.Proofs.YthpkjfabdccpdaaGreat.Sv
namespace Go.Proofs.YthpkjfabdccpdaaGreat.Sv
open Go.Proofs.YthpkjfabdccpdaaGreat.Pi (PV T Hp Blk DF UM PE)
theorem jv {P:Program} {tab:JB} {tg:Pi.Tg} {up:Option UM} {args:List PV} {h:Hp} {r:Pi.Out×Option UM×Hp} {F n:Nat} (e:Pi.Eh P (Bm tab) F n tg up args h=some r):PD P tab tg up args h r :=
 ⟨max F n,λF' n' hF hn=>Pi.aa (by omega) (by omega) _ _ _ _ _ e⟩
def nT (P:Program) (sh:FuncId->Bool) (F n:Nat) (g:FuncId):Bool:=match Pi.Eh P sh F n (.fn g) none [] If with
 | some (.ret v,_,_)=>(match v with
  | .bool b=>b
  | _=>false)
 | _=>false
def NV (P:Program) (sh:FuncId->Bool) (F n:Nat) (g:FuncId) (p:PV):Bool:=match Pi.Eh P sh F n (.fn g) none [p] If with
 | some (.ret v,_,_)=>(match v with
  | .nils=>true
  | .lst _ es=>es.isEmpty
  | _=>false)
 | _=>false
theorem YY {P:Program} {sh:FuncId->Bool} {F n:Nat} {g:FuncId} {p:PV} (e:NV P sh F n g p=true) : ∃ v up h,Pi.Eh P sh F n (.fn g) none [p] If=some (.ret v,up,h)/\(v = .nils \/ ∃ f,v = .lst f []):=by
 unfold NV at e;split at e
 ·rename_i v up h hd;refine ⟨v,up,h,hd,?_⟩;split at e
  ·exact .inl rfl
  ·rename_i f es;cases es with
   | nil=>exact .inr ⟨f,rfl⟩
   | cons _ _=>cases e
  ·cases e
 ·cases e
def NW (P:Program) (sh:FuncId->Bool) (F n:Nat) (g:FuncId):Bool:=NV P sh F n g .nils&&(NV P sh F n g (.lst false [])&&NV P sh F n g (.lst true []))
theorem bV {P:Program} {pu:FuncId->Bool} {L:List (FuncId×Sg)} {F0 n0:Nat} {g:FuncId} {gg:Bool} {c:Ty} (h0:NW P (λf => !pu f) F0 n0 g=true) {as:List PV} (ha:ID [(false,.sl gg c)] ([]:List c.den) as) : ∃ v up h,PD P (AD pu L) (.fn g) none as If (.ret v,up,h)/\(v = .nils \/ ∃ f,v = .lst f []):=by
 obtain ⟨p,rfl,hp⟩:=ha;have hp : ∃ q,[p]=[q]/\((q = .nils/\([]:List c.den)=[]) \/ ∃ f es,q = .lst f es/\L2 (EP gg (DP c)) [] es):=hp;obtain ⟨q,hq,hp⟩:=hp;cases hq;unfold NW at h0;simp only [Bool.and_eq_true] at h0
 have fin:NV P (λf => !pu f) F0 n0 g p=true -> ∃ v up h,PD P (AD pu L) (.fn g) none [p] If (.ret v,up,h)/\(v = .nils \/ ∃ f,v = .lst f []):=λe=>by
  obtain ⟨v,up,hR,hd,hv⟩:=YY e;exact ⟨v,up,hR,jv (by rw [SD];exact hd),hv⟩
 rcases hp with ⟨rfl,_⟩ | ⟨fl,es,rfl,hl⟩
 ·exact fin h0.1
 ·have:=hl.nil_inv;subst this;cases fl with
  | false=>exact fin h0.2.1
  | true=>exact fin h0.2.2
theorem PN {P:Program} {pu:FuncId->Bool} {L:List (FuncId×Sg)} (TO:TabOK P (AD pu L)) {ann:Ox} {F n F0 n0:Nat} {g:FuncId} {gg:Bool} {c:Ty} {fn:List c.den->Option (List c.den)}
  (h0:NW P (λf => !pu f) F0 n0 g=true) (hfn:fn []=some []) (h : ∀ a l,Ab P (AD pu L) ann F n g [(false,.sl gg c)] [(false,.sl gg c)] (a::l)=fn (a::l)) (hk:Nat.blt g GM=true:=by rfl) (hg:jq g=g:=by rfl) :
  TabOK P (AD pu ((g,⟨[(false,.sl gg c)],[(false,.sl gg c)],fn⟩)::L)):=OX TO hk (by
 rw [hg]
 have key : ∀ (x y:List c.den) (as:List PV),fn x=some y->ID [(false,.sl gg c)] x as -> ∃ r up hR,PD P (AD pu L) (.fn g) none as If (.ret r,up,hR)/\OK hR [(false,.sl gg c)] y r:=by
  intro x y as hx ha;cases x with
  | cons a l=>exact OV TO (G4 TO) ((h a l).trans hx) ha
  | nil =>
   rw [hfn] at hx;cases hx;obtain ⟨v,up,hR,pd,hv⟩:=bV h0 ha;refine ⟨v,up,hR,pd,?_⟩;show DX hR (λ_=>True) (λ_=>True) (.sl gg c) [] [v];refine ⟨v,rfl,?_⟩;rcases hv with rfl | ⟨f,rfl⟩
   ·exact .inl ⟨rfl,rfl⟩
   ·exact .inr (.inl ⟨f,[],rfl,.nil⟩)
 exact λx y hx as ha=>key x y as hx ha)
def NX (P:Program) (sh:FuncId->Bool) (F n:Nat) (g:FuncId) (p:PV):Bool:=match Pi.Eh P sh F n (.fn g) none [p] If with
 | some (.ret v,_,_)=>(match v with
  | .nils=>true
  | .lst true es=>es.isEmpty
  | _=>false)
 | _=>false
theorem YZ {P:Program} {sh:FuncId->Bool} {F n:Nat} {g:FuncId} {p:PV} (e:NX P sh F n g p=true) : ∃ v up h,Pi.Eh P sh F n (.fn g) none [p] If=some (.ret v,up,h)/\(v = .nils\/v = .lst true []):=by
 unfold NX at e;split at e
 ·rename_i v up h hd;refine ⟨v,up,h,hd,?_⟩;split at e
  ·exact .inl rfl
  ·rename_i es;cases es with
   | nil=>exact .inr rfl
   | cons _ _=>cases e
  ·cases e
 ·cases e
def PO (P:Program) (sh:FuncId->Bool) (F n:Nat) (g:FuncId):Bool:=NX P sh F n g .nils&&(NX P sh F n g (.lst false [])&&NX P sh F n g (.lst true []))
theorem PP {P:Program} {pu:FuncId->Bool} {L:List (FuncId×Sg)} (TO:TabOK P (AD pu L)) {ann:Ox} {F n F0 n0:Nat} {g:FuncId} {gg:Bool} {c:Ty} {fn:List c.den->Option (List c.den)}
  (h0:PO P (λf => !pu f) F0 n0 g=true) (hfn:fn []=some []) (hne : ∀ a l y,fn (a::l)=some y->y≠[]) (h : ∀ a l,QY P (AD pu L) ann F n g [(false,.sl gg c)] gg c (a::l)=fn (a::l)) (hfl:Nat.blt g HO=true:=by rfl) :
  TabOK P (AD pu ((g+GM,⟨[(false,.sl gg c)],[(false,.sl gg c)],fn⟩)::L)):=i9 TO hfl (by
 have key : ∀ (x y:List c.den) (as:List PV),fn x=some y->ID [(false,.sl gg c)] x as -> ∃ r up hR,PD P (AD pu L) (.fn g) none as If (.ret r,up,hR)/\az hR gg c y r:=by
  intro x y as hx ha;cases x with
  | cons a l=>exact bH TO (G4 TO) ((h a l).trans hx) (hne _ _ _ hx) ha
  | nil =>
   rw [hfn] at hx;cases hx;obtain ⟨p,rfl,hp⟩:=ha;have hp : ∃ q,[p]=[q]/\((q = .nils/\([]:List c.den)=[]) \/ ∃ f es,q = .lst f es/\L2 (EP gg (DP c)) [] es):=hp;obtain ⟨q,hq,hp⟩:=hp;cases hq;unfold PO at h0;simp only [Bool.and_eq_true] at h0
   have fin:NX P (λf => !pu f) F0 n0 g p=true -> ∃ r up hR,PD P (AD pu L) (.fn g) none [p] If (.ret r,up,hR)/\az hR gg c [] r:=λe=>by
    obtain ⟨v,up,hR,hd,hv⟩:=YZ e;exact ⟨v,up,hR,jv (by rw [SD];exact hd),.inl ⟨rfl,hv⟩⟩
   rcases hp with ⟨rfl,_⟩ | ⟨fl,es,rfl,hl⟩
   ·exact fin h0.1
   ·have:=hl.nil_inv;subst this;cases fl with
    | false=>exact fin h0.2.1
    | true=>exact fin h0.2.2
 exact λx y hx as ha=>key x y as hx ha)
theorem PQ {α:Type} {a:α} {l y:List α} (h:gd (Aj (AA (a::l)) 1048576) (λ_=>some (a::l))=some y):y≠[]:=by
 unfold gd at h;cases hb:Aj (AA (a::l)) 1048576 with
 | true=>rw [hb] at h;cases h;simp
 | false=>rw [hb] at h;cases h
end Go.Proofs.YthpkjfabdccpdaaGreat.Sv
namespace Go.Proofs.YthpkjfabdccpdaaGreat.Sv
open Go.Proofs.YthpkjfabdccpdaaGreat.Pi (PV Rep RepL mu0 CC)
open Go.RowKit Go.ChangeShapes Go.WideShapes
def OF (w:World):CC:=λa=>if a.spot=none then w.cell? a else none
theorem bW (w:World) : ∀ a v,OF w a=some v->a.spot=none/\w.cell? a=some v:=λa v h=>by
 unfold OF at h;split at h
 ·rename_i hs;exact ⟨hs,h⟩
 ·cases h
def jw:(c:Ty)->c.den->Prop
 | .int k,n=>(Lit.int k n).wf=true
 | .bool,_=>True
 | .str,s=>s.length<=maxLen
 | .unit,_=>True
 | .pair a b,x=>jw a x.1/\jw b x.2
 | .sl _ c,l=>l.length<=maxLen /\ ∀ x∈l,jw c x
def jx:(l:List (Bool×Ty))->AG l->Prop
 | [],_=>True
 | [p],x=>jw p.2 x
 | p::q::r,x=>jw p.2 x.1/\jx (q::r) x.2
def Ub (P:Program):Nat->TypeId->Option (Bool×Ty)
 | 0,_=>none
 | d+1,t=>match P.underlying t with
  | some (.int k)=>some (false,.int k)
  | some .bool=>some (false,.bool)
  | some .string=>some (false,.str)
  | some (.slice e)=>match Ub P d e with
   | some (g,c)=>bif Nat.blt 0 c.wd then some (false,.sl g c) else none
   | none=>none
  | some (.struct fs)=>(ab (Ub P d) fs.toList).map λc=>(true,c)
  | _=>none
theorem XP {P:Program} : ∀ {d:Nat} {t:TypeId} {c:Ty},Ub P d t=some (false,c)->(∃ k,c = .int k)\/c = .bool\/c = .str \/ ∃ g e,c = .sl g e
 | 0,t,c,h=>by cases h
 | d+1,t,c,h=>by
  unfold Ub at h;split at h
  ·cases h;exact .inl ⟨_,rfl⟩
  ·cases h;exact .inr (.inl rfl)
  ·cases h;exact .inr (.inr (.inl rfl))
  ·split at h
   ·replace h:=A9 h;cases h.2;exact .inr (.inr (.inr ⟨_,_,rfl⟩))
   ·cases h
  ·obtain ⟨x,_,hx⟩:=Pi.AQ h;cases hx
  ·cases h
structure Cells (w:World) (c:Ty) (x:c.den) (ps:List PV) (cs:List Value):Prop where
 dp:DP c x ps
 ok:jw c x
 len:ps.length=cs.length
 wd:cs.length=c.wd
 rep : ∀ (i:Nat) p v,ps[i]? = some p->cs[i]? = some v->Rep (OF w) mu0 p v
 one : ∀ v∈cs,v.oneCell'=true
theorem Cells.ep {w:World} {d:Nat} {P:Program} {t:TypeId} {g:Bool} {c:Ty} (hc:Ub P d t=some (g,c)) {x:c.den} {ps:List PV} {cs:List Value} (h:Cells w c x ps cs) : ∃ e,EP g (DP c) x e/\e.cells=ps:=by
 cases g with
 | true=>exact ⟨.agg ps,⟨ps,rfl,h.dp⟩,rfl⟩
 | false =>
  rcases XP hc with ⟨k,rfl⟩ | rfl | rfl | ⟨g,e,rfl⟩
  ·have:=h.dp;exact ⟨.int k x,rfl,this.symm⟩
  ·have:=h.dp;exact ⟨.bool x,rfl,this.symm⟩
  ·have:=h.dp;exact ⟨.str x,rfl,this.symm⟩
  ·obtain ⟨p,hp,hd⟩:=h.dp;refine ⟨p,⟨p,rfl,hd⟩,?_⟩;rw [hp];rcases hd with ⟨rfl,_⟩ | ⟨f,es,rfl,_⟩<;>rfl
section
variable {H:Type} {enc:TypeId×Value->H} {P:Program} {w:World}
theorem XQ {a:Addr} (ha:a.spot=none) (n:Nat):a.add n=⟨a.block,a.off+n,none⟩:=by
 unfold Addr.add;split
 ·rename_i h;subst h;cases a;simp at ha;subst ha;rfl
 ·rfl
theorem Ya {a:Addr} {v:Value} (h:w.cell? a=some v):a.spot=none:=by
 unfold World.cell? at h;split at h
 ·split at h
  ·cases h
  ·rename_i hs;cases hx:a.spot with
   | none=>rfl
   | some _=>rw [hx] at hs;simp at hs
 ·cases h
theorem Lo (K:Kids P (· < P.types.size)) : ∀ (D:Nat) {t:TypeId} {g:Bool} {c:Ty},Ub P D t=some (g,c)->t<P.types.size -> ∀ {fuel:Nat} {cs:List Value} {y:DataW H×List MemPlace},DataW.trod enc P w 0 (λ_=>true) true fuel t cs=some y -> ∃ x ps,Cells w c x ps cs
 | 0,t,g,c,hc,_,_,_,_,_=>by cases hc
 | D+1,t,g,c,hc,ht,fuel,cs,y,h=>by
  unfold Ub at hc;split at hc
  ·rename_i k hu;cases hc;obtain ⟨n,rfl,_,hw⟩:=DataW.trod_int hu h;exact ⟨n,[.int k n],rfl,hw,rfl,rfl,λi p v h1 h2=>by cases i<;>simp at h1 h2;subst h1;subst h2;exact .int _ _ _,λv hv=>by simp at hv;subst hv;rfl⟩
  ·rename_i hu;cases hc;obtain ⟨b,rfl,_⟩:=DataW.trod_bool hu h;exact ⟨b,[.bool b],rfl,trivial,rfl,rfl,λi p v h1 h2=>by cases i<;>simp at h1 h2;subst h1;subst h2;exact .bool _ _,λv hv=>by simp at hv;subst hv;rfl⟩
  ·rename_i hu;cases hc;obtain ⟨s,rfl,_,hs⟩:=DataW.trod_string hu h;exact ⟨s.data.toList,[.str s.data.toList],rfl,(by show s.data.toList.length<=maxLen;simpa using hs),rfl,rfl,λi p v h1 h2=>by cases i<;>simp at h1 h2;subst h1;subst h2;exact .str _ _,λv hv=>by simp at hv;subst hv;rfl⟩
  ·rename_i e hu;split at hc
   ·rename_i ge ce hce;replace hc:=A9 hc;obtain ⟨hwd,hc⟩:=hc;cases hc;have hwd:0<ce.wd:=by simpa using hwd
    have hte:=K.slice ht hu;rcases DataW.trod_slice hu h with ⟨rfl,_⟩ | ⟨a,len,cap,elems,rest,n,_,rfl,_,_,hlc,hcm,hel,hels,_,_⟩
    ·exact ⟨[],[.nils],⟨_,rfl,.inl ⟨rfl,rfl⟩⟩,⟨Nat.zero_le _,λ_ h=>by cases h⟩,rfl,rfl,λi p v h1 h2=>by cases i<;>simp at h1 h2;subst h1;subst h2;exact .nils _,λv hv=>by simp at hv;subst hv;rfl⟩
    ·
     have each : ∀ i,i<len -> ∃ x ps cs,Cells w ce x ps cs/\(∀ (j:Nat),j<cs.length->w.cell? ((a.add (i*P.cellsOf e)).add j)=cs[j]?)/\cs.length=P.cellsOf e:=λi hi=>by
      have h1:=hels i hi;rw [show elems[i]? = some elems[i] by simp [hel,hi]] at h1;cases hcs:w.cells? 0 (a.add (i*P.cellsOf e)) (P.cellsOf e) with
      | none=>rw [hcs] at h1;cases h1
      | some cs =>
       rw [hcs] at h1;obtain ⟨x,ps,hx⟩:=Lo K D hce hte (show DataW.trod enc P w 0 (λ_=>true) true n e cs=some _ from h1);obtain ⟨_,hl,hcell⟩:=World.cells?_some hcs;exact ⟨x,ps,cs,hx,λj hj=>hcell j (by omega),hl⟩
     by_cases h0:len=0
     ·subst h0;exact ⟨[],[.lst false []],⟨_,rfl,.inr ⟨_,_,rfl,.nil⟩⟩,⟨Nat.zero_le _,λ_ h=>by cases h⟩,rfl,rfl,λi p v h1 h2=>by cases i<;>simp at h1 h2;subst h1;subst h2;exact .lst0 _ _ _ _ (λh=>by cases h),λv hv=>by simp at hv;subst hv;rfl⟩
     ·have hspot:a.spot=none:=by
       obtain ⟨x,ps,cs,hx,hcell,hl⟩:=each 0 (by omega);have hlen:=hx.wd;have:=hcell 0 (by omega);rw [show cs[0]? = some cs[0] from by simp] at this;have hs:=Ya this;simpa [Addr.add] using hs
      have all : ∀ m,m<=len -> ∃ (xs:List ce.den) (es:List PV) (vs:List (List Value)),xs.length=m/\es.length=m/\vs.length=m/\L2 (EP ge (DP ce)) xs es/\(∀ x∈xs,jw ce x) /\
        ∀ (i:Nat) e' c',es[i]? = some e'->vs[i]? = some c'->e'.cells.length=c'.length/\c'.length=P.cellsOf e/\(∀ (j:Nat) p v,e'.cells[j]? = some p->c'[j]? = some v->Rep (OF w) mu0 p v/\v.oneCell'=true/\w.cell? ((a.add (i*P.cellsOf e)).add j)=some v):=by
       intro m
       induction m with
       | zero=>exact λ_=>⟨[],[],[],rfl,rfl,rfl,.nil,(λ_ h=>by cases h),λi e' c' h=>by simp at h⟩
       | succ m ih =>
        intro hm;obtain ⟨xs,es,vs,l1,l2,l3,hl,hok,hr⟩:=ih (by omega);obtain ⟨x,ps,cs,hx,hcell,hlc⟩:=each m (by omega);obtain ⟨e1,he1,he2⟩:=hx.ep hce;refine ⟨xs++[x],es++[e1],vs++[cs],by simp [l1],by simp [l2],by simp [l3],hl.append (.cons he1 .nil),λy hy => ?_,λi e' c' h1 h2 => ?_⟩
        ·rcases List.mem_append.1 hy with hy | hy
         ·exact hok y hy
         ·simp at hy;subst hy;exact hx.ok
        ·by_cases hi:i<m
         ·rw [List.getElem?_append_left (by omega)] at h1 h2;exact hr i e' c' h1 h2
         ·have him:i=m:=by
           have:=(List.getElem?_eq_some_iff.1 h1).1;simp [l2] at this;omega
          subst him;rw [List.getElem?_append_right (by omega),l2] at h1;rw [List.getElem?_append_right (by omega),l3] at h2;simp at h1 h2;subst h1;subst h2;refine ⟨by rw [he2,hx.len],hlc,λj p v h1 h2 => ?_⟩;rw [he2] at h1;have hj:=(List.getElem?_eq_some_iff.1 h2).1;exact ⟨hx.rep j p v h1 h2,hx.one v (List.mem_of_getElem? h2),by rw [hcell j hj,h2]⟩
      obtain ⟨xs,es,vs,l1,l2,l3,hl,hok,hr⟩:=all len (Nat.le_refl _)
      have hrow : ∀ (i:Nat) (e':PV),es[i]? = some e' -> ∃ c',vs[i]? = some c':=λi e' h1=>by
       have:=(List.getElem?_eq_some_iff.1 h1).1;exact ⟨vs[i]'(by omega),by simp [show i<vs.length by omega]⟩
      have hcell : ∀ (i:Nat) (e':PV) (j:Nat) (p:PV),es[i]? = some e'->e'.cells[j]? = some p -> ∃ v,((vs.getD i []).getD j .nilIface)=v/\Rep (OF w) mu0 p v/\v.oneCell'=true/\w.cell? ⟨a.block,a.off+i*P.cellsOf e+j,none⟩=some v:=λi e' j p h1 h2=>by
       obtain ⟨c',h3⟩:=hrow i e' h1;obtain ⟨k1,k2,k3⟩:=hr i e' c' h1 h3;have hj:=(List.getElem?_eq_some_iff.1 h2).1;have hv:c'[j]? = some (c'[j]'(by omega)):=by simp [show j<c'.length by omega]
       obtain ⟨q1,q2,q3⟩:=k3 j p _ h2 hv;rw [XQ hspot] at q3;rw [XQ rfl] at q3;exact ⟨_,by simp [List.getD_eq_getElem?_getD,h3,hv],q1,q2,q3⟩
      refine ⟨xs,[.lst false es],⟨_,rfl,.inr ⟨_,_,rfl,hl⟩⟩,⟨by omega,hok⟩,rfl,rfl,λi p v h1 h2 => ?_,λv hv=>by simp at hv;subst hv;rfl⟩;cases i with
      | succ i=>simp at h1
      | zero =>
       simp at h1 h2;subst h1;subst h2;have ea:a=⟨a.block,a.off,none⟩:=by cases a;simp at hspot;subst hspot;rfl
       rw [ea,show len=es.length from l2.symm];refine .lst _ _ es a.block a.off (P.cellsOf e) cap (λi j=>(vs.getD i []).getD j .nilIface) (λh=>by cases h) (by omega) (λi e' h1 => ?_) (λi e' j p h1 h2 => ?_) (λi e' j p h1 h2 => ?_) (λi e' j p h1 h2 => ?_)
       ·obtain ⟨c',h3⟩:=hrow i e' h1;obtain ⟨k1,k2,_⟩:=hr i e' c' h1 h3;omega
       ·obtain ⟨v,e1,_,_,e4⟩:=hcell i e' j p h1 h2;simp only [OF,if_true,e4,e1]
       ·obtain ⟨v,e1,_,e3,_⟩:=hcell i e' j p h1 h2;simp only [e1];exact e3
       ·obtain ⟨v,e1,e2,_,_⟩:=hcell i e' j p h1 h2;simp only [e1];exact e2
   ·cases hc
  ·rename_i fs hu;obtain ⟨c',hgo,hx⟩:=Pi.AQ hc;cases hx;obtain ⟨xs,n,_,_,hlen,hxs,hf⟩:=DataW.trod_struct hu h;obtain ⟨hty,hcells,hoff⟩:=K.struct ht hu
   have go : ∀ (r pre:List Field) (c':Ty),fs.toList=pre++r->ab (Ub P D) r=some c' -> ∃ x ps,Cells w c' x ps ((cs.drop ((pre.map λf=>P.cellsOf f.type).sum)).take ((r.map λf=>P.cellsOf f.type).sum)):=by
    intro r
    induction r with
    | nil =>
     intro pre c' _ hg;cases hg;exact ⟨(),[],rfl,trivial,by simp,by simp [Ty.wd],λi p v h1=>by simp at h1,λv hv=>by simp at hv⟩
    | cons f r ih =>
     intro pre c' hfs hg
     have hfi:fs[pre.length]? = some f:=by
      rw [<- Array.getElem?_toList,hfs];simp
     have hfi':fs.toList[pre.length]? = some f:=by rw [hfs];simp
     have ho:=hoff _ _ hfi';rw [show (fs.toList.take pre.length)=pre by rw [hfs];simp] at ho;have hfe:=hf _ _ hfi
     have hi:pre.length<xs.length:=by
      have:=(Array.getElem?_eq_some_iff.1 hfi).1;omega
     rw [show xs[pre.length]? = some xs[pre.length] by simp [hi],ho] at hfe;have htf:=hty f (by rw [hfs];simp)
     have htot:cs.length=((pre.map λf=>P.cellsOf f.type).sum)+(P.cellsOf f.type+(r.map λf=>P.cellsOf f.type).sum):=by
      rw [hlen,hcells,hfs];simp [List.sum_append]
     have one : ∀ {g:Bool} {c1:Ty},Ub P D f.type=some (g,c1) -> ∃ x ps,Cells w c1 x ps ((cs.drop ((pre.map λf=>P.cellsOf f.type).sum)).take (P.cellsOf f.type)):=λh1=>Lo K D h1 htf hfe;cases r with
     | nil =>
      have hg':(Ub P D f.type).map (·.2)=some c':=hg;obtain ⟨⟨g,c1⟩,h1,h2⟩:=Pi.AQ hg';simp only at h2;subst h2;simpa using one h1
     | cons f2 r =>
      have hg':(match Ub P D f.type,ab (Ub P D) (f2::r) with
       | some (_,c),some r=>some (.pair c r)
       | _,_=>none)=some c':=hg
      split at hg'
      ·rename_i g1 c1 c2 h1 h2;cases hg';obtain ⟨x1,p1,k1⟩:=one h1;obtain ⟨x2,p2,k2⟩:=ih (pre++[f]) c2 (by rw [hfs];simp) h2;rw [show (((pre++[f]).map λf=>P.cellsOf f.type).sum)=((pre.map λf=>P.cellsOf f.type).sum)+P.cellsOf f.type by simp [List.sum_append]] at k2
       have hsplit:(cs.drop ((pre.map λf=>P.cellsOf f.type).sum)).take (((f::f2::r).map λf=>P.cellsOf f.type).sum)=(cs.drop ((pre.map λf=>P.cellsOf f.type).sum)).take (P.cellsOf f.type)++(cs.drop ((pre.map λf=>P.cellsOf f.type).sum+P.cellsOf f.type)).take (((f2::r).map λf=>P.cellsOf f.type).sum):=by
        rw [List.map_cons,List.sum_cons,List.take_add,List.drop_drop]
       rw [hsplit];refine ⟨(x1,x2),p1++p2,⟨p1,p2,rfl,k1.dp,k2.dp⟩,⟨k1.ok,k2.ok⟩,by simp only [List.length_append,k1.len,k2.len],by rw [List.length_append,k1.wd,k2.wd];rfl,λi p v h3 h4 => ?_,λv hv => ?_⟩
       ·by_cases hi:i<p1.length
        ·rw [List.getElem?_append_left hi] at h3;rw [List.getElem?_append_left (by rw [<- k1.len];exact hi)] at h4;exact k1.rep i p v h3 h4
        ·rw [List.getElem?_append_right (by omega)] at h3;rw [List.getElem?_append_right (by rw [<- k1.len];omega),<- k1.len] at h4;exact k2.rep _ p v h3 h4
       ·rcases List.mem_append.1 hv with hv | hv
        ·exact k1.one v hv
        ·exact k2.one v hv
      ·cases hg'
   obtain ⟨x,ps,k⟩:=go fs.toList [] c (by simp) hgo;refine ⟨x,ps,?_⟩
   have:(cs.drop ((([]:List Field).map λf=>P.cellsOf f.type).sum)).take ((fs.toList.map λf=>P.cellsOf f.type).sum)=cs:=by
    rw [<- hcells,<- hlen];simp
   rw [this] at k;exact k
  ·cases hc
def bX (P:Program) (D:Nat):List TypeId->Option (List (Bool×Ty))
 | []=>some []
 | t::ts=>match Ub P D t,bX P D ts with
  | some p,some l=>bif Nat.blt t P.types.size then some (p::l) else none
  | _,_=>none
theorem SF {D:Nat} {t:TypeId} {g:Bool} {c:Ty} (hc:Ub P D t=some (g,c)) {r:Reach} {b0:Nat} {v:Value} (hv:Value.okWide P w r b0 t v):(g=true /\ ∃ cs,v = .agg cs)\/(g=false/\v.cells = #[v]):=by
 cases D with
 | zero=>cases hc
 | succ D =>
  unfold Ub at hc;split at hc
  ·rename_i hu;cases hc;obtain ⟨n,rfl⟩:=okWide_int hu hv;exact .inr ⟨rfl,rfl⟩
  ·rename_i hu;cases hc;obtain ⟨n,rfl⟩:=okWide_bool hu hv;exact .inr ⟨rfl,rfl⟩
  ·rename_i hu;cases hc;obtain ⟨n,rfl⟩:=okWide_string hu hv;exact .inr ⟨rfl,rfl⟩
  ·rename_i hu;split at hc
   ·replace hc:=A9 hc;cases hc.2;obtain ⟨a,len,cap,rfl⟩:=okWide_slice hu hv;exact .inr ⟨rfl,rfl⟩
   ·cases hc
  ·rename_i hu;obtain ⟨x,_,hx⟩:=Pi.AQ hc;cases hx;obtain ⟨cs,rfl,_⟩:=okWide_struct hu hv;exact .inl ⟨rfl,cs,rfl⟩
  ·cases hc
theorem bY (K:Kids P (· < P.types.size)) {D:Nat} {t:TypeId} {g:Bool} {c:Ty} (hc:Ub P D t=some (g,c)) (ht:t<P.types.size) {r:Reach} {b0:Nat} {v:Value} (hv:Value.okWide P w r b0 t v) {d:DataW H} {q:List MemPlace} (h:DataW.Trod enc P w 0 (λ_=>true) true t v d q) :
  ∃ x p,EP g (DP c) x p/\jw c x/\Rep (OF w) mu0 p v:=by
 obtain ⟨fuel,h⟩:=h;obtain ⟨x,ps,k⟩:=Lo K D hc ht h;rcases SF hc hv with ⟨rfl,cs,rfl⟩ | ⟨rfl,hcs⟩
 ·refine ⟨x,.agg ps,⟨ps,rfl,k.dp⟩,k.ok,.agg _ _ _ (by have:=k.len;rw [Array.length_toList] at this;exact this) (λi v hi=>k.one v ?_) λi p v h1 h2=>k.rep i p v h1 ?_⟩
  ·have:cs.toList[i]? = some v:=by simpa using hi
   exact List.mem_of_getElem? this
  ·show cs.toList[i]? = some v;simpa using h2
 ·obtain ⟨e,he,hcell⟩:=k.ep hc;have hl:=k.len;rw [hcs] at hl
  have hps : ∃ p,ps=[p]:=by
   match ps,hl with
   | [p],_=>exact ⟨p,rfl⟩
  obtain ⟨p,rfl⟩:=hps;refine ⟨x,e,he,k.ok,?_⟩
  have hep:e=p:=by
   rcases XP hc with ⟨kk,rfl⟩ | rfl | rfl | ⟨g,ee,rfl⟩
   ·have h1:[e]=[PV.int kk x]:=he;simp at h1;subst h1;simpa [PV.cells] using hcell
   ·have h1:[e]=[PV.bool x]:=he;simp at h1;subst h1;simpa [PV.cells] using hcell
   ·have h1:[e]=[PV.str x]:=he;simp at h1;subst h1;simpa [PV.cells] using hcell
   ·obtain ⟨p',hp',hd⟩:=he;simp at hp';subst hp';rcases hd with ⟨rfl,_⟩ | ⟨f,es,rfl,_⟩<;>simpa [PV.cells] using hcell
  subst hep;exact k.rep 0 e v rfl (by rw [hcs];rfl)
theorem Qt (K:Kids P (· < P.types.size)) {D:Nat} {r:Reach} {b0:Nat} : ∀ {ts:List TypeId} {dom:List (Bool×Ty)},bX P D ts=some dom -> ∀ {vs:List Value} {ds:List (DataW H)} {q:List MemPlace},(∀ (j:Nat) t v,ts[j]? = some t->vs[j]? = some v->Value.okWide P w r b0 t v)->DataW.TrodAll enc P w 0 (λ_=>true) true ts vs ds q ->
  ∃ x as,ID dom x as/\jx dom x/\RepL (OF w) mu0 as vs
 | [],dom,h,vs,ds,q,hv,ht=>by
  cases h;obtain ⟨rfl,_,_⟩:=trodAll_nil ht;exact ⟨(),[],rfl,trivial,.nil _ _⟩
 | t::ts,dom,h,vs,ds,q,hv,ht=>by
  unfold bX at h;split at h
  ·rename_i p l h1 h2;replace h:=A9 h;obtain ⟨hlt,h⟩:=h;cases h;obtain ⟨v,vs',d,ds',p0,q0,rfl,rfl,rfl,k1,k2⟩:=trodAll_cons ht;obtain ⟨x,a,e1,e2,e3⟩:=bY K h1 (by simpa using hlt) (hv 0 t v rfl rfl) k1;obtain ⟨y,as,f1,f2,f3⟩:=Qt K h2 (λj t v h3 h4=>hv (j+1) t v h3 h4) k2;cases l with
   | nil =>
    have:as=[]:=f1;subst this;exact ⟨x,[a],⟨a,rfl,e1⟩,e2,.cons e3 f3⟩
   | cons q r=>exact ⟨(x,y),a::as,⟨a,as,rfl,e1,f1⟩,⟨e2,f2⟩,.cons e3 f3⟩
  ·cases h
theorem Qu (K:Kids P (· < P.types.size)) (hz : ∀ t e,t<P.types.size->P.underlying t=some (.slice e)->0<P.cellsOf e) {w':World} {sp:Nat->Bool} : ∀ {ts:List TypeId} {vs:List Value} {ds:List (DataW H)} {ps:List MemPlace},(∀ t∈ts,t<P.types.size)->DataW.TrodAll enc P w 0 (λ_=>true) true ts vs ds ps->(∀ p∈ps,w.sameAt w' p)->(∀ p∈ps,sp p.block=true)->DataW.TrodAll enc P w' 0 sp true ts vs ds ps
 | [],[],[],_,_,h,_,_=>h
 | _::_,_::_,_::_,_,hT,⟨p,q,⟨n,h1⟩,h2,e⟩,hm,hs=>⟨p,q,⟨n,DataW.trod_stays K (λh1 h2=>hz _ _ h1 h2) (λh=>by cases h) (hT _ (by simp)) h1 (λx hx=>hm x (by rw [e];exact List.mem_append_left _ hx)) (λx hx=>hs x (by rw [e];exact List.mem_append_left _ hx))⟩,
   Qu K hz (λt ht=>hT t (by simp [ht])) h2 (λx hx=>hm x (by rw [e];exact List.mem_append_right _ hx)) (λx hx=>hs x (by rw [e];exact List.mem_append_right _ hx)),e⟩
end
end Go.Proofs.YthpkjfabdccpdaaGreat.Sv
namespace Go.Proofs.YthpkjfabdccpdaaGreat.Sv
section
variable {α β γ:Type}
theorem OL {c:Bool} {p:Prop} [Decidable p] (h:c=true<->p) (x y:Unit->Option β):br c x y=if p then x () else y ():=by
 unfold br;by_cases hp:p
 ·rw [h.2 hp,if_pos hp];rfl
 ·have:c=false:=by cases c with
   | false=>rfl
   | true=>exact absurd (h.1 rfl) hp
  rw [this,if_neg hp];rfl
theorem kc {c:Bool} {p:Prop} [Decidable p] (h:c=true<->p) (k:Unit->Option β):gd c k=if p then k () else none:=OL h k λ_=>none
theorem BD (a b:Int) (x y:Unit->Option β):br (Ae a b) x y=if a<b then x () else y ():=OL (by unfold Ae;simp) x y
theorem XR (a b:Int) (x y:Unit->Option β):br (Pu a b) x y=if a<=b then x () else y ():=OL (by unfold Pu;simp) x y
theorem Av (a b:Int) (x y:Unit->Option β):br (B6 a b) x y=if a>b then x () else y ():=OL (by unfold B6;simp) x y
theorem D0 (a b:Int) (x y:Unit->Option β):br (Hf a b) x y=if a>=b then x () else y ():=OL (by unfold Hf;simp) x y
theorem BI (a b:Int) (x y:Unit->Option β):br (BJ a b) x y=if a=b then x () else y ():=OL (by unfold BJ;simp) x y
theorem AN (a b:Int) (x y:Unit->Option β):br (Ai a b) x y=if a=b then y () else x ():=by
 rw [OL (p:=a≠b) (by unfold Ai;simp)];by_cases h:a=b<;>simp [h]
theorem ke (c:Bool) (x y:Unit->Option β):br (AY c) x y=br c y x:=by unfold br AY;cases c<;>rfl
theorem HP (c:Bool) (x y:Unit->Option β):br c x y=if c=true then x () else y ():=by unfold br;cases c<;>rfl
theorem CS (a b:Nat) (x y:Unit->Option β):br (neq a b) x y=if a=b then x () else y ():=OL (by unfold neq;simp) x y
theorem kg (a b:Nat) (x y:Unit->Option β):br (CD a b) x y=if a<b then x () else y ():=OL (by unfold CD;exact iff_of_eq Nat.blt_eq) x y
theorem AM (x y:Unit->Option β):br true x y=x ():=rfl
theorem AV (x y:Unit->Option β):br false x y=y ():=rfl
theorem AC (x:α) (k:α->Option β):bd (some x) k=k x:=rfl
theorem kh (a b:Nat) (k:Unit->Option β):gd (neq a b) k=if a=b then k () else none:=kc (by unfold neq;simp) k
theorem VS (a b:Nat) (k:Unit->Option β):gd (Aj a b) k=if a<=b then k () else none:=kc (by unfold Aj;simp) k
theorem NY (a b:Nat) (k:Unit->Option β):gd (CD a b) k=if a<b then k () else none:=kc (by unfold CD;exact iff_of_eq Nat.blt_eq) k
theorem XS {n:Int} (h:0<=n) (k:Nat->Option β):AP n k=k n.toNat:=by unfold AP;simp [h]
theorem AI {l:List α} {i:Nat} {x:α} (h:l[i]? = some x) (k:α->Option β):ix l i k=k x:=by unfold ix;rw [h]
theorem CV {a b:Int} (h : -9223372036854775808<=a+b/\a+b<=9223372036854775807):AH .i64 a b=a+b:=IntWalk.i64_in _ h
theorem Bu {a b:Int} (h : -9223372036854775808<=a-b/\a-b<=9223372036854775807):BF .i64 a b=a-b:=IntWalk.i64_in _ h
theorem jD {a b:Int} (h : -9223372036854775808<=a*b/\a*b<=9223372036854775807):NF .i64 a b=a*b:=IntWalk.i64_in _ h
end
end Go.Proofs.YthpkjfabdccpdaaGreat.Sv
