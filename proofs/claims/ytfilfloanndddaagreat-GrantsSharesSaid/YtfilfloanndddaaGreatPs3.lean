/- A part of the evaluator over typed open values for any program, and of the proof that it is sound. No condition. -/
import Derived.Test.YtfilfloanndddaaGreatPs2
import Derived.RowKit3
import Derived.WalkKit
import Derived.ProofKit
import Derived.OpenShut
import Derived.ReadAgain
import Derived.ChangeStays
import Derived.IntWalk
set_option linter.all false
namespace Go.Proofs.YtfilfloanndddaaGreat.Sv
variable [Pi.Gl]
open Go.Proofs.YtfilfloanndddaaGreat.Pi (PV T Hp Blk DF UM PE A5 BM AS Bg CH)
theorem P5 {X:Cx} : ∀ {args:List V} {c:List PV} {i:Nat} {t:T V} {b:T PV},VRL X args c->TR X t b->i+args.length<=1048575->TR X (M7 i args t) (Pi.Eu i c b)
 | [],c,i,t,b,hv,ht,_=>by
  rw [hv.nil_inv];exact ht
 | a::l,c,i,t,b,hv,ht,hb=>by
  obtain ⟨p,g,rfl,f,e⟩:=hv.cons_inv;simp only [List.length_cons] at hb;show TR X (M7 (i+1) l (T.put 20 t i a)) (Pi.Eu (i+1) g (T.put 20 b i p));exact P5 e (ht.put (d:=i) (by omega) f) (by omega)
theorem VRL.len {X:Cx} {vs:List V} {a:List PV} (h:VRL X vs a):a.length=vs.length:=h.length.symm
theorem GZ {X:Cx} {nt:Nat} (h:nt<1048575) : ∀ {l:List Nat} {args:List V} {f:List PV} {t g:T V} {c:T PV},VRL X args f->TR X t c->Jp nt l args t=some g -> ∃ b,Pi.FS nt l f c=some b/\TR X g b
 | [],[],f,t,g,c,hv,ht,e=>by
  rw [hv.nil_inv];cases e;exact ⟨c,rfl,ht⟩
 | p::l,a::args,f,t,g,c,hv,ht,e=>by
  obtain ⟨q,r,rfl,n,j⟩:=hv.cons_inv;unfold Jp at e;replace e:=BD e;obtain ⟨i,e⟩:=e;have k:p<nt:=by simpa using i
  obtain ⟨b,o,m⟩:=GZ h j (ht.put (d:=p) (by omega) n) e;exact ⟨b,by rw [Pi.FS,i];exact o,m⟩
 | [],_::_,_,_,_,_,_,_,e=>by cases e
 | _::_,[],_,_,_,_,_,_,e=>by cases e
section
variable {P:Program} {tab:Jc} {rec:Po}
theorem LF {β:Type} {x:β} {X:Cx} {h:H} {n:Nat} (r:RH X h n) {t:T V} {w:T PV} (d:TR X t w) : ∀ {l:List ResultVar} {K:List V->Option β},RS P h t l K=some x -> ∃ vs b,K vs=some x/\Pi.Qo P X.h w l=some b/\VRL X vs b
 | [],K,e=>⟨[],[],e,rfl,.nil⟩
 | .tmp k::l,K,e=>by
  unfold RS at e;replace e:=AZ e;obtain ⟨v,i,e⟩:=e;obtain ⟨p,u,c⟩:=d _ _ i;obtain ⟨vs,b,e,f,o⟩:=LF r d e;exact ⟨v::vs,p::b,e,by simp [Pi.Qo,Pi.bg,u,f],.cons c o⟩
 | .cell a ty::l,K,e=>by
  unfold RS at e;split at e
  ·rename_i j off i;obtain ⟨p,u,c⟩:=d _ _ i;split at e
   ·rename_i cs fz I D;replace e:=AZ e;obtain ⟨v,s,e⟩:=e;obtain ⟨pid,m,b,G,B,M,F,J,C⟩:=r.blk _ _ D;simp only [VR] at c;obtain ⟨z,L,y,rfl⟩:=c;rw [B] at y;cases y;obtain ⟨q,E,A⟩:=Ed (C.drop off) s;obtain ⟨vs,g,e,f,o⟩:=LF r d e;exact ⟨v::vs,q::g,e,by simp [Pi.Qo,Pi.bg,u,F,E,f],.cons A o⟩
   ·cases e
  ·cases e
theorem L0 {X : Cx} {fn : Func} {tP : T PV} {ps : List PV} (h1 : Pi.Qo P X.h tP fn.results.toList = some ps) : ∀ {vs : List V}, VRL X vs ps -> ∃ pv, Pi.results P fn X.h tP = some pv /\ VR X (match vs with
            | [v] => v
            | vs => .tup vs) pv := by
          intro vs h2;unfold Pi.results;rw [h1]
          match vs, ps, h2 with
          | [], [], _ => exact ⟨.tup [], rfl, by simp only [VR]; exact ⟨[], rfl, .nil⟩⟩
          | [v], [p], h2 => exact ⟨p, rfl, by obtain ⟨_, _, h, h3, _⟩ := h2.cons_inv; cases h; exact h3⟩
          | a :: b :: c, p :: q :: s, h2 => exact ⟨.tup (p :: q :: s), rfl, by simp only [VR]; exact ⟨_, rfl, h2⟩⟩
          | [], _ :: _, h2 => cases h2.nil_inv
          | _ :: _, [], h2 => obtain ⟨_, _, h, _⟩ := h2.cons_inv; cases h
          | [_], _ :: _ :: _, h2 => obtain ⟨_, _, h, _, h3⟩ := h2.cons_inv; cases h; cases h3.nil_inv
          | _ :: _ :: _, [_], h2 => obtain ⟨_, _, h, _, h3⟩ := h2.cons_inv; cases h; obtain ⟨_, _, h, _⟩ := h3.cons_inv; cases h
theorem Nr {X:Cx} {u:UMA} {uP:UM} (h:UMR X (some u) (some uP)):UMR X (some (YC u)) (some (Pi.SC uP)):=by
 cases u with
 | ret =>
  have:some uP=some UM.ret:=h;cases this;exact h
 | pan d =>
  obtain ⟨c,i,e⟩:=h;cases i;cases d with
  | nil=>rw [L2.nil_inv e];exact ⟨[],rfl,.nil⟩
  | cons a d =>
   obtain ⟨⟨j,br⟩,t,rfl,f,g⟩:=L2.cons_inv e;obtain ⟨k,b⟩:=a;have:b=br:=f.2;subst this;cases b with
   | true=>rfl
   | false=>exact ⟨_,rfl,.cons f g⟩
theorem Zb (R:RecAOK P tab rec) {fn:Func} {β:Type} {x:β} : ∀ {n:Nat} {ds:List DFA} {u:UMA} {t:T V} {h:H} {nx:Nat} {K:OutA->H->Nat->Option β},Jq P rec fn β n ds u t h nx K=some x ->
  ∀ {X:Cx} {b bP:Nat} {G:List DF} {uP:UM} {tP:T PV},RH X h nx->nx<=1048575->L2 (DFR X) ds G->UMR X (some u) (some uP)->TR X t tP->b<=nx->bP<=X.h.nx ->
   ∃ o h' w Y A s,K o h' w=some x/\(∃ N,∀ m F k,N<=m->N<=F->N<=k->Pi.leave P (Pi.GA P (Bt tab) F k) fn m G uP tP X.h=some (A,s))/\BI b bP X h nx Y h' w s/\WG Y o A:=by
 intro n
 induction n with
 | zero=>intro ds u t h nx K e;cases e
 | succ n ih =>
  intro ds u t h nx K e X b bP G uP tP r O C hu ht M y;unfold Jq at e;split at e
  ·have:=L2.nil_inv C;subst this;split at e
   ·have:some uP=some UM.ret:=hu;cases this;replace e:=LF r ht e;obtain ⟨vs,ps,e,B,D⟩:=e;obtain ⟨pv,L,k2⟩:=L0 B D;refine ⟨_,h,nx,X,.ret pv,X.h,e,⟨1,λm F k hm _ _ => ?_⟩,⟨rfl,r,O,Nat.le_refl _,Ext.refl _ _ _ _⟩,⟨pv,rfl,k2⟩⟩;obtain ⟨m,rfl⟩ : ∃ z,m=z+1:=⟨m-1,by omega⟩;unfold Pi.leave;rw [L]
   ·obtain ⟨c,B,D⟩:=hu;cases B;refine ⟨_,h,nx,X,.pan c,X.h,e,⟨1,λm F k hm _ _ => ?_⟩,⟨rfl,r,O,Nat.le_refl _,Ext.refl _ _ _ _⟩,⟨c,rfl,D⟩⟩;obtain ⟨m,rfl⟩ : ∃ z,m=z+1:=⟨m-1,by omega⟩;rfl
  ·rename_i id ds';obtain ⟨dP,E,rfl,B,D⟩:=L2.cons_inv C;obtain ⟨pid,m0,L,rfl⟩:=B;split at e
   ·rename_i l hg;obtain ⟨pid',z,q,b1,b2,b3,b4⟩:=r.blk _ _ hg;rw [L] at b1;cases b1;cases q with
    | none=>exact b4.elim
    | some lP =>
     simp only at b4;obtain ⟨hq,e1⟩:=Do X.h pid (.df none);obtain ⟨Y,y1,y2,y3,y4,y5⟩:=r.set (b':=.df none) (by have:=r.dom _ _ L;omega) hg trivial rfl L b3 (λ_ _ _ _ _ _ _ _=>by simp) e1 (λY z1 z2 S u=>⟨pid,m0,none,L,by rw [S];exact b2,by rw [z2,(Hp.get_set e1).1,if_pos rfl],trivial⟩) X.h.nx;have u:=(y5 nx).up;obtain ⟨o,h',w,Z,A,s,c1,⟨N,W⟩,i,c4⟩:=ih e (b:=b) (bP:=bP) y4 O ((b4.append D).mono λ_ _ k=>k.mono u) (hu.mono u) (ht.mono u) M (by rw [y2,(Hp.get_set e1).2];exact y);refine ⟨o,h',w,Z,A,s,c1,⟨N+1,λm F k hm hF hk => ?_⟩,⟨i.hp,i.rh,i.big,i.le,((y5 nx).ext M y).trans i.ext⟩,c4⟩;obtain ⟨m,rfl⟩ : ∃ z,m=z+1:=⟨m-1,by omega⟩;rw [Pi.leave];simp only [b3,e1];rw [<- y2];exact W m F k (by omega) (by omega) (by omega)
   ·cases e
  ·rename_i b0 ats ty0 args ds';obtain ⟨dP,E,rfl,B,D⟩:=L2.cons_inv C;obtain ⟨ps,rfl,h3⟩:=B;split at e
   ·rename_i j ty hty;obtain ⟨p,qs,rfl,h4,h5⟩:=h3.cons_inv;have:=h5.nil_inv;subst this;split at e
    ·rename_i kt et kk g c l hu1 hg;simp only [VR] at h4;obtain ⟨pid,m,hpi,rfl⟩:=h4;have hbr:=r.blk _ _ hg;rw [hpi] at hbr;obtain ⟨_,_,es,k2,k3,k4,k6⟩:=hbr;cases k2;obtain ⟨hP1,Y,e1,y1⟩:=r.mapSet O hg hpi k4 (l':=[]) (es':=[]) .nil;obtain ⟨z1,z2,S⟩:=y1 nx X.h.nx;have u:=S.up;obtain ⟨o,h',w,Z,A,s,c1,⟨N,W⟩,i,c4⟩:=ih e (b:=b) (bP:=bP) z2 O (D.mono λ_ _ k=>k.mono u) (hu.mono u) (ht.mono u) M (by rw [S.nx];exact y);refine ⟨o,h',w,Z,A,s,c1,⟨N+1,λm F k hm hF hk => ?_⟩,⟨i.hp,i.rh,i.big,i.le,(S.ext M y).trans i.ext⟩,c4⟩;obtain ⟨m,rfl⟩ : ∃ z,m=z+1:=⟨m-1,by omega⟩;rw [Pi.leave];simp only [Pi.Al,hty,hu1,k4,e1,Option.map_some];rw [<- z1];exact W m F k (by omega) (by omega) (by omega)
    ·cases e
   ·cases e
  ·rename_i f args ds';obtain ⟨dP,E,rfl,B,D⟩:=L2.cons_inv C;obtain ⟨fP,ps,rfl,h3,h4⟩:=B;split at e
   ·rename_i g a b';simp only [VR] at h3;obtain ⟨aP,bP',rfl,h5,h6⟩:=h3;obtain ⟨g',as,qs,e1,hinv,I⟩:=Jt h5 h6 h4 e;obtain ⟨o',up',h',w,Y,A,upP',s,e2,⟨N1,hN1⟩,d,ho,J⟩:=R.fn e1 r O I hu;have U:=d.ext.full r (Nat.le_refl _);split at e2
    ·rename_i v u';obtain ⟨vP,rfl,hv⟩:=ho;cases upP' with
     | none=>cases u' with
      | ret=>cases J
      | pan=>obtain ⟨_,h,_⟩:=J;cases h
     | some uP' =>
      obtain ⟨o,h'',nx'',Z,A,hP'',c1,⟨N,W⟩,i,c4⟩:=ih e2 (b:=b) (bP:=bP) d.rh d.big (D.mono λ_ _ k=>k.mono U) (Nr J) (ht.mono U) (Nat.le_trans M d.le) (Nat.le_trans y d.ext.nx);refine ⟨o,h'',nx'',Z,A,hP'',c1,⟨max N N1+1,λm F k hm hF hk => ?_⟩,⟨i.hp,i.rh,i.big,Nat.le_trans d.le i.le,(d.ext.le M y).trans i.ext⟩,c4⟩;obtain ⟨m,rfl⟩ : ∃ z,m=z+1:=⟨m-1,by omega⟩;rw [Pi.leave];simp only [hinv,hN1 F k (by omega) (by omega)];rw [<- d.hp];exact W m F k (by omega) (by omega) (by omega)
    ·cases e2
   ·cases e
theorem TR.lf (X:Cx):TR X .lf .lf:=λk v e=>by cases e
theorem KU {β:Type} {x:β} {X:Cx} {h:H} {nx l lP m b bP:Nat} {a:Option Code} {K:OutA->Option UMA->H->Nat->Option β} (r:RH X h nx) (B:nx<=1048575) (D:X.π l=some (.blk lP m)) (e:HI h nx l a K=some x) :
  ∃ o n h' Y s c i,K o n h' nx=some x/\Pi.DB X.h lP a=some (s,c,i)/\BI b bP X h nx Y h' nx i/\WG Y o s/\UMR Y n c:=by
 unfold HI at e;split at e
 ·rename_i N S nt t w q k d C;have y:=r.blk _ _ C;obtain ⟨pid,L,A,u,U,z,k2,E,M,J,k6⟩:=y;rw [D] at z;cases z
  have f : ∀ p:Nat,K (.ret (.bool a.isNone)) none (Ai h l (.lp p a nt t w q k d)) nx=some x->(∀ g,X.h.set lP (.lp p a nt A w q k u)=some g->Pi.DB X.h lP a=some (.ret (.bool a.isNone),none,g)) ->
    ∃ o n h' Y s c i,K o n h' nx=some x/\Pi.DB X.h lP a=some (s,c,i)/\BI b bP X h nx Y h' nx i/\WG Y o s/\UMR Y n c:=λp e1 e2=>by
   obtain ⟨g,es⟩:=Do X.h lP (.lp p a nt A w q k u);obtain ⟨Z,P,F,O,W,G,I⟩:=r.setLp B C D E es b bP;exact ⟨_,_,_,Z,.ret (.bool a.isNone),none,g,e1,e2 _ es,⟨F,G,B,Nat.le_refl _,I⟩,⟨_,rfl,by simp [VR]⟩,rfl⟩
  unfold Pi.DB at f ⊢;simp only [E] at f ⊢;cases a with
  | none=>exact f 0 e λg es=>by rw [es]
  | some j=>exact f 2 e λg es=>by rw [es]
 ·cases e
theorem P6 (T:TabOK P tab) (D:DrawnAOK P tab) {ann:Pm} {F0:Nat} : ∀ n,RecAOK P tab (YD P tab ann F0 n)
 | 0=>⟨λe=>(by cases e),λe=>(by cases e)⟩
 | n+1=>by
  have R:=P6 T D (ann:=ann) (F0:=F0) n;constructor
  ·intro β x f up args h nx K e X upP G r hn ha hu;simp only [YD] at e;split at e
   ·cases e
   rename_i hpr;replace e:=AZ e;obtain ⟨O,hf,e⟩:=e;replace e:=AZ e;obtain ⟨c,hc,e⟩:=e;replace e:=BD e;obtain ⟨hb,e⟩:=e;have hb2:=hb;simp only [Bool.and_eq_true] at hb2;have hlen:args.length<=O.ntmps:=Nat.le_of_ble_eq_true hb2.1;have hnt:O.ntmps<1048575:=by simpa using hb2.2
   have hlP:G.length=args.length:=VRL.len ha;obtain ⟨ex,E,h',q,Y,L,B,w,I,⟨N,q2⟩,k,q4,q5⟩:=WN R T D F0 c e (fp:={ t:=Pi.Eu 0 G .lf,nt:=O.ntmps,ds:=[],up:=upP,ro:=none }) r hn ⟨P5 ha (TR.lf X) (by omega),rfl,hnt,.nil,hu,rfl⟩ (Nat.le_refl _) (Nat.le_refl _)
   have go : ∀ {u:UMA} {uP:UM} {o:OutA->H->Nat->Option β},Jq P (YD P tab ann F0 n) O β F0 E.ds u E.t h' q (λo h nx=>K o E.up h nx)=some x->UMR Y (some u) (some uP) ->
     (∀ a d,N<=a->N<=d -> ∀ {z:Pi.Out} {hP:Hp},Pi.leave P (Pi.GA P (Bt tab) a d) O a B.ds uP B.t w=some (z,hP)->Pi.GA P (Bt tab) a (d+1) (.fn f) upP G X.h=some (z,B.up,hP)) ->
     ∃ o A h' q Y z j w,K o A h' q=some x/\PD P tab (.fn f) upP G X.h (z,j,w)/\BI nx X.h.nx X h nx Y h' q w/\WG Y o z/\UMR Y A j:=fun {u uP _} e hu hP=>by
    obtain ⟨o,M,nx2,Z,z,hP2,c1,⟨N2,c2⟩,c3,c4⟩:=Zb R e (b:=q) (bP:=Y.h.nx) k.rh k.big q4.ds hu q4.t (Nat.le_refl _) (Nat.le_refl _);have U:=c3.ext.full k.rh (Nat.le_refl _);refine ⟨o,E.up,M,nx2,Z,z,B.up,hP2,c1,⟨max N N2+1,λa d F s => ?_⟩,⟨c3.hp,c3.rh,c3.big,Nat.le_trans k.le c3.le,k.ext.trans (c3.ext.le k.le k.ext.nx)⟩,c4,q4.up.mono U⟩;obtain ⟨d,rfl⟩ : ∃ m',d=m'+1:=⟨d-1,by omega⟩;refine hP a d (by omega) (by omega) ?_;rw [<- k.hp];exact c2 a a d (by omega) (by omega) (by omega)
   have g : ∀ a d,Pi.GA P (Bt tab) a (d+1) (.fn f) upP G X.h=(match (Pi.exec P (Bt tab) (Pi.GA P (Bt tab) a d) a c { t:=Pi.Eu 0 G .lf,nt:=O.ntmps,ds:=[],up:=upP,ro:=none } X.h) with
     | some (.normal,fr,h) | some (.ret,fr,h)=>(match Pi.leave P (Pi.GA P (Bt tab) a d) O a fr.ds .ret fr.t h with
      | some (o,h)=>some (o,fr.up,h)
      | none=>none)
     | some (.panic e,fr,h)=>(match Pi.leave P (Pi.GA P (Bt tab) a d) O a fr.ds (.pan [{ v:=e,recovered:=false }]) fr.t h with
      | some (o,h)=>some (o,fr.up,h)
      | none=>none)
     | _=>none):=λa d=>by
    rw [Pi.GA];simp only [Pi.ld,hpr,hf,hc,hlP,hb,cond_true];rfl
   cases ex with
   | normal =>
    have:L = .normal:=q5;subst this
    exact go (o:=λ_ _ _=>none) I (show UMR Y (some .ret) (some .ret) from rfl) λa d F s z hP C=>by
     rw [g,q2 a a d F F s];simp only [C]
   | ret =>
    have:L = .ret:=q5;subst this
    exact go (o:=λ_ _ _=>none) I (show UMR Y (some .ret) (some .ret) from rfl) λa d F s z hP C=>by
     rw [g,q2 a a d F F s];simp only [C]
   | panic v =>
    obtain ⟨p,rfl,hv⟩:=q5
    exact go (o:=λ_ _ _=>none) I (uP:=.pan [{ v:=p,recovered:=false }]) (show UMR Y (some (.pan [{ v:=v,recovered:=false }])) (some (.pan [{ v:=p,recovered:=false }])) from ⟨_,rfl,.cons ⟨hv,rfl⟩ .nil⟩) λa d F s z hP C=>by
     rw [g,q2 a a d F F s];simp only [C]
   | _=>cases I
  ·intro β x l args h nx K e X lP m G r hn C ha;simp only [YD] at e;split at e
   ·rename_i st0 pd0 nt t psl asg body0 d0 hg;replace e:=AZ e;obtain ⟨t1,ht1,e⟩:=e;obtain ⟨pid,n',tP,dP,m',k1,k2,k3,k4,k5,k6⟩:=r.blk _ _ hg;rw [C] at k1;cases k1;obtain ⟨tP1,s1,s2⟩:=GZ k6 ha k4 ht1;obtain ⟨ex,E,h',q,Y,L,B,w,I,⟨N,q2⟩,k,q4,q5⟩:=WN R T D F0 asg e (fp:={ t:=tP1,nt:=nt,ds:=[],up:=none,ro:=some lP }) r hn ⟨s2,rfl,k6,.nil,rfl,⟨_,_,C,rfl⟩⟩ (Nat.le_refl _) (Nat.le_refl _);cases ex with
    | normal =>
     have:L = .normal:=q5;subst this;simp only at I;have U:=k.ext.full r (Nat.le_refl _);have hlY:=U.pi _ _ C;split at I
     ·rename_i pend nt2 t2 ps2 asg2 W d2 hg2;obtain ⟨pid,n',tP2,dP2,m2,j1,j2,j3,j4,j5,j6⟩:=k.rh.blk _ _ hg2;rw [hlY] at j1;cases j1;obtain ⟨hP2,es⟩:=Do Y.h lP (.lp 1 pend nt2 tP2 ps2 asg2 W dP2);obtain ⟨Z,z1,z2,z3,z4,z5,z6⟩:=k.rh.setLp k.big hg2 hlY j3 es nx X.h.nx;obtain ⟨ex3,fr3,h3,nx3,Y3,y,fp3,hP3,w1,⟨N3,w2⟩,w3,w4,w5⟩:=WN R T D F0 body0 I (fp:=B) z5 k.big (q4.mono z4) (Nat.le_refl _) (bP:=X.h.nx) (by rw [z2,(Hp.get_set es).2];exact k.ext.nx);have x3:=(k.ext.trans z6).trans (w3.ext.le (b:=nx) (bP:=X.h.nx) k.le (Nat.le_refl _));have hl3:Y3.π l=some (.blk lP m):=x3.up.pi _ _ (by rw [Cx.low_eq (r.dom _ _ C)];exact C)
      have J : ∀ {S:Option Code},HI h3 nx3 l S K=some x ->
        (∀ {rr},Pi.DB hP3 lP S=some rr -> ∀ a d,max N N3<=a->max N N3<=d->Pi.GA P (Bt tab) a (d+1) (.yl lP) none G X.h=some rr) ->
        ∃ o A h' q Y z j w,K o A h' q=some x/\PD P tab (.yl lP) none G X.h (z,j,w)/\BI nx X.h.nx X h nx Y h' q w/\WG Y o z/\UMR Y A j:=λe hh=>by
       obtain ⟨o,A,h4,Y4,z,j,hP4,v1,v2,v3,v4,v5⟩:=KU (b:=nx) (bP:=X.h.nx) w3.rh w3.big hl3 e;rw [w3.hp] at v2;refine ⟨o,A,h4,nx3,Y4,z,j,hP4,v1,⟨max N N3+1,λa d F s => ?_⟩,⟨v3.hp,v3.rh,v3.big,Nat.le_trans k.le (Nat.le_trans w3.le v3.le),x3.trans v3.ext⟩,v4,v5⟩;obtain ⟨d,rfl⟩ : ∃ m',d=m'+1:=⟨d-1,by omega⟩;exact hh v2 a d (by omega) (by omega)
      have g : ∀ a d,max N N3<=a->max N N3<=d->Pi.GA P (Bt tab) a (d+1) (.yl lP) none G X.h=(match some (y,fp3,hP3) with
        | some (.normal,_,h)=>Pi.DB h lP none
        | some (.ret,_,h)=>Pi.DB h lP (some .ret)
        | some (.exit id,_,h)=>Pi.DB h lP (some (.exit id))
        | some (.goto id,_,h)=>Pi.DB h lP (some (.goto id))
        | _=>none):=λa d F s=>by
       have a1:=q2 a a d (by omega) (by omega) (by omega);rw [<- k.hp] at a1;have a2:=w2 a a d (by omega) (by omega) (by omega);rw [z2] at a2;rw [Pi.GA];simp only [Pi.ld,k3,s1,a1,j3,es,a2];rfl
      cases ex3 with
      | normal =>
       have:y = .normal:=w5;subst this;exact J w1 λhr a d h1 M=>(g a d h1 M).trans hr
      | ret =>
       have:y = .ret:=w5;subst this;exact J w1 λhr a d h1 M=>(g a d h1 M).trans hr
      | exit i =>
       have:y = .exit i:=w5;subst this;exact J w1 λhr a d h1 M=>(g a d h1 M).trans hr
      | goto i =>
       have:y = .goto i:=w5;subst this;exact J w1 λhr a d h1 M=>(g a d h1 M).trans hr
      | panic=>cases w1
     ·cases I
    | _=>cases I
   ·cases e
theorem DX.wide {hh:Hp} {Q l:Nat->Prop} : ∀ {c:Ty} {x:c.den} {b:List PV},DX hh Q l c x b->DX hh (λ_=>True) (λ_=>True) c x b
 | .int _,_,_,e=>e
 | .bool,_,_,e=>e
 | .str,_,_,e=>e
 | .unit,_,_,e=>e
 | .pair _ _,_,_,⟨p,q,e,a,d⟩=>⟨p,q,e,DX.wide a,DX.wide d⟩
 | .sl _ _,_,_,⟨p,e,h⟩=>⟨p,e,by
  rcases h with h | h | ⟨pid,off,len,es,ex,fz,a,d,m,j,i,f⟩
  ·exact .inl h
  ·exact .inr (.inl h)
  ·exact .inr (.inr ⟨pid,off,len,es,ex,fz,a,trivial,m,j,i,f.mono λ_ _ k=>k.mono λ_ _ k=>DR.mono (λq es ex fz n g=>⟨⟨fz,g⟩,trivial⟩) k⟩)⟩
theorem domX.wide {hh:Hp} {Q e:Nat->Prop} : ∀ {l:List (Bool×Ty)} {y:AH l} {d:List PV},domX hh Q e l y d->domX hh (λ_=>True) (λ_=>True) l y d
 | [],_,_,h=>h
 | [p],_,_,⟨a,c,b⟩=>⟨a,c,b.mono λ_ _ k=>k.wide⟩
 | p::q::r,_,_,⟨a,t,c,b,f⟩=>⟨a,t,c,b.mono λ_ _ k=>k.wide,domX.wide f⟩
def nr:Cx:={ π:=λ_=>none,h:=I1,O:=λ_=>False }
theorem pN:RH nr .lf 0:=⟨λ_ _ h=>(by cases h),λ_ _ _ _ _ _ _ h=>(by cases h),λ_ _ h=>(by cases h),λ_ _=>rfl,λ_ h=>h.elim⟩
theorem PG (T:TabOK P tab) (D:DrawnAOK P tab) {ann:Pm} {F0 n:Nat} {f:FuncId} {dom g:List (Bool×Ty)} {x:AH dom} {y:AH g} (e:Ac P tab ann F0 n f dom g x=some y) {w:List PV} (E:IZ dom x w) :
  ∃ r up A,PD P tab (.fn f) none w I1 (.ret r,up,A)/\O3 A g y r:=by
 unfold Ac at e;obtain ⟨o,K,h',J,Y,L,q,t,e1,I,j,G,_⟩:=(P6 T D n).fn e pN (Nat.zero_le _) (JK E) (show UMR nr none none from rfl);split at e1
 ·rename_i v;obtain ⟨p,rfl,k⟩:=G;refine ⟨p,q,t,I,?_⟩;rw [<- j.hp]
  have b : ∀ (vs:List V) (i:List PV),VRL Y vs i->FV h' g vs some=some y->domX Y.h (λ_=>True) (λ_=>True) g y i:=λvs i u F=>by
   obtain ⟨z,s,B⟩:=FA (Q:=λ_=>True) j.rh (λ_ _=>trivial) (λ_ _ _ _ _=>trivial) u F;cases s;exact B.wide
  match g,y,e1,b with
  | [],y,e1,b =>
   simp only at e1;split at e1
   ·simp only [VR] at k;obtain ⟨i,rfl,m⟩:=k;exact ⟨i,rfl,b _ _ m e1⟩
   ·cases e1
  | [c],y,e1,b =>
   obtain ⟨a,C,m⟩:=b _ _ (.cons k .nil) e1;cases C;exact m
  | c::d::l,y,e1,b =>
   simp only at e1;split at e1
   ·simp only [VR] at k;obtain ⟨i,rfl,m⟩:=k;exact ⟨i,rfl,b _ _ m e1⟩
   ·unfold FV at e1;simp only at e1;replace e1:=NC (Q:=λ_=>True) j.rh (λ_ _ _ _ _=>trivial) (λ_ _=>trivial) k e1;obtain ⟨z,s,B⟩:=e1;cases l<;>cases s
 ·cases e1
theorem dB (T:TabOK P tab) (D:DrawnAOK P tab) {ann:Pm} {F0 n:Nat} {f:FuncId} {dom:List (Bool×Ty)} {g:Bool} {c:Ty} {x:AH dom} {y:List c.den} (e:YE P tab ann F0 n f dom g c x=some y) {m:List PV} (w:IZ dom x m) :
  ∃ r up q,PD P tab (.fn f) none m I1 (.ret r,up,q)/\O3 q [(false,.sl g c)] y r /\ ∀ j o len,r ≠ .own j o len:=by
 unfold YE at e;obtain ⟨o,F,h',E,Y,J,i,l,e1,C,k,B,_⟩:=(P6 T D n).fn e pN (Nat.zero_le _) (JK w) (show UMR nr none none from rfl);split at e1
 ·rename_i v;obtain ⟨p,rfl,d⟩:=B;refine ⟨p,i,l,C,?_⟩;rw [<- k.hp]
  have b:Mv h' false (.sl g c) v some=some y->O3 Y.h [(false,.sl g c)] y p:=λA=>by
   obtain ⟨z,u,I⟩:=NC (Q:=λ_=>True) k.rh (λ_ _ _ _ _=>trivial) (λ_ _=>trivial) d A;cases u;have G:domX Y.h (λ_=>True) Y.Q [(false,.sl g c)] y [p]:=⟨p,rfl,I⟩;obtain ⟨a,t,s⟩:=G.wide;cases t;exact s
  split at e1
  ·refine ⟨b e1,λj o len hh => ?_⟩;subst hh;simp only [VR] at d;rcases d with ⟨h,_⟩ | ⟨_,_,h,_⟩<;>cases h
  ·refine ⟨b e1,λj o len hh => ?_⟩;subst hh;simp only [VR] at d;cases d
  ·cases e1
 ·cases e1
theorem Ul {X:Cx} {p:Bool×Ty} {y:p.2.den} {a:PV} (h:EP p.1 (DP p.2) y a):VR X (bif nI p then na (elP p.1 p.2 y) else elP p.1 p.2 y) (bif nI p then WH a else a):=by
 cases i:nI p with
 | false=>exact IL h
 | true =>
  obtain ⟨g,c⟩:=p;cases g with
  | false=>cases i
  | true =>
   have b:=IL (X:=Cx.pure) h;obtain ⟨d,rfl,_⟩:=h;simp only [elP,cond_true,VR] at b;obtain ⟨f,e,j⟩:=b;cases e;show VR X (.pv _) (.view _);simp only [VR];exact ⟨d,rfl,j⟩
theorem Rg {X:Cx} : ∀ {l:List (Bool×Ty)} {y:AH l} {d:List PV},IZ l y d->VRL X (ca l (Jo l y)) (NH l d)
 | [],_,_,h=>by rw [show _=[] from h];exact .nil
 | [p],_,_,⟨a,c,b⟩=>by subst c;exact .cons (Ul b) .nil
 | p::q::r,_,_,⟨a,t,c,b,e⟩=>by subst c;exact .cons (Ul b) (Rg e)
theorem dC (T:TabOK P tab) (D:DrawnAOK P tab) {ann:Pm} {F0 n:Nat} {f:FuncId} {dom g:List (Bool×Ty)} {x:AH dom} {y:AH g} (e:YF P tab ann F0 n f dom g x=some y) {w:List PV} (E:IZ dom x w) :
  ∃ r up A,PD P tab (.fn f) none (NH dom w) I1 (.ret r,up,A)/\O3 A g y r:=by
 unfold YF at e;obtain ⟨o,K,h',J,Y,L,q,t,e1,I,j,G,_⟩:=(P6 T D n).fn e pN (Nat.zero_le _) (Rg E) (show UMR nr none none from rfl);split at e1
 ·rename_i v;obtain ⟨p,rfl,k⟩:=G;refine ⟨p,q,t,I,?_⟩;rw [<- j.hp]
  have b : ∀ (vs:List V) (i:List PV),VRL Y vs i->FV h' g vs some=some y->domX Y.h (λ_=>True) (λ_=>True) g y i:=λvs i u F=>by
   obtain ⟨z,s,B⟩:=FA (Q:=λ_=>True) j.rh (λ_ _=>trivial) (λ_ _ _ _ _=>trivial) u F;cases s;exact B.wide
  match g,y,e1,b with
  | [],y,e1,b =>
   simp only at e1;split at e1
   ·simp only [VR] at k;obtain ⟨i,rfl,m⟩:=k;exact ⟨i,rfl,b _ _ m e1⟩
   ·cases e1
  | [c],y,e1,b =>
   obtain ⟨a,C,m⟩:=b _ _ (.cons k .nil) e1;cases C;exact m
  | c::d::l,y,e1,b =>
   simp only at e1;split at e1
   ·simp only [VR] at k;obtain ⟨i,rfl,m⟩:=k;exact ⟨i,rfl,b _ _ m e1⟩
   ·unfold FV at e1;simp only at e1;replace e1:=NC (Q:=λ_=>True) j.rh (λ_ _ _ _ _=>trivial) (λ_ _=>trivial) k e1;obtain ⟨z,s,B⟩:=e1;cases l<;>cases s
 ·cases e1
theorem dD (T:TabOK P tab) (D:DrawnAOK P tab) {ann:Pm} {F0 n:Nat} {f:FuncId} {dom:List (Bool×Ty)} {g:Bool} {c:Ty} {x:AH dom} {y:List c.den} (e:Pp P tab ann F0 n f dom g c x=some y) (A:y≠[]) {w:List PV} (C:IZ dom x w) :
  ∃ r up B,PD P tab (.fn f) none w I1 (.ret r,up,B)/\cv B g c y r:=by
 unfold Pp at e;obtain ⟨o,S,h',K,Y,U,h,m,e1,J,i,F,_⟩:=(P6 T D n).fn e pN (Nat.zero_le _) (JK C) (show UMR nr none none from rfl);split at e1
 ·rename_i j;obtain ⟨p,rfl,b⟩:=F;refine ⟨p,h,m,J,?_⟩;rw [<- i.hp];split at e1
  ·rename_i X Z l W t;replace e1:=BD e1;obtain ⟨s,e1⟩:=e1;have:=eq_of_beq s;subst this;obtain ⟨hc,e1⟩:=C8 e1;subst hc;cases e1;have z:=i.rh.blk _ _ t;simp only [VR] at b;cases d:Y.π j with
   | none=>rw [d] at b;exact b.elim
   | some a =>
    rw [d] at b z;rcases z with ⟨pid,len,es,N,u,h2,G,M,L,I,O⟩ | ⟨_,_,h2⟩ | ⟨es,u,_,h2,_⟩
    ·cases u;simp only at b;subst b;have:=M rfl;subst this;subst L;exact .inr ⟨pid,es,rfl,G,I rfl,O.mono λ_ _ k=>k.mono λ_ _ k=>DR.mono (λq es ex fz E t=>⟨⟨fz,t⟩,λhh=>E (hh ▸ h2)⟩) k⟩
    ·exact absurd h2 A
    ·rcases h2 with h2 | h2
     ·cases h2
     ·exact absurd h2 A
  ·cases e1
 ·cases e1
end
end Go.Proofs.YtfilfloanndddaaGreat.Sv
namespace Go.Proofs.YtfilfloanndddaaGreat.Sv
variable [Pi.Gl]
open Go.Proofs.YtfilfloanndddaaGreat.Pi (PV T Hp Blk DF UM PE A5 BM AS Bg CH)
def re (hs:Hp):Pi.R->Pi.R
 | .val v _ => .val v hs
 | .skip _ => .skip hs
 | r=>r
section
variable {P:Program} {h hs:Hp}
theorem KI {o:Option PV}:Pi.vl o hs=(Pi.vl o h).map (re hs):=by cases o<;>rfl
theorem Sx {c:Bool} {v:PV}:(bif c then some (Pi.R.val v hs) else none)=(bif c then some (Pi.R.val v h) else none).map (re hs):=by cases c<;>rfl
theorem ka {c a b:PV}:Pi.Iv hs c a b=(Pi.Iv h c a b).map (re hs):=by unfold Pi.Iv;split<;>rfl
theorem dE {ty:TypeId} {a:List (Nat×PV)}:Pi.FP P hs ty a=(Pi.FP P h ty a).map (re hs):=by
 unfold Pi.FP;split
 ·cases hc:(Array.toList _).all _ with
  | true=>simp only [cond_true];split<;>(try rfl);rename_i pl _;cases Pi.Le _ pl<;>rfl
  | false=>rfl
 ·split
  ·rename_i n _;cases Nat.blt 0 n with
   | true=>simp only [cond_true];cases Pi.Le _ _<;>rfl
   | false=>rfl
  ·rfl
 ·rfl
theorem mY {p:PV}:Pi.KO hs p=(Pi.KO h p).map (re hs):=by unfold Pi.KO;split<;>rfl
theorem mZ {c:BinOp} {ty:TypeId} {x y:Operand} {a b:PV}:Pi.Ia P hs c ty x y a b=(Pi.Ia P h c ty x y a b).map (re hs):=by
 unfold Pi.Ia;split
 ·cases Pi.GW x||Pi.GW y<;>simp only [cond_true,cond_false]
  ·rfl
  ·exact KI
 ·cases P.eqGuardType P.depth ty<;>simp only [cond_true,cond_false]
  ·exact KI
  ·rfl
 ·exact KI
theorem WO {s d:TypeId} {x:PV}:Pi.Dc P hs s d x=(Pi.Dc P h s d x).map (re hs):=by
 unfold Pi.Dc;split
 ·rfl
 ·rfl
 ·split<;>rfl
 ·rfl
theorem ma {ty:TypeId} {v:PV}:Pi.KC P hs ty v=(Pi.KC P h ty v).map (re hs):=by unfold Pi.KC;split<;>rfl
theorem Um {f:Fn} {a b:List PV}:Pi.DK hs f a b=(Pi.DK h f a b).map (re hs):=by unfold Pi.DK;split<;>rfl
theorem Sy {s:TypeId} {x:PV} {f:Nat}:Pi.CV P hs s x f=(Pi.CV P h s x f).map (re hs):=by
 unfold Pi.CV;split
 ·split
  ·split
   ·rename_i n _;cases Nat.beq n 0 with
    | true=>rfl
    | false=>simp only [cond_false];split<;>rfl
   ·rfl
  ·rfl
 ·rfl
theorem dF {s:TypeId} {x:PV} {f:Nat}:Pi.F9 P hs s x f=(Pi.F9 P h s x f).map (re hs):=by
 unfold Pi.F9;split
 ·split
  ·exact KI
  ·rfl
 ·rfl
theorem dG {s:TypeId} {x i:PV}:Pi.FQ P hs s x i=(Pi.FQ P h s x i).map (re hs):=by
 unfold Pi.FQ;split
 ·rename_i len e cs k _ _;cases Nat.blt k len with
  | true =>
   simp only [cond_true];split
   ·exact KI
   ·rfl
  | false=>rfl
 ·split<;>rfl
 ·rfl
theorem Zc {ty:TypeId} {v:PV} {b:Bool}:Pi.Dh P hs ty v b=(Pi.Dh P h ty v b).map (re hs):=by
 have z : ∀ {e:TypeId},(bif b then (match Pi.E3 P e with
   | some z=>some (Pi.R.val (.tup [z,.bool false]) hs)
   | none=>none) else none)=(bif b then (match Pi.E3 P e with
   | some z=>some (Pi.R.val (.tup [z,.bool false]) h)
   | none=>none) else none).map (re hs):=by
  intro e;cases b with
  | true=>simp only [cond_true];split<;>rfl
  | false=>rfl
 unfold Pi.Dh;split
 ·split
  ·split
   ·split
    ·rfl
    ·exact z
   ·rfl
  ·exact z
  ·rfl
 ·split
  ·rename_i u a;cases Nat.beq u ty with
   | true=>rfl
   | false=>exact z
  ·exact z
  ·rfl
 ·rfl
theorem WP {x:PV} {i:Nat}:Pi.El hs x i=(Pi.El h x i).map (re hs):=by
 unfold Pi.El;split
 ·exact KI
 ·rfl
theorem kc {ty:TypeId} {p:PV} (a : ∀ q∈Pi.AY p,hs.get q=h.get q):Pi.GD P hs ty p=(Pi.GD P h ty p).map (re hs):=by
 unfold Pi.GD;cases p with
 | ptr j off =>
  simp only;rw [a j (by simp [Pi.AY])];split
  ·exact KI
  ·rfl
 | view cs=>exact KI
 | ept j i off =>
  simp only;rw [a j (by simp [Pi.AY])];split
  ·split
   ·exact KI
   ·rfl
  ·rfl
 | _=>rfl
theorem Sz {ty:TypeId} {x i:PV} (b : ∀ q∈Pi.AY x,hs.get q=h.get q):Pi.CK P hs ty x i=(Pi.CK P h ty x i).map (re hs):=by
 unfold Pi.CK;split
 ·rename_i e k _ _;split
  ·rename_i n _;split
   ·split
    ·rename_i a _;cases Nat.beq a.cells.length n<;>rfl
    ·rfl
   ·rename_i j off len;rw [b j (by simp [Pi.AY])];cases Nat.blt k len with
    | true =>
     simp only [cond_true];split
     ·split
      ·rename_i a _;cases Nat.beq a.cells.length n<;>rfl
      ·rfl
     ·rfl
    | false=>rfl
   ·rfl
  ·rfl
 ·rename_i len e k _ _;split
  ·cases Nat.blt k len with
   | true=>simp only [cond_true];split<;>rfl
   | false=>rfl
  ·rfl
 ·rfl
theorem dH {ty:TypeId} {x:PV} {lo hi:Option PV} (a : ∀ q∈Pi.AY x,hs.get q=h.get q):Pi.B7 P hs ty x lo hi none=(Pi.B7 P h ty x lo hi none).map (re hs):=by
 unfold Pi.B7;split
 ·split
  ·exact Sx
  ·rfl
 ·split
  ·rfl
  ·rename_i n _;split
   ·split
    ·rename_i hh _ _ _;cases (none:Option PV).isSome && !hi.isSome<;>rfl
    ·rfl
   ·rename_i full es;cases !Pi.HD n es with
    | true=>rfl
    | false =>
     simp only [cond_false];split
     ·rename_i l hh _ _;cases Nat.ble hh es.length&&Nat.ble l hh<;>rfl
     ·rfl
   ·rename_i j off len;rw [a j (by simp [Pi.AY])];split
    ·rename_i es ex fz _;cases !Pi.HD n es with
     | true=>rfl
     | false =>
      simp only [cond_false];split
      ·rename_i l hh _ _;cases !Nat.ble l hh || !Nat.ble (off+hh) es.length with
       | true=>rfl
       | false =>
        simp only [cond_false];cases Nat.blt (off+l) es.length<;>rfl
      ·rfl
    ·rfl
   ·rfl
 ·rfl
theorem Zd {ty:TypeId} {x:PV} {lo hi mx:Option PV} (c : ∀ j a b,x ≠ .own j a b):Pi.B7 P hs ty x lo hi mx=(Pi.B7 P h ty x lo hi mx).map (re hs):=by
 unfold Pi.B7;split
 ·split
  ·exact Sx
  ·rfl
 ·split
  ·rfl
  ·rename_i n _;split
   ·split
    ·cases mx.isSome && !hi.isSome<;>rfl
    ·rfl
   ·rename_i full es;cases !Pi.HD n es with
    | true=>rfl
    | false =>
     simp only [cond_false];split
     ·cases mx with
      | none=>exact Sx
      | some m =>
       dsimp only;split
       ·exact Sx
       ·rfl
     ·rfl
   ·exact absurd rfl (c _ _ _)
   ·rfl
 ·rfl
theorem Ln {t:T PV} {x:Operand} {k a:PV->Option Pi.R} (f : ∀ p,Pi.GU t x=some p->a p=(k p).map (re hs)):Pi.e1 t x a=(Pi.e1 t x k).map (re hs):=by
 unfold Pi.e1;split
 ·rename_i p b;exact f p b
 ·rfl
theorem dI {t:T PV} {x y:Operand} {k a:PV->PV->Option Pi.R} (f : ∀ p q,Pi.GU t x=some p->Pi.GU t y=some q->a p q=(k p q).map (re hs)):Pi.e2 t x y a=(Pi.e2 t x y k).map (re hs):=by
 unfold Pi.e2;split
 ·rename_i p q b c;exact f p q b c
 ·rfl
theorem nu {t:T PV} {x y z:Operand} {k a:PV->PV->PV->Option Pi.R} (f : ∀ p q r,a p q r=(k p q r).map (re hs)):Pi.e3 t x y z a=(Pi.e3 t x y z k).map (re hs):=by
 unfold Pi.e3;split
 ·exact f _ _ _
 ·rfl
theorem YW {t:T PV} {x:Operand} {l:List Operand} {p:PV} (a:Pi.GU t x=some p) : ∀ q∈Pi.AY p,q∈Pi.D3 t (x::l):=λq b=>by
 simp only [Pi.D3,a];exact List.mem_append_left _ b
theorem WQ {id:Nat} {b:Builtin} {a:Array TypeId} {args:List PV} (d:b = .len\/b = .cap\/b = .max\/b = .min) (c:b = .len -> ∀ p∈args,∀ q∈Pi.Li p,hs.get q=h.get q) (e:b ≠ .len -> ∀ p∈args,∀ q∈Pi.AY p,hs.get q=h.get q):Pi.Al P hs id b a args=(Pi.Al P h id b a args).map (re hs):=by
 unfold Pi.Al;rcases d with rfl | rfl | rfl | rfl
 ·simp only;split
  ·rename_i x t _;split
   ·rename_i j _;rw [c rfl (.mp j) (by simp) j (by simp [Pi.Li])];split<;>rfl
   all_goals rfl
  ·rfl
 ·simp only;split
  ·rename_i x t _;split
   ·rename_i j off f _;rw [e (by simp) (.own j off f) (by simp) j (by simp [Pi.AY])];split<;>rfl
   all_goals rfl
  ·rfl
 ·simp only;split
  ·cases Pi.F7 _ _ _ _<;>rfl
  ·rfl
  ·rfl
 ·simp only;split
  ·cases Pi.F7 _ _ _ _<;>rfl
  ·rfl
  ·rfl
theorem S0 {t:T PV} : ∀ {l:List Operand} {b:List PV},Pi.Vh t l=some b -> ∀ p∈b,∀ q∈Pi.AY p,q∈Pi.D3 t l
 | [],b,e,p,hp,q,hq=>by cases e;cases hp
 | o::l,b,e,p,hp,q,hq=>by
  unfold Pi.Vh at e;split at e
  ·rename_i a f c d;cases e;rcases List.mem_cons.1 hp with rfl | hp
   ·simp only [Pi.D3,c];exact List.mem_append_left _ hq
   ·simp only [Pi.D3,c];exact List.mem_append_right _ (S0 d p hp q hq)
  ·cases e
theorem Un {t:T PV} : ∀ {l:List Operand} {b:List PV},Pi.Vh t l=some b -> ∀ p∈b,∀ q∈Pi.Li p,q∈Pi.ID t l
 | [],b,e,p,hp,q,hq=>by cases e;cases hp
 | o::l,b,e,p,hp,q,hq=>by
  unfold Pi.Vh at e;split at e
  ·rename_i a f c d;cases e;rcases List.mem_cons.1 hp with rfl | hp
   ·simp only [Pi.ID,c];exact List.mem_append_left _ hq
   ·simp only [Pi.ID,c];exact List.mem_append_right _ (Un d p hp q hq)
  ·cases e
theorem Ze {t:T PV} {id:Nat} {o:Oper} (hc:BG o.op<=1) (j : ∀ q∈Pi.CP t h o.op,hs.get q=h.get q):Pi.BC P t hs id o=(Pi.BC P t h id o).map (re hs):=by
 unfold Pi.BC;generalize o.op=n at hc j;cases n with
 | move x=>exact KI
 | assign x=>exact KI
 | pick c a b=>exact nu λ_ _ _=>ka
 | build ty w =>
  simp only;split
  ·exact dE
  ·rfl
 | nilCheck x=>exact Ln λ_ _=>mY
 | binOp _ _ x y _=>exact dI λ_ _ _ _=>mZ
 | unOp _ _ x=>exact Ln λ_ _=>KI
 | convert _ _ x=>exact Ln λ_ _=>WO
 | makeInterface _ x=>exact Ln λ_ _=>ma
 | makeFunc f a b =>
  simp only;split
  ·exact Um
  ·rfl
 | fieldAddr _ x _=>exact Ln λ_ _=>Sy
 | field _ x _=>exact Ln λ_ _=>dF
 | index _ x y=>exact dI λ_ _ _ _=>dG
 | typeAssert x _ _ _=>exact Ln λ_ _=>Zc
 | extract x _=>exact Ln λ_ _=>WP
 | load _ x=>exact Ln λp i=>kc λq g=>j q (YW i q g)
 | indexAddr _ x y=>exact dI λp z i _=>Sz λq g=>j q (YW i q g)
 | slice ty x lo hi mx =>
  cases mx with
  | some _=>simp [BG] at hc
  | none =>
   simp only;split
   ·rename_i s u m _ _ l;cases l;exact Ln λp i=>dH λq g=>j q (YW i q g)
   ·rfl
 | call c =>
  simp only;split
  ·rename_i args e;cases d:c.callee with
   | builtin b =>
    simp only [BG,d] at hc;simp only [Pi.CP,d] at j;refine WQ ?_ (λk p i q g=>j q ?_) λk p i q g=>j q ?_
    ·cases b<;>simp at hc ⊢
    ·subst k;exact Un e p i q g
    ·cases b<;>first | exact absurd rfl k | exact S0 e p i q g
   | value _=>simp [BG,d] at hc
   | invoke _ _=>simp [BG,d] at hc
  ·rfl
 | makeMap _ r=>cases r<;>simp [BG] at hc
 | _=>simp [BG] at hc
theorem S1 {id:Nat} {b:Blk} {d:Hp} (c:h.get id=none->hs.get id=none) (e:h.new id b=some d) : ∃ a,hs.new id b=some a :=
 MC hs id b (c (Hp.get_new e).1)
theorem Zf {ty:TypeId} {p v:PV} {r:Pi.R} (l : ∀ q∈Pi.AY p,hs.get q=h.get q) (e:Pi.DU P h ty p v=some r) : ∃ d,Pi.DU P hs ty p v=some (.skip d):=by
 have k : ∀ (j:Nat) (b:Blk),∃ d,(hs.set j b).map Pi.R.skip=some (.skip d):=λj b=>by
  obtain ⟨s,e⟩:=Do hs j b;exact ⟨s,by rw [e];rfl⟩
 unfold Pi.DU at e ⊢;split at e
 ·rename_i n m
  try simp only [m]
  replace e:=DL e;obtain ⟨a,e⟩:=e;rw [a];simp only [cond_false];cases p with
  | ptr j off =>
   simp only at e ⊢;rw [l j (by simp [Pi.AY])];split at e
   ·rename_i cs f
    try simp only [f]
    replace e:=BD e;obtain ⟨a,e⟩:=e;rw [a];simp only [cond_true];exact k _ _
   ·cases e
  | ept j i off =>
   simp only at e ⊢;rw [l j (by simp [Pi.AY])];split at e
   ·rename_i es ex f
    try simp only [f]
    split at e
    ·rename_i o g
     try simp only [g]
     replace e:=BD e;obtain ⟨a,e⟩:=e;rw [a];simp only [cond_true];cases o with
     | agg cs=>exact k _ _
     | _ =>
      dsimp only at e ⊢;split at e
      ·rename_i c hc;replace e:=BD e;obtain ⟨a,e⟩:=e
       try simp only [hc]
       rw [a];simp only [cond_true];cases c<;>first | exact k _ _ | cases e
      ·cases e
    ·cases e
   ·cases e
  | _=>cases e
 ·cases e
theorem WR {t:T PV} {id:Nat} {o:Oper} {r:Pi.R} (hc:BG o.op<=3) (m : ∀ q∈Pi.CP t h o.op,hs.get q=h.get q) (C:h.get id=none->hs.get id=none) (e:Pi.BC P t h id o=some r) :
  (∀ v f,r = .val v f -> ∃ A d,Pi.BC P t hs id o=some (.val A d))/\(∀ f,r = .skip f -> ∃ d,Pi.BC P t hs id o=some (.skip d)):=by
 have l:BG o.op<=1\/BG o.op=2\/BG o.op=3:=by omega
 rcases l with hc | hc | hc
 ·have:=Ze (P:=P) (id:=id) hc m;rw [e] at this;exact ⟨λv f k=>⟨v,hs,by rw [this,k];rfl⟩,λf k=>⟨hs,by rw [this,k];rfl⟩⟩
 ·have nw : ∀ {b:Blk} {g:Hp->Pi.R},(h.new id b).map g=some r->(∃ v,∀ h,g h = .val v h)->(∀ v f,r = .val v f -> ∃ A d,(hs.new id b).map g=some (.val A d))/\(∀ f,r = .skip f -> ∃ d,(hs.new id b).map g=some (.skip d)):=fun {b g} e ⟨v,E⟩=>by
   cases s:h.new id b with
   | none=>rw [s] at e;cases e
   | some f =>
    rw [s] at e;cases e;obtain ⟨d,e1⟩:=S1 C s;exact ⟨λ_ _ _=>⟨v,d,by rw [e1];simp [E]⟩,λ_ k=>by rw [E] at k;cases k⟩
  unfold Pi.BC at e ⊢;generalize o.op=u at hc m e;cases u with
  | alloc ty =>
   dsimp only at e ⊢;unfold Pi.HU at e ⊢;split at e
   ·rename_i cs n
    try simp only [n]
    exact nw e ⟨_,λ_=>rfl⟩
   ·cases e
  | box _ x =>
   simp only [Pi.e1] at e ⊢;split at e
   ·rename_i v D
    try simp only [D]
    unfold Pi.Lh at e ⊢;split at e
    ·cases e
    ·exact nw e ⟨_,λ_=>rfl⟩
   ·cases e
  | makeMap _ r =>
   cases r with
   | none=>exact nw e ⟨_,λ_=>rfl⟩
   | some _=>simp [BG] at hc
  | makeSlice _ x y =>
   simp only [Pi.e2] at e ⊢;split at e
   ·rename_i a b I w
    try simp only [I,w]
    unfold Pi.Hr at e ⊢;split at e
    ·split at e
     ·split at e
      ·rename_i z n
       try simp only [n]
       replace e:=BD e;obtain ⟨w,e⟩:=e;rw [w];simp only [cond_true];exact nw e ⟨_,λ_=>rfl⟩
      ·cases e
     ·cases e
    ·cases e
   ·cases e
  | slice _ _ _ _ mx=>cases mx<;>simp [BG] at hc
  | call c =>
   simp only [BG] at hc;split at hc
   ·split at hc<;>cases hc
   ·cases hc
  | _=>simp [BG] at hc
 ·unfold Pi.BC at e ⊢;generalize o.op=u at hc m e;cases u with
  | store ty a x =>
   simp only [Pi.e2] at e ⊢;split at e
   ·rename_i p v F D
    try simp only [F,D]
    have:=Zf (hs:=hs) (λq G=>m q (YW F q G)) e;refine ⟨λv f k => ?_,λ_ _=>this⟩;exfalso;subst k
    have B : ∀ {j:Nat} {b:Blk},(h.set j b).map Pi.R.skip=some (.val v f)->False:=fun {j b} e=>by
     cases i:h.set j b with
     | none=>rw [i] at e;cases e
     | some _=>rw [i] at e;cases e
    unfold Pi.DU at e;split at e
    ·replace e:=DL e;obtain ⟨_,e⟩:=e;split at e
     ·split at e
      ·replace e:=BD e;exact B e.2
      ·cases e
     ·split at e
      ·split at e
       ·replace e:=BD e;obtain ⟨_,e⟩:=e;split at e
        ·exact B e
        ·split at e
         ·replace e:=BD e;obtain ⟨_,e⟩:=e;split at e
          ·cases e
          ·cases e
          ·exact B e
         ·cases e
       ·cases e
      ·cases e
     ·cases e
    ·cases e
   ·cases e
  | slice _ _ _ _ mx=>cases mx<;>simp [BG] at hc
  | makeMap _ r=>cases r<;>simp [BG] at hc
  | call c =>
   simp only [BG] at hc;split at hc
   ·split at hc<;>cases hc
   ·cases hc
  | _=>simp [BG] at hc
end
end Go.Proofs.YtfilfloanndddaaGreat.Sv
namespace Go.Proofs.YtfilfloanndddaaGreat.Sv
variable [Pi.Gl]
open Go.Proofs.YtfilfloanndddaaGreat.Pi (PV T Hp Blk DF UM PE A5 BM AS Bg CH)
def GO (o:Option Pi.R):Prop := ∃ v h,o=some (.val v h)
section
variable {P:Program} {h hs:Hp}
theorem Rh {p:PV} (a : ∀ q∈Pi.AY p,hs.get q=h.get q):Pi.EN hs p=Pi.EN h p:=by
 unfold Pi.EN;cases p with
 | own id off len=>simp only;rw [a id (by simp [Pi.AY])]
 | _=>rfl
theorem LS {id:Nat} {b:Blk} {v:PV} (a:h.get id=none->hs.get id=none) (e:GO ((h.new id b).map λh => .val v h)):GO ((hs.new id b).map λh => .val v h):=by
 obtain ⟨f,g,e⟩:=e;cases c:h.new id b with
 | none=>rw [c] at e;cases e
 | some i =>
  obtain ⟨d,e2⟩:=S1 a c;exact ⟨v,d,by rw [e2];rfl⟩
theorem Ri {j:Nat} {b:Blk} {v:PV} (e:GO ((h.set j b).map λh => .val v h)):GO ((hs.set j b).map λh => .val v h):=by
 obtain ⟨a,e2⟩:=Do hs j b;exact ⟨v,a,by rw [e2];rfl⟩
theorem A9 (e:GO none) {α:Prop}:α:=by obtain ⟨_,_,e⟩:=e;cases e
theorem C1 {c:Bool} {a b d b':Option Pi.R} (e:GO (bif c then a else b)) (g:c=true->GO a->GO d) (f:c=false->GO b->GO b'):GO (bif c then d else b'):=by
 cases c with
 | true=>exact g rfl e
 | false=>exact f rfl e
theorem dJ {id k:Nat} {s x:PV} (g : ∀ q∈Pi.AY s,hs.get q=h.get q) (r : ∀ q∈Pi.AY x,hs.get q=h.get q) (a:h.get id=none->hs.get id=none) (e:GO (Pi.KL P h id k s x)):GO (Pi.KL P hs id k s x):=by
 unfold Pi.KL at e ⊢;split at e
 ·rename_i A l
  try simp only [l]
  rw [Rh r];split at e
  ·rename_i y B new z m t u p
   try simp only [m,t,u,p]
   refine C1 e (λ_ e=>A9 e) λ_ e => ?_;cases s with
   | nils =>
    simp only at e ⊢;exact C1 e (λ_ _=>⟨_,_,rfl⟩) λ_ e=>C1 e (λ_ e=>LS a e) λ_ e=>A9 e
   | lst f es =>
    cases f with
    | true =>
     simp only at e ⊢;exact C1 e (λ_ _=>⟨_,_,rfl⟩) λ_ e=>C1 e (λ_ e=>LS a e) λ_ e=>A9 e
    | false=>exact A9 e
   | own j off len =>
    simp only at e ⊢;rw [g j (by simp [Pi.AY])];split at e
    ·rename_i es ex fz n
     try simp only [n]
     refine C1 e (λ_ e=>A9 e) λ_ e => ?_;refine C1 e (λ_ e => ?_) λ_ e => ?_
     ·refine C1 e (λ_ _=>⟨_,_,rfl⟩) λ_ e=>C1 e (λ_ e => ?_) λ_ e=>LS a e;exact C1 e (λ_ e=>A9 e) λ_ e=>Ri e
     ·refine C1 e (λ_ e => ?_) λ_ e=>A9 e;obtain ⟨w,i⟩:=Do h j .dead;obtain ⟨o,d⟩:=Do hs j .dead;rw [i] at e;rw [d];simp only at e ⊢;refine LS (λc => ?_) e;rw [(Hp.get_set i).1] at c;rw [(Hp.get_set d).1];by_cases b:id=j
      ·rw [if_pos b] at c;cases c
      ·rw [if_neg b] at c ⊢;exact a c
    ·exact A9 e
   | _=>exact A9 e
  ·exact A9 e
 ·exact A9 e
theorem Zg {id:Nat} {a:Array TypeId} {args:List PV} (d : ∀ p∈args,∀ q∈Pi.AY p,hs.get q=h.get q) (e:GO (Pi.Al P h id .copy a args)):GO (Pi.Al P hs id .copy a args):=by
 simp only [Pi.Al] at e ⊢;split at e
 ·rename_i j off len x t c
  try simp only [c]
  rw [d (.own j off len) (by simp) j (by simp [Pi.AY]),Rh (d x (by simp))];split at e
  ·rename_i k es ex new i f g
   try simp only [i,f,g]
   split at e
   ·rename_i l b
    try simp only [b]
    exact C1 e (λ_ e=>A9 e) λ_ e=>Ri e
   ·exact A9 e
  ·exact A9 e
 ·exact A9 e
theorem Jw : ∀ {L:List Nat} {h hs f:Hp},(∀ x∈L,hs.get x=h.get x)->Pi.freeze h L=some f -> ∃ a,Pi.freeze hs L=some a /\ ∀ x,hs.get x=h.get x->a.get x=f.get x
 | [],h,hs,f,_,e=>by simp [Pi.freeze] at e;subst e;exact ⟨hs,rfl,λ_ h=>h⟩
 | j::L,h,hs,f,hl,e=>by
  unfold Pi.freeze at e ⊢;rw [hl j (by simp)]
  have step : ∀ {b:Blk},(match h.set j b with
    | some h=>Pi.freeze h L
    | none=>none)=some f -> ∃ a,(match hs.set j b with
    | some h=>Pi.freeze h L
    | none=>none)=some a /\ ∀ x,hs.get x=h.get x->a.get x=f.get x:=by
   intro b e;obtain ⟨o,l⟩:=Do h j b;obtain ⟨m,k⟩:=Do hs j b;rw [l] at e;rw [k];simp only at e ⊢
   have c : ∀ x,hs.get x=h.get x->m.get x=o.get x:=λx g=>by
    rw [(Hp.get_set l).1,(Hp.get_set k).1];by_cases d:x=j
    ·rw [if_pos d,if_pos d]
    ·rw [if_neg d,if_neg d];exact g
   obtain ⟨a,e1,n⟩:=Jw (λx g=>c x (hl x (List.mem_cons_of_mem _ g))) e;exact ⟨a,e1,λx g=>n x (c x g)⟩
  split at e
  ·rename_i cs fz i
   try simp only [i]
   exact step e
  ·rename_i es ex fz i
   try simp only [i]
   exact step e
  ·cases e
theorem P7 {f g:PV->Option (PV×List Nat)} : ∀ {d c:List PV} {l:List Nat},(∀ p q l',f p=some (q,l')->(∀ x∈l',x∈l)->g p=some (q,l'))->AS f d=some (c,l)->AS g d=some (c,l)
 | [],c,l,_,e=>e
 | p::d,c,l,hfg,e=>by
  unfold AS at e ⊢;split at e
  ·rename_i q a k b n j;cases e;rw [hfg _ _ _ n λx i=>List.mem_append_left _ i,P7 (λp q l' h m=>hfg p q l' h λx i=>List.mem_append_right _ (m x i)) j]
  ·cases e
theorem S2 : ∀ (n:Nat) (p:PV) (q:PV) (l:List Nat),(∀ x∈l,hs.get x=h.get x)->Bg h n p=some (q,l)->Bg hs n p=some (q,l)
 | 0,p,q,l,hl,e=>by simp [Bg] at e
 | n+1,p,q,l,hl,e=>by
  have g : ∀ {u w:List PV} {l':List Nat},(∀ x∈l',x∈l)->AS (Bg h n) u=some (w,l')->AS (Bg hs n) u=some (w,l'):=λz e =>
   P7 (λp q B s o=>S2 n p q B (λx c=>hl x (z x (o x c))) s) e
  cases p with
  | agg cs=>simp only [Bg] at e ⊢;obtain ⟨⟨x,l'⟩,c,d⟩:=Pi.AQ e;cases d;rw [g (λ_ h=>h) c];rfl
  | tup cs=>simp only [Bg] at e ⊢;obtain ⟨⟨x,l'⟩,c,d⟩:=Pi.AQ e;cases d;rw [g (λ_ h=>h) c];rfl
  | ifc t x=>simp only [Bg] at e ⊢;obtain ⟨⟨y,l'⟩,A,d⟩:=Pi.AQ e;cases d;rw [S2 n _ _ _ hl A];rfl
  | fn f a b =>
   simp only [Bg] at e ⊢;split at e
   ·rename_i x C y m s o;cases e;rw [g (λx h=>List.mem_append_left _ h) s,g (λx h=>List.mem_append_right _ h) o]
   ·cases e
  | own j off len =>
   simp only [Bg] at e ⊢;split at e
   ·rename_i es ex fz k;replace e:=BD e;obtain ⟨hc,e⟩:=e;obtain ⟨⟨x,l'⟩,c,d⟩:=Pi.AQ e;cases d;rw [hl j (by simp),k];simp only [hc,cond_true];rw [g (λx h=>List.mem_cons_of_mem _ h) c];rfl
   ·cases e
  | ptr j off =>
   simp only [Bg] at e ⊢;split at e
   ·rename_i cs fz k;replace e:=BD e;obtain ⟨hc,e⟩:=e;obtain ⟨⟨x,l'⟩,c,d⟩:=Pi.AQ e;cases d;rw [hl j (by simp),k];simp only [hc,cond_true];rw [g (λx h=>List.mem_cons_of_mem _ h) c];rfl
   ·cases e
  | ept j i off =>
   simp only [Bg] at e ⊢;split at e
   ·rename_i es ex fz k;split at e
    ·rename_i D r;replace e:=BD e;obtain ⟨hc,e⟩:=e;obtain ⟨⟨x,l'⟩,c,d⟩:=Pi.AQ e;cases d;rw [hl j (by simp),k];simp only [r,hc,cond_true];rw [g (λx h=>List.mem_cons_of_mem _ h) c];rfl
    ·cases e
   ·cases e
  | yl _=>simp [Bg] at e
  | mp _=>simp [Bg] at e
  | _=>exact e
theorem Kj : ∀ {d c:List PV} {l:List Nat},(∀ x∈l,hs.get x=h.get x)->CH h d=some (c,l)->CH hs d=some (c,l)
 | [],c,l,_,e=>e
 | p::d,c,l,hl,e=>by
  unfold CH at e ⊢;split at e
  ·rename_i q a g b j i;cases e;rw [S2 _ _ _ _ (λx f=>hl x (List.mem_append_left _ f)) j,Kj (λx f=>hl x (List.mem_append_right _ f)) i]
  ·cases e
theorem MH {v:Value} {p:PV} (e:Pi.Hq v=some p) (n:Nat):Bg h (n+1) p=some (p,[]):=by
 unfold Pi.Hq at e;split at e<;>first | cases e | skip
 all_goals first
  | rfl
  | (split at e<;>cases e;rfl)
theorem Kk : ∀ {vs:List Value} {a:List PV},Pi.cellsOf vs=some a -> ∀ n,AS (Bg h (n+1)) a=some (a,[])
 | [],a,e,n=>by cases e;rfl
 | v::vs,a,e,n=>by
  unfold Pi.cellsOf at e;split at e
  ·rename_i p d c b;cases e;unfold AS;rw [MH c,Kk b];rfl
  ·cases e
theorem dK {t:TypeId} {z:List PV} {g:Bool} {f:PV} (e:Pi.zeroCells P t=some z) (d:Pi.Ta g z=some f) (n:Nat) : ∃ q,Bg h (n+2) f=some (q,[]):=by
 unfold Pi.zeroCells at e;split at e
 ·split at e
  ·have i:=λn=>Kk (h:=h) e n;unfold Pi.Ta at d;cases g with
   | true =>
    simp only [cond_true,Option.some.injEq] at d;subst d;refine ⟨.agg z,?_⟩;show (AS (Bg h (n+1)) z).map _=_;rw [i n];rfl
   | false =>
    simp only [cond_false] at d;split at d
    ·rename_i c;cases d;have:=i (n+1);unfold AS at this;split at this
     ·rename_i q a l b k j;simp only [AS,Option.some.injEq,Prod.mk.injEq] at j this;obtain ⟨_,rfl⟩:=j;have:a=[]:=by simpa using this.2
      subst this;exact ⟨q,k⟩
     ·cases this
    ·cases d
  ·cases e
 ·cases e
theorem Rj : ∀ {n:Nat} {a:List (Nat×PV)} {es es':List PV},Pi.Lf n es a=some es' -> ∀ e∈es',e∈es \/ ∃ i,(i,e)∈a
 | n,[],es,es',e,x,hx=>by simp only [Pi.Lf,Option.some.injEq] at e;subst e;exact .inl hx
 | n,(i,v)::r,es,es',e,x,hx=>by
  unfold Pi.Lf at e;replace e:=BD e;obtain ⟨_,e⟩:=e;rcases Rj e x hx with h | ⟨j,h⟩
  ·rw [Pi.BM] at h;rcases List.mem_or_eq_of_mem_set h with h | h
   ·exact .inl h
   ·subst h;exact .inr ⟨i,by simp⟩
  ·exact .inr ⟨j,by simp [h]⟩
theorem Uo : ∀ {es c:List PV} {l:List Nat},CH h es=some (c,l) -> ∀ x∈l,∃ e∈es,∃ q l',Bg h Pi.BQ e=some (q,l')/\x∈l'
 | [],c,l,e,x,hx=>by cases e;cases hx
 | p::ps,c,l,e,x,hx=>by
  unfold CH at e;split at e
  ·rename_i q a f b g d;cases e;rcases List.mem_append.1 hx with hx | hx
   ·exact ⟨p,by simp,q,a,g,hx⟩
   ·obtain ⟨e,i,k⟩:=Uo d x hx;exact ⟨e,by simp [i],k⟩
  ·cases e
theorem NK {t:T PV} : ∀ {l:List (Nat×Operand)} {b:List (Nat×PV)},Pi.F6 t l=some b -> ∀ i p,(i,p)∈b -> ∀ q m,Bg h Pi.BQ p=some (q,m) -> ∀ x∈m,x∈Pi.KD t h (l.map (·.2))
 | [],b,e,i,p,hp,_,_,_,_,_=>by cases e;cases hp
 | (j,o)::l,b,e,i,p,hp,q,m,hm,x,hx=>by
  unfold Pi.F6 at e;split at e
  ·rename_i a f d c;cases e;simp only [List.map_cons,Pi.KD,d];rcases List.mem_cons.1 hp with hp | hp
   ·cases hp;rw [hm];exact List.mem_append_left _ hx
   ·have:=NK c i p hp q m hm x hx;split
    ·exact List.mem_append_right _ this
    ·exact this
  ·cases e
theorem P8 {ty:TypeId} {len:Nat} {g:List (Nat×PV)} (B : ∀ i p,(i,p)∈g -> ∀ q m,Bg h Pi.BQ p=some (q,m) -> ∀ x∈m,hs.get x=h.get x) (e:GO (Pi.By P h ty len g)):GO (Pi.By P hs ty len g):=by
 unfold Pi.By at e ⊢;split at e
 ·rename_i J w
  try simp only [w]
  split at e
  ·rename_i n F z u E t
   try simp only [u,E,t]
   split at e
   ·rename_i G c
    try simp only [c]
    refine C1 e (λ_ e=>A9 e) λ_ e => ?_;split at e
    ·rename_i es f
     try simp only [f]
     split at e
     ·rename_i y l d
      have s : ∀ x∈l,hs.get x=h.get x:=λx D=>by
       obtain ⟨b,C,q,l',j,r⟩:=Uo d x D;rcases Rj f b C with o | ⟨i,o⟩
       ·have:=List.eq_of_mem_replicate o;subst this;obtain ⟨I,A⟩:=dK (h:=h) t c 10;have a:Bg h (10+2) b=some (q,l'):=j;rw [A] at a;cases a;cases r
       ·exact B i b o q l' j x r
      rw [Kj s d];obtain ⟨_,_,e⟩:=e;obtain ⟨j,k,_⟩:=Pi.AQ e;obtain ⟨a,e1,_⟩:=Jw s k;show GO ((Pi.freeze hs l).map λh=>Pi.R.val (.lst true y) h);rw [e1];exact ⟨_,a,rfl⟩
     ·exact A9 e
    ·exact A9 e
   ·exact A9 e
  ·exact A9 e
 ·exact A9 e
theorem Uq {t:T PV} {id:Nat} {o:Oper} (s : ∀ ty x lo hi m,o.op = .slice ty x lo hi (some m) -> ∀ p,Pi.GU t x=some p -> ∀ j a b,p ≠ .own j a b) (hc:BG o.op=4) (k : ∀ q∈Pi.CP t h o.op,hs.get q=h.get q) (y:h.get id=none->hs.get id=none) (e:GO (Pi.BC P t h id o)):GO (Pi.BC P t hs id o):=by
 unfold Pi.BC at e ⊢;generalize o.op=D at hc k e s;cases D with
 | buildSlice ty len z =>
  simp only at e ⊢;split at e
  ·rename_i K n
   try simp only [n]
   exact P8 (λi p l q m F x G=>k x (NK n i p l q m F x G)) e
  ·exact A9 e
 | call c =>
  simp only at e ⊢;split at e
  ·rename_i args f
   try simp only [f]
   cases d:c.callee with
   | builtin b =>
    simp only [BG,d] at hc;simp only [d] at e ⊢
    replace k : ∀ q∈Pi.D3 t c.args.toList,hs.get q=h.get q:=by
     simp only [Pi.CP,d] at k;cases b<;>simp at hc<;>exact k
    have g : ∀ p∈args,∀ q∈Pi.AY p,hs.get q=h.get q:=λp l q E=>k q (S0 f p l q E);cases b with
    | append =>
     simp only [Pi.Al] at e ⊢;split at e
     ·rename_i p q t M u
      try simp only [u]
      exact C1 e (λ_ e=>dJ (g p (by simp)) (g q (by simp)) y e) λ_ e=>A9 e
     ·exact A9 e
    | copy=>exact Zg g e
    | _=>simp at hc
   | value _=>simp [BG,d] at hc
   | invoke _ _=>simp [BG,d] at hc
  ·exact A9 e
 | slice ty x lo hi mx =>
  cases mx with
  | none=>simp [BG] at hc
  | some m =>
   simp only at e ⊢;split at e
   ·rename_i A B w C I J
    try simp only [C,I,J]
    obtain ⟨v,L,e⟩:=e;obtain ⟨p,l,e⟩:=Pi.Bn e;have:=Zd (P:=P) (hs:=hs) (h:=h) (ty:=ty) (lo:=A) (hi:=B) (mx:=w) (s _ _ _ _ _ rfl p l);rw [e] at this;unfold Pi.e1;rw [l];exact ⟨v,hs,this⟩
   ·exact A9 e
 | makeMap _ r=>cases r<;>simp [BG] at hc
 | _=>simp [BG] at hc
theorem S3 {id:Nat} {l:List Nat} {h':Hp} {r q:PV} {t:Hp} (s : ∀ x∈l,hs.get x=h.get x) (d:h.get id=none->hs.get id=none) (e:Pi.B9 id l h h' r=some (q,t)) : ∃ i,Pi.B9 id l hs h' r=some (q,i):=by
 unfold Pi.B9 at e ⊢;split at e
 ·rename_i len o ex w
  try dsimp only
  split at e
  ·rename_i p b;obtain ⟨z,f,j⟩:=Pi.AQ e;cases j
   have : ∃ a,(bif Pi.Dg o then some hs else Pi.freeze hs l)=some a/\(p.get id=none->a.get id=none):=by
    cases c:Pi.Dg o with
    | true =>
     rw [c] at b;cases b;exact ⟨hs,rfl,d⟩
    | false =>
     rw [c] at b;obtain ⟨a,e3,n⟩:=Jw s b;refine ⟨a,e3,λf => ?_⟩;by_cases k:h.get id=none
     ·rw [n id (by rw [d k,k])];exact f
     ·exact absurd f ((H2 b id).2 k)
   obtain ⟨a,e3,n⟩:=this;obtain ⟨m,u⟩:=S1 n f;rw [e3];exact ⟨m,by simp only [u,Option.map_some]⟩
  ·cases e
 ·rename_i w
  try dsimp only
  split at e
  ·rename_i y A g
   try simp only [g]
   cases c:Pi.flat y with
   | true =>
    rw [c] at e;cases e;exact ⟨hs,by simp only [cond_true]⟩
   | false =>
    rw [c] at e;simp only [cond_false] at e ⊢;obtain ⟨p,b,j⟩:=Pi.AQ e;cases j;obtain ⟨a,e3,_⟩:=Jw s b;exact ⟨a,by simp only [e3,Option.map_some]⟩
  ·cases e
theorem WS : ∀ (n:Nat) (p q:PV) (l:List Nat),Bg h n p=some (q,l) -> ∀ x∈l,h.get x≠none
 | 0,p,q,l,e,x,hx=>by simp [Bg] at e
 | n+1,p,q,l,e,x,hx=>by
  have g : ∀ {o w:List PV} {l':List Nat},AS (Bg h n) o=some (w,l') -> ∀ x∈l',h.get x≠none:=by
   intro o
   induction o with
   | nil=>intro w l' e x hx;cases e;cases hx
   | cons p o r =>
    intro w l' e x hx;unfold AS at e;split at e
    ·rename_i q a A b u s;cases e;rcases List.mem_append.1 hx with hx | hx
     ·exact WS n _ _ _ u x hx
     ·exact r s x hx
    ·cases e
  cases p with
  | agg cs=>simp only [Bg] at e;obtain ⟨⟨y,l'⟩,c,d⟩:=Pi.AQ e;cases d;exact g c x hx
  | tup cs=>simp only [Bg] at e;obtain ⟨⟨y,l'⟩,c,d⟩:=Pi.AQ e;cases d;exact g c x hx
  | ifc t v=>simp only [Bg] at e;obtain ⟨⟨y,l'⟩,c,d⟩:=Pi.AQ e;cases d;exact WS n _ _ _ c x hx
  | fn f a b =>
   simp only [Bg] at e;split at e
   ·rename_i y B z m u s;cases e;rcases List.mem_append.1 hx with hx | hx
    ·exact g u x hx
    ·exact g s x hx
   ·cases e
  | own j off len =>
   simp only [Bg] at e;split at e
   ·rename_i es ex fz k;replace e:=BD e;obtain ⟨_,e⟩:=e;obtain ⟨⟨y,l'⟩,c,d⟩:=Pi.AQ e;cases d;rcases List.mem_cons.1 hx with rfl | hx
    ·rw [k];simp
    ·exact g c x hx
   ·cases e
  | ptr j off =>
   simp only [Bg] at e;split at e
   ·rename_i cs fz k;replace e:=BD e;obtain ⟨_,e⟩:=e;obtain ⟨⟨y,l'⟩,c,d⟩:=Pi.AQ e;cases d;rcases List.mem_cons.1 hx with rfl | hx
    ·rw [k];simp
    ·exact g c x hx
   ·cases e
  | ept j i off =>
   simp only [Bg] at e;split at e
   ·rename_i es ex fz k;split at e
    ·replace e:=BD e;obtain ⟨_,e⟩:=e;obtain ⟨⟨y,l'⟩,c,d⟩:=Pi.AQ e;cases d;rcases List.mem_cons.1 hx with rfl | hx
     ·rw [k];simp
     ·exact g c x hx
    ·cases e
   ·cases e
  | yl _=>simp [Bg] at e
  | mp _=>simp [Bg] at e
  | _=>cases e;cases hx
theorem Kl {t:T PV} : ∀ {l:List Operand},∀ x∈Pi.KD t h l,h.get x≠none
 | [],x,hx=>by cases hx
 | o::l,x,hx=>by
  unfold Pi.KD at hx;split at hx
  ·split at hx
   ·rename_i q m a;rcases List.mem_append.1 hx with hx | hx
    ·exact WS _ _ _ _ a x hx
    ·exact Kl x hx
   ·exact Kl x hx
  ·exact Kl x hx
end
end Go.Proofs.YtfilfloanndddaaGreat.Sv
namespace Go.Proofs.YtfilfloanndddaaGreat.Sv
variable [Pi.Gl]
open Go.Proofs.YtfilfloanndddaaGreat.Pi (PV T Hp Blk DF UM PE A5 BM AS Bg CH)
section
variable {P:Program} {h hs:Hp}
theorem PH (c:Hp) : ∀ (l:List Nat) (h:Hp),∃ a,Pi.over c l h=some a/\a.nx=h.nx
 | [],h=>⟨h,rfl,rfl⟩
 | j::l,h=>by
  unfold Pi.over;split
  ·rename_i b f;obtain ⟨d,e3⟩:=Do h j b;obtain ⟨a,e2,e⟩:=PH c l d;exact ⟨a,by rw [e3];exact e2,by rw [e];exact (Hp.get_set e3).2⟩
  ·exact PH c l h
theorem Bz {h:Hp} : ∀ {l:List Nat} {x:Nat},x∈Pi.DA h l->x∈l
 | [],x,hx=>by simp [Pi.DA] at hx
 | j::l,x,hx=>by
  unfold Pi.DA at hx;split at hx
  ·exact List.mem_cons_of_mem _ (Bz hx)
  ·exact List.mem_cons_of_mem _ (Bz hx)
  ·rcases List.mem_cons.1 hx with rfl | hx
   ·simp
   ·exact List.mem_cons_of_mem _ (Bz hx)
theorem Rk {o:Op} (a:Pi.CQ o=true):(BG o<=1->Pi.Hy o=true)/\(BG o=2\/BG o=3->Pi.Hy o=false/\Pi.KE o=false)/\(BG o=0\/BG o=2 -> ∀ t h,Pi.CP t h o=[])/\(BG o=4->Pi.Hy o=false):=by
 cases o with
 | slice _ _ _ _ mx=>cases mx<;>simp [BG,Pi.Hy,Pi.KE]
 | makeMap _ r=>cases r<;>simp [BG,Pi.Hy,Pi.KE,Pi.CP]
 | call c =>
  cases hc:c.callee with
  | builtin b=>cases b<;>simp [BG,Pi.Hy,Pi.KE,hc]
  | _=>simp [BG,hc]
 | _=>simp [BG,Pi.Hy,Pi.KE,Pi.CP]
theorem P9 {t:T PV} {id:Nat} {o:Oper} {r:Pi.R} (I : ∀ ty x lo hi m,o.op = .slice ty x lo hi (some m) -> ∀ p,Pi.GU t x=some p -> ∀ j a b,p ≠ .own j a b) (f:Pi.CQ o.op=true) (s:h.get id=none) (e:Pi.BC P t h id o=some r) :
  (∀ v g,r = .val v g->BG o.op<=2\/BG o.op=4 -> ∃ d wr,(∀ rec,Pi.CZ P rec t h id o=some (v,d,id::Pi.CP t h o.op,wr))/\(∀ q,d.get q=g.get q)/\d.nx=h.nx/\(BG o.op<=1->wr=[]/\g=h) /\ ∀ w∈wr,w∈id::Pi.CP t h o.op) /\
  (∀ g,r = .skip g->BG o.op=3 -> ∃ d wr,(∀ rec,Pi.CZ P rec t h id o=some (.tup [],d,id::Pi.CP t h o.op,wr))/\(∀ q,d.get q=g.get q)/\d.nx=h.nx /\ ∀ w∈wr,w∈id::Pi.CP t h o.op):=by
 have i : ∀ q∈id::Pi.CP t h o.op,(h.cut (id::Pi.CP t h o.op)).get q=h.get q:=λq n=>by
  rw [Pi.Ii,if_pos ⟨n,by omega⟩]
 have low:=λhc=>WR (P:=P) (hs:=h.cut (id::Pi.CP t h o.op)) hc (λq n=>i q (List.mem_cons_of_mem _ n)) (λ_=>by rw [i id (by simp)];exact s) e;have sub:Pi.KM (h.cut (id::Pi.CP t h o.op)) h:=λx b hb=>(Pi.JD hb).2;have A:Nat.blt id (id+1)=true:=by simp
 have n:=Rk f
 have k : ∀ {c g:Hp},Pi.Lay (h.cut (id::Pi.CP t h o.op)) h c g id -> ∃ d,Pi.over c (id::Pi.CP t h o.op) h=some d/\(∀ q,d.get q=g.get q)/\d.nx=h.nx:=fun {c g} l=>by
  obtain ⟨d,e2,n2⟩:=PH c (id::Pi.CP t h o.op) h;refine ⟨d,e2,λq => ?_,n2⟩;rw [Pi.Hh e2 q,l.get q];by_cases G:q∈id::Pi.CP t h o.op
  ·rw [if_pos G]
   all_goals (cases c.get q<;>rfl)
  ·rw [if_neg G];cases N:c.get q with
   | none=>rfl
   | some b =>
    rcases l.keys q b N with ⟨b0,hb⟩ | hb
    ·exact absurd (Pi.JD hb).1 G
    ·exact absurd (by simp [hb]) G
 refine ⟨λv g z hc => ?_,λg z hc => ?_⟩
 ·obtain ⟨M,c,B⟩ : ∃ M c,Pi.BC P t (h.cut (id::Pi.CP t h o.op)) id o=some (.val M c):=by
   rcases hc with hc | hc
   ·exact (low (by omega)).1 v g z
   ·exact Uq I hc (λq n=>i q (List.mem_cons_of_mem _ n)) (λ_=>by rw [i id (by simp)];exact s) ⟨v,g,by rw [e,z]⟩
  have lay:=Pi.HF sub (λ_=>s) f B;obtain ⟨d,E,K⟩:=lay;rw [e,z] at E;cases E;by_cases C:BG o.op<=1
  ·have D:=n.1 C;have:=Pi.Mo D f (by rw [e,z]);refine ⟨h,[],λrec => ?_,λq=>by rw [this],rfl,λ_=>⟨rfl,this⟩,λ_ y=>by cases y⟩;unfold Pi.CZ;simp only [f,A,Bool.not_true,Bool.or_self,cond_false,B,D,cond_true]
  ·have u:Pi.Hy o.op=false:=by
    rcases hc with hc | hc
    ·exact (n.2.1 (.inl (by omega))).1
    ·exact n.2.2.2 hc
   obtain ⟨J,e3,L,n3⟩:=k K;refine ⟨J,bif Pi.KE o.op then id::Pi.CP t h o.op else Pi.DA h (id::Pi.CP t h o.op),λrec => ?_,L,n3,λh=>absurd h C,λw y => ?_⟩
   ·unfold Pi.CZ;simp only [f,A,Bool.not_true,Bool.or_self,cond_false,B,u,e3,Option.map_some]
   ·cases F:Pi.KE o.op with
    | true=>rw [F] at y;exact y
    | false=>rw [F] at y;exact Bz y
 ·obtain ⟨c,B⟩:=(low (by omega)).2 g z;have lay:=Pi.HF sub (λ_=>s) f B;obtain ⟨d,E,K⟩:=lay;rw [e,z] at E;cases E;have u:=n.2.1 (.inr hc);obtain ⟨J,e3,L,n3⟩:=k K;refine ⟨J,Pi.DA h (id::Pi.CP t h o.op),λrec => ?_,L,n3,λw y=>Bz y⟩;unfold Pi.CZ;simp only [f,A,Bool.not_true,Bool.or_self,cond_false,B,u.1,u.2,e3,Option.map_some]
theorem BR.there {X:Cx} {c:BA} {pid m:Nat} (d:BR X c (some (.blk pid m))) (e:c.live):X.h.get pid≠none:=by
 cases c with
 | box=>obtain ⟨_,_,_,_,a,_,b,_⟩:=d;cases a;rw [b];simp
 | row =>
  rcases d with ⟨_,_,_,_,a,_,b,_⟩ | ⟨a,_⟩ | ⟨_,a,_⟩
  ·cases a;rw [b];simp
  ·cases a
  ·cases a
 | mp=>obtain ⟨_,_,_,a,_,b,_⟩:=d;cases a;rw [b];simp
 | lp=>obtain ⟨_,_,_,_,_,a,_,b,_⟩:=d;cases a;rw [b];simp
 | df=>obtain ⟨_,_,_,a,_,b,_⟩:=d;cases a;rw [b];simp
 | dead=>exact e.elim
theorem JN {X:Cx} {h:H} {n id pid m:Nat} (r:RH X h n) (a:Mz h id=true) (f:X.π id=some (.blk pid m)):X.h.get pid≠none:=by
 unfold Mz at a;split at a
 ·cases a
 ·rename_i c d e
  have b:c.live:=by
   cases c<;>first | trivial | exact absurd e (by simpa using d)
  exact (f ▸ r.blk _ _ e).there b
 ·cases a
theorem dL {X:Cx} {h:H} {n:Nat} (r:RH X h n) {v:V} {p:PV} (d:VR X v p) (s:lr h v=true) : ∀ q∈Pi.AY p,X.h.get q≠none:=by
 intro q j;cases v with
 | ow id =>
  simp only [VR] at d;cases u:X.π id with
  | none=>rw [u] at d;exact d.elim
  | some a =>
   rw [u] at d;cases a with
   | blk pid len=>simp only at d;subst d;simp only [Pi.AY,List.mem_singleton] at j;subst j;exact JN r s u
   | nil=>simp only at d;subst d;simp [Pi.AY] at j
   | fz es=>simp only at d;subst d;simp [Pi.AY] at j
 | own id off len=>simp only [VR] at d;obtain ⟨pid,m,o,rfl⟩:=d;simp only [Pi.AY,List.mem_singleton] at j;subst j;exact JN r s o
 | ptr id off=>simp only [VR] at d;obtain ⟨pid,m,o,rfl⟩:=d;simp only [Pi.AY,List.mem_singleton] at j;subst j;exact JN r s o
 | aptr id off k n=>simp only [VR] at d;obtain ⟨pid,m,o,rfl,_⟩:=d;simp only [Pi.AY,List.mem_singleton] at j;subst j;exact JN r s o
 | ept id i off=>simp only [VR] at d;obtain ⟨pid,m,o,rfl⟩:=d;simp only [Pi.AY,List.mem_singleton] at j;subst j;exact JN r s o
 | mp id=>simp only [VR] at d;obtain ⟨pid,m,o,rfl⟩:=d;simp only [Pi.AY,List.mem_singleton] at j;subst j;exact JN r s o
 | lf full g c l =>
  simp only [VR] at d;rcases d with ⟨o,_⟩ | ⟨f,es,o,_⟩ | ⟨pid,off,len,es,ex,fz,o,z,x,w,_⟩
  ·subst o;simp [Pi.AY] at j
  ·subst o;simp [Pi.AY] at j
  ·subst o;simp only [Pi.AY,List.mem_singleton] at j;subst j;rw [w];simp
 | view cs =>
  simp only [VR] at d;rcases d with ⟨y,rfl,_⟩ | ⟨pid,i,off,es,ex,fz,e,rfl,x,w,_⟩
  ·simp [Pi.AY] at j
  ·simp only [Pi.AY,List.mem_singleton] at j;subst j;rw [w];simp
 | exl f es=>simp only [VR] at d;obtain ⟨_,_,rfl,_⟩:=d;simp [Pi.AY] at j
 | pl g c l=>simp only [VR] at d;rcases d with ⟨rfl,_⟩ | ⟨_,_,rfl,_⟩<;>simp [Pi.AY] at j
 | pv cs=>simp only [VR] at d;obtain ⟨_,rfl,_⟩:=d;simp [Pi.AY] at j
 | agg cs=>simp only [VR] at d;obtain ⟨_,rfl,_⟩:=d;simp [Pi.AY] at j
 | tup cs=>simp only [VR] at d;obtain ⟨_,rfl,_⟩:=d;simp [Pi.AY] at j
 | fn f a b=>simp only [VR] at d;obtain ⟨_,_,rfl,_⟩:=d;simp [Pi.AY] at j
 | yl id=>simp only [VR] at d;obtain ⟨_,_,_,rfl⟩:=d;simp [Pi.AY] at j
 | ifc t v=>simp only [VR] at d;obtain ⟨_,rfl,_⟩:=d;simp [Pi.AY] at j
 | _=>simp only [VR] at d;subst d;simp [Pi.AY] at j
theorem Ur {v:Value} {p:PV} (e:Pi.Hq v=some p):Pi.AY p=[]:=by
 unfold Pi.Hq at e;split at e<;>first | cases e | skip
 all_goals first | rfl | (cases e;rfl) | (replace e:=BD e;cases e.2;rfl) | (split at e<;>first | (cases e;rfl) | cases e)
theorem MI {v:Value} {p:PV} (e:Pi.I7 v=some p):Pi.AY p=[]:=by
 unfold Pi.I7 at e;split at e
 ·obtain ⟨x,_,rfl⟩:=Pi.AQ e;rfl
 ·replace e:=BD e;cases e.2;rfl
 ·split at e
  ·cases e;rfl
  ·cases e
 ·exact Ur e
theorem QA {X:Cx} {h:H} {n:Nat} (r:RH X h n) {t:T V} {i:T PV} (e:TR X t i) : ∀ {l:List Operand},M4 h t l=true -> ∀ q∈Pi.D3 i l,X.h.get q≠none
 | [],_,q,hq=>by simp [Pi.D3] at hq
 | o::l,hl,q,hq=>by
  unfold Pi.D3 at hq
  have j:M4 h t l=true:=by
   cases o with
   | tmp k=>simp only [M4,Bool.and_eq_true] at hl;exact hl.2
   | _=>exact hl
  split at hq
  ·rename_i p a;rcases List.mem_append.1 hq with hq | hq
   ·cases o with
    | tmp k =>
     simp only [M4,Bool.and_eq_true] at hl;have d:=hl.1;split at d
     ·rename_i v m;obtain ⟨s,c,b⟩:=e _ _ m;simp only [Pi.GU,c,Option.getD_some,Option.some.injEq] at a;subst a;exact dL r b d q hq
     ·cases d
    | const v=>rw [MI a] at hq;cases hq
    | func f=>simp only [Pi.GU,Option.some.injEq] at a;subst a;simp [Pi.AY] at hq
    | global g =>
     simp only [Pi.GU] at a;obtain ⟨cs,_,rfl⟩:=Pi.AQ a;simp [Pi.AY] at hq
   ·exact QA r e j q hq
  ·exact QA r e j q hq
theorem MJ {t:T PV} {q:Nat} : ∀ {l:List Operand},q∈Pi.ID t l->q∈Pi.D3 t l
 | [],h=>h
 | o::l,h=>by
  unfold Pi.ID at h;unfold Pi.D3;split at h
  ·rename_i p a
   try rw [a]
   try simp only
   rcases List.mem_append.1 h with h | h
   ·refine List.mem_append_left _ ?_;cases p<;>first | exact h | (simp [Pi.Li] at h)
   ·exact List.mem_append_right _ (MJ h)
  ·rename_i a
   try rw [a]
   exact MJ h
theorem YX {X:Cx} {h:H} {n:Nat} (r:RH X h n) {t:T V} {e:T PV} (m:TR X t e) {o:Op} (hc:BG o<=4) (f:Pi.CQ o=true) (l:M4 h t (Pi.Cb o)=true) : ∀ q∈Pi.CP e X.h o,X.h.get q≠none:=by
 intro q d;have:=QA r m l;cases o with
 | load _ _=>exact this q d
 | indexAddr _ _ _=>exact this q d
 | store _ _ _=>exact this q d
 | slice ty x lo hi mx =>
  cases mx with
  | some _=>exact Kl q (by simpa [Pi.CP] using d)
  | none =>
   refine this q ?_;simp only [Pi.CP,Option.isSome_none,cond_false] at d
   have i : ∀ {a b:List Operand},q∈Pi.D3 e a->q∈Pi.D3 e (a++b):=by
    intro a b
    induction a with
    | nil=>intro h;simp [Pi.D3] at h
    | cons o a j =>
     intro h;simp only [List.cons_append,Pi.D3] at h ⊢;split at h
     ·rename_i p g
      try rw [g]
      try simp only
      rcases List.mem_append.1 h with h | h
      ·exact List.mem_append_left _ h
      ·exact List.mem_append_right _ (j h)
     ·rename_i g
      try rw [g]
      exact j h
   exact i (a:=[x]) d
 | call c =>
  simp only [Pi.CP] at d;split at d
  ·rename_i b k;simp only [Pi.Cb,k] at this;refine this q ?_;split at d
   ·exact MJ d
   ·exact d
  ·cases d
 | buildSlice _ _ _=>exact Kl q d
 | lookup _ _ _ _=>cases f
 | mapUpdate _ _ _ _=>cases f
 | insert _ _ _ _=>cases f
 | _=>simp [Pi.CP] at d
end
end Go.Proofs.YtfilfloanndddaaGreat.Sv
namespace Go.Proofs.YtfilfloanndddaaGreat.Sv
variable [Pi.Gl]
open Go.Proofs.YtfilfloanndddaaGreat.Pi (PV T Hp Blk DF UM PE A5 BM AS Bg CH)
section
variable {P:Program} {tab:Jc}
def Cx.with (X:Cx) (a:Hp):Cx:={ X with h:=a }
theorem Jx {X:Cx} {a:Hp} (g : ∀ q,a.get q=X.h.get q):Up X (X.with a):=⟨λ_ _ h=>h,λq es ex fz c b=>⟨⟨fz,by show a.get q=_;rw [g];exact b⟩,c⟩⟩
theorem RH.with {X:Cx} {h:H} {n:Nat} {a:Hp} (r:RH X h n) (g : ∀ q,a.get q=X.h.get q) (e:a.nx=X.h.nx):RH (X.with a) h n :=
 ⟨λi c hi=>(r.blk i c hi).keep (Jx g) λ_ _ _ d=>⟨g _,d⟩,r.inj,r.dom,λq b=>by show a.get q=none;rw [g];exact r.fresh q (by have:a.nx<=q:=b;omega),λq b=>by show a.get q≠none;rw [g];exact r.ob q b⟩
theorem St.with {X Y:Cx} {h h':H} {id idP:Nat} {a:Hp} (s:St X h id idP Y h') (g : ∀ q,a.get q=Y.h.get q) (c:a.nx=Y.h.nx):St X h id idP (Y.with a) h' :=
 ⟨s.up.trans (Jx g),by show a.nx=_;rw [c];exact s.nx,s.pin,λq e k=>by show a.get q=none;rw [g];exact s.hpn q e k,s.lk,λq l j nt t i f b d k=>by show a.get q=_;rw [g];exact s.lps _ _ _ _ _ _ _ _ _ k⟩
def FpA (X:Cx) (l:List Nat×Bool) (q:Nat):Prop:=(∃ j∈l.1,∃ m,X.π j=some (.blk q m))\/(l.2=true/\X.Q q /\ ∃ es ex fz,X.h.get q=some (.row es ex fz))
theorem FpA.mono {X Y:Cx} (u:Up X Y) {l:List Nat×Bool} {q:Nat} (h:FpA X l q):FpA Y l q:=by
 rcases h with ⟨j,d,m,g⟩ | ⟨i,f,es,ex,fz,b⟩
 ·exact .inl ⟨j,d,m,u.pi _ _ g⟩
 ·obtain ⟨⟨a,e⟩,c⟩:=u.rows _ _ _ _ f b;exact .inr ⟨i,c,es,ex,a,e⟩
def Zh (X:Cx) (own:Nat) (f:Option (List Nat×Bool)) (rd:List Nat):Prop := ∀ l,f=some l -> ∀ q∈rd,q=own\/FpA X l q
def FpP (X:Cx) (own:Nat) (f:Option (List Nat×Bool)) (rd:List Nat):Prop := ∀ l,f=some l -> ∀ q∈rd,(q=own/\X.h.get q=none)\/FpA X l q
def PastE (X:Cx) (baseP i len:Nat) (a:Nat×Nat×Option (List Nat×Bool)) (b:Nat×List Nat×List Nat):Prop :=
 a.1=b.1/\b.1<i/\(∀ w∈b.2.2,w∈b.2.1)/\(a.2.1<=1->b.2.2=[])/\(∀ q∈b.2.1,∀ k,i<=k->k<len->q≠baseP+k)/\(a.2.1=0->b.2.1=[baseP+b.1]/\X.h.get (baseP+b.1)=none)/\FpP X (baseP+b.1) a.2.2 b.2.1
theorem DD : ∀ {a b:List Nat},(∀ x∈a,x ∉ b)->Pi.HB a b=false
 | [],b,_=>rfl
 | x::a,b,h=>by
  simp only [Pi.HB,Bool.or_eq_false_iff,List.any_eq_false];refine ⟨λy e d => ?_,DD λz c=>h z (by simp [c])⟩;have:=Nat.eq_of_beq_eq_true d;subst this;exact h x (by simp) e
theorem Us : ∀ {a b:List Nat},Pi.HB a b=false -> ∀ x∈a,x ∉ b
 | [],_,_,x,hx=>by cases hx
 | y::a,b,h,x,hx=>by
  simp only [Pi.HB,Bool.or_eq_false_iff,List.any_eq_false] at h;rcases List.mem_cons.1 hx with rfl | hx
  ·intro c;exact h.1 x c (by simp)
  ·exact Us h.2 x hx
theorem OB {h:H} : ∀ {l:List Nat},KG h l=true -> ∀ j∈l,Mz h j=true
 | [],_,j,hj=>by cases hj
 | k::l,hl,j,hj=>by
  simp only [KG,Bool.and_eq_true] at hl;rcases List.mem_cons.1 hj with rfl | hj
  ·exact hl.1
  ·exact OB hl.2 j hj
theorem OC {h:H} {id:Nat} (a:Mz h id=true) : ∃ b,h.get id=some b/\b.live:=by
 unfold Mz at a;split at a
 ·cases a
 ·rename_i c d e;exact ⟨c,e,by cases c<;>first | trivial | exact absurd e (by simpa using d)⟩
 ·cases a
theorem OD {h:H} : ∀ {l:List Nat},UT h l=true -> ∀ j∈l,∃ b,h.get j=some b
 | [],_,j,hj=>by cases hj
 | k::l,hl,j,hj=>by
  simp only [UT,Bool.and_eq_true] at hl;rcases List.mem_cons.1 hj with rfl | hj
  ·exact Option.isSome_iff_exists.1 hl.1
  ·exact OD hl.2 j hj
theorem JO {X:Cx} {h:H} {n:Nat} (B:RH X h n) {baseP i len I c:Nat} {f:Option (List Nat×Bool)} {rd wr:List Nat} (hf:Zh X (baseP+i) f rd) (hi:i<len) (L : ∀ w∈wr,w∈rd) (h1:c<=1->wr=[]) (Y:c=0\/c=2->rd=[baseP+i]) (u : ∀ q∈rd,q=baseP+i\/X.h.get q≠none) :
  ∀ {pa:List (Nat×Nat×Option (List Nat×Bool))} {pp:List (Nat×List Nat×List Nat)},L2 (PastE X baseP i len) pa pp->IH h I c f pa=true->Pi.Lv I rd wr pp=true
 | [],pp,y,_=>by rw [L2.nil_inv y];rfl
 | (j,d,g)::pa,pp,y,ho=>by
  obtain ⟨⟨j',r,w⟩,pp',rfl,⟨e1,e2,e3,S,e5,e6,e7⟩,Z⟩:=L2.cons_inv y;simp only at e1 e2 e3 S e5 e6 e7;subst e1;simp only [IH,Bool.and_eq_true,Bool.or_eq_true] at ho;simp only [Pi.Lv,Bool.and_eq_true,Bool.or_eq_true,Bool.not_eq_true'];refine ⟨?_,JO B hf hi L h1 Y u Z ho.2⟩;have own : ∀ x∈r,x≠baseP+i:=λx e=>e5 x e i (Nat.le_refl _) hi;rcases ho.1 with hb | hb | hb | hb | hb | hb
  ·exact .inl hb
  ·have hc:=Nat.eq_of_beq_eq_true hb;refine .inr ?_;rw [Y (.inl hc),h1 (by omega)];exact Bool.or_eq_false_iff.2 ⟨DD λx e k=>own x (e3 x e) (by simpa using k),rfl⟩
  ·have hc:=Nat.eq_of_beq_eq_true hb;have z:=Y (.inr hc);refine .inr (Bool.or_eq_false_iff.2 ⟨DD λx e k=>own x (e3 x e) (by rw [z] at k;simpa using k),DD λx e k=>own x k (by have:=L x e;rw [z] at this;simpa using this)⟩)
  ·have hd:=Nat.eq_of_beq_eq_true hb;obtain ⟨f1,f2⟩:=e6 hd;refine .inr (Bool.or_eq_false_iff.2 ⟨by rw [S (by omega)];rfl,DD λx e k => ?_⟩);rw [f1] at k;have U:x=baseP+j:=by simpa using k
   rcases u x (L x e) with hh | hh
   ·omega
   ·rw [U] at hh;exact hh f2
  ·have hc:=Nat.eq_of_beq_eq_true hb.1;have hd:=Nat.eq_of_beq_eq_true hb.2;exact .inr (Bool.or_eq_false_iff.2 ⟨by rw [S (by omega)];rfl,by rw [h1 (by omega)];rfl⟩)
  ·unfold ni at hb;split at hb
   ·rename_i a b;simp only [Bool.and_eq_true,Bool.not_eq_true'] at hb;obtain ⟨k,C,D,F⟩:=hb
    have G : ∀ {l:List Nat} {j q m:Nat},KG h l=true->j∈l->X.π j=some (.blk q m)->X.O q:=λy W K=>by
     obtain ⟨N,A,J⟩:=OC (OB y _ W);exact (K ▸ B.blk _ _ A).own J
    have E : ∀ {l:List Nat} {j q m:Nat},UT h l=true->j∈l->X.π j=some (.blk q m)->X.O q:=λy W K=>by
     obtain ⟨N,A⟩:=OD y _ W;have hB:=B.blk _ _ A;cases N with
     | dead=>exact (hB _ _ K).1
     | _=>exact (K ▸ hB).own trivial
    have no : ∀ x∈rd,x ∉ r:=λx e z=>by
     rcases hf a rfl x e with hh | h1
     ·exact own x z hh
     ·rcases e7 b rfl x z with ⟨hh,M⟩ | h2
      ·rcases u x e with hk | hk
       ·exact own x z hk
       ·exact hk M
      ·rcases h1 with ⟨j1,t,m1,s⟩ | ⟨q1,P,_⟩
       ·rcases h2 with ⟨j2,p,m2,o⟩ | ⟨_,P,_⟩
        ·obtain ⟨N,A,J⟩:=OC (OB D j1 t);obtain ⟨b2,g2⟩:=OD F j2 p
         have l2:b2.live:=by
          cases b2 with
          | dead=>exact absurd ((B.blk _ _ g2) _ _ o).2 ((s ▸ B.blk _ _ A).nd J)
          | _=>trivial
         have:=B.inj _ _ _ _ _ _ _ A g2 J l2 s o;subst this;exact Us k _ t p
        ·exact P (G D t s)
       ·rcases h2 with ⟨j2,p,m2,o⟩ | ⟨q3,_,_⟩
        ·exact P (E F p o)
        ·rw [q1,q3] at C;cases C
    exact .inr (Bool.or_eq_false_iff.2 ⟨DD λx e k=>no x k (e3 x e),DD λx e k=>no x (L x e) k⟩)
   ·cases hb
theorem FpP.mono {X Y:Cx} (u:Up X Y) {own:Nat} (a:X.h.get own=none->Y.h.get own=none) {f:Option (List Nat×Bool)} {rd:List Nat} (h:FpP X own f rd):FpP Y own f rd:=λl b q c=>by
 rcases h l b q c with ⟨rfl,h1⟩ | h1
 ·exact .inl ⟨rfl,a h1⟩
 ·exact .inr (h1.mono u)
theorem PastE.next {X Y:Cx} {h h':H} {baseP base i len:Nat} {a:Nat×Nat×Option (List Nat×Bool)} {b:Nat×List Nat×List Nat} (s:St X h (base+i) (baseP+i) Y h') (k:PastE X baseP i len a b):PastE Y baseP (i+1) len a b:=by
 obtain ⟨e1,e2,e3,m,j,d,l⟩:=k;exact ⟨e1,by omega,e3,m,λq f k n g=>j q f k (by omega) g,λc=>⟨(d c).1,s.hpn _ (by omega) (d c).2⟩,l.mono s.up λe=>s.hpn _ (by omega) e⟩
theorem Gk {X:Cx} {t:T V} {C:T PV} (x:TR X t C) : ∀ {ops:List Operand} {l:List Nat×Bool},ZS t ops=some l -> ∀ q∈Pi.D3 C ops,FpA X l q
 | [],_,_,q,hq=>by simp [Pi.D3] at hq
 | o::ops,l,e,q,hq=>by
  unfold Pi.D3 at hq;cases o with
  | tmp k =>
   unfold ZS at e
   have D : ∀ {v:V},t.get k=some v -> ∃ p,Pi.GU C (.tmp k)=some p/\VR X v p:=λr=>by
    obtain ⟨M,B,d⟩:=x _ _ r;exact ⟨M,by simp only [Pi.GU,B,Option.getD_some],d⟩
   have w : ∀ {v:V} {id:Nat},t.get k=some v->(∀ p,VR X v p -> ∀ q∈Pi.AY p,∃ m,X.π id=some (.blk q m))->((ZS t ops).map (λa=>(id::a.1,a.2))=some l)->FpA X l q:=fun {v id} r G e=>by
    obtain ⟨p,s,d⟩:=D r;rw [s] at hq;obtain ⟨l',z,rfl⟩:=Pi.AQ e;rcases List.mem_append.1 hq with hq | hq
    ·obtain ⟨m,F⟩:=G p d q hq;exact .inl ⟨id,by simp,m,F⟩
    ·rcases Gk x z q hq with ⟨j,N,m,F⟩ | hq
     ·exact .inl ⟨j,by simp [N],m,F⟩
     ·exact .inr hq
   have two : ∀ {v:V},t.get k=some v->(∀ p,VR X v p -> ∀ q∈Pi.AY p,X.Q q /\ ∃ es ex fz,X.h.get q=some (.row es ex fz))->((ZS t ops).map (λa=>(a.1,true))=some l)->FpA X l q:=fun {v} r G e=>by
    obtain ⟨p,s,d⟩:=D r;rw [s] at hq;obtain ⟨l',z,rfl⟩:=Pi.AQ e;rcases List.mem_append.1 hq with hq | hq
    ·exact .inr ⟨rfl,G p d q hq⟩
    ·rcases Gk x z q hq with h | hq
     ·exact .inl h
     ·exact .inr ⟨rfl,hq.2⟩
   split at e
   ·rename_i id r;refine w r (λp d q hq => ?_) e;simp only [VR] at d;cases s:X.π id with
    | none=>rw [s] at d;exact d.elim
    | some a =>
     rw [s] at d;cases a with
     | blk pid len=>simp only at d;subst d;simp only [Pi.AY,List.mem_singleton] at hq;subst hq;exact ⟨_,rfl⟩
     | nil=>simp only at d;subst d;simp [Pi.AY] at hq
     | fz es=>simp only at d;subst d;simp [Pi.AY] at hq
   ·rename_i id off len r;refine w r (λp d q hq => ?_) e;simp only [VR] at d;obtain ⟨pid,m,u,rfl⟩:=d;simp only [Pi.AY,List.mem_singleton] at hq;subst hq;exact ⟨_,u⟩
   ·rename_i id off r;refine w r (λp d q hq => ?_) e;simp only [VR] at d;obtain ⟨pid,m,u,rfl⟩:=d;simp only [Pi.AY,List.mem_singleton] at hq;subst hq;exact ⟨_,u⟩
   ·rename_i id i off r;refine w r (λp d q hq => ?_) e;simp only [VR] at d;obtain ⟨pid,m,u,rfl⟩:=d;simp only [Pi.AY,List.mem_singleton] at hq;subst hq;exact ⟨_,u⟩
   ·rename_i id off k len r;refine w r (λp d q hq => ?_) e;simp only [VR] at d;obtain ⟨pid,m,u,rfl,_⟩:=d;simp only [Pi.AY,List.mem_singleton] at hq;subst hq;exact ⟨_,u⟩
   ·rename_i id r;refine w r (λp d q hq => ?_) e;simp only [VR] at d;obtain ⟨pid,m,u,rfl⟩:=d;simp only [Pi.AY,List.mem_singleton] at hq;subst hq;exact ⟨_,u⟩
   ·rename_i f g c P r;refine two r (λp d q hq => ?_) e;simp only [VR] at d;rcases d with ⟨u,_⟩ | ⟨f,es,u,_⟩ | ⟨pid,off,len,es,ex,fz,u,S,A,E,_⟩
    ·subst u;simp [Pi.AY] at hq
    ·subst u;simp [Pi.AY] at hq
    ·subst u;simp only [Pi.AY,List.mem_singleton] at hq;subst hq;exact ⟨A,_,_,_,E⟩
   ·rename_i cs r;refine two r (λp d q hq => ?_) e;simp only [VR] at d;rcases d with ⟨O,rfl,_⟩ | ⟨pid,i,off,es,ex,fz,e,rfl,A,E,_⟩
    ·simp [Pi.AY] at hq
    ·simp only [Pi.AY,List.mem_singleton] at hq;subst hq;exact ⟨A,_,_,_,E⟩
   ·rename_i v n1 n2 n3 n4 I K L J r;obtain ⟨p,s,d⟩:=D r;rw [s] at hq;rcases List.mem_append.1 hq with hq | hq
    ·exfalso;cases v with
     | ow id=>exact n1 _ rfl
     | own id off len=>exact n2 _ _ _ rfl
     | ptr id off=>exact n3 _ _ rfl
     | ept id i off=>exact n4 _ _ _ rfl
     | aptr id off k n=>exact I _ _ _ _ rfl
     | mp id=>exact K _ rfl
     | lf full g c l=>exact L _ _ _ _ rfl
     | view cs=>exact J _ rfl
     | pl g c l=>simp only [VR] at d;rcases d with ⟨rfl,_⟩ | ⟨_,_,rfl,_⟩<;>simp [Pi.AY] at hq
     | pv cs=>simp only [VR] at d;obtain ⟨_,rfl,_⟩:=d;simp [Pi.AY] at hq
     | exl f es=>simp only [VR] at d;obtain ⟨_,_,rfl,_⟩:=d;simp [Pi.AY] at hq
     | agg cs=>simp only [VR] at d;obtain ⟨_,rfl,_⟩:=d;simp [Pi.AY] at hq
     | tup cs=>simp only [VR] at d;obtain ⟨_,rfl,_⟩:=d;simp [Pi.AY] at hq
     | fn f a b=>simp only [VR] at d;obtain ⟨_,_,rfl,_⟩:=d;simp [Pi.AY] at hq
     | yl id=>simp only [VR] at d;obtain ⟨_,_,_,rfl⟩:=d;simp [Pi.AY] at hq
     | ifc t v=>simp only [VR] at d;obtain ⟨_,rfl,_⟩:=d;simp [Pi.AY] at hq
     | _=>simp only [VR] at d;subst d;simp [Pi.AY] at hq
    ·exact Gk x e q hq
   ·cases e
  | const v =>
   have y:ZS t ops=some l:=e;split at hq
   ·rename_i p s;rcases List.mem_append.1 hq with hq | hq
    ·rw [MI s] at hq;cases hq
    ·exact Gk x y q hq
   ·exact Gk x y q hq
  | func f =>
   have y:ZS t ops=some l:=e;split at hq
   ·rename_i p s;rcases List.mem_append.1 hq with hq | hq
    ·simp only [Pi.GU,Option.some.injEq] at s;subst s;simp [Pi.AY] at hq
    ·exact Gk x y q hq
   ·exact Gk x y q hq
  | global g =>
   have y:ZS t ops=some l:=e;split at hq
   ·rename_i p s;simp only [Pi.GU] at s;obtain ⟨cs,_,rfl⟩:=Pi.AQ s;rcases List.mem_append.1 hq with hq | hq
    ·simp [Pi.AY] at hq
    ·exact Gk x y q hq
   ·exact Gk x y q hq
theorem OE {t:T PV} {q:Nat} {b:List Operand} : ∀ {a:List Operand},q∈Pi.D3 t a->q∈Pi.D3 t (a++b)
 | [],h=>by simp [Pi.D3] at h
 | o::a,h=>by
  simp only [List.cons_append,Pi.D3] at h ⊢;split at h
  ·rename_i p c
   try rw [c]
   try simp only
   rcases List.mem_append.1 h with h | h
   ·exact List.mem_append_left _ h
   ·exact List.mem_append_right _ (OE h)
  ·rename_i c
   try rw [c]
   exact OE h
theorem QB {f:PV->Option (PV×List Nat)} : ∀ {a b:List PV} {g:List PV} {c:List Nat},AS f (a++b)=some (g,c) -> ∃ j e i d,AS f a=some (j,e)/\AS f b=some (i,d)/\c=e++d
 | [],b,g,c,h=>⟨[],[],g,c,rfl,h,rfl⟩
 | p::a,b,g,c,h=>by
  simp only [List.cons_append,AS] at h;split at h
  ·rename_i q l m l' o k;cases h;obtain ⟨j,e,i,d,r,n,rfl⟩:=QB k;exact ⟨q::j,l++e,i,d,by simp only [AS,o,r],n,by simp⟩
  ·cases h
theorem Jy {f:PV->Option (PV×List Nat)} {p:PV} {e:List PV} {a:List Nat} (h:AS f [p]=some (e,a)) : ∃ q,f p=some (q,a):=by
 simp only [AS] at h;split at h
 ·rename_i q l c l' d b;cases b;cases h;exact ⟨q,by rw [d];simp⟩
 ·cases h
theorem OF {f:PV->Option (PV×List Nat)} {p q:PV} {a:List Nat} (h:f p=some (q,a)):AS f [p]=some ([q],a):=by
 simp only [AS,h,List.append_nil]
theorem Jz {f:PV->Option (PV×List Nat)} {T:Nat->Prop} : ∀ {es:List PV},(∀ e∈es,∀ q l,f e=some (q,l) -> ∀ i∈l,T i) -> ∀ {b:List PV} {a:List Nat},AS f es=some (b,a) -> ∀ i∈a,T i
 | [],_,b,a,h,i,hi=>by cases h;cases hi
 | e::es,hf,b,a,h,i,hi=>by
  simp only [AS] at h;split at h
  ·rename_i q l d l' g c;cases h;rcases List.mem_append.1 hi with hi | hi
   ·exact hf e (by simp) _ _ g i hi
   ·exact Jz (λe j=>hf e (by simp [j])) c i hi
  ·cases h
theorem WT {α:Type} {R:α->PV->Prop} {l:List α} {es:List PV} (h:L2 R l es) : ∀ e∈es,∃ y,R y e:=by
 induction h with
 | nil=>intro e he;cases he
 | cons a _ ih =>
  intro e he;rcases List.mem_cons.1 he with rfl | he
  ·exact ⟨_,a⟩
  ·exact ih e he
def dM (hh:Hp) (Q:Nat->Prop) (i:Nat):Prop:=Q i /\ ∃ es ex fz,hh.get i=some (.row es ex fz)
theorem MK {hh:Hp} {Q:Nat->Prop} : ∀ {c:Ty} {x:c.den} {t:List PV},DR hh Q c x t -> ∀ {d:Nat} {m:List PV} {k:List Nat},AS (Bg hh d) t=some (m,k) -> ∀ i∈k,dM hh Q i
 | .int _,_,_,e,d,m,k,h,i,hi=>by
  subst e;obtain ⟨q,h⟩:=Jy h;cases d<;>cases h;cases hi
 | .bool,_,_,e,d,m,k,h,i,hi=>by
  subst e;obtain ⟨q,h⟩:=Jy h;cases d<;>cases h;cases hi
 | .str,_,_,e,d,m,k,h,i,hi=>by
  subst e;obtain ⟨q,h⟩:=Jy h;cases d<;>cases h;cases hi
 | .unit,_,_,e,d,m,k,h,i,hi=>by subst e;cases h;cases hi
 | .pair a b,_,_,⟨p,q,e,A,o⟩,d,m,k,h,i,hi=>by
  subst e;obtain ⟨O,N,L,M,B,J,rfl⟩:=QB h;rcases List.mem_append.1 hi with hi | hi
  ·exact MK A B i hi
  ·exact MK o J i hi
 | .sl g c,_,_,⟨p,e,I⟩,d,m,k,h,i,hi=>by
  subst e;obtain ⟨q,h⟩:=Jy h;rcases I with ⟨rfl,_⟩ | ⟨f,es,rfl,_⟩ | ⟨pid,off,len,es,ex,fz,rfl,o,u,_,_,E⟩
  ·cases d<;>cases h;cases hi
  ·cases d<;>cases h;cases hi
  ·cases d with
   | zero=>cases h
   | succ d =>
    simp only [Bg,u] at h;replace h:=BD h;obtain ⟨_,h⟩:=h;obtain ⟨⟨xs,l⟩,D,C⟩:=Pi.AQ h;cases C;rcases List.mem_cons.1 hi with rfl | hi
    ·exact ⟨o,es,ex,fz,u⟩
    ·refine Jz (λe F q l n j z => ?_) D i hi;obtain ⟨y,w⟩:=WT E e F;cases g with
     | true =>
      obtain ⟨cs,rfl,G⟩:=w;cases d with
      | zero=>cases n
      | succ d =>
       rw [Js] at n;obtain ⟨⟨K,l'⟩,r,s⟩:=Pi.AQ n;cases s;exact MK G r j z
     | false=>exact MK (show DR hh Q c y [e] from w) (OF n) j z
theorem dN {hh:Hp} {Q:Nat->Prop} {g:Bool} {c:Ty} {y:c.den} {e q:PV} {d:Nat} {l:List Nat} (i:EP g (DR hh Q c) y e) (a:Bg hh d e=some (q,l)) : ∀ j∈l,dM hh Q j:=by
 intro j h;cases g with
 | true =>
  obtain ⟨cs,rfl,k⟩:=i;cases d with
  | zero=>cases a
  | succ d =>
   rw [Js] at a;obtain ⟨⟨m,l'⟩,f,b⟩:=Pi.AQ a;cases b;exact MK k f j h
 | false=>exact MK (show DR hh Q c y [e] from i) (OF a) j h
theorem WU {X:Cx} {f:V->Option (List Nat×Bool)} {d:Nat} (s : ∀ {v:V} {p:PV} {l:List Nat×Bool},VR X v p->f v=some l -> ∀ {q:PV} {c:List Nat},Bg X.h d p=some (q,c) -> ∀ i∈c,FpA X l i) :
  ∀ {vs:List V} {k:List PV} {l:List Nat×Bool},VRL X vs k->ng f vs=some l -> ∀ {r:List PV} {c:List Nat},AS (Bg X.h d) k=some (r,c) -> ∀ i∈c,FpA X l i
 | [],k,l,hv,e,r,c,h,i,hi=>by rw [hv.nil_inv] at h;cases h;cases hi
 | v::vs,k,l,hv,e,r,c,h,i,hi=>by
  obtain ⟨p,w,rfl,z,u⟩:=hv.cons_inv;unfold ng at e;split at e
  ·rename_i a b B t;cases e;simp only [AS] at h;split at h
   ·rename_i q l x l' A y;cases h;rcases List.mem_append.1 hi with hi | hi
    ·rcases s z B A i hi with ⟨j,g,m,n⟩ | ⟨g,o⟩
     ·exact .inl ⟨j,List.mem_append_left _ g,m,n⟩
     ·exact .inr ⟨by simp [g],o⟩
    ·rcases WU s u t y i hi with ⟨j,g,m,n⟩ | ⟨g,o⟩
     ·exact .inl ⟨j,List.mem_append_right _ g,m,n⟩
     ·exact .inr ⟨by simp [g],o⟩
   ·cases h
  ·cases e
theorem S4 {hh:Hp} {Q:Nat->Prop} : ∀ {c:Ty} {x:c.den} {d:List PV},c.hasSl=false->DR hh Q c x d->DR hh (λ_=>False) c x d
 | .int _,_,_,_,h=>h
 | .bool,_,_,_,h=>h
 | .str,_,_,_,h=>h
 | .unit,_,_,_,h=>h
 | .pair a b,_,_,hs,⟨p,q,e,i,f⟩=>by
  simp only [Ty.hasSl,Bool.or_eq_false_iff] at hs;exact ⟨p,q,e,S4 hs.1 i,S4 hs.2 f⟩
 | .sl g c,_,_,hs,_=>by cases hs
theorem dO {hh:Hp} {Q:Nat->Prop} {g:Bool} {c:Ty} {y:c.den} {e q:PV} {d:Nat} {l:List Nat} (hs:c.hasSl=false) (b:EP g (DR hh Q c) y e) (h:Bg hh d e=some (q,l)) : ∀ j∈l,False:=by
 intro j i
 have a:EP g (DR hh (λ_=>False) c) y e:=by
  cases g with
  | true=>obtain ⟨cs,rfl,f⟩:=b;exact ⟨cs,rfl,S4 hs f⟩
  | false=>exact S4 hs b
 exact (dN a h j i).1
theorem Rl {X:Cx} {h:H} {n:Nat} (r:RH X h n) {id off len pid m d:Nat} {q:PV} {u:List Nat} (J:X.π id=some (.blk pid m)) (S:Mz h id=true) (o:Bg X.h d (.own pid off len)=some (q,u)) : ∀ i∈u,FpA X ([id],cb h id) i:=by
 intro i hi;obtain ⟨b,D,z⟩:=OC S;have s:=r.blk _ _ D;rw [J] at s;cases d with
 | zero=>cases o
 | succ d =>
  simp only [Bg] at o;split at o
  ·rename_i es ex fz a;replace o:=BD o;obtain ⟨_,o⟩:=o;obtain ⟨⟨xs,l⟩,E,M⟩:=Pi.AQ o;cases M;rcases List.mem_cons.1 hi with rfl | hi
   ·exact .inl ⟨id,by simp,m,J⟩
   ·cases b with
    | row g c l P N C =>
     rcases s with ⟨K,B,es',U,k,Y,f,h4,h5,h7,I⟩ | ⟨k,_⟩ | ⟨_,k,_⟩
     ·cases k;rw [a] at f;cases f;cases hs:c.hasSl with
      | true =>
       refine .inr ⟨by unfold cb;rw [D];exact hs,Jz (T:=dM X.h X.Q) (λe x O l' p j A => ?_) E i hi⟩;obtain ⟨y,w⟩:=WT I e (List.mem_of_mem_drop (List.mem_of_mem_take x));exact dN w p j A
      | false =>
       exact (Jz (T:=λ_=>False) (λe x O l' p j A=>by
        obtain ⟨y,w⟩:=WT I e (List.mem_of_mem_drop (List.mem_of_mem_take x))
        exact dO hs w p j A) E i hi).elim
     ·cases k
     ·cases k
    | box cs fz C=>obtain ⟨_,_,_,_,k,_,f,_⟩:=s;cases k;rw [a] at f;cases f
    | mp kk g c l C=>obtain ⟨_,_,_,k,_,f,_⟩:=s;cases k;rw [a] at f;cases f
    | lp Z F nt t W L G d=>obtain ⟨_,_,_,_,_,k,_,f,_⟩:=s;cases k;rw [a] at f;cases f
    | df ds=>obtain ⟨_,_,_,k,_,f,_⟩:=s;cases k;rw [a] at f;cases f
    | dead=>exact z.elim
  ·cases o
theorem WV {X:Cx} {h:H} {B:Nat} (r:RH X h B) : ∀ {n:Nat} {v:V} {p:PV} {l:List Nat×Bool},VR X v p->pM h n v=some l -> ∀ {d:Nat} {q:PV} {o:List Nat},Bg X.h d p=some (q,o) -> ∀ i∈o,FpA X l i
 | 0,_,_,_,_,e,_,_,_,_,_,_=>by cases e
 | n+1,v,p,l,hv,e,d,q,o,j,i,hi=>by
  cases v with
  | bool b=>simp only [VR] at hv;subst hv;cases d<;>cases j;cases hi
  | int k b=>simp only [VR] at hv;subst hv;cases d<;>cases j;cases hi
  | str b=>simp only [VR] at hv;subst hv;cases d<;>cases j;cases hi
  | nils=>simp only [VR] at hv;subst hv;cases d<;>cases j;cases hi
  | pl g c l=>simp only [VR] at hv;rcases hv with ⟨rfl,_⟩ | ⟨_,_,rfl,_⟩<;>cases d<;>cases j<;>cases hi
  | exl f es=>simp only [VR] at hv;obtain ⟨_,_,rfl,_⟩:=hv;cases d<;>cases j;cases hi
  | lf f g c G =>
   cases e
   have y:DR X.h X.Q (.sl g c) G [p]:=by
    simp only [VR] at hv;refine ⟨p,rfl,?_⟩;rcases hv with h | ⟨f,es,t,_,w⟩ | ⟨pid,off,len,es,ex,fz,t,_,w,F,E,C,D⟩
    ·exact .inl h
    ·exact .inr (.inl ⟨f,es,t,w⟩)
    ·exact .inr (.inr ⟨pid,off,len,es,ex,fz,t,w,F,E,C,D⟩)
   obtain ⟨t,w⟩:=MK y (OF j) i hi;exact .inr ⟨rfl,t,w⟩
  | ow id =>
   replace e:=BD e;obtain ⟨s,e⟩:=e;cases e;simp only [VR] at hv;cases u:X.π id with
   | none=>rw [u] at hv;exact hv.elim
   | some a =>
    rw [u] at hv;cases a with
    | blk pid len=>simp only at hv;subst hv;exact Rl r u s j i hi
    | nil=>simp only at hv;subst hv;cases d<;>cases j;cases hi
    | fz es=>simp only at hv;subst hv;cases d<;>cases j;cases hi
  | own id off len =>
   replace e:=BD e;obtain ⟨s,e⟩:=e;cases e;simp only [VR] at hv;obtain ⟨pid,m,t,rfl⟩:=hv;exact Rl r t s j i hi
  | agg cs =>
   obtain ⟨I,rfl,z⟩:=hv.agg_inv;cases d with
   | zero=>cases j
   | succ d =>
    rw [Js] at j;obtain ⟨⟨J,l'⟩,A,x⟩:=Pi.AQ j;cases x;exact WU (fun {v p l} hv e {q o} j i hi=>WV r hv e j i hi) z e A i hi
  | _=>cases e
theorem WW {v:Value} {p q:PV} {hh:Hp} {d:Nat} {a:List Nat} (e:Pi.Hq v=some p) (h:Bg hh d p=some (q,a)):a=[]:=by
 cases d with
 | zero=>cases h
 | succ d=>rw [MH e] at h;cases h;rfl
theorem Zi {v:Value} {p q:PV} {hh:Hp} {a:List Nat} (e:Pi.I7 v=some p) (h:Bg hh Pi.BQ p=some (q,a)):a=[]:=by
 unfold Pi.I7 at e;split at e
 ·obtain ⟨x,c,rfl⟩:=Pi.AQ e;rw [show Pi.BQ=11+1 from rfl,Js,Kk c 10] at h;cases h;rfl
 ·replace e:=BD e;cases e.2;cases h;rfl
 ·split at e
  ·rename_i d b;cases e;rw [show Pi.BQ=11+1 from rfl,So,MH b 10] at h;cases h;rfl
  ·cases e
 ·exact WW e h
theorem FpA.left {X:Cx} {a b:List Nat×Bool} {q:Nat} (h:FpA X a q):FpA X (a.1++b.1,a.2||b.2) q:=by
 rcases h with ⟨j,c,m,d⟩ | ⟨c,e⟩
 ·exact .inl ⟨j,List.mem_append_left _ c,m,d⟩
 ·exact .inr ⟨by simp [c],e⟩
theorem FpA.right {X:Cx} {a b:List Nat×Bool} {q:Nat} (h:FpA X b q):FpA X (a.1++b.1,a.2||b.2) q:=by
 rcases h with ⟨j,c,m,d⟩ | ⟨c,e⟩
 ·exact .inl ⟨j,List.mem_append_right _ c,m,d⟩
 ·exact .inr ⟨by simp [c],e⟩
theorem IP {X:Cx} {h:H} {A:Nat} (r:RH X h A) {t:T V} {n:T PV} (c:TR X t n) : ∀ {ops:List Operand} {l:List Nat×Bool},kF h t ops=some l -> ∀ q∈Pi.KD n X.h ops,FpA X l q
 | [],_,_,q,hq=>by simp [Pi.KD] at hq
 | o::ops,l,e,q,hq=>by
  unfold Pi.KD at hq;cases o with
  | tmp k =>
   unfold kF at e;split at e
   ·rename_i v B;split at e
    ·rename_i a b C x;cases e;obtain ⟨z,u,s⟩:=c _ _ B;have w:Pi.GU n (.tmp k)=some z:=by simp only [Pi.GU,u,Option.getD_some]
     rw [w] at hq;simp only at hq;split at hq
     ·rename_i y m i;rcases List.mem_append.1 hq with hq | hq
      ·exact (WV r s C i q hq).left
      ·exact (IP r c x q hq).right
     ·exact (IP r c x q hq).right
    ·cases e
   ·cases e
  | const v =>
   have d:kF h t ops=some l:=e;split at hq
   ·rename_i p j;split at hq
    ·rename_i y m i;rcases List.mem_append.1 hq with hq | hq
     ·rw [Zi j i] at hq;cases hq
     ·exact IP r c d q hq
    ·exact IP r c d q hq
   ·exact IP r c d q hq
  | func f =>
   have d:kF h t ops=some l:=e;simp only [Pi.GU] at hq;split at hq
   ·rename_i y m i;rcases List.mem_append.1 hq with hq | hq
    ·have:m=[]:=by
      rw [show Pi.BQ=11+1 from rfl,WD] at i;simp only [AS,List.append_nil,Option.some.injEq,Prod.mk.injEq] at i;exact i.2.symm
     rw [this] at hq;cases hq
    ·exact IP r c d q hq
   ·exact IP r c d q hq
  | global g =>
   have d:kF h t ops=some l:=e;split at hq
   ·rename_i p j;simp only [Pi.GU] at j;obtain ⟨cs,_,rfl⟩:=Pi.AQ j;have:Pi.Bg X.h Pi.BQ (.view cs)=some (.view cs,[]):=rfl;rw [this] at hq;exact IP r c d q (by simpa using hq)
   ·exact IP r c d q hq
theorem J0 {X:Cx} {t:T V} {y:T PV} (n:TR X t y) : ∀ {ops:List Operand} {l:List Nat×Bool},kG t ops=some l -> ∀ q∈Pi.ID y ops,FpA X l q
 | [],_,_,q,hq=>by simp [Pi.ID] at hq
 | o::ops,l,e,q,hq=>by
  unfold Pi.ID at hq;cases o with
  | tmp k =>
   unfold kG at e;split at e
   ·rename_i id A;obtain ⟨l',B,rfl⟩:=Pi.AQ e;obtain ⟨x,u,i⟩:=n _ _ A;have w:Pi.GU y (.tmp k)=some x:=by simp only [Pi.GU,u,Option.getD_some]
    rw [w] at hq;simp only at hq;simp only [VR] at i;obtain ⟨pid,m,E,rfl⟩:=i;rcases List.mem_append.1 hq with hq | hq
    ·simp only [Pi.Li,List.mem_singleton] at hq;subst hq;exact .inl ⟨id,by simp,m,E⟩
    ·rcases J0 n B q hq with ⟨j,D,m,C⟩ | hq
     ·exact .inl ⟨j,by simp [D],m,C⟩
     ·exact .inr hq
   ·rename_i v z A;obtain ⟨x,u,i⟩:=n _ _ A;have w:Pi.GU y (.tmp k)=some x:=by simp only [Pi.GU,u,Option.getD_some]
    rw [w] at hq;simp only at hq;rcases List.mem_append.1 hq with hq | hq
    ·exfalso;cases x with
     | mp pid =>
      cases v with
      | mp id=>exact z _ rfl
      | ow id =>
       simp only [VR] at i;split at i
       ·cases i
       ·cases i
       ·cases i
       ·exact i
      | lf f g c l=>simp only [VR] at i;rcases i with ⟨h,_⟩ | ⟨_,_,h,_⟩ | ⟨_,_,_,_,_,_,h,_⟩<;>cases h
      | pl g c l=>simp only [VR] at i;rcases i with ⟨h,_⟩ | ⟨_,_,h,_⟩<;>cases h
      | view cs=>simp only [VR] at i;rcases i with ⟨_,h,_⟩ | ⟨_,_,_,_,_,_,_,h,_⟩<;>cases h
      | exl f es=>simp only [VR] at i;obtain ⟨_,_,h,_⟩:=i;cases h
      | agg cs=>simp only [VR] at i;obtain ⟨_,h,_⟩:=i;cases h
      | tup cs=>simp only [VR] at i;obtain ⟨_,h,_⟩:=i;cases h
      | pv cs=>simp only [VR] at i;obtain ⟨_,h,_⟩:=i;cases h
      | fn f a b=>simp only [VR] at i;obtain ⟨_,_,h,_⟩:=i;cases h
      | yl id=>simp only [VR] at i;obtain ⟨_,_,_,h⟩:=i;cases h
      | ifc t v=>simp only [VR] at i;obtain ⟨_,h,_⟩:=i;cases h
      | own a b c=>simp only [VR] at i;obtain ⟨_,_,_,h⟩:=i;cases h
      | ptr a b=>simp only [VR] at i;obtain ⟨_,_,_,h⟩:=i;cases h
      | ept a b c=>simp only [VR] at i;obtain ⟨_,_,_,h⟩:=i;cases h
      | aptr a b c d=>simp only [VR] at i;obtain ⟨_,_,_,h,_⟩:=i;cases h
      | _=>simp only [VR] at i;cases i
     | _=>simp [Pi.Li] at hq
    ·exact J0 n e q hq
   ·cases e
  | const v =>
   have r:kG t ops=some l:=e;split at hq
   ·rename_i p s;rcases List.mem_append.1 hq with hq | hq
    ·have:=MI s;cases p<;>first | (simp [Pi.Li] at hq;done) | (simp [Pi.AY] at this)
    ·exact J0 n r q hq
   ·exact J0 n r q hq
  | func f =>
   have r:kG t ops=some l:=e;split at hq
   ·rename_i p s;rcases List.mem_append.1 hq with hq | hq
    ·simp only [Pi.GU,Option.some.injEq] at s;subst s;simp [Pi.Li] at hq
    ·exact J0 n r q hq
   ·exact J0 n r q hq
  | global g =>
   have r:kG t ops=some l:=e;split at hq
   ·rename_i p s;simp only [Pi.GU] at s;obtain ⟨cs,_,rfl⟩:=Pi.AQ s;rcases List.mem_append.1 hq with hq | hq
    ·simp [Pi.Li] at hq
    ·exact J0 n r q hq
   ·exact J0 n r q hq
theorem lw {X:Cx} {h:H} {n:Nat} (r:RH X h n) {t:T V} {f:T PV} (e:TR X t f) {o:Op} (own:Nat):Zh X own (fp h t o) (own::Pi.CP f X.h o):=by
 intro l d q hq;rcases List.mem_cons.1 hq with hq | hq
 ·exact .inl hq
 refine .inr ?_;unfold fp at d;cases o with
 | load _ _=>exact Gk e d q hq
 | indexAddr _ _ _=>exact Gk e d q hq
 | store _ _ _=>exact Gk e d q hq
 | buildSlice _ _ parts=>exact IP r e d q hq
 | slice ty x lo hi mx =>
  cases mx with
  | some _=>exact IP r e d q (by simpa [Pi.CP] using hq)
  | none =>
   refine Gk e d q ?_;simp only [Pi.CP,Option.isSome_none,cond_false] at hq;exact OE (a:=[x]) hq
 | call c =>
  simp only [Pi.CP] at hq;simp only at d;split at hq
  ·rename_i b g;simp only [g] at d;cases b<;>first | exact J0 e d q hq | exact Gk e d q hq | cases d
  ·cases hq
 | alloc _=>simp [Pi.CP] at hq
 | box _ _=>simp [Pi.CP] at hq
 | makeSlice _ _ _=>simp [Pi.CP] at hq
 | makeMap _ r=>simp [Pi.CP] at hq
 | _=>cases d
theorem ke {t:T PV} {h i:Hp} {id:Nat} {o:Oper} {v:PV} (g:h.get id=none) (r:Pi.CQ o.op=true) (hc:BG o.op=2\/BG o.op=4) (e:Pi.BC P t h id o=some (.val v i)):i.get id=none\/Pi.AY v=[id]:=by
 unfold Pi.BC at e;generalize o.op=w at r hc e
 have nw : ∀ {b:Blk} {h:Hp} {k:PV},Pi.AY k=[id]->(h.new id b).map (λh=>Pi.R.val k h)=some (.val v i)->i.get id=none\/Pi.AY v=[id]:=λA e=>by
  obtain ⟨u,m,l⟩:=Pi.AQ e;cases l;exact .inr A
 have fr : ∀ {L:List Nat} {k:PV},(Pi.freeze h L).map (λh=>Pi.R.val k h)=some (.val v i)->i.get id=none\/Pi.AY v=[id]:=λe=>by
  obtain ⟨u,m,l⟩:=Pi.AQ e;cases l;exact .inl ((H2 m id).1 g)
 have s : ∀ {j:Nat} {b b0:Blk} {k:PV},h.get j=some b0->(h.set j b).map (λh=>Pi.R.val k h)=some (.val v i)->i.get id=none\/Pi.AY v=[id]:=λz e=>by
  obtain ⟨u,m,l⟩:=Pi.AQ e;cases l;refine .inl ?_;rw [(Hp.get_set m).1,if_neg (λhh=>by rw [hh,z] at g;cases g)];exact g
 cases w with
 | alloc _ =>
  simp only at e;unfold Pi.HU at e;split at e
  ·exact nw rfl e
  ·cases e
 | box _ x =>
  obtain ⟨p,_,e⟩:=Pi.Bn e;unfold Pi.Lh at e;split at e
  ·cases e
  ·exact nw rfl e
 | makeMap ty rs =>
  cases rs with
  | none=>exact nw rfl e
  | some _=>cases e
 | makeSlice _ x y =>
  obtain ⟨p,q,_,_,e⟩:=Pi.Ga e;unfold Pi.Hr at e;simp only [Bool.cond_eq_ite] at e
  repeat' split at e
  all_goals first | (cases e;done) | exact nw rfl e
 | buildSlice ty n B =>
  simp only at e;split at e
  ·unfold Pi.By at e;simp only [Bool.cond_eq_ite] at e
   repeat' split at e
   all_goals first | (cases e;done) | exact fr e
  ·cases e
 | slice ty x lo hi mx =>
  simp only at e;split at e
  ·obtain ⟨p,_,e⟩:=Pi.Bn e;unfold Pi.B7 Pi.Ib at e;simp only [Bool.cond_eq_ite] at e
   repeat' split at e
   all_goals first | (cases e;done) | exact fr e | (cases e;exact .inl g)
  ·cases e
 | call c =>
  simp only at e;split at e
  ·cases d:c.callee with
   | builtin b =>
    simp only [BG,d] at hc;simp only [d] at e;cases b with
    | append =>
     simp only [Pi.Al,Bool.cond_eq_ite] at e;split at e
     ·split at e
      ·unfold Pi.KL at e;simp only [Bool.cond_eq_ite] at e
       repeat' split at e
       all_goals first | (cases e;done) | exact nw rfl e | (cases e;exact .inl g) | (refine s (b0 := ?_) ?_ e;rotate_left;assumption)
      ·cases e
     ·cases e
    | copy =>
     simp only [Pi.Al,Bool.cond_eq_ite] at e
     repeat' split at e
     all_goals first | (cases e;done) | (refine s (b0 := ?_) ?_ e;rotate_left;assumption)
    | _=>simp at hc
   | value f=>simp [BG,d] at hc
   | invoke a b=>simp [BG,d] at hc
  ·cases e
 | _=>simp [BG] at hc
theorem QC {X:Cx} {v:V} {p:PV} (d:VR X v p) {own:Nat} {f:Option (List Nat×Bool)} {rd:List Nat} (hn:X.h.get own=none\/Pi.AY p=[own]) (I:Zh X own f rd):FpP X own (RR v f) rd:=by
 intro l o q z;cases f with
 | none=>cases o
 | some a =>
  have w : ∀ {b:Bool} {r:List Nat},(a.2=true->b=true)->(∀ j∈a.1,j∈r)->FpA X a q->FpA X (r,b) q:=λC hi h=>by
   rcases h with ⟨j,s,m,B⟩ | ⟨s,z⟩
   ·exact .inl ⟨j,hi j s,m,B⟩
   ·exact .inr ⟨C s,z⟩
  have A : ∀ x,FpA X a x->FpA X l x:=λx h=>by
   have w : ∀ {b:Bool} {r:List Nat},(a.2=true->b=true)->(∀ j∈a.1,j∈r)->FpA X (r,b) x:=λC hi=>by
    rcases h with ⟨j,s,m,B⟩ | ⟨s,z⟩
    ·exact .inl ⟨j,hi j s,m,B⟩
    ·exact .inr ⟨C s,z⟩
   unfold RR at o;simp only at o;split at o<;>cases o<;>first | exact h | exact w (λh=>h) (λj s=>List.mem_cons_of_mem _ s) | exact w (λ_=>rfl) (λj s=>s)
  rcases I a rfl q z with rfl | h
  ·rcases hn with hn | hn
   ·exact .inl ⟨rfl,hn⟩
   ·refine .inr ?_;unfold RR at o;simp only at o;split at o
    ·rename_i id;cases o;simp only [VR] at d;cases y:X.π id with
     | none=>rw [y] at d;exact d.elim
     | some b =>
      rw [y] at d;cases b with
      | blk pid len=>simp only at d;subst d;simp only [Pi.AY,List.cons.injEq,and_true] at hn;subst hn;exact .inl ⟨id,by simp,len,y⟩
      | nil=>simp only at d;subst d;simp [Pi.AY] at hn
      | fz es=>simp only at d;subst d;simp [Pi.AY] at hn
    ·cases o;simp only [VR] at d;obtain ⟨pid,m,u,rfl⟩:=d;simp only [Pi.AY,List.cons.injEq,and_true] at hn;subst hn;exact .inl ⟨_,by simp,m,u⟩
    ·cases o;simp only [VR] at d;obtain ⟨pid,m,u,rfl⟩:=d;simp only [Pi.AY,List.cons.injEq,and_true] at hn;subst hn;exact .inl ⟨_,by simp,m,u⟩
    ·cases o;simp only [VR] at d;obtain ⟨pid,m,u,rfl⟩:=d;simp only [Pi.AY,List.cons.injEq,and_true] at hn;subst hn;exact .inl ⟨_,by simp,m,u⟩
    ·cases o;simp only [VR] at d;obtain ⟨pid,m,u,rfl,_⟩:=d;simp only [Pi.AY,List.cons.injEq,and_true] at hn;subst hn;exact .inl ⟨_,by simp,m,u⟩
    ·cases o;simp only [VR] at d;obtain ⟨pid,m,u,rfl⟩:=d;simp only [Pi.AY,List.cons.injEq,and_true] at hn;subst hn;exact .inl ⟨_,by simp,m,u⟩
    ·cases o;simp only [VR] at d;rcases d with ⟨rfl,_⟩ | ⟨_,_,rfl,_⟩ | ⟨pid,off,len,es,ex,fz,rfl,_,D,F,_⟩
     ·simp [Pi.AY] at hn
     ·simp [Pi.AY] at hn
     ·simp only [Pi.AY,List.cons.injEq,and_true] at hn;subst hn;exact .inr ⟨rfl,D,es,ex,fz,F⟩
    ·cases o;simp only [VR] at d;rcases d with ⟨_,rfl,_⟩ | ⟨pid,i,off,es,ex,fz,e,rfl,D,F,_⟩
     ·simp [Pi.AY] at hn
     ·simp only [Pi.AY,List.cons.injEq,and_true] at hn;subst hn;exact .inr ⟨rfl,D,es,ex,fz,F⟩
    ·rename_i n1 n2 n3 n4 E K J G;exfalso;cases v with
     | ow id=>exact n1 _ rfl
     | own id off len=>exact n2 _ _ _ rfl
     | ptr id off=>exact n3 _ _ rfl
     | ept id i off=>exact n4 _ _ _ rfl
     | aptr id off k n=>exact E _ _ _ _ rfl
     | mp id=>exact K _ rfl
     | lf f g c l=>exact J _ _ _ _ rfl
     | view cs=>exact G _ rfl
     | pl g c l=>simp only [VR] at d;rcases d with ⟨rfl,_⟩ | ⟨_,_,rfl,_⟩<;>simp [Pi.AY] at hn
     | pv cs=>simp only [VR] at d;obtain ⟨_,rfl,_⟩:=d;simp [Pi.AY] at hn
     | exl f es=>simp only [VR] at d;obtain ⟨_,_,rfl,_⟩:=d;simp [Pi.AY] at hn
     | agg cs=>simp only [VR] at d;obtain ⟨_,rfl,_⟩:=d;simp [Pi.AY] at hn
     | tup cs=>simp only [VR] at d;obtain ⟨_,rfl,_⟩:=d;simp [Pi.AY] at hn
     | fn f a b=>simp only [VR] at d;obtain ⟨_,_,rfl,_⟩:=d;simp [Pi.AY] at hn
     | yl id=>simp only [VR] at d;obtain ⟨_,_,_,rfl⟩:=d;simp [Pi.AY] at hn
     | ifc t v=>simp only [VR] at d;obtain ⟨_,rfl,_⟩:=d;simp [Pi.AY] at hn
     | _=>simp only [VR] at d;subst d;simp [Pi.AY] at hn
  ·exact .inr (A q h)
theorem LU {X:Cx} {h:H} {c:Nat} (r:RH X h c) {args:List V} {b:List PV} (g:VRL X args b) {f:List PV} {lP:List Nat} (a:CH X.h b=some (f,lP)) (own:Nat):Zh X own (Dn h args) (own::lP):=by
 intro l d q hq;rcases List.mem_cons.1 hq with hq | hq
 ·exact .inl hq
 ·rw [NG] at a;exact .inr (WU (fun {v p l} hv e {q ids} a i hi=>WV r hv e a i hi) g d a q hq)
theorem QD {h c:Hp} {j q:Nat} {b b0:Blk} (d:h.get j=some b0) (a:h.get q=none) {r:Pi.R} (e:(h.set j b).map Pi.R.skip=some r) (f:r = .skip c):c.get q=none:=by
 subst f;obtain ⟨g,e2,e3⟩:=Pi.AQ e;cases e3;rw [(Hp.get_set e2).1,if_neg (λhh=>by rw [hh,d] at a;cases a)];exact a
theorem WX {h c:Hp} {ty:TypeId} {p v:PV} {q:Nat} (b:h.get q=none) (e:Pi.DU P h ty p v=some (.skip c)):c.get q=none:=by
 unfold Pi.DU at e;split at e
 ·replace e:=DL e;obtain ⟨_,e⟩:=e;split at e
  ·split at e
   ·rename_i a;replace e:=BD e;exact QD a b e.2 rfl
   ·cases e
  ·split at e
   ·rename_i a;split at e
    ·replace e:=BD e;obtain ⟨_,e⟩:=e;split at e
     ·exact QD a b e rfl
     ·split at e
      ·replace e:=BD e;obtain ⟨_,e⟩:=e;split at e
       ·cases e
       ·cases e
       ·exact QD a b e rfl
      ·cases e
    ·cases e
   ·cases e
  ·cases e
 ·cases e
theorem Zj {t:T PV} {h b:Hp} {id q:Nat} {o:Oper} (hc:BG o.op=3) (f:h.get q=none) (e:Pi.BC P t h id o=some (.skip b)):b.get q=none:=by
 unfold Pi.BC at e;generalize o.op=d at hc e;cases d with
 | store ty a x =>
  simp only [Pi.e2] at e;split at e
  ·exact WX f e
  ·cases e
 | slice _ _ _ _ mx=>cases mx<;>simp [BG] at hc
 | makeMap _ r=>cases r<;>simp [BG] at hc
 | call c =>
  simp only [BG] at hc;split at hc
  ·split at hc<;>cases hc
  ·cases hc
 | _=>simp [BG] at hc
theorem kg {β:Type} {x:β} {X:Cx} {t:T V} {f:T PV} (j:TR X t f) {nt:Nat} (k:nt<1048575) {b:Option Nat} {v:V} {p:PV} (m:VR X v p) {K:T V->Option β} (e:O2 t nt b v K=some x) :
  ∃ i a,K i=some x/\TR X i a/\(∀ d,b=some d->Nat.blt d nt=true/\a=T.put 20 f d p)/\(b=none->a=f):=by
 unfold O2 at e;split at e
 ·rename_i d;replace e:=BD e;obtain ⟨c,e⟩:=e;have l:d<nt:=by simpa using c
  exact ⟨_,_,e,j.put (d:=d) (by omega) m,λn g=>(by cases g;exact ⟨c,rfl⟩),λh=>(by cases h)⟩
 ·exact ⟨_,_,e,j,λd c=>(by cases c),λ_=>rfl⟩
theorem DX.flat {hh:Hp} {Q j:Nat->Prop} : ∀ {c:Ty} {y:c.den} {f:List PV},c.hasSl=false->DX hh Q j c y f->Pi.Dg f=true
 | .int _,_,_,_,e=>by subst e;rfl
 | .bool,_,_,_,e=>by subst e;rfl
 | .str,_,_,_,e=>by subst e;rfl
 | .unit,_,_,_,e=>by subst e;rfl
 | .pair a b,_,_,hs,⟨p,q,e,h,g⟩=>by
  subst e;simp only [Ty.hasSl,Bool.or_eq_false_iff] at hs;have d:=DX.flat hs.1 h;have i:=DX.flat hs.2 g;clear h g
  induction p with
  | nil=>exact i
  | cons a p k =>
   simp only [Pi.Dg,Bool.and_eq_true] at d;simp only [List.cons_append,Pi.Dg,d.1,Bool.true_and];exact k d.2
 | .sl _ _,_,_,hs,_=>by cases hs
theorem Ut {e:Hp} {l:List (Bool×Ty)} {y:AH l} {r:PV} (hs:Fi l=false) (h:O3 e l y r) : ∀ j a b,r ≠ .own j a b:=by
 intro j a b g;subst g
 match l,y,h with
 | [],y,⟨rs,c,_⟩=>cases c
 | [p],y,h =>
  have d:p.2.hasSl=false:=by simpa [Fi] using hs
  have h':EP p.1 (DX e (λ_=>True) (λ_=>True) p.2) y (.own j a b):=h;cases f:p.1 with
  | true=>rw [f] at h';obtain ⟨cs,c,_⟩:=h';cases c
  | false =>
   rw [f] at h';have:=DX.flat d (show DX e _ _ p.2 y [.own j a b] from h');simp [Pi.Dg,Pi.flat] at this
 | p::q::rr,y,⟨rs,c,_⟩=>cases c
theorem Lo {d:Hp} {l:List (Bool×Ty)} {y:AH l} {r:PV} (e:Hi l=true) (hs:Fi l=false) (h:O3 d l y r) : ∃ q,(∀ (id:Nat) (lP:List Nat) (hh:Hp),Pi.B9 id lP hh d r=some (q,hh))/\kT l y q/\Pi.flat q=true:=by
 obtain ⟨q,g,i,c⟩:=YN e h;have b:=RZ hs c;refine ⟨q,λid lP hh => ?_,c,b⟩;unfold Pi.B9;have f:=Ut hs h;split
 ·rename_i len j ex a;split at a
  ·exact absurd rfl (f _ _ _)
  ·cases a
 ·rw [i];simp only [b,cond_true]
theorem NL {e:T PV} {h h':Hp} {id:Nat} {o:Oper} (hc:Ge o.op=true):Pi.BC P e h id o=Pi.BC P e h' id o:=by
 unfold Pi.BC;generalize o.op=g at hc;cases g with
 | call c =>
  simp only;split
  ·cases d:c.callee with
   | builtin b=>simp [Ge,d] at hc
   | value f=>rfl
   | invoke a b=>rfl
  ·rfl
 | _=>cases hc
theorem S5 {X:Cx} {h:H} {n idP:Nat} (r:RH X h n) {o:Oper} {B:T PV} {f:FuncId} {sg:Sg} (Z:FnOK P tab f sg) (p:Fi sg.cod=false) {args:List V} {u:List PV} (w:Pi.CQ o.op=true) (d:Ge o.op=true) (E:Pi.BC P B X.h idP o=some (.call f u)) {β:Type} {x:β} {K:V->H->Option β} (ha:VRL X args u) (e:Ik h sg args K=some x) :
  ∃ v q rd,K v h=some x/\VR X v q/\(∀ a∈rd,a=idP\/X.h.get a≠none)/\Zh X idP (Dn h args) rd /\ ∃ N,∀ F m,N<=F->N<=m->Pi.CZ P (Pi.GA P (Bt tab) F m) B X.h idP o=some (q,X.h,rd,[]):=by
 unfold Ik at e;replace e:=DL e;obtain ⟨O,e⟩:=e;simp only [Bool.or_eq_false_iff,Bool.not_eq_false'] at O;obtain ⟨D,J⟩:=O
 let Q:Nat->Prop:=λpid=>X.Q pid \/ ∃ id∈IG args,∃ m,X.π id=some (.blk pid m)
 replace e:=FA (Q:=Q) r (λ_ h => .inl h) (λid pid m hi hp => .inr ⟨id,hi,m,hp⟩) ha e;obtain ⟨y,e,G⟩:=e;replace e:=AZ e;obtain ⟨h',k,e⟩:=e;rw [p] at k;cases k;replace e:=LP e;obtain ⟨z,S,e⟩:=e;obtain ⟨M,lP,g,L,l⟩:=JJ (λ_ h => .inl h) D G;obtain ⟨rP,up,hR,⟨N,hN⟩,s⟩:=Z y z S M L;obtain ⟨q,A,W,I⟩:=Lo J p s
 have i:Pi.CP B X.h o.op=[]:=by
  generalize o.op=U at d;cases U with
  | call c =>
   simp only [Pi.CP];cases t:c.callee with
   | builtin b=>simp [Ge,t] at d
   | _=>rfl
  | _=>cases d
 refine ⟨_,q,(idP::[])++lP,e,NF W,λa ha => ?_,LU r ha g idP,N,λF m hF Y => ?_⟩
 ·simp only [List.cons_append,List.nil_append,List.mem_cons] at ha;rcases ha with ha | ha
  ·exact .inl ha
  ·obtain ⟨_,es,ex,fz,hg⟩:=l a ha;exact .inr (by rw [hg];simp)
 ·unfold Pi.CZ;have C:Nat.blt idP (idP+1)=true:=by simp
  simp only [w,C,Bool.not_true,Bool.or_self,cond_false,i];rw [NL (h':=X.h) d,E];simp only [g];have j:CH (X.h.cut (idP::lP)) u=some (M,lP):=Kj (h:=X.h) (λx hx=>by rw [Pi.Ii,if_pos ⟨by simp [hx],by omega⟩]) g;unfold Pi.C6;simp only [cond_false,j];rw [show ({ m:=.lf,nx:=0 }:Hp)=I1 from rfl,hN F m hF Y];simp only [A,Option.map_some,I,cond_true]
theorem Rm {X:Cx} {h:H} {n:Nat} (r:RH X h n) : ∀ {dom:List (Bool×Ty)} {args:List V} {f:List PV} {b:List V} {js:List Nat},VRL X args f->Ka h dom args=some (b,js) ->
  ∃ d,VRL X b d /\ ∀ g c,CH X.h d=some (g,c) -> ∃ lP,CH X.h f=some (NH dom g,lP) /\ ∀ i∈lP,i∈c \/ ∃ j∈js,∃ m,X.π j=some (.blk i m)/\X.h.get i≠none
 | [],args,f,b,js,hv,e=>by
  unfold Ka at e;cases e;exact ⟨f,hv,λg c h=>⟨c,by unfold NH;exact h,λi hi => .inl hi⟩⟩
 | p::l,[],f,b,js,hv,e=>by
  unfold Ka at e;cases e;refine ⟨f,hv,λg c h=>⟨c,?_,λi hi => .inl hi⟩⟩;rw [hv.nil_inv] at h ⊢;cases h;rfl
 | p::l,v::vs,f,b,js,hv,e=>by
  obtain ⟨q,qs,rfl,z,S⟩:=hv.cons_inv;unfold Ka at e;split at e
  ·rename_i a U;obtain ⟨d,J,L⟩:=Rm r S (show Ka h l vs=some (a.1,a.2) from U);replace e:=Fj e;rcases e with ⟨I,e⟩ | ⟨I,e⟩
   ·split at e
    ·rename_i j off;split at e
     ·rename_i cs fz lk Z;replace e:=BD e;obtain ⟨s,e⟩:=e;cases e;simp only [VR] at z;obtain ⟨pid,n',k,rfl⟩:=z;have K:=r.blk _ _ Z;rw [k] at K;obtain ⟨M,n'',N,fz',y,P,u,W,t⟩:=K;cases y;have o:cs.length=N.length:=t.length;refine ⟨.agg (N.drop off)::d,.cons (by simp only [VR];exact ⟨_,rfl,t.drop off⟩) J,λg c hh => ?_⟩;unfold CH at hh;split at hh
      ·rename_i q' x C b' w B;cases hh;obtain ⟨lP,A,G⟩:=L _ _ B;rw [show Pi.BQ=11+1 from rfl,Js] at w;obtain ⟨⟨O,l'⟩,E,F⟩:=Pi.AQ w;cases F;refine ⟨(pid::x)++lP,?_,λi hi => ?_⟩
       ·unfold CH
        have e1:Bg X.h Pi.BQ (.ptr pid off)=some (.view O,pid::x):=by
         rw [show Pi.BQ=11+1 from rfl];unfold Bg;simp only [u];rw [<- o,s];simp only [cond_true,E,Option.map_some]
        rw [e1,A];simp only [NH,I,cond_true,WH]
       ·rcases List.mem_append.1 hi with hi | hi
        ·rcases List.mem_cons.1 hi with rfl | hi
         ·exact .inr ⟨j,by simp,_,k,by rw [u];simp⟩
         ·exact .inl (List.mem_append_left _ hi)
        ·rcases G i hi with hi | ⟨j',D,m,Y⟩
         ·exact .inl (List.mem_append_right _ hi)
         ·exact .inr ⟨j',List.mem_cons_of_mem _ D,m,Y⟩
      ·cases hh
     ·cases e
    ·cases e
   ·cases e;refine ⟨q::d,.cons z J,λg c hh => ?_⟩;unfold CH at hh;split at hh
    ·rename_i q' x C b' w B;cases hh;obtain ⟨lP,A,G⟩:=L _ _ B;refine ⟨x++lP,?_,λi hi => ?_⟩
     ·unfold CH;rw [w,A];simp only [NH,I,cond_false]
     ·rcases List.mem_append.1 hi with hi | hi
      ·exact .inl (List.mem_append_left _ hi)
      ·rcases G i hi with hi | hi
       ·exact .inl (List.mem_append_right _ hi)
       ·exact .inr hi
    ·cases hh
  ·cases e
theorem dQ {X:Cx} {own:Nat} {js:List Nat} {f:Option (List Nat×Bool)} {rd lP:List Nat} (e:Zh X own f rd) (h : ∀ i∈lP,i∈rd \/ ∃ j∈js,∃ m,X.π j=some (.blk i m)/\X.h.get i≠none):Zh X own (nh js f) lP:=by
 intro l g q c;obtain ⟨a,k,rfl⟩:=Pi.AQ g;rcases h q c with c | ⟨j,d,m,b,_⟩
 ·rcases e a k q c with h1 | ⟨j,d,m,b⟩ | h1
  ·exact .inl h1
  ·exact .inr (.inl ⟨j,List.mem_append_right _ d,m,b⟩)
  ·exact .inr (.inr h1)
 ·exact .inr (.inl ⟨j,List.mem_append_left _ d,m,b⟩)
theorem Uu {X:Cx} {h:H} {n idP:Nat} (r:RH X h n) {o:Oper} {L:T PV} {f:FuncId} {sg:Sg} (TO:FnP P tab f sg) (w:Fi sg.cod=false) {args:List V} {E:List PV} (I:Pi.CQ o.op=true) (j:Ge o.op=true) (S:Pi.BC P L X.h idP o=some (.call f E)) {β:Type} {x:β} {K:V->H->Option β} {d:List V} {js:List Nat} (G:Ka h sg.dom args=some (d,js)) (ha:VRL X args E) (e:Ik h sg d K=some x) :
  ∃ v q rd,K v h=some x/\VR X v q/\(∀ a∈rd,a=idP\/X.h.get a≠none)/\Zh X idP (nh js (Dn h d)) rd /\ ∃ N,∀ F m,N<=F->N<=m->Pi.CZ P (Pi.GA P (Bt tab) F m) L X.h idP o=some (q,X.h,rd,[]):=by
 obtain ⟨ps2,t,A⟩:=Rm r ha G;unfold Ik at e;replace e:=DL e;obtain ⟨hd,e⟩:=e;simp only [Bool.or_eq_false_iff,Bool.not_eq_false'] at hd;obtain ⟨O,Z⟩:=hd
 let Q:Nat->Prop:=λpid=>X.Q pid \/ ∃ id∈IG d,∃ m,X.π id=some (.blk pid m)
 replace e:=FA (Q:=Q) r (λ_ h => .inl h) (λid pid m hi hp => .inr ⟨id,hi,m,hp⟩) t e;obtain ⟨y,e,U⟩:=e;replace e:=AZ e;obtain ⟨h',p,e⟩:=e;rw [w] at p;cases p;replace e:=LP e;obtain ⟨z,hz,e⟩:=e;obtain ⟨as,lP2,g,hdp,u⟩:=JJ (λ_ h => .inl h) O U;obtain ⟨lP,s,D⟩:=A _ _ g;obtain ⟨rP,up,hR,⟨N,hN⟩,B⟩:=TO y z hz as hdp;obtain ⟨q,J,hq,Y⟩:=Lo Z w B
 have k:Pi.CP L X.h o.op=[]:=by
  generalize o.op=op at j;cases op with
  | call c =>
   simp only [Pi.CP];cases C:c.callee with
   | builtin b=>simp [Ge,C] at j
   | _=>rfl
  | _=>cases j
 refine ⟨_,q,(idP::[])++lP,e,NF hq,λa ha => ?_,dQ (rd:=(idP::[])++lP2) (LU r t g idP) (λi hi=>by
   simp only [List.cons_append,List.nil_append,List.mem_cons] at hi ⊢;rcases hi with hi | hi
   ·exact .inl (.inl hi)
   ·exact (D i hi).imp .inr id),N,λF m hF hm => ?_⟩
 ·simp only [List.cons_append,List.nil_append,List.mem_cons] at ha;rcases ha with ha | ha
  ·exact .inl ha
  ·rcases D a ha with ha | ⟨_,_,_,_,W⟩
   ·obtain ⟨_,es,ex,fz,W⟩:=u a ha;exact .inr (by rw [W];simp)
   ·exact .inr W
 ·unfold Pi.CZ;have M:Nat.blt idP (idP+1)=true:=by simp
  simp only [I,M,Bool.not_true,Bool.or_self,cond_false,k];rw [NL (h':=X.h) j,S];simp only [s];have l:CH (X.h.cut (idP::lP)) E=some (NH sg.dom as,lP):=Kj (h:=X.h) (λx hx=>by rw [Pi.Ii,if_pos ⟨by simp [hx],by omega⟩]) s;unfold Pi.C6;simp only [cond_false,l];rw [show ({ m:=.lf,nx:=0 }:Hp)=I1 from rfl,hN F m hF hm];simp only [J,Option.map_some,Y,cond_true]
theorem Km {X:Cx} {h:H} {n id idP:Nat} (r:RH X h n) (w:Nw X n id idP) {o:Oper} {Z:T PV} {f:FuncId} {args:List V} {G:List PV} (J:Pi.CQ o.op=true) (l:Ge o.op=true) (M:Pi.BC P Z X.h idP o=some (.call f G)) {β:Type} {x:β} {K:V->H->Option β} (ha:VRL X args G) {T:Hp->PV->Prop}
  (e : ∃ v h' q d Y I lP E up D,K v h'=some x/\CH X.h G=some (I,lP)/\PD P tab (.fn f) none I I1 (.ret E,up,D)/\Pi.B9 idP lP X.h D E=some (q,d)/\(∀ y∈lP,X.h.get y≠none)/\MD X h n id idP h' d Y/\VR Y v q/\T d q) :
  ∃ v q A Y j rd wr,K v A=some x/\VR Y v q/\(∃ O,MD X h n id idP A O Y/\T O q)/\(∀ a∈wr,a∈rd)/\(∀ a∈rd,a=idP\/X.h.get a≠none)/\Zh X idP (Dn h args) rd/\(∀ a,j.get a=Y.h.get a)/\j.nx=X.h.nx /\ ∃ N,∀ F m,N<=F->N<=m->Pi.CZ P (Pi.GA P (Bt tab) F m) Z X.h idP o=some (q,j,rd,wr):=by
 obtain ⟨v,A,q,d,Y,I,lP,E,up,D,e1,g,⟨N,hN⟩,L,s,hH,hv,hT⟩:=e
 have k:Pi.CP Z X.h o.op=[]:=by
  generalize o.op=op at l;cases op with
  | call c =>
   simp only [Pi.CP];cases S:c.callee with
   | builtin b=>simp [Ge,S] at l
   | _=>rfl
  | _=>cases l
 let hs:=X.h.cut (idP::lP)
 have p : ∀ q∈idP::lP,hs.get q=X.h.get q:=λq hq=>by
  show (X.h.cut (idP::lP)).get q=_;rw [Pi.Ii,if_pos ⟨hq,by omega⟩]
 have sub:Pi.KM hs X.h:=λx b hb=>(Pi.JD hb).2;obtain ⟨u,z⟩:=S3 (hs:=hs) (λx hx=>p x (List.mem_cons_of_mem _ hx)) (λ_=>by rw [p idP (by simp)];exact w.hp) L;have i:CH hs G=some (I,lP):=Kj (h:=X.h) (λx hx=>p x (List.mem_cons_of_mem _ hx)) g
 have U : ∀ {hh j:Hp} {rec:Pi.OZ},CH hh G=some (I,lP)->rec (.fn f) none I { m:=.lf,nx:=0 }=some (.ret E,up,D)->Pi.B9 idP lP hh D E=some (q,j)->Pi.C6 (λ_=>false) rec idP f G hh=some (.ret q,j):=λA j h3=>by
  unfold Pi.C6;simp only [cond_false,A,j,h3,Option.map_some]
 have c1:=U (rec:=λ_ _ _ _=>some (.ret E,up,D)) i rfl z;have c2:=U (rec:=λ_ _ _ _=>some (.ret E,up,D)) g rfl L;obtain ⟨⟨h3,k1,lay⟩,kf,_⟩:=Pi.Pb sub (λ_=>w.hp) c1;rw [c2] at k1;cases k1;obtain ⟨_,W,_⟩:=Pi.Pb (hs:=X.h) (h:=X.h) (λ_ _ h=>h) (λh=>h) c2;have hy:=hH.1;cases C:Pi.flat q with
 | true =>
  have e0:=W C;refine ⟨v,q,A,Y,X.h,idP::lP,[],e1,hv,⟨d,hH,hT⟩,λ_ h=>(by cases h),λa ha => ?_,LU r ha g idP,λa=>(by rw [hy,e0]),rfl,N,λF m hF t => ?_⟩
  ·rcases List.mem_cons.1 ha with ha | ha
   ·exact .inl ha
   ·exact .inr (s a ha)
  ·unfold Pi.CZ;have B:Nat.blt idP (idP+1)=true:=by simp
   simp only [J,B,Bool.not_true,Bool.or_self,cond_false,k];rw [NL (h':=X.h) l,M];simp only [g];have:=U (rec:=Pi.GA P (Bt tab) F m) i (hN F m hF t) z;rw [show X.h.cut (idP::lP)=hs from rfl,this];simp only [C,cond_true];rfl
 | false =>
  obtain ⟨j,e2,n2⟩:=PH u (idP::lP) X.h
  have g2 : ∀ a,j.get a=d.get a:=λa=>by
   rw [Pi.Hh e2 a,lay.get a];by_cases t:a∈idP::lP
   ·rw [if_pos t]
    all_goals (cases u.get a<;>rfl)
   ·rw [if_neg t];cases hg:u.get a with
    | none=>rfl
    | some b =>
     rcases lay.keys a b hg with ⟨b0,hb⟩ | hb
     ·exact absurd (Pi.JD hb).1 t
     ·exact absurd (by simp [hb]) t
  refine ⟨v,q,A,Y,j,idP::lP,Pi.DA X.h (idP::lP),e1,hv,⟨d,hH,hT⟩,λa ha=>Bz ha,λa ha => ?_,LU r ha g idP,λa=>by rw [hy,g2],n2,N,λF m hF t => ?_⟩
  ·rcases List.mem_cons.1 ha with ha | ha
   ·exact .inl ha
   ·exact .inr (s a ha)
  ·unfold Pi.CZ;have B:Nat.blt idP (idP+1)=true:=by simp
   simp only [J,B,Bool.not_true,Bool.or_self,cond_false,k];rw [NL (h':=X.h) l,M];simp only [g];have:=U (rec:=Pi.GA P (Bt tab) F m) i (hN F m hF t) z;rw [show X.h.cut (idP::lP)=hs from rfl,this];simp only [C,cond_false,e2,Option.map_some];rfl
theorem Uv (TO:TabOK P tab) {base baseP b bP nt nx:Nat} (hb:b<=base) (hbP:bP<=baseP) (hnt:nt<1048575) (hn:nx<=1048575) {all:List Oper} (hall : ∀ o∈all,∀ d,o.dst=some d->d<nt) {β:Type} {x:β} {len:Nat} :
  ∀ {ops:List Oper} {i:Nat} {ms:List Pi.Mk} {pa:List (Nat×Nat×Option (List Nat×Bool))} {pp:List (Nat×List Nat×List Nat)} {t:T V} {h:H} {K:T V->H->Option β} {X:Cx} {S:T PV},D4 P tab base nt all i ops ms pa t h K=some x->RH X h nx->TR X t S->Im X base baseP i ops.length->base+i+ops.length<=nx->baseP+i+ops.length<=X.h.nx->len=i+ops.length->L2 (PastE X baseP i len) pa pp ->
   ∃ t' h' Y L,K t' h'=some x/\(∃ N,∀ F n,N<=F->N<=n->Pi.Bh P (Pi.GA P (Bt tab) F n) baseP nt all i ops ms pp S X.h=some (L,Y.h))/\RH Y h' nx/\Ext b bP X h Y h'/\TR Y t' L:=by
 intro ops
 induction ops with
 | nil =>
  intro i ms pa pp t h K X S e r ht _ _ _ _ _;cases ms<;>exact ⟨t,h,X,S,e,⟨0,λ_ _ _ _=>rfl⟩,r,Ext.refl _ _ _ _,ht⟩
 | cons o ops ih =>
  intro i ms pa pp t h K X S e r ht hfr hlen hlenP hl E;cases ms with
  | nil=>cases e
  | cons m ms =>
   simp only [List.length_cons] at hlen hlenP hfr hl;have C:=hfr i (Nat.le_refl _) (by omega);have w:Nw X nx (base+i) (baseP+i):=⟨C.1,by omega,hn,C.2,by omega⟩;unfold D4 at e;obtain ⟨t1,G,hcase⟩:=Ra (nt:=nt) ht hnt hall e
   have go : ∀ {v:V} {p:PV} {h1:H} {pa1:List (Nat×Nat×Option (List Nat×Bool))} {pp1:List (Nat×List Nat×List Nat)} {Y:Cx},O2 t1 nt o.dst v (λt=>D4 P tab base nt all (i+1) ops ms pa1 t h1 K)=some x->RH Y h1 nx->TR Y t1 S->VR Y v p->St X h (base+i) (baseP+i) Y h1->L2 (PastE Y baseP (i+1) len) pa1 pp1 ->
     (∀ {rr:T PV×Hp},(∃ N,∀ F n,N<=F->N<=n->(match o.dst with
      | some d=>bif Nat.blt d nt then Pi.Bh P (Pi.GA P (Bt tab) F n) baseP nt all (i+1) ops ms pp1 (T.put 20 S d p) Y.h else none
      | none=>Pi.Bh P (Pi.GA P (Bt tab) F n) baseP nt all (i+1) ops ms pp1 S Y.h)=some rr) -> ∃ N,∀ F n,N<=F->N<=n->Pi.Bh P (Pi.GA P (Bt tab) F n) baseP nt all i (o::ops) (m::ms) pp S X.h=some rr) ->
     ∃ t' h' Y L,K t' h'=some x/\(∃ N,∀ F n,N<=F->N<=n->Pi.Bh P (Pi.GA P (Bt tab) F n) baseP nt all i (o::ops) (m::ms) pp S X.h=some (L,Y.h))/\RH Y h' nx/\Ext b bP X h Y h'/\TR Y t' L:=by
    intro v p h1 pa1 pp1 Y e r1 htY U s hp1 hP;obtain ⟨t2,tP2,e2,ht2,hd,hnd⟩:=kg htY hnt U e
    have hfr1:Im Y base baseP (i+1) ops.length:=λj h1 J=>by
     obtain ⟨a1,a2⟩:=hfr j (by omega) (by omega);exact ⟨s.pin _ (by omega) a1,s.hpn _ (by omega) a2⟩
    obtain ⟨t',h',Z,L,k1,⟨N,k2⟩,k3,k4,k5⟩:=ih e2 r1 ht2 hfr1 (by omega) (by rw [s.nx];omega) (by omega) hp1;refine ⟨t',h',Z,L,k1,hP ⟨N,λF n hF hn => ?_⟩,k3,(s.ext (by omega) (by omega)).trans k4,k5⟩;have:=k2 F n hF hn;cases hdst:o.dst with
    | none=>simp only;rw [<- hnd hdst];exact this
    | some d =>
     obtain ⟨a1,a2⟩:=hd d hdst;simp only [a1,cond_true];rw [<- a2];exact this
   have pnext : ∀ {Y:Cx} {h1:H},St X h (base+i) (baseP+i) Y h1->L2 (PastE Y baseP (i+1) len) pa pp:=λs=>E.mono λ_ _ k=>k.next s
   have entry : ∀ {Y:Cx} {h1:H} {c:Nat} {f:Option (List Nat×Bool)} {rd wr:List Nat},St X h (base+i) (baseP+i) Y h1->(∀ w∈wr,w∈rd)->(c<=1->wr=[])->(∀ q∈rd,q=baseP+i\/X.h.get q≠none)->(c=0->rd=[baseP+i]/\Y.h.get (baseP+i)=none)->FpP Y (baseP+i) f rd->L2 (PastE Y baseP (i+1) len) ((i,c,f)::pa) ((i,rd,wr)::pp):=fun {Y h1 c f rd wr} s h1 J h3 h4 h5=>by
    refine .cons ⟨rfl,by show i<i+1;omega,h1,J,λq hq k k1 k2 => ?_,h4,h5⟩ (pnext s);rcases h3 q hq with hh | hh
    ·omega
    ·intro he;obtain ⟨_,a2⟩:=hfr k (by omega) (by omega);rw [he] at hh;exact hh a2
   have B : ∀ {Y:Cx} {h1:H} {f:Option (List Nat×Bool)} {rd:List Nat},St X h (base+i) (baseP+i) Y h1->Y.h.get (baseP+i)=none->Zh X (baseP+i) f rd->FpP Y (baseP+i) f rd:=λs hn hf l hl q hq=>by
    rcases hf l hl q hq with rfl | h1
    ·exact .inl ⟨rfl,hn⟩
    ·exact .inr (h1.mono s.up)
   have fpUp : ∀ {Y:Cx} {h1:H} {f:Option (List Nat×Bool)} {rd:List Nat},St X h (base+i) (baseP+i) Y h1->Zh X (baseP+i) f rd->Zh Y (baseP+i) f rd:=λs hf l hl q hq=>(hf l hl q hq).imp id (FpA.mono s.up);rcases hcase with ⟨e,hw⟩ | ⟨e,hw⟩
   ·replace e:=DL e;obtain ⟨D,e⟩:=e;have D:Pi.CQ o.op=true:=by simpa using D
    have ev:=cu r w G e;generalize O:Pi.BC P S X.h (baseP+i) o=op at ev;cases ev with
    | @val v h1 p hP1 Y e ok U =>
     obtain ⟨y1,y2,M⟩:=ok;simp only at e;replace e:=BD e;obtain ⟨g,e⟩:=e;simp only [Bool.and_eq_true] at g
     have hc2:BG o.op<=2\/BG o.op=4:=by
      rcases Bool.or_eq_true_iff.1 g.1 with hc | hc
      ·exact .inl (Nat.le_of_ble_eq_true hc)
      ·exact .inr (Nat.eq_of_beq_eq_true hc)
     obtain ⟨hpl,hck1,hck2⟩:=g.2
     have hsl : ∀ ty x lo hi m,o.op = .slice ty x lo hi (some m) -> ∀ p,Pi.GU S x=some p -> ∀ j a b,p ≠ .own j a b:=λty x lo hi m ho p hp j a b hpe=>by
      rw [ho] at hpl;cases x with
      | tmp k =>
       simp only [mQ] at hpl;split at hpl
       ·rename_i hk;obtain ⟨p',hp',hvr⟩:=G _ _ hk;simp only [Pi.GU,hp',Option.getD_some,Option.some.injEq] at hp;subst hp;subst hpe;simp only [VR] at hvr;rcases hvr with ⟨h,_⟩ | ⟨_,_,h,_⟩<;>cases h
       ·rename_i hk;obtain ⟨p',hp',hvr⟩:=G _ _ hk;simp only [Pi.GU,hp',Option.getD_some,Option.some.injEq] at hp;subst hp;subst hpe;simp only [VR] at hvr;cases hvr
       ·cases hpl
      | _=>simp [mQ] at hpl
     obtain ⟨J,wr,d1,d2,d3,d4,d5⟩:=(P9 hsl D C.2 O).1 p hP1 rfl hc2;have I : ∀ q,J.get q=Y.h.get q:=λq=>by rw [d2,y1]
     have n2:J.nx=Y.h.nx:=by rw [d3,M.nx]
     have s2:=M.with I n2
     have hfo:=(Rk D).2.2.1
     have y : ∀ q∈(baseP+i)::Pi.CP S X.h o.op,q=baseP+i\/X.h.get q≠none:=λq hq=>by
      rcases List.mem_cons.1 hq with hq | hq
      ·exact .inl hq
      ·exact .inr (YX r G (by omega) D hck1 q hq)
     have u:=lw r G (o:=o.op) (baseP+i);have z:=JO r u (rd:=(baseP+i)::Pi.CP S X.h o.op) (wr:=wr) (len:=len) (by omega) d5 (λhc=>(d4 hc).1) (λhc=>by rw [hfo hc]) y E hck2
     have hq0:BG o.op<=1->(Y.with J).h.get (baseP+i)=none:=λhc=>by
      show J.get _=none;rw [d2,(d4 hc).2];exact C.2
     refine go (p:=p) e (y2.with I n2) (G.mono s2.up) (U.mono (Jx I)) s2 (entry s2 d5 (λhc=>(d4 hc).1) y (λhc=>⟨by rw [hfo (.inl hc)],hq0 (by omega)⟩) ?_) ?_
     ·cases hcl:Nat.ble (BG o.op) 1 with
      | true=>exact B s2 (hq0 (Nat.le_of_ble_eq_true hcl)) u
      | false =>
       have hcl' : ¬ BG o.op<=1:=λhh=>by rw [show Nat.ble (BG o.op) 1=true from by simpa using hh] at hcl;cases hcl
       refine QC (U.mono (Jx I)) ?_ (fpUp s2 u);rcases ke C.2 D (by omega) O with hn | hn
       ·exact .inl (by show J.get _=none;rw [d2];exact hn)
       ·exact .inr hn
     ·rintro rr ⟨N,hN⟩;refine ⟨N,λF n hF hn => ?_⟩;unfold Pi.Bh;simp only [hw,cond_true,d1,z];exact hN F n hF hn
    | @skip h1 hP1 Y e ok =>
     obtain ⟨y1,y2,M⟩:=ok;simp only at e;replace e:=BD e;obtain ⟨g,e⟩:=e;simp only [Bool.and_eq_true] at g;have hc3:BG o.op=3:=Nat.eq_of_beq_eq_true g.1;obtain ⟨J,wr,d1,d2,d3,d5⟩:=(P9 (λty x lo hi m ho=>by rw [ho] at hc3;simp [BG] at hc3) D C.2 O).2 hP1 rfl hc3;have I : ∀ q,J.get q=Y.h.get q:=λq=>by rw [d2,y1]
     have n2:J.nx=Y.h.nx:=by rw [d3,M.nx]
     have s2:=M.with I n2
     have y : ∀ q∈(baseP+i)::Pi.CP S X.h o.op,q=baseP+i\/X.h.get q≠none:=λq hq=>by
      rcases List.mem_cons.1 hq with hq | hq
      ·exact .inl hq
      ·exact .inr (YX r G (by omega) D g.2.1 q hq)
     have u:=lw r G (o:=o.op) (baseP+i);have z:=JO r u (c:=3) (rd:=(baseP+i)::Pi.CP S X.h o.op) (wr:=wr) (len:=len) (by omega) d5 (λhc=>by omega) (λhc=>by omega) y E g.2.2;refine go (p:=.tup []) e (y2.with I n2) (G.mono s2.up) (by simp only [VR];exact ⟨[],rfl,.nil⟩) s2 (entry (c:=3) s2 d5 (λhc=>by omega) y (λhc=>by omega) (B s2 (by show J.get _=none;rw [d2];exact Zj hc3 C.2 O) u)) ?_
     rintro rr ⟨N,hN⟩;refine ⟨N,λF n hF hn => ?_⟩;unfold Pi.Bh;simp only [hw,cond_true,d1,z];exact hN F n hF hn
    | @call f as ps e ha =>
     simp only at e
     have any : ∀ {v:V} {q:PV} {h1:H} {Y:Cx} {J:Hp} {rd wr:List Nat} {f':Option (List Nat×Bool)},O2 t1 nt o.dst v (λt=>D4 P tab base nt all (i+1) ops ms ((i,4,f')::pa) t h1 K)=some x->VR Y v q->RH Y h1 nx->St X h (base+i) (baseP+i) Y h1->(∀ a∈wr,a∈rd)->(∀ a∈rd,a=baseP+i\/X.h.get a≠none)->Zh X (baseP+i) (Dn h as) rd->FpP (Y.with J) (baseP+i) f' rd->(∀ a,J.get a=Y.h.get a)->J.nx=X.h.nx->IH h m.bef 4 (Dn h as) pa=true ->
       (∃ N,∀ F m,N<=F->N<=m->Pi.CZ P (Pi.GA P (Bt tab) F m) S X.h (baseP+i) o=some (q,J,rd,wr)) ->
       ∃ t' h' Y L,K t' h'=some x/\(∃ N,∀ F n,N<=F->N<=n->Pi.Bh P (Pi.GA P (Bt tab) F n) baseP nt all i (o::ops) (m::ms) pp S X.h=some (L,Y.h))/\RH Y h' nx/\Ext b bP X h Y h'/\TR Y t' L:=by
      intro v q h1 Y J rd wr f' e1 U y2 M d5 y u hfq I n2 g ⟨N0,hN0⟩;have n2':J.nx=Y.h.nx:=by rw [n2,M.nx]
      have s2:=M.with I n2'
      have z:=JO r u (c:=4) (rd:=rd) (wr:=wr) (len:=len) (by omega) d5 (λhc=>by omega) (λhc=>by omega) y E g;refine go (p:=q) e1 (y2.with I n2') (G.mono s2.up) (U.mono (Jx I)) s2 (entry (c:=4) s2 d5 (λhc=>by omega) y (λhc=>by omega) hfq) ?_
      rintro rr ⟨N,hN⟩;refine ⟨max N0 N,λF n hF hn => ?_⟩;unfold Pi.Bh;simp only [hw,cond_true,hN0 F n (by omega) (by omega),z];exact hN F n (by omega) (by omega)
     split at e
     ·rename_i sg W;replace e:=DL e;obtain ⟨A,e⟩:=e;simp only [Bool.or_eq_false_iff,Bool.not_eq_false'] at A;obtain ⟨A,g⟩:=A;obtain ⟨v,q,h1,Y,J,rd,wr,e1,U,⟨hP1,⟨y1,y2,M⟩,hT⟩,d5,y,u,I,n2,hN⟩:=Km r w D A O ha (Ou r w (λdom g' c fn hh=>TO.getR (by rw [W,hh])) ha e);have s2:=M.with I (by rw [n2,M.nx])
      exact any e1 U y2 M d5 y u (QC (U.mono (Jx I)) (hT.imp (λhn=>by show J.get _=none;rw [I,y1];exact hn) id) (fpUp s2 u)) I n2 g hN
     ·split at e
      ·rename_i sg W;replace e:=DL e;obtain ⟨A,e⟩:=e;have A:Ge o.op=true:=by simpa using A
       replace e:=DL e;obtain ⟨g,e⟩:=e;have g:IH h m.bef 4 (Dn h as) pa=true:=by simpa using g
       obtain ⟨v,q,h1,Y,J,rd,wr,e1,U,⟨hP1,⟨y1,y2,M⟩,hT⟩,d5,y,u,I,n2,hN⟩:=Km r w D A O ha (T:=λhP _=>hP.get (baseP+i)=none) (Uh r w (TO.getL W) ha e);have s2:=M.with I (by rw [n2,M.nx])
       exact any e1 U y2 M d5 y u (B s2 (by show J.get _=none;rw [I,y1];exact hT) u) I n2 g hN
      ·split at e
       ·rename_i sg W;replace e:=DL e;obtain ⟨A,e⟩:=e;have A:Ge o.op=true:=by simpa using A
        replace e:=Fj e;rcases e with ⟨hcs,e⟩ | ⟨hcs,e⟩
        ·replace e:=DL e;obtain ⟨g,e⟩:=e;have g:IH h m.bef 4 (Dn h as) pa=true:=by simpa using g
         obtain ⟨v,q,h1,Y,J,rd,wr,e1,U,⟨hP1,⟨y1,y2,M⟩,hT⟩,d5,y,u,I,n2,hN⟩:=Km r w D A O ha (Ot r w (TO.getD W) ha e);have s2:=M.with I (by rw [n2,M.nx])
         refine any e1 U y2 M d5 y u ?_ I n2 g hN;cases ho:US sg.cod with
         | true=>exact QC (U.mono (Jx I)) (hT.2.imp (λhn=>by show J.get _=none;rw [I,y1];exact hn) id) (fpUp s2 u)
         | false=>exact B s2 (by show J.get _=none;rw [I,y1];exact hT.1 ho) u
        ·replace e:=DL e;obtain ⟨g,e⟩:=e;have g:IH h m.bef 1 (Dn h as) pa=true:=by simpa using g
         obtain ⟨v,q,rd,e1,U,y,u,N0,hN0⟩:=S5 r (TO.getD W) hcs D A O ha e;have z:=JO r u (c:=1) (rd:=rd) (wr:=[]) (len:=len) (by omega) (λ_ hw=>by cases hw) (λ_=>rfl) (λhc=>by omega) y E g;have s2:=St.refl X h (base+i) (baseP+i);refine go (p:=q) e1 r G U s2 (entry (c:=1) (wr:=[]) s2 (λ_ hw=>by cases hw) (λ_=>rfl) y (λhc=>by omega) (B s2 C.2 u)) ?_;rintro rr ⟨N,hN⟩;refine ⟨max N0 N,λF n hF hn => ?_⟩;unfold Pi.Bh;simp only [hw,cond_true,hN0 F n (by omega) (by omega),z];exact hN F n (by omega) (by omega)
       ·split at e
        ·rename_i sg W;replace e:=DL e;obtain ⟨A,e⟩:=e;simp only [Bool.or_eq_false_iff,Bool.not_eq_false'] at A;obtain ⟨A,hcs⟩:=A;replace e:=AZ e;obtain ⟨⟨args2,js⟩,hde,e⟩:=e;replace e:=DL e;obtain ⟨g,e⟩:=e;have g:IH h m.bef 1 (nh js (Dn h args2)) pa=true:=by simpa using g
         obtain ⟨v,q,rd,e1,U,y,u,N0,hN0⟩:=Uu r (TO.getP W) hcs D A O hde ha e;have z:=JO r u (c:=1) (rd:=rd) (wr:=[]) (len:=len) (by omega) (λ_ hw=>by cases hw) (λ_=>rfl) (λhc=>by omega) y E g;have s2:=St.refl X h (base+i) (baseP+i);refine go (p:=q) e1 r G U s2 (entry (c:=1) (wr:=[]) s2 (λ_ hw=>by cases hw) (λ_=>rfl) y (λhc=>by omega) (B s2 C.2 u)) ?_;rintro rr ⟨N,hN⟩;refine ⟨max N0 N,λF n hF hn => ?_⟩;unfold Pi.Bh;simp only [hw,cond_true,hN0 F n (by omega) (by omega),z];exact hN F n (by omega) (by omega)
        ·cases e
    | yield e=>cases e
    | pan e=>cases e
    | rcv e=>cases e
    | dfr e=>cases e
   ·have s2:=St.refl X h (base+i) (baseP+i);refine go (p:=.tup []) e r G (by simp only [VR];exact ⟨[],rfl,.nil⟩) s2 (pnext s2) ?_;rintro rr ⟨N,hN⟩;refine ⟨N,λF n hF hn => ?_⟩;unfold Pi.Bh;simp only [hw,cond_false];exact hN F n hF hn
theorem HK (y:TabOK P tab):DrawnAOK P tab:=by
 constructor;intro β x nx ops fr h K e X fp r g F d;unfold V9 at e;replace e:=AZ e;obtain ⟨D,o,e⟩:=e
 have fresh:Im (X.bump ops.length) nx X.h.nx 0 ops.length:=λj _ _=>⟨by
  cases p:X.π (nx+j) with
  | none=>exact p
  | some a=>have:=r.dom _ _ p;omega,by rw [Uj];exact r.fresh _ (by omega)⟩
 have f:=λ(b bP:Nat) (l:b<=nx) (c:bP<=X.h.nx)=>Uv y (nx:=nx+ops.length) l c F.big g d (len:=ops.length) e (r.bump _) (F.t.mono (NI X _)) fresh (by omega) (by show X.h.nx+0+_<=X.h.nx+ops.length;omega) (by omega) (pa:=[]) (pp:=[]) .nil;obtain ⟨w,h',Y,i,q,⟨N,B⟩,C,u,s⟩:=f nx X.h.nx (Nat.le_refl _) (Nat.le_refl _);have ext:=(NJ X h ops.length nx X.h.nx).trans u;have up:=ext.full r (Nat.le_refl _);have m:fp.nt=fr.nt:=F.nt;refine ⟨{ fr with t:=w },h',Y,{ fp with t:=i },Y.h,q,⟨N,λz n A g => ?_⟩,λb bP l c=>⟨rfl,C,g,Nat.le_add_right _ _,ext.le l c⟩,⟨s,F.nt,F.big,F.ds.mono λ_ _ k=>k.mono up,F.up.mono up,F.ro.mono up⟩⟩
 unfold Pi.drawn;rw [o,m];simp only [B z n A g]
end
end Go.Proofs.YtfilfloanndddaaGreat.Sv
namespace Go.Proofs.YtfilfloanndddaaGreat.Sv
variable [Pi.Gl]
open Go.Proofs.YtfilfloanndddaaGreat.Pi (PV T Hp Blk DF UM PE A5 BM AS Bg CH)
theorem S6 (pu:FuncId->Bool) (L:List (FuncId×Sg)):Bt (AC pu L)=λf => !pu f:=by
 funext f
 unfold Bt AC;cases pu f<;>rfl
theorem PD.mk {P:Program} {pu:FuncId->Bool} {L b:List (FuncId×Sg)} {a:Pi.Tg} {up:Option UM} {args:List PV} {h:Hp} {r:Pi.Out×Option UM×Hp} (e:PD P (AC pu L) a up args h r):PD P (AC pu b) a up args h r:=by
 unfold PD at e ⊢;rw [S6] at e ⊢;exact e
theorem kh (P:Program) (pu:FuncId->Bool):TabOK P (AC pu []):=by
 have : ∀ f sg,AC pu [] f≠some (some sg):=λf sg e=>by
  unfold AC at e;replace e:=Fj e;rcases e with ⟨_,e⟩ | ⟨_,e⟩<;>cases e
 exact ⟨λf sg _ e=>absurd e (this _ _),λf dom g c a _ e=>absurd e (this _ _),λf sg _ e=>absurd e (this _ _),λf sg _ e=>absurd e (this _ _)⟩
theorem FnOK.mk {P:Program} {pu:FuncId->Bool} {L b:List (FuncId×Sg)} {f:FuncId} {sg:Sg} (h:FnOK P (AC pu L) f sg):FnOK P (AC pu b) f sg:=λx y c g i=>by
 obtain ⟨r,up,e,a,d⟩:=h x y c g i;exact ⟨r,up,e,a.mk,d⟩
theorem RowOK.mk {P:Program} {pu:FuncId->Bool} {L e:List (FuncId×Sg)} {f:FuncId} {dom:List (Bool×Ty)} {g:Bool} {c:Ty} {a:AH dom->Option (List c.den)} (h:RowOK P (AC pu L) f dom g c a):RowOK P (AC pu e) f dom g c a:=λx y i k d=>by
 obtain ⟨r,up,l,b,j⟩:=h x y i k d;exact ⟨r,up,l,b.mk,j⟩
theorem FnP.mk {P:Program} {pu:FuncId->Bool} {L b:List (FuncId×Sg)} {f:FuncId} {sg:Sg} (h:FnP P (AC pu L) f sg):FnP P (AC pu b) f sg:=λx y c g i=>by
 obtain ⟨r,up,e,a,d⟩:=h x y c g i;exact ⟨r,up,e,a.mk,d⟩
theorem FnL.mk {P:Program} {pu:FuncId->Bool} {L b:List (FuncId×Sg)} {f:FuncId} {sg:Sg} (h:FnL P (AC pu L) f sg):FnL P (AC pu b) f sg:=λx y c g i=>by
 obtain ⟨r,up,e,a,d⟩:=h x y c g i;exact ⟨r,up,e,a.mk,d⟩
theorem S7 {a b c d:Nat} (f:Nat.blt a c=true) (e:c<=d) (h:a=b+d):False:=Nat.not_lt.2 (Nat.le_trans e (Nat.le_add_left d b)) (h ▸ IM f)
theorem B5 {pu:FuncId->Bool} {L:List (FuncId×Sg)} {k f:FuncId} {sg a:Sg} (e:AC pu ((k,sg)::L) f=some (some a)):(f=k/\a=sg)\/AC pu L f=some (some a):=by
 unfold AC at e ⊢;replace e:=Fj e;rcases e with ⟨b,e⟩ | ⟨_,e⟩
 ·simp only [Option.some.injEq] at e;unfold WA at e;replace e:=Fj e;rcases e with ⟨c,e⟩ | ⟨_,e⟩
  ·cases e;exact .inl ⟨Nat.eq_of_beq_eq_true c,rfl⟩
  ·exact .inr (by rw [b];exact congrArg some e)
 ·cases e
theorem PI {P:Program} {pu:FuncId->Bool} {L:List (FuncId×Sg)} (d:TabOK P (AC pu L)) {k:FuncId} {sg:Sg} (i:Nat.blt k GS=true) (h:FnOK P (AC pu L) (lq k) sg):TabOK P (AC pu ((k,sg)::L)) where
 std:=λf a b e=>by
  rcases B5 e with ⟨rfl,rfl⟩ | e
  ·exact h.mk
  ·exact (d.std f a b e).mk
 row:=λf dom g c j l e=>by
  rcases B5 e with ⟨rfl,_⟩ | e
  ·exfalso;exact Nat.not_lt.2 (Nat.le_add_left GS f) (IM i)
  ·exact (d.row f dom g c j l e).mk
 dat:=λf a b e=>by
  rcases B5 e with ⟨rfl,_⟩ | e
  ·exfalso;exact Nat.not_lt.2 (Nat.le_trans (by decide:GS<=V8) (Nat.le_add_left V8 f)) (IM i)
  ·exact (d.dat f a b e).mk
 ptr:=λf a b e=>by
  rcases B5 e with ⟨rfl,_⟩ | e
  ·exfalso;exact Nat.not_lt.2 (Nat.le_trans (by decide:GS<=Pn) (Nat.le_add_left Pn f)) (IM i)
  ·exact (d.ptr f a b e).mk
theorem ki {P:Program} {pu:FuncId->Bool} {L:List (FuncId×Sg)} (l:TabOK P (AC pu L)) {f:FuncId} (d:Nat.blt f Hj=true) {dom:List (Bool×Ty)} {g:Bool} {c:Ty} {n:AH dom->Option (List c.den)} (h:RowOK P (AC pu L) f dom g c n):TabOK P (AC pu ((f+GS,⟨dom,[(false,.sl g c)],n⟩)::L)) where
 std:=λa b i e=>by
  rcases B5 e with ⟨rfl,_⟩ | e
  ·exfalso;exact Nat.not_lt.2 (Nat.le_add_left GS f) (IM i)
  ·exact (l.std a b i e).mk
 row:=λa m q r o p e=>by
  rcases B5 e with ⟨k,j⟩ | e
  ·have:a=f:=Nat.add_right_cancel k;subst this;cases j;exact h.mk
  ·exact (l.row _ _ _ _ _ p e).mk
 dat:=λa b i e=>by
  rcases B5 e with ⟨k,_⟩ | e
  ·exfalso
   have j:f=a+GS:=by
    have:a+(GS+GS)=f+GS:=k;rw [<- Nat.add_assoc] at this;exact (Nat.add_right_cancel this).symm
   exact S7 d (by decide) j
  ·exact (l.dat a b i e).mk
 ptr:=λa b i e=>by
  rcases B5 e with ⟨k,_⟩ | e
  ·exfalso
   have j:a+1048576=f:=by
    have:a+(1048576+GS)=f+GS:=k;rw [<- Nat.add_assoc] at this;exact Nat.add_right_cancel this
   rw [<- j] at d;exact Nat.not_lt.2 (Nat.le_add_left _ a) (IM d)
  ·exact (l.ptr a b i e).mk
theorem kj {P:Program} {pu:FuncId->Bool} {L:List (FuncId×Sg)} (d:TabOK P (AC pu L)) {ann:Pm} {F n:Nat} {f:FuncId} {dom b:List (Bool×Ty)} {m:AH dom->Option (AH b)} (h : ∀ x,YF P (AC pu L) ann F n f dom b x=m x) (hc:Fi b=false:=by rfl) (i:Nat.blt f Hj=true:=by rfl):TabOK P (AC pu ((f+Pn,⟨dom,b,m⟩)::L)) where
 std:=λc a g e=>by
  rcases B5 e with ⟨rfl,_⟩ | e
  ·exfalso;exact Nat.not_lt.2 (Nat.le_trans (by decide:GS<=Pn) (Nat.le_add_left Pn f)) (IM g)
  ·exact (d.std c a g e).mk
 row:=λc l t s o q e=>by
  rcases B5 e with ⟨_,j⟩ | e
  ·cases j;cases hc
  ·exact (d.row _ _ _ _ _ q e).mk
 dat:=λc a g e=>by
  rcases B5 e with ⟨k,_⟩ | e
  ·exfalso
   have j:f=c+Hj:=by
    have:c+(Hj+Pn)=f+Pn:=k;rw [<- Nat.add_assoc] at this;exact (Nat.add_right_cancel this).symm
   exact S7 i (by decide) j
  ·exact (d.dat c a g e).mk
 ptr:=λc a g e=>by
  rcases B5 e with ⟨k,rfl⟩ | e
  ·have:c=f:=Nat.add_right_cancel k;subst this;exact FnP.mk λx y p u r=>dC d (HK d) ((h x).trans p) r
  ·exact (d.ptr _ _ g e).mk
theorem kl {P:Program} {pu:FuncId->Bool} {L:List (FuncId×Sg)} (i:TabOK P (AC pu L)) {ann:Pm} {F n:Nat} {f:FuncId} {dom:List (Bool×Ty)} {g:Bool} {c:Ty} {m:AH dom->Option (List c.den)} (h : ∀ x,YE P (AC pu L) ann F n f dom g c x=m x) (q:Nat.blt f Hj=true:=by rfl):TabOK P (AC pu ((f+V8,⟨dom,[(false,.sl g c)],m⟩)::L)) where
 std:=λa b d e=>by
  rcases B5 e with ⟨rfl,_⟩ | e
  ·exfalso;exact Nat.not_lt.2 (Nat.le_trans (by decide:GS<=V8) (Nat.le_add_left V8 f)) (IM d)
  ·exact (i.std a b d e).mk
 row:=λa l u t p o e=>by
  rcases B5 e with ⟨j,_⟩ | e
  ·exfalso
   have k:a=f+GS:=by
    have:a+GS=f+(GS+GS):=j;rw [<- Nat.add_assoc] at this;exact Nat.add_right_cancel this
   exact S7 o (by decide) k
  ·exact (i.row _ _ _ _ _ o e).mk
 ptr:=λa b d e=>by
  rcases B5 e with ⟨j,_⟩ | e
  ·exfalso
   have k:a=f+Hj:=by
    have:a+Pn=f+(Hj+Pn):=j;rw [<- Nat.add_assoc] at this;exact Nat.add_right_cancel this
   exact S7 d (by decide) k
  ·exact (i.ptr a b d e).mk
 dat:=λa b d e=>by
  rcases B5 e with ⟨j,rfl⟩ | e
  ·have:a=f:=Nat.add_right_cancel j;subst this;exact FnL.mk λx y r w s=>dB i (HK i) ((h x).trans r) s
  ·exact (i.dat _ _ d e).mk
theorem AF {P:Program} {pu:FuncId->Bool} {L:List (FuncId×Sg)} (b:TabOK P (AC pu L)) {ann:Pm} {F n:Nat} {g k:FuncId} {dom a:List (Bool×Ty)} {c:AH dom->Option (AH a)} (h : ∀ x,Ac P (AC pu L) ann F n g dom a x=c x) (f:Nat.blt k GS=true:=by rfl) (d:lq k=g:=by rfl) :
  TabOK P (AC pu ((k,⟨dom,a,c⟩)::L)):=PI b f (by rw [d];exact λx y e j i=>PG b (HK b) ((h x).trans e) i)
def Ko {α β:Type} (a:(α->Option β)->α->Option β):Nat->α->Option β
 | 0=>λ_=>none
 | n+1=>a (Ko a n)
theorem km {P:Program} {pu:FuncId->Bool} {L:List (FuncId×Sg)} (e:TabOK P (AC pu L)) {ann:Pm} {F n:Nat} {g:FuncId} {dom a:List (Bool×Ty)} {b:(AH dom->Option (AH a))->AH dom->Option (AH a)}
  (h : ∀ r x,Ac P (AC pu ((g,⟨dom,a,r⟩)::L)) ann F n g dom a x=b r x) (f:Nat.blt g GS=true:=by rfl) (j:lq g=g:=by rfl) : ∀ d,TabOK P (AC pu ((g,⟨dom,a,Ko b d⟩)::L)):=by
 intro d
 induction d with
 | zero=>exact PI e f λx y c=>by cases c
 | succ d i =>
  refine PI e f ?_;rw [j];have:FnOK P (AC pu ((g,⟨dom,a,Ko b d⟩)::L)) g ⟨dom,a,Ko b (d+1)⟩:=λx y c l k=>PG i (HK i) ((h _ x).trans c) k;exact this.mk
end Go.Proofs.YtfilfloanndddaaGreat.Sv
namespace Go.Proofs.YtfilfloanndddaaGreat.Sv
variable [Pi.Gl]
open Go.Proofs.YtfilfloanndddaaGreat.Pi (PV T Hp Blk DF UM PE Rep RepL mu0 CJ Sim)
open Go.RowKit
theorem mb {M:CJ} {w:World} (e:Pi.GlOK M) (f : ∀ a v,M a=some v->a.spot=none/\w.cell? a=some v):Sim M mu0 I1 w:=by
 refine ⟨e,λa v h=>f a v h,λid b c => ?_,λid r d => ?_,λid g r i b b' d => ?_,λid r b a v c => ?_⟩
 ·rw [show I1={ m:=.lf,nx:=0 } from rfl,Pi.Hp.get_lf] at c;cases c
 ·simp [mu0] at d
 ·simp [mu0] at d
 ·rw [show I1={ m:=.lf,nx:=0 } from rfl,Pi.Hp.get_lf] at c;cases c
theorem Zk (h : ∀ g,Pi.Gl.g g=none) (M:CJ):Pi.GlOK M:=λg cs e=>by rw [h] at e;cases e
theorem Zl {P:Program} (C:Pi.SQ P) {b:Jc} (p:TabOK P b) {ann:Pm} {F n:Nat} {f:FuncId} {dom:List (Bool×Ty)} {x:AH dom} (e:Ac P b ann F n f dom [(false,.bool)] x=some true)
  {l:List PV} (t:IZ dom x l) {M:CJ} (B:Pi.GlOK M) {w:World} (D : ∀ a v,M a=some v->a.spot=none/\w.cell? a=some v) {vs:List Value} (u:RepL M mu0 l vs) :
  Calls P f vs.toArray w λe w'=>e = .returned (.bool true)/\Grown w w':=by
 intro cs;obtain ⟨r,up,I,⟨N,A⟩,k⟩:=PG p (HK p) e t;have R:=Pi.cG (sh:=Bt b) C (λrec R=>Pi.cN (P:=P) (rec:=rec) R) N N;obtain ⟨G,μ',w',fr,s1,c,z,j,x,s,E⟩:=R.nrm (A N N (Nat.le_refl _) (Nat.le_refl _)) (mb B D) u cs
 have h:r = .bool true:=by
  have:[r]=[PV.bool true]:=k;simpa using this
 subst h;cases s;refine ⟨.returned (.bool true),w',fr,⟨rfl,⟨⟨c.os,c.output,λi hi => ?_⟩,λa => ?_,c.size⟩⟩,z,j,E⟩
 ·have y:w'.heap[i]? = w.heap[i]? := c.keeps _ hi;rw [y];cases s:w.heap[i]? with
  | none=>trivial
  | some o=>cases o<;>first | exact ⟨rfl,rfl,rfl,λ_ _=>rfl⟩ | exact .inr ⟨rfl,rfl⟩ | rfl
 ·by_cases g:a.block<w.heap.size
  ·simp only [World.frozen?,c.keeps _ g]
  ·have m:w.heap[a.block]? = none:=Array.getElem?_eq_none (by omega);simp only [World.frozen?,m];split
   ·rename_i arr ty lo hi hc;rcases c.nf _ _ _ _ hc with d | ⟨q,d⟩
    ·cases d;simp
    ·rw [m] at d;cases d
   ·rfl
end Go.Proofs.YtfilfloanndddaaGreat.Sv
namespace Go.Proofs.YtfilfloanndddaaGreat.Sv
variable [Pi.Gl]
open Go.Proofs.YtfilfloanndddaaGreat.Pi (PV T Hp Blk DF UM PE)
theorem lx {P:Program} {a:Jc} {b:Pi.Tg} {up:Option UM} {args:List PV} {h:Hp} {r:Pi.Out×Option UM×Hp} {F n:Nat} (e:Pi.GA P (Bt a) F n b up args h=some r):PD P a b up args h r :=
 ⟨max F n,λg f d c=>Pi.cQ (by omega) (by omega) _ _ _ _ _ e⟩
def pO (P:Program) (sh:FuncId->Bool) (F n:Nat) (g:FuncId):Bool:=match Pi.GA P sh F n (.fn g) none [] I1 with
 | some (.ret v,_,_)=>(match v with
  | .bool b=>b
  | _=>false)
 | _=>false
def OG (P:Program) (sh:FuncId->Bool) (F n:Nat) (g:FuncId) (p:PV):Bool:=match Pi.GA P sh F n (.fn g) none [p] I1 with
 | some (.ret v,_,_)=>(match v with
  | .nils=>true
  | .lst _ es=>es.isEmpty
  | _=>false)
 | _=>false
theorem Zm {P:Program} {sh:FuncId->Bool} {F n:Nat} {g:FuncId} {p:PV} (e:OG P sh F n g p=true) : ∃ v up h,Pi.GA P sh F n (.fn g) none [p] I1=some (.ret v,up,h)/\(v = .nils \/ ∃ f,v = .lst f []):=by
 unfold OG at e;split at e
 ·rename_i v up h a;refine ⟨v,up,h,a,?_⟩;split at e
  ·exact .inl rfl
  ·rename_i f es;cases es with
   | nil=>exact .inr ⟨f,rfl⟩
   | cons _ _=>cases e
  ·cases e
 ·cases e
def ML (P:Program) (sh:FuncId->Bool) (F n:Nat) (g:FuncId):Bool:=OG P sh F n g .nils&&(OG P sh F n g (.lst false [])&&OG P sh F n g (.lst true []))
theorem dR {P:Program} {pu:FuncId->Bool} {L:List (FuncId×Sg)} {F0 i:Nat} {g:FuncId} {gg:Bool} {c:Ty} (b:ML P (λf => !pu f) F0 i g=true) {j:List PV} (l:IZ [(false,.sl gg c)] ([]:List c.den) j) : ∃ v up h,PD P (AC pu L) (.fn g) none j I1 (.ret v,up,h)/\(v = .nils \/ ∃ f,v = .lst f []):=by
 obtain ⟨p,rfl,d⟩:=l;have d : ∃ q,[p]=[q]/\((q = .nils/\([]:List c.den)=[]) \/ ∃ f es,q = .lst f es/\L2 (EP gg (DP c)) [] es):=d;obtain ⟨q,n,d⟩:=d;cases n;unfold ML at b;simp only [Bool.and_eq_true] at b
 have a:OG P (λf => !pu f) F0 i g p=true -> ∃ v up h,PD P (AC pu L) (.fn g) none [p] I1 (.ret v,up,h)/\(v = .nils \/ ∃ f,v = .lst f []):=λe=>by
  obtain ⟨v,up,s,k,r⟩:=Zm e;exact ⟨v,up,s,lx (by rw [S6];exact k),r⟩
 rcases d with ⟨rfl,_⟩ | ⟨m,es,rfl,o⟩
 ·exact a b.1
 ·have:=o.nil_inv;subst this;cases m with
  | false=>exact a b.2.1
  | true=>exact a b.2.2
theorem NM {P:Program} {pu:FuncId->Bool} {L:List (FuncId×Sg)} (k:TabOK P (AC pu L)) {ann:Pm} {F n F0 o:Nat} {g:FuncId} {gg:Bool} {c:Ty} {i:List c.den->Option (List c.den)}
  (s:ML P (λf => !pu f) F0 o g=true) (m:i []=some []) (h : ∀ a l,Ac P (AC pu L) ann F n g [(false,.sl gg c)] [(false,.sl gg c)] (a::l)=i (a::l)) (t:Nat.blt g GS=true:=by rfl) (q:lq g=g:=by rfl) :
  TabOK P (AC pu ((g,⟨[(false,.sl gg c)],[(false,.sl gg c)],i⟩)::L)):=PI k t (by
 rw [q]
 have key : ∀ (x y:List c.den) (e:List PV),i x=some y->IZ [(false,.sl gg c)] x e -> ∃ r up d,PD P (AC pu L) (.fn g) none e I1 (.ret r,up,d)/\O3 d [(false,.sl gg c)] y r:=by
  intro x y e b j;cases x with
  | cons a l=>exact PG k (HK k) ((h a l).trans b) j
  | nil =>
   rw [m] at b;cases b;obtain ⟨v,up,d,p,u⟩:=dR s j;refine ⟨v,up,d,p,?_⟩;show DX d (λ_=>True) (λ_=>True) (.sl gg c) [] [v];refine ⟨v,rfl,?_⟩;rcases u with rfl | ⟨f,rfl⟩
   ·exact .inl ⟨rfl,rfl⟩
   ·exact .inr (.inl ⟨f,[],rfl,.nil⟩)
 exact λx y b e j=>key x y e b j)
def OH (P:Program) (sh:FuncId->Bool) (F n:Nat) (g:FuncId) (p:PV):Bool:=match Pi.GA P sh F n (.fn g) none [p] I1 with
 | some (.ret v,_,_)=>(match v with
  | .nils=>true
  | .lst true es=>es.isEmpty
  | _=>false)
 | _=>false
theorem Zn {P:Program} {sh:FuncId->Bool} {F n:Nat} {g:FuncId} {p:PV} (e:OH P sh F n g p=true) : ∃ v up h,Pi.GA P sh F n (.fn g) none [p] I1=some (.ret v,up,h)/\(v = .nils\/v = .lst true []):=by
 unfold OH at e;split at e
 ·rename_i v up h a;refine ⟨v,up,h,a,?_⟩;split at e
  ·exact .inl rfl
  ·rename_i es;cases es with
   | nil=>exact .inr rfl
   | cons _ _=>cases e
  ·cases e
 ·cases e
def OI (P:Program) (sh:FuncId->Bool) (F n:Nat) (g:FuncId):Bool:=OH P sh F n g .nils&&(OH P sh F n g (.lst false [])&&OH P sh F n g (.lst true []))
theorem NN {P:Program} {pu:FuncId->Bool} {L:List (FuncId×Sg)} (t:TabOK P (AC pu L)) {ann:Pm} {F n F0 A:Nat} {g:FuncId} {gg:Bool} {c:Ty} {j:List c.den->Option (List c.den)}
  (k:OI P (λf => !pu f) F0 A g=true) (z:j []=some []) (w : ∀ a l y,j (a::l)=some y->y≠[]) (h : ∀ a l,Pp P (AC pu L) ann F n g [(false,.sl gg c)] gg c (a::l)=j (a::l)) (u:Nat.blt g Hj=true:=by rfl) :
  TabOK P (AC pu ((g+GS,⟨[(false,.sl gg c)],[(false,.sl gg c)],j⟩)::L)):=ki t u (by
 have key : ∀ (x y:List c.den) (o:List PV),j x=some y->IZ [(false,.sl gg c)] x o -> ∃ r up d,PD P (AC pu L) (.fn g) none o I1 (.ret r,up,d)/\cv d gg c y r:=by
  intro x y o i s;cases x with
  | cons a l=>exact dD t (HK t) ((h a l).trans i) (w _ _ _ i) s
  | nil =>
   rw [z] at i;cases i;obtain ⟨p,rfl,m⟩:=s;have m : ∃ q,[p]=[q]/\((q = .nils/\([]:List c.den)=[]) \/ ∃ f es,q = .lst f es/\L2 (EP gg (DP c)) [] es):=m;obtain ⟨q,D,m⟩:=m;cases D;unfold OI at k;simp only [Bool.and_eq_true] at k
   have b:OH P (λf => !pu f) F0 A g p=true -> ∃ r up d,PD P (AC pu L) (.fn g) none [p] I1 (.ret r,up,d)/\cv d gg c [] r:=λe=>by
    obtain ⟨v,up,d,B,G⟩:=Zn e;exact ⟨v,up,d,lx (by rw [S6];exact B),.inl ⟨rfl,G⟩⟩
   rcases m with ⟨rfl,_⟩ | ⟨C,es,rfl,E⟩
   ·exact b k.1
   ·have:=E.nil_inv;subst this;cases C with
    | false=>exact b k.2.1
    | true=>exact b k.2.2
 exact λx y i o s=>key x y o i s)
theorem NO {α:Type} {a:α} {l y:List α} (h:gd (BP (AA (a::l)) 1048576) (λ_=>some (a::l))=some y):y≠[]:=by
 unfold gd at h;cases b:BP (AA (a::l)) 1048576 with
 | true=>rw [b] at h;cases h;simp
 | false=>rw [b] at h;cases h
end Go.Proofs.YtfilfloanndddaaGreat.Sv
namespace Go.Proofs.YtfilfloanndddaaGreat.Sv
variable [Pi.Gl]
open Go.Proofs.YtfilfloanndddaaGreat.Pi (PV Rep RepL mu0 CJ)
open Go.RowKit Go.ChangeShapes Go.WideShapes
def Ow (w:World):CJ:=λa=>if a.spot=none then w.cell? a else none
theorem dS (w:World) : ∀ a v,Ow w a=some v->a.spot=none/\w.cell? a=some v:=λa v h=>by
 unfold Ow at h;split at h
 ·rename_i hs;exact ⟨hs,h⟩
 ·cases h
def kn:(c:Ty)->c.den->Prop
 | .int k,n=>(Lit.int k n).wf=true
 | .bool,_=>True
 | .str,s=>s.length<=maxLen
 | .unit,_=>True
 | .pair a b,x=>kn a x.1/\kn b x.2
 | .sl _ c,l=>l.length<=maxLen /\ ∀ x∈l,kn c x
def dT:(l:List (Bool×Ty))->AH l->Prop
 | [],_=>True
 | [p],x=>kn p.2 x
 | p::q::r,x=>kn p.2 x.1/\dT (q::r) x.2
def Vj (P:Program):Nat->TypeId->Option (Bool×Ty)
 | 0,_=>none
 | d+1,t=>match P.underlying t with
  | some (.int k)=>some (false,.int k)
  | some .bool=>some (false,.bool)
  | some .string=>some (false,.str)
  | some (.slice e)=>match Vj P d e with
   | some (g,c)=>bif Nat.blt 0 c.wd then some (false,.sl g c) else none
   | none=>none
  | some (.struct fs)=>(cR (Vj P d) fs.toList).map λc=>(true,c)
  | _=>none
theorem YY {P:Program} : ∀ {d:Nat} {t:TypeId} {c:Ty},Vj P d t=some (false,c)->(∃ k,c = .int k)\/c = .bool\/c = .str \/ ∃ g e,c = .sl g e
 | 0,t,c,h=>by cases h
 | d+1,t,c,h=>by
  unfold Vj at h;split at h
  ·cases h;exact .inl ⟨_,rfl⟩
  ·cases h;exact .inr (.inl rfl)
  ·cases h;exact .inr (.inr (.inl rfl))
  ·split at h
   ·replace h:=BD h;cases h.2;exact .inr (.inr (.inr ⟨_,_,rfl⟩))
   ·cases h
  ·obtain ⟨x,_,a⟩:=Pi.AQ h;cases a
  ·cases h
structure Cells (w:World) (c:Ty) (x:c.den) (ps:List PV) (cs:List Value):Prop where
 dp:DP c x ps
 ok:kn c x
 len:ps.length=cs.length
 wd:cs.length=c.wd
 rep : ∀ (i:Nat) p v,ps[i]? = some p->cs[i]? = some v->Rep (Ow w) mu0 p v
 one : ∀ v∈cs,v.oneCell'=true
theorem Cells.ep {w:World} {d:Nat} {P:Program} {t:TypeId} {g:Bool} {c:Ty} (hc:Vj P d t=some (g,c)) {x:c.den} {a:List PV} {cs:List Value} (h:Cells w c x a cs) : ∃ e,EP g (DP c) x e/\e.cells=a:=by
 cases g with
 | true=>exact ⟨.agg a,⟨a,rfl,h.dp⟩,rfl⟩
 | false =>
  rcases YY hc with ⟨k,rfl⟩ | rfl | rfl | ⟨g,e,rfl⟩
  ·have:=h.dp;exact ⟨.int k x,rfl,this.symm⟩
  ·have:=h.dp;exact ⟨.bool x,rfl,this.symm⟩
  ·have:=h.dp;exact ⟨.str x,rfl,this.symm⟩
  ·obtain ⟨p,i,b⟩:=h.dp;refine ⟨p,⟨p,rfl,b⟩,?_⟩;rw [i];rcases b with ⟨rfl,_⟩ | ⟨f,es,rfl,_⟩<;>rfl
section
variable {H:Type} {enc:TypeId×Value->H} {P:Program} {w:World}
theorem YZ {a:Addr} (b:a.spot=none) (n:Nat):a.add n=⟨a.block,a.off+n,none⟩:=by
 unfold Addr.add;split
 ·rename_i h;subst h;cases a;simp at b;subst b;rfl
 ·rfl
theorem Zo {a:Addr} {v:Value} (h:w.cell? a=some v):a.spot=none:=by
 unfold World.cell? at h;split at h
 ·split at h
  ·cases h
  ·rename_i hs;cases b:a.spot with
   | none=>rfl
   | some _=>rw [b] at hs;simp at hs
 ·cases h
theorem MM (K:Kids P (· < P.types.size)) : ∀ (D:Nat) {t:TypeId} {g:Bool} {c:Ty},Vj P D t=some (g,c)->t<P.types.size -> ∀ {X:Nat} {cs:List Value} {y:DataW H×List MemPlace},DataW.trod enc P w 0 (λ_=>true) true X t cs=some y -> ∃ x C,Cells w c x C cs
 | 0,t,g,c,hc,_,_,_,_,_=>by cases hc
 | D+1,t,g,c,hc,ht,X,cs,y,h=>by
  unfold Vj at hc;split at hc
  ·rename_i k F;cases hc;obtain ⟨n,rfl,_,hw⟩:=DataW.trod_int F h;exact ⟨n,[.int k n],rfl,hw,rfl,rfl,λi p v d l=>by cases i<;>simp at d l;subst d;subst l;exact .int _ _ _,λv hv=>by simp at hv;subst hv;rfl⟩
  ·rename_i F;cases hc;obtain ⟨b,rfl,_⟩:=DataW.trod_bool F h;exact ⟨b,[.bool b],rfl,trivial,rfl,rfl,λi p v d l=>by cases i<;>simp at d l;subst d;subst l;exact .bool _ _,λv hv=>by simp at hv;subst hv;rfl⟩
  ·rename_i F;cases hc;obtain ⟨s,rfl,_,hs⟩:=DataW.trod_string F h;exact ⟨s.data.toList,[.str s.data.toList],rfl,(by show s.data.toList.length<=maxLen;simpa using hs),rfl,rfl,λi p v d l=>by cases i<;>simp at d l;subst d;subst l;exact .str _ _,λv hv=>by simp at hv;subst hv;rfl⟩
  ·rename_i e F;split at hc
   ·rename_i ge ce hce;replace hc:=BD hc;obtain ⟨hwd,hc⟩:=hc;cases hc;have hwd:0<ce.wd:=by simpa using hwd
    have hte:=K.slice ht F;rcases DataW.trod_slice F h with ⟨rfl,_⟩ | ⟨a,len,cap,L,rest,n,_,rfl,_,_,hlc,hcm,hel,hels,_,_⟩
    ·exact ⟨[],[.nils],⟨_,rfl,.inl ⟨rfl,rfl⟩⟩,⟨Nat.zero_le _,λ_ h=>by cases h⟩,rfl,rfl,λi p v d l=>by cases i<;>simp at d l;subst d;subst l;exact .nils _,λv hv=>by simp at hv;subst hv;rfl⟩
    ·
     have W : ∀ i,i<len -> ∃ x C cs,Cells w ce x C cs/\(∀ (j:Nat),j<cs.length->w.cell? ((a.add (i*P.cellsOf e)).add j)=cs[j]?)/\cs.length=P.cellsOf e:=λi hi=>by
      have d:=hels i hi;rw [show L[i]? = some L[i] by simp [hel,hi]] at d;cases Z:w.cells? 0 (a.add (i*P.cellsOf e)) (P.cellsOf e) with
      | none=>rw [Z] at d;cases d
      | some cs =>
       rw [Z] at d;obtain ⟨x,C,M⟩:=MM K D hce hte (show DataW.trod enc P w 0 (λ_=>true) true n e cs=some _ from d);obtain ⟨_,hl,o⟩:=World.cells?_some Z;exact ⟨x,C,cs,M,λj hj=>o j (by omega),hl⟩
     by_cases h0:len=0
     ·subst h0;exact ⟨[],[.lst false []],⟨_,rfl,.inr ⟨_,_,rfl,.nil⟩⟩,⟨Nat.zero_le _,λ_ h=>by cases h⟩,rfl,rfl,λi p v d l=>by cases i<;>simp at d l;subst d;subst l;exact .lst0 _ _ _ _ (λh=>by cases h),λv hv=>by simp at hv;subst hv;rfl⟩
     ·have A:a.spot=none:=by
       obtain ⟨x,C,cs,M,o,hl⟩:=W 0 (by omega);have I:=M.wd;have:=o 0 (by omega);rw [show cs[0]? = some cs[0] from by simp] at this;have hs:=Zo this;simpa [Addr.add] using hs
      have all : ∀ m,m<=len -> ∃ (xs:List ce.den) (es:List PV) (vs:List (List Value)),xs.length=m/\es.length=m/\vs.length=m/\L2 (EP ge (DP ce)) xs es/\(∀ x∈xs,kn ce x) /\
        ∀ (i:Nat) z u,es[i]? = some z->vs[i]? = some u->z.cells.length=u.length/\u.length=P.cellsOf e/\(∀ (j:Nat) p v,z.cells[j]? = some p->u[j]? = some v->Rep (Ow w) mu0 p v/\v.oneCell'=true/\w.cell? ((a.add (i*P.cellsOf e)).add j)=some v):=by
       intro m
       induction m with
       | zero=>exact λ_=>⟨[],[],[],rfl,rfl,rfl,.nil,(λ_ h=>by cases h),λi z u h=>by simp at h⟩
       | succ m ih =>
        intro hm;obtain ⟨xs,es,vs,l1,l2,l3,hl,Y,hr⟩:=ih (by omega);obtain ⟨x,C,cs,M,o,hlc⟩:=W m (by omega);obtain ⟨e1,he1,he2⟩:=M.ep hce;refine ⟨xs++[x],es++[e1],vs++[cs],by simp [l1],by simp [l2],by simp [l3],hl.append (.cons he1 .nil),λy hy => ?_,λi z u d l => ?_⟩
        ·rcases List.mem_append.1 hy with hy | hy
         ·exact Y y hy
         ·simp at hy;subst hy;exact M.ok
        ·by_cases hi:i<m
         ·rw [List.getElem?_append_left (by omega)] at d l;exact hr i z u d l
         ·have him:i=m:=by
           have:=(List.getElem?_eq_some_iff.1 d).1;simp [l2] at this;omega
          subst him;rw [List.getElem?_append_right (by omega),l2] at d;rw [List.getElem?_append_right (by omega),l3] at l;simp at d l;subst d;subst l;refine ⟨by rw [he2,M.len],hlc,λj p v d l => ?_⟩;rw [he2] at d;have hj:=(List.getElem?_eq_some_iff.1 l).1;exact ⟨M.rep j p v d l,M.one v (List.mem_of_getElem? l),by rw [o j hj,l]⟩
      obtain ⟨xs,es,vs,l1,l2,l3,hl,Y,hr⟩:=all len (Nat.le_refl _)
      have U : ∀ (i:Nat) (z:PV),es[i]? = some z -> ∃ u,vs[i]? = some u:=λi z d=>by
       have:=(List.getElem?_eq_some_iff.1 d).1;exact ⟨vs[i]'(by omega),by simp [show i<vs.length by omega]⟩
      have o : ∀ (i:Nat) (z:PV) (j:Nat) (p:PV),es[i]? = some z->z.cells[j]? = some p -> ∃ v,((vs.getD i []).getD j .nilIface)=v/\Rep (Ow w) mu0 p v/\v.oneCell'=true/\w.cell? ⟨a.block,a.off+i*P.cellsOf e+j,none⟩=some v:=λi z j p d l=>by
       obtain ⟨u,N⟩:=U i z d;obtain ⟨G,S,k3⟩:=hr i z u d N;have hj:=(List.getElem?_eq_some_iff.1 l).1;have hv:u[j]? = some (u[j]'(by omega)):=by simp [show j<u.length by omega]
       obtain ⟨q1,q2,q3⟩:=k3 j p _ l hv;rw [YZ A] at q3;rw [YZ rfl] at q3;exact ⟨_,by simp [List.getD_eq_getElem?_getD,N,hv],q1,q2,q3⟩
      refine ⟨xs,[.lst false es],⟨_,rfl,.inr ⟨_,_,rfl,hl⟩⟩,⟨by omega,Y⟩,rfl,rfl,λi p v d l => ?_,λv hv=>by simp at hv;subst hv;rfl⟩;cases i with
      | succ i=>simp at d
      | zero =>
       simp at d l;subst d;subst l;have ea:a=⟨a.block,a.off,none⟩:=by cases a;simp at A;subst A;rfl
       rw [ea,show len=es.length from l2.symm];refine .lst _ _ es a.block a.off (P.cellsOf e) cap (λi j=>(vs.getD i []).getD j .nilIface) (λh=>by cases h) (by omega) (λi z d => ?_) (λi z j p d l => ?_) (λi z j p d l => ?_) (λi z j p d l => ?_)
       ·obtain ⟨u,N⟩:=U i z d;obtain ⟨G,S,_⟩:=hr i z u d N;omega
       ·obtain ⟨v,e1,_,_,e4⟩:=o i z j p d l;simp only [Ow,if_true,e4,e1]
       ·obtain ⟨v,e1,_,e3,_⟩:=o i z j p d l;simp only [e1];exact e3
       ·obtain ⟨v,e1,e2,_,_⟩:=o i z j p d l;simp only [e1];exact e2
   ·cases hc
  ·rename_i fs F;obtain ⟨u,hgo,M⟩:=Pi.AQ hc;cases M;obtain ⟨xs,n,_,_,I,hxs,hf⟩:=DataW.trod_struct F h;obtain ⟨hty,B,hoff⟩:=K.struct ht F
   have go : ∀ (r q:List Field) (u:Ty),fs.toList=q++r->cR (Vj P D) r=some u -> ∃ x C,Cells w u x C ((cs.drop ((q.map λf=>P.cellsOf f.type).sum)).take ((r.map λf=>P.cellsOf f.type).sum)):=by
    intro r
    induction r with
    | nil =>
     intro q u _ hg;cases hg;exact ⟨(),[],rfl,trivial,by simp,by simp [Ty.wd],λi p v d=>by simp at d,λv hv=>by simp at hv⟩
    | cons f r ih =>
     intro q u E hg
     have hfi:fs[q.length]? = some f:=by
      rw [<- Array.getElem?_toList,E];simp
     have hfi':fs.toList[q.length]? = some f:=by rw [E];simp
     have ho:=hoff _ _ hfi';rw [show (fs.toList.take q.length)=q by rw [E];simp] at ho;have hfe:=hf _ _ hfi
     have hi:q.length<xs.length:=by
      have:=(Array.getElem?_eq_some_iff.1 hfi).1;omega
     rw [show xs[q.length]? = some xs[q.length] by simp [hi],ho] at hfe;have htf:=hty f (by rw [E];simp)
     have htot:cs.length=((q.map λf=>P.cellsOf f.type).sum)+(P.cellsOf f.type+(r.map λf=>P.cellsOf f.type).sum):=by
      rw [I,B,E];simp [List.sum_append]
     have one : ∀ {g:Bool} {c1:Ty},Vj P D f.type=some (g,c1) -> ∃ x C,Cells w c1 x C ((cs.drop ((q.map λf=>P.cellsOf f.type).sum)).take (P.cellsOf f.type)):=λd=>MM K D d htf hfe;cases r with
     | nil =>
      have J:(Vj P D f.type).map (·.2)=some u:=hg;obtain ⟨⟨g,c1⟩,d,l⟩:=Pi.AQ J;simp only at l;subst l;simpa using one d
     | cons f2 r =>
      have J:(match Vj P D f.type,cR (Vj P D) (f2::r) with
       | some (_,c),some r=>some (.pair c r)
       | _,_=>none)=some u:=hg
      split at J
      ·rename_i g1 c1 c2 d l;cases J;obtain ⟨x1,p1,G⟩:=one d;obtain ⟨x2,p2,S⟩:=ih (q++[f]) c2 (by rw [E];simp) l;rw [show (((q++[f]).map λf=>P.cellsOf f.type).sum)=((q.map λf=>P.cellsOf f.type).sum)+P.cellsOf f.type by simp [List.sum_append]] at S
       have O:(cs.drop ((q.map λf=>P.cellsOf f.type).sum)).take (((f::f2::r).map λf=>P.cellsOf f.type).sum)=(cs.drop ((q.map λf=>P.cellsOf f.type).sum)).take (P.cellsOf f.type)++(cs.drop ((q.map λf=>P.cellsOf f.type).sum+P.cellsOf f.type)).take (((f2::r).map λf=>P.cellsOf f.type).sum):=by
        rw [List.map_cons,List.sum_cons,List.take_add,List.drop_drop]
       rw [O];refine ⟨(x1,x2),p1++p2,⟨p1,p2,rfl,G.dp,S.dp⟩,⟨G.ok,S.ok⟩,by simp only [List.length_append,G.len,S.len],by rw [List.length_append,G.wd,S.wd];rfl,λi p v N h4 => ?_,λv hv => ?_⟩
       ·by_cases hi:i<p1.length
        ·rw [List.getElem?_append_left hi] at N;rw [List.getElem?_append_left (by rw [<- G.len];exact hi)] at h4;exact G.rep i p v N h4
        ·rw [List.getElem?_append_right (by omega)] at N;rw [List.getElem?_append_right (by rw [<- G.len];omega),<- G.len] at h4;exact S.rep _ p v N h4
       ·rcases List.mem_append.1 hv with hv | hv
        ·exact G.one v hv
        ·exact S.one v hv
      ·cases J
   obtain ⟨x,C,k⟩:=go fs.toList [] c (by simp) hgo;refine ⟨x,C,?_⟩
   have:(cs.drop ((([]:List Field).map λf=>P.cellsOf f.type).sum)).take ((fs.toList.map λf=>P.cellsOf f.type).sum)=cs:=by
    rw [<- B,<- I];simp
   rw [this] at k;exact k
  ·cases hc
def dU (P:Program) (D:Nat):List TypeId->Option (List (Bool×Ty))
 | []=>some []
 | t::ts=>match Vj P D t,dU P D ts with
  | some p,some l=>bif Nat.blt t P.types.size then some (p::l) else none
  | _,_=>none
theorem S8 {D:Nat} {t:TypeId} {g:Bool} {c:Ty} (hc:Vj P D t=some (g,c)) {r:Reach} {b0:Nat} {v:Value} (d:Value.okWide P w r b0 t v):(g=true /\ ∃ cs,v = .agg cs)\/(g=false/\v.cells = #[v]):=by
 cases D with
 | zero=>cases hc
 | succ D =>
  unfold Vj at hc;split at hc
  ·rename_i b;cases hc;obtain ⟨n,rfl⟩:=okWide_int b d;exact .inr ⟨rfl,rfl⟩
  ·rename_i b;cases hc;obtain ⟨n,rfl⟩:=okWide_bool b d;exact .inr ⟨rfl,rfl⟩
  ·rename_i b;cases hc;obtain ⟨n,rfl⟩:=okWide_string b d;exact .inr ⟨rfl,rfl⟩
  ·rename_i b;split at hc
   ·replace hc:=BD hc;cases hc.2;obtain ⟨a,len,cap,rfl⟩:=okWide_slice b d;exact .inr ⟨rfl,rfl⟩
   ·cases hc
  ·rename_i b;obtain ⟨x,_,e⟩:=Pi.AQ hc;cases e;obtain ⟨cs,rfl,_⟩:=okWide_struct b d;exact .inl ⟨rfl,cs,rfl⟩
  ·cases hc
theorem dV (K:Kids P (· < P.types.size)) {D:Nat} {t:TypeId} {g:Bool} {c:Ty} (hc:Vj P D t=some (g,c)) (E:t<P.types.size) {r:Reach} {b0:Nat} {v:Value} (z:Value.okWide P w r b0 t v) {d:DataW H} {q:List MemPlace} (h:DataW.Trod enc P w 0 (λ_=>true) true t v d q) :
  ∃ x p,EP g (DP c) x p/\kn c x/\Rep (Ow w) mu0 p v:=by
 obtain ⟨u,h⟩:=h;obtain ⟨x,n,k⟩:=MM K D hc E h;rcases S8 hc z with ⟨rfl,cs,rfl⟩ | ⟨rfl,j⟩
 ·refine ⟨x,.agg n,⟨n,rfl,k.dp⟩,k.ok,.agg _ _ _ (by have:=k.len;rw [Array.length_toList] at this;exact this) (λi v hi=>k.one v ?_) λi p v b C=>k.rep i p v b ?_⟩
  ·have:cs.toList[i]? = some v:=by simpa using hi
   exact List.mem_of_getElem? this
  ·show cs.toList[i]? = some v;simpa using C
 ·obtain ⟨e,m,a⟩:=k.ep hc;have y:=k.len;rw [j] at y
  have o : ∃ p,n=[p]:=by
   match n,y with
   | [p],_=>exact ⟨p,rfl⟩
  obtain ⟨p,rfl⟩:=o;refine ⟨x,e,m,k.ok,?_⟩
  have s:e=p:=by
   rcases YY hc with ⟨B,rfl⟩ | rfl | rfl | ⟨g,G,rfl⟩
   ·have b:[e]=[PV.int B x]:=m;simp at b;subst b;simpa [PV.cells] using a
   ·have b:[e]=[PV.bool x]:=m;simp at b;subst b;simpa [PV.cells] using a
   ·have b:[e]=[PV.str x]:=m;simp at b;subst b;simpa [PV.cells] using a
   ·obtain ⟨F,l,A⟩:=m;simp at l;subst l;rcases A with ⟨rfl,_⟩ | ⟨f,es,rfl,_⟩<;>simpa [PV.cells] using a
  subst s;exact k.rep 0 e v rfl (by rw [j];rfl)
theorem Rn (K:Kids P (· < P.types.size)) {D:Nat} {r:Reach} {b0:Nat} : ∀ {c:List TypeId} {dom:List (Bool×Ty)},dU P D c=some dom -> ∀ {vs:List Value} {f:List (DataW H)} {q:List MemPlace},(∀ (j:Nat) t v,c[j]? = some t->vs[j]? = some v->Value.okWide P w r b0 t v)->DataW.TrodAll enc P w 0 (λ_=>true) true c vs f q ->
  ∃ x b,IZ dom x b/\dT dom x/\RepL (Ow w) mu0 b vs
 | [],dom,h,vs,f,q,hv,ht=>by
  cases h;obtain ⟨rfl,_,_⟩:=trodAll_nil ht;exact ⟨(),[],rfl,trivial,.nil _ _⟩
 | t::c,dom,h,vs,f,q,hv,ht=>by
  unfold dU at h;split at h
  ·rename_i p l z n;replace h:=BD h;obtain ⟨e,h⟩:=h;cases h;obtain ⟨v,k,d,s,C,E,rfl,rfl,rfl,A,u⟩:=trodAll_cons ht;obtain ⟨x,a,e1,e2,e3⟩:=dV K z (by simpa using e) (hv 0 t v rfl rfl) A;obtain ⟨y,b,i,m,g⟩:=Rn K n (λj t v B o=>hv (j+1) t v B o) u;cases l with
   | nil =>
    have:b=[]:=i;subst this;exact ⟨x,[a],⟨a,rfl,e1⟩,e2,.cons e3 g⟩
   | cons q r=>exact ⟨(x,y),a::b,⟨a,b,rfl,e1,i⟩,⟨e2,m⟩,.cons e3 g⟩
  ·cases h
theorem Ro (K:Kids P (· < P.types.size)) (g : ∀ t e,t<P.types.size->P.underlying t=some (.slice e)->0<P.cellsOf e) {w':World} {j:Nat->Bool} : ∀ {c:List TypeId} {vs:List Value} {k:List (DataW H)} {b:List MemPlace},(∀ t∈c,t<P.types.size)->DataW.TrodAll enc P w 0 (λ_=>true) true c vs k b->(∀ p∈b,w.sameAt w' p)->(∀ p∈b,j p.block=true)->DataW.TrodAll enc P w' 0 j true c vs k b
 | [],[],[],_,_,h,_,_=>h
 | _::_,_::_,_::_,_,l,⟨p,q,⟨n,f⟩,d,e⟩,i,hs=>⟨p,q,⟨n,DataW.trod_stays K (λf d=>g _ _ f d) (λh=>by cases h) (l _ (by simp)) f (λx a=>i x (by rw [e];exact List.mem_append_left _ a)) (λx a=>hs x (by rw [e];exact List.mem_append_left _ a))⟩,
   Ro K g (λt m=>l t (by simp [m])) d (λx a=>i x (by rw [e];exact List.mem_append_right _ a)) (λx a=>hs x (by rw [e];exact List.mem_append_right _ a)),e⟩
end
end Go.Proofs.YtfilfloanndddaaGreat.Sv
namespace Go.Proofs.YtfilfloanndddaaGreat.Sv
section
variable {α β γ:Type}
theorem O4 {c:Bool} {p:Prop} [Decidable p] (h:c=true<->p) (x y:Unit->Option β):br c x y=if p then x () else y ():=by
 unfold br;by_cases a:p
 ·rw [h.2 a,if_pos a];rfl
 ·have:c=false:=by cases c with
   | false=>rfl
   | true=>exact absurd (h.1 rfl) a
  rw [this,if_neg a];rfl
theorem mc {c:Bool} {p:Prop} [Decidable p] (h:c=true<->p) (k:Unit->Option β):gd c k=if p then k () else none:=O4 h k λ_=>none
theorem A1 (a b:Int) (x y:Unit->Option β):br (Ak a b) x y=if a<b then x () else y ():=O4 (by unfold Ak;simp) x y
theorem Ya (a b:Int) (x y:Unit->Option β):br (j9 a b) x y=if a<=b then x () else y ():=O4 (by unfold j9;simp) x y
theorem Am (a b:Int) (x y:Unit->Option β):br (CD a b) x y=if a>b then x () else y ():=O4 (by unfold CD;simp) x y
theorem EK (a b:Int) (x y:Unit->Option β):br (HY a b) x y=if a>=b then x () else y ():=O4 (by unfold HY;simp) x y
theorem A2 (a b:Int) (x y:Unit->Option β):br (A8 a b) x y=if a=b then x () else y ():=O4 (by unfold A8;simp) x y
theorem AP (a b:Int) (x y:Unit->Option β):br (Ay a b) x y=if a=b then y () else x ():=by
 rw [O4 (p:=a≠b) (by unfold Ay;simp)];by_cases h:a=b<;>simp [h]
theorem md (c:Bool) (x y:Unit->Option β):br (Ad c) x y=br c y x:=by unfold br Ad;cases c<;>rfl
theorem Es (c:Bool) (x y:Unit->Option β):br c x y=if c=true then x () else y ():=by unfold br;cases c<;>rfl
theorem Cc (a b:Nat) (x y:Unit->Option β):br (neq a b) x y=if a=b then x () else y ():=O4 (by unfold neq;simp) x y
theorem me (a b:Nat) (x y:Unit->Option β):br (C7 a b) x y=if a<b then x () else y ():=O4 (by unfold C7;exact iff_of_eq Nat.blt_eq) x y
theorem AU (x y:Unit->Option β):br true x y=x ():=rfl
theorem Av (x y:Unit->Option β):br false x y=y ():=rfl
theorem AB (x:α) (k:α->Option β):bd (some x) k=k x:=rfl
theorem mf (a b:Nat) (k:Unit->Option β):gd (neq a b) k=if a=b then k () else none:=mc (by unfold neq;simp) k
theorem WY (a b:Nat) (k:Unit->Option β):gd (BP a b) k=if a<=b then k () else none:=mc (by unfold BP;simp) k
theorem Kq (a b:Nat) (k:Unit->Option β):gd (C7 a b) k=if a<b then k () else none:=mc (by unfold C7;exact iff_of_eq Nat.blt_eq) k
theorem ko {n:Int} (h:0<=n) (k:Nat->Option β):AT n k=k n.toNat:=by unfold AT;simp [h]
theorem AL {l:List α} {i:Nat} {x:α} (h:l[i]? = some x) (k:α->Option β):ix l i k=k x:=by unfold ix;rw [h]
theorem Yb {f:α->Option (LR α β)} {Inv:α->Prop} {Q:β->Prop} {m:α->Nat}
  (step : ∀ s,Inv s->(∃ s',f s=some (.nx s')/\Inv s'/\m s'<m s)\/(∃ x,f s=some (.dn x)/\Q x)) :
  ∀ (n:Nat) (s:α),Inv s->m s<n -> ∃ x,Di n f s=some x/\Q x
 | 0,s,_,h=>by omega
 | n+1,s,hi,h=>by
  unfold Di;rcases step s hi with ⟨s',e,a,c⟩ | ⟨x,e,b⟩
  ·rw [e];exact Yb step n s' a (by omega)
  ·rw [e];exact ⟨x,rfl,b⟩
theorem dW {f:α->Option (LR α β)} (Inv:α->Prop) (Q:β->Prop) (m:α->Nat) {s:α} (hs:Inv s) (a:m s<18446744073709551616)
  (step : ∀ s,Inv s->(∃ s',f s=some (.nx s')/\Inv s'/\m s'<m s)\/(∃ x,f s=some (.dn x)/\Q x)) : ∃ x,loop f s=some x/\Q x :=
 Yb step _ s hs a
theorem DV {a b:Int} (h : -9223372036854775808<=a+b/\a+b<=9223372036854775807):AI .i64 a b=a+b:=IntWalk.i64_in _ h
theorem CR {a b:Int} (h : -9223372036854775808<=a-b/\a-b<=9223372036854775807):CA .i64 a b=a-b:=IntWalk.i64_in _ h
theorem kq {a b:Int} (h : -9223372036854775808<=a*b/\a*b<=9223372036854775807):Pd .i64 a b=a*b:=IntWalk.i64_in _ h
end
end Go.Proofs.YtfilfloanndddaaGreat.Sv
