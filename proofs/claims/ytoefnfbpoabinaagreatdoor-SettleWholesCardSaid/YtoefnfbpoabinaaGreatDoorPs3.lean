/- A part of the evaluator over typed open values for any program, and of the proof that it is sound. No condition. -/
import Derived.Test.YtoefnfbpoabinaaGreatDoorPs2
import GoSem.Step
import Derived.RowKit3
import Derived.WalkKit
import Derived.ProofKit
import Derived.OpenShut
import Derived.ReadAgain
import Derived.ChangeStays
import Derived.IntWalk
set_option linter.all false
open List renaming any_eq_false->aN, append_nil->aK, cons_append->bf, drop_drop->bO, getElem?_append_left->bC, getElem?_append_right->aS, getElem?_eq_some_iff->an, length_append->bS, length_cons->bu, length_eq_zero_iff->cd, map_cons->cj, mem_append->al, mem_append_left->ax, mem_append_right->am, mem_cons->aj, mem_cons_of_mem->aB, mem_of_getElem?->bK, mem_of_mem_drop->cm, mem_of_mem_take->co, mem_singleton->au, nil_append->bY, take_add->cW, take_of_length_le->bc
open Nat renaming add_right_cancel->bI, beq->aa, ble->ad, blt->ae, blt_eq->bG, eq_of_beq_eq_true->ai, le_add_left->aM, le_of_ble_eq_true->ap, le_refl->ab, le_trans->aw, not_lt->bl, zero_le->bB
open Option renaming getD_some->aD, isSome_none->cr, map_some->aC
open Bool renaming and_eq_true->ac, cond_eq_ite->ay, not_eq_false'->aq, not_eq_true'->aU, not_true->ao, or_eq_false_iff->af, or_eq_true->bz, or_self->aL
open Option renaming some->zo, none->zn
open Bool renaming true->zt, false->zf
namespace Go.Proofs.YtoefnfbpoabinaaGreatDoor.Sv
section
abbrev IB:=List UInt8×List UInt8×Bool×Int
def Q7(a:IB):List IB->List IB
 |[]=>[a]
 |b::l=>bif Op.bytesLess a.1 b.1 then a::b::l else b::Q7 a l
def J5:List IB->List IB
 |[]=>[]
 |a::l=>Q7 a (J5 l)
def Ur(a:IB):Bool:=decide (a.1.length<=32)&&(decide (a.2.1.length<=64)&&(!(a.2.2.1 && !a.2.1.isEmpty)&&(decide (1<=a.2.2.2)&&decide (a.2.2.2<=1000000000))))
def SB:List IB->Bool
 |[]=>zt
 |a::l=> !(l.any λb=>b.1 == a.1)&&SB l
def Rr(l:List IB):Option (List IB):=bif (l.all Ur&&SB l)&&ad l.length 1048576 then zo (J5 l)else zn
theorem LP(a:IB):∀ l,(Q7 a l).length=l.length+1
 |[]=>rfl
 |b::l=>by
  unfold Q7;cases Op.bytesLess a.1 b.1<;>simp[LP a l]
theorem IS:∀ l,(J5 l).length=l.length
 |[]=>rfl
 |a::l=>by rw[J5,LP,IS l];rfl
theorem Ss(l l':List IB)(h:Rr l=zo l'):l'.length=l.length:=by
 unfold Rr at h;cases a:(l.all Ur&&SB l)&&ad l.length 1048576<;>rw[a]at h<;>cases h;exact IS l
end
section
variable[Pi.Gl]
open Pi (PV T Hp Blk DF UM PE AM AS AB AW Ap)
theorem Iy{X:Cx}:∀ {args:List V} {c:List PV} {i:Nat} {t:T V} {b:T PV},VRL X args c->TR X t b->i+args.length<=1048575->TR X (Gz i args t) (Pi.Bq i c b)
 |[],c,i,t,b,hv,ht,_=>by
  rw[hv.nil_inv];exact ht
 |a::l,c,i,t,b,hv,ht,hb=>by
  obtain⟨p,g,rfl,e,f⟩:=hv.cons_inv;simp only[bu]at hb;show TR X (Gz (i+1) l (T.put 20 t i a)) (Pi.Bq (i+1) g (T.put 20 b i p));exact Iy f (ht.put (d:=i) (by omega) e) (by omega)
theorem VRL.len{X:Cx}{vs:List V}{a:List PV}(h:VRL X vs a):a.length=vs.length:=h.length.symm
theorem Cd{X:Cx}{nt:Nat}(h:nt<1048575):∀ {l:List Nat} {args:List V} {f:List PV} {t g:T V} {c:T PV},VRL X args f->TR X t c->EZ nt l args t=zo g -> ∃ b,Pi.Bz nt l f c=zo b/\TR X g b
 |[],[],f,t,g,c,hv,ht,e=>by
  rw[hv.nil_inv];cases e;exact⟨c,rfl,ht⟩
 |p::l,a::args,f,t,g,c,hv,ht,e=>by
  obtain⟨q,r,rfl,i,j⟩:=hv.cons_inv;unfold EZ at e;replace e:=AN e;obtain⟨k,e⟩:=e;have m:p<nt:=by simpa using k
  obtain⟨b,n,o⟩:=Cd h j (ht.put (d:=p) (by omega) i) e
  grind [Pi.Bz]
 |[],_::_,_,_,_,_,_,_,e=>by cases e
 |_::_,[],_,_,_,_,_,_,e=>by cases e
section
variable{P:Program}{tab:Dr}{rec:IC}
theorem FU{β:Type}{x:β}{X:Cx}{h:H}{n:Nat}(r:RH X h n){t:T V}{z:T PV}(d:TR X t z):∀ {l:List ResultVar} {K:List V->Option β},Jl P h t l K=zo x -> ∃ vs b,K vs=zo x/\Pi.JC P X.h z l=zo b/\VRL X vs b
 |[],K,e=>⟨[],[],e,rfl,.nil⟩
 |.tmp k::l,K,e=>by
  unfold Jl at e;replace e:=AD e;obtain⟨v,o,e⟩:=e;obtain⟨p,i,c⟩:=d _ _ o;obtain⟨vs,b,e,f,g⟩:=FU r d e;exact⟨v::vs,p::b,e,by simp[Pi.JC,Pi.QY,i,f],.cons c g⟩
 |.cell a ty::l,K,e=>by
  unfold Jl at e;split at e
  ·rename_i j off o;obtain⟨p,i,c⟩:=d _ _ o;split at e
   ·rename_i cs fz L B;replace e:=AD e;obtain⟨v,s,e⟩:=e;obtain⟨pid,m,b,A,C,I,D,J,E⟩:=r.blk _ _ B;simp only[VR]at c;obtain⟨y,m',w,rfl⟩:=c;rw[C]at w;cases w;obtain⟨q,F,G⟩:=Bg (E.drop off) s;obtain⟨vs,u,e,f,g⟩:=FU r d e;exact⟨v::vs,q::u,e,by simp[Pi.JC,Pi.QY,i,D,F,f],.cons G g⟩
   ·cases e
  ·cases e
theorem GF {X : Cx} {fn : Func} {tP : T PV} {ps : List PV} (h1 : Pi.JC P X.h tP fn.results.toList = some ps) : ∀ {vs : List V}, VRL X vs ps -> ∃ pv, Pi.results P fn X.h tP = some pv /\ VR X (match vs with
            |[v]=>v
            |vs=>.tup vs) pv:=by
          intro vs h2;unfold Pi.results;rw[h1]
          match vs,ps,h2 with
          |[],[],_=>simp_all[VR]
          |[v],[p],h2=>exact⟨p,rfl,by obtain⟨_,_,h,h3,_⟩:=h2.cons_inv;simp_all⟩
          |a :: b :: c,p :: q :: s,h2=>simp_all[VR]
          |[],_ :: _,h2=>cases h2.nil_inv
          |_ :: _,[],h2=>obtain⟨_,_,h,_⟩:=h2.cons_inv;cases h
          |[_],_ :: _ :: _,h2=>obtain⟨_,_,h,_,h3⟩:=h2.cons_inv;cases h;cases h3.nil_inv
          |_ :: _ :: _,[_],h2=>obtain⟨_,_,h,_,h3⟩:=h2.cons_inv;cases h;obtain⟨_,_,h,_⟩:=h3.cons_inv;cases h
theorem HZ{X:Cx}{u:UMA}{uP:UM}(h:UMR X (zo u) (zo uP)):UMR X (zo (OD u)) (zo (Pi.K1 uP)):=by
 cases u with
 |ret=>
  have:zo uP=zo UM.ret:=h;cases this;exact h
 |pan d=>
  obtain⟨c,g,e⟩:=h;cases g;cases d with
  |nil=>rw[L2.nil_inv e];exact⟨[],rfl,.nil⟩
  |cons a d=>
   obtain⟨⟨k,br⟩,t,rfl,f,i⟩:=L2.cons_inv e;obtain⟨j,b⟩:=a;have:b=br:=f.2;subst this;cases b with
   |true=>rfl
   |false=>exact⟨_,rfl,.cons f i⟩
theorem Oo(R:RecAOK P tab rec){fn:Func}{β:Type}{x:β}:∀ {n:Nat} {ds:List DFA} {u:UMA} {t:T V} {h:H} {nx:Nat} {K:OutA->H->Nat->Option β},EQ P rec fn β n ds u t h nx K=zo x ->
  ∀ {X:Cx} {b bP:Nat} {E:List DF} {uP:UM} {tP:T PV},RH X h nx->nx<=1048575->L2 (DFR X) ds E->UMR X (zo u) (zo uP)->TR X t tP->b<=nx->bP<=X.h.nx ->
   ∃ o h' w Y C s,K o h' w=zo x/\(∃ N,∀ m F k,N<=m->N<=F->N<=k->Pi.leave P (Pi.B5 P (Ae tab) F k) fn m E uP tP X.h=zo (C,s))/\Run b bP X h nx Y h' w s/\MO Y o C:=by
 intro n
 induction n with
 |zero=>intro ds u t h nx K e;cases e
 |succ n ih=>
  intro ds u t h nx K e X b bP E uP tP r L B hu ht J y;unfold EQ at e;split at e
  ·have:=L2.nil_inv B;subst this;split at e
   ·have:zo uP=zo UM.ret:=hu;cases this;replace e:=FU r ht e;obtain⟨vs,ps,e,z,A⟩:=e;obtain⟨pv,M,k2⟩:=GF z A;refine⟨_,h,nx,X,.ret pv,X.h,e,⟨1,λm F k hm _ _=> ?_⟩,⟨rfl,r,L,ab _,Ext.refl _ _ _ _⟩,⟨pv,rfl,k2⟩⟩;obtain⟨m,rfl⟩:∃ m',m=m'+1:=⟨m-1,by omega⟩;unfold Pi.leave;rw[M]
   ·obtain⟨c,z,A⟩:=hu;cases z;refine⟨_,h,nx,X,.pan c,X.h,e,⟨1,λm F k hm _ _=> ?_⟩,⟨rfl,r,L,ab _,Ext.refl _ _ _ _⟩,⟨c,rfl,A⟩⟩;obtain⟨m,rfl⟩:∃ m',m=m'+1:=⟨m-1,by omega⟩;rfl
  ·rename_i id U;obtain⟨dP,D,rfl,z,A⟩:=L2.cons_inv B;obtain⟨pid,m0,M,rfl⟩:=z;split at e
   ·rename_i l hg;obtain⟨pid',m',q,b1,b2,b3,b4⟩:=r.blk _ _ hg;rw[M]at b1;cases b1;cases q with
    |none=>grind
    |some lP=>
     simp only at b4;obtain⟨hq,e1⟩:=BG X.h pid (.df zn);obtain⟨Y,y1,y2,y3,y4,y5⟩:=r.set (b':=.df zn) (by have:=r.dom _ _ M;omega) hg trivial rfl M b3 (λ_ _ _ _ _ _ _ _=>by simp) e1 (λY z1 z2 z3 u=>⟨pid,m0,zn,M,by grind,by rw[z2,(Hp.get_set e1).1,zy rfl],trivial⟩) X.h.nx;have u:=(y5 nx).up;obtain⟨o,h',w,Z,C,s,O,⟨N,c2⟩,d,S⟩:=ih e (b:=b) (bP:=bP) y4 L ((b4.append A).mono λ_ _ k=>k.mono u) (hu.mono u) (ht.mono u) J (by rw[y2,(Hp.get_set e1).2];exact y);refine⟨o,h',w,Z,C,s,O,⟨N+1,λm F k hm hF hk=> ?_⟩,⟨d.hp,d.rh,d.big,d.le,((y5 nx).ext J y).trans d.ext⟩,S⟩;obtain⟨m,rfl⟩:∃ m',m=m'+1:=⟨m-1,by omega⟩
     grind [Pi.leave]
   ·cases e
  ·rename_i b0 ats ty0 args U;obtain⟨dP,D,rfl,z,A⟩:=L2.cons_inv B;obtain⟨ps,rfl,h3⟩:=z;split at e
   ·rename_i j ty hty;obtain⟨p,qs,rfl,h4,h5⟩:=h3.cons_inv;have:=h5.nil_inv;subst this;split at e
    ·rename_i kt et kk g c l hu1 hg;simp only[VR]at h4;obtain⟨pid,m,hpi,rfl⟩:=h4;have W:=r.blk _ _ hg;rw[hpi]at W;obtain⟨_,_,es,k2,k3,k4,k6⟩:=W;cases k2;obtain⟨hP1,Y,e1,y1⟩:=r.mapSet L hg hpi k4 (l':=[]) (es':=[]) .nil;obtain⟨z1,z2,z3⟩:=y1 nx X.h.nx;have u:=z3.up;obtain⟨o,h',w,Z,C,s,O,⟨N,c2⟩,d,S⟩:=ih e (b:=b) (bP:=bP) z2 L (A.mono λ_ _ k=>k.mono u) (hu.mono u) (ht.mono u) J (by rw[z3.nx];exact y);refine⟨o,h',w,Z,C,s,O,⟨N+1,λm F k hm hF hk=> ?_⟩,⟨d.hp,d.rh,d.big,d.le,(z3.ext J y).trans d.ext⟩,S⟩;obtain⟨m,rfl⟩:∃ m',m=m'+1:=⟨m-1,by omega⟩;rw[Pi.leave];simp only[Pi.AH,hty,hu1,k4,e1,aC]
     grind
    ·cases e
   ·cases e
  ·rename_i f args U;obtain⟨dP,D,rfl,z,A⟩:=L2.cons_inv B;obtain⟨fP,ps,rfl,h3,h4⟩:=z;split at e
   ·rename_i g a b';simp only[VR]at h3;obtain⟨aP,bP',rfl,h5,h6⟩:=h3;obtain⟨g',as,qs,e1,hinv,G⟩:=EN h5 h6 h4 e;obtain⟨o',up',h',w,Y,C,upP',s,e2,⟨N1,hN1⟩,i,ho,I⟩:=R.fn e1 r L G hu;have hup:=i.ext.full r (ab _);split at e2
    ·rename_i v u';obtain⟨vP,rfl,hv⟩:=ho;cases upP' with
     |none=>cases u' with
      |ret=>cases I
      |pan=>obtain⟨_,h,_⟩:=I;cases h
     |some uP'=>
      obtain⟨o,h'',nx'',Z,C,hP'',O,⟨N,c2⟩,d,S⟩:=ih e2 (b:=b) (bP:=bP) i.rh i.big (A.mono λ_ _ k=>k.mono hup) (HZ I) (ht.mono hup) (aw J i.le) (aw y i.ext.nx);refine⟨o,h'',nx'',Z,C,hP'',O,⟨max N N1+1,λm F k hm hF hk=> ?_⟩,⟨d.hp,d.rh,d.big,aw i.le d.le,(i.ext.le J y).trans d.ext⟩,S⟩;obtain⟨m,rfl⟩:∃ m',m=m'+1:=⟨m-1,by omega⟩;rw[Pi.leave];simp only[hinv,hN1 F k (by omega) (by omega)];rw[<- i.hp]
      grind
    ·cases e2
   ·cases e
theorem TR.lf(X:Cx):TR X .lf .lf:=λk v e=>by cases e
theorem E3{β:Type}{x:β}{X:Cx}{h:H}{nx l lP m b bP:Nat}{a:Option Code}{K:OutA->Option UMA->H->Nat->Option β}(r:RH X h nx)(z:nx<=1048575)(y:X.π l=zo (.blk lP m))(e:Cl h nx l a K=zo x) :
  ∃ o i h' Y q c g,K o i h' nx=zo x/\Pi.BB X.h lP a=zo (q,c,g)/\Run b bP X h nx Y h' nx g/\MO Y o q/\UMR Y i c:=by
 unfold Cl at e;split at e
 ·rename_i P O nt t u n f d w;have s:=r.blk _ _ w;obtain⟨pid,N,C,p,m',A,I,D,J,L,M⟩:=s;rw[y]at A;cases A
  have B:∀ k:Nat,K (.ret (.bool a.isNone)) zn (AG h l (.lp k a nt t u n f d)) nx=zo x->(∀ j,X.h.set lP (.lp k a nt C u n f p)=zo j->Pi.BB X.h lP a=zo (.ret (.bool a.isNone),zn,j)) ->
    ∃ o i h' Y q c g,K o i h' nx=zo x/\Pi.BB X.h lP a=zo (q,c,g)/\Run b bP X h nx Y h' nx g/\MO Y o q/\UMR Y i c:=λk e1 e2=>by
   obtain⟨j,es⟩:=BG X.h lP (.lp k a nt C u n f p);obtain⟨Z,S,E,U,W,F,G⟩:=r.setLp z w y D es b bP;exact⟨_,_,_,Z,.ret (.bool a.isNone),zn,j,e1,e2 _ es,⟨E,F,z,ab _,G⟩,⟨_,rfl,by simp[VR]⟩,rfl⟩
  grind [Pi.BB]
 ·cases e
theorem DR.unc{hh:Hp}{Q:Nat->Prop}:∀ {c:Ty},c.hasSl=zf -> ∀ {x:c.den} {d:List PV},DR hh Q c x d -> ∀ r,Pi.unc c (d++r)=zo (x,r)
 |.int k,_,x,d,h,r=>by cases h;simp[Pi.unc]
 |.bool,_,x,d,h,r=>by cases h;rfl
 |.str,_,x,d,h,r=>by cases h;rfl
 |.unit,_,x,d,h,r=>by cases h;cases r<;>rfl
 |.pair a b,hs,x,d,⟨p,q,e,f,g⟩,r=>by
  simp only[Ty.hasSl,af]at hs;subst e;simp only[Pi.unc,List.append_assoc,DR.unc hs.1 f,DR.unc hs.2 g]
 |.sl _ _,hs,_,_,_,_=>by cases hs
theorem So{hh:Hp}{Q:Nat->Prop}{c:Ty}(hs:c.hasSl=zf){l:List c.den}{es:List PV}(h:L2 (EP zt (DR hh Q c)) l es):Pi.UE c es=zo l:=by
 induction h with
 |nil=>rfl
 |cons k _ ih=>
  obtain⟨cs,rfl,k⟩:=k;have:=DR.unc hs k [];rw[aK]at this;simp only[Pi.UE,this,ih]
theorem Mc{hh:Hp}{Q:Nat->Prop}:∀ {c:Ty},c.hasSl=zf -> ∀ x:c.den,DR hh Q c x (Pi.NV c x)
 |.int _,_,_=>rfl
 |.bool,_,_=>rfl
 |.str,_,_=>rfl
 |.unit,_,_=>rfl
 |.pair a b,hs,x=>by
  simp only[Ty.hasSl,af]at hs;exact⟨_,_,rfl,Mc hs.1 x.1,Mc hs.2 x.2⟩
 |.sl _ _,hs,_=>by cases hs
theorem Pb{hh:Hp}{Q:Nat->Prop}{c:Ty}(hs:c.hasSl=zf):∀ l:List c.den,L2 (EP zt (DR hh Q c)) l (l.map λx=>PV.agg (Pi.NV c x))
 |[]=>.nil
 |x::l=>.cons ⟨_,rfl,Mc hs x⟩ (Pb hs l)
theorem QP{β:Type}{x:β}{X:Cx}{h:H}{n:Nat}(r:RH X h n)(hn:n<=1048575){p:Pi.Pr}{args:List V}{ps:List PV}(J:VRL X args ps){K:V->H->Option β}(e:QO P p args h K=zo x) :
  ∃ v h' q k Y,K v h'=zo x/\Pi.Kq P p ps X.h=zo (q,k)/\E7 X h n n X.h.nx h' k Y/\VR Y v q:=by
 have same:E7 X h n n X.h.nx h X.h X:=⟨rfl,r,St.refl _ _ _ _⟩;unfold QO at e;split at e
 ·split at e
  ·rename_i u a v b;replace e:=AN e;obtain⟨W,e⟩:=e;obtain⟨O,A,rfl,f,t⟩:=J.cons_inv;obtain⟨Z,A,rfl,o,w⟩:=t.cons_inv;rw[w.nil_inv];simp only[VR]at f o;obtain⟨_,rfl,rfl⟩:=f;obtain⟨_,rfl,rfl⟩:=o;refine⟨_,h,.bool zt,X.h,X,e,?_,same,by simp[VR]⟩;simp only[Pi.Kq,Pi.TW,W,zb,aC]
  ·cases e
 ·split at e
  ·obtain⟨O,A,rfl,f,t⟩:=J.cons_inv;obtain⟨Z,A,rfl,o,w⟩:=t.cons_inv;rw[w.nil_inv];simp only[VR]at f;subst f;exact⟨_,h,.bool zf,X.h,X,e,rfl,same,by simp[VR]⟩
  ·rename_i u a pt id off;replace e:=AD e;obtain⟨TT,hT,e⟩:=e;obtain⟨O,A,rfl,f,t⟩:=J.cons_inv;obtain⟨Z,A,rfl,o,w⟩:=t.cons_inv;rw[w.nil_inv];simp only[VR]at f o;obtain⟨q1,rfl,I⟩:=f;obtain⟨q2,rfl,pid,m,d,rfl⟩:=o;replace e:=BP e;rcases e with⟨hu,e⟩|⟨hu,e⟩
   ·split at e
    ·rename_i y;have B:=I;simp only[VR]at I;obtain⟨cs,rfl,hcs⟩:=I;obtain⟨c,cs',rfl,L,M⟩:=hcs.cons_inv;rw[M.nil_inv]at B ⊢;obtain⟨h',k,Y,e1,e2,e3⟩:=Js r hn (a:=.ptr id off) (by simp only[VR];exact⟨pid,m,d,rfl⟩) B n X.h.nx e;refine⟨_,h',.bool zt,k,Y,e1,?_,e3,by simp[VR]⟩
     simp_all[Pi.Kq,Pi.SV,zb,aC]
    ·cases e
   ·replace e:=AN e;obtain⟨hp,e⟩:=e;refine⟨_,h,.bool zf,X.h,X,e,?_,same,by simp[VR]⟩;simp only[Pi.Kq,Pi.SV,hT,hu,hp,zb,zj,aC]
  ·cases e
 ·split at e
  ·rw[J.nil_inv];exact⟨_,h,.bool _,X.h,X,e,rfl,same,by simp[VR]⟩
  ·cases e
 ·split at e
  ·rename_i a b;obtain⟨O,A,rfl,f,t⟩:=J.cons_inv;obtain⟨Z,A,rfl,o,w⟩:=t.cons_inv;rw[w.nil_inv];simp only[VR]at f o;subst f;subst o;exact⟨_,h,.int .i64 (Uu a b),X.h,X,e,rfl,same,by simp[VR]⟩
  ·cases e
 ·rename_i g c F S;split at e
  ·rename_i v g';replace e:=BE e;obtain⟨hc,e⟩:=e;simp only[af,aq]at hc;obtain⟨O,A,rfl,f,t⟩:=J.cons_inv;obtain⟨Z,A,rfl,o,w⟩:=t.cons_inv;rw[w.nil_inv];simp only[VR]at o;obtain⟨a',b',rfl,ha',hb'⟩:=o;rw[ha'.nil_inv,hb'.nil_inv];have hpd:Pi.Kq P (.srt g c F S) [O,.fn (.func g') [] []] X.h=Pi.Nz c F O X.h:=by simp only[Pi.Kq,hc.2,zb]
   rw[hpd]
   have go:∀ {j pid m off len:Nat} {l m':List c.den} {ex:Bool} {es:List PV},h.get j=zo (.row zt c l ex zf zf)->X.π j=zo (.blk pid m)->X.h.get pid=zo (.row es ex zf)->es.length=m->(ex=zf->0<m)->L2 (EP zt (DR X.h X.Q c)) l es->off+len<=es.length ->
     F ((l.drop off).take len)=zo m'->K (.tup []) (AG h j (.row zt c (Ey l off m' len) ex zf zf))=zo x -> ∃ v h' q k Y,K v h'=zo x/\Pi.Nz c F (.own pid off len) X.h=zo (q,k)/\E7 X h n n X.h.nx h' k Y/\VR Y v q:=by
    intro j pid m off len l m' ex es s d C N k9 z G i e;have hl:=S _ _ i;have U:m'.length=len:=by rw[hl];simp[z.length];omega
    obtain⟨k,eS⟩:=BG X.h pid (.row (Pi.BH es off (m'.map λx=>PV.agg (Pi.NV c x))) ex zf);have E:j<1048575:=by have:=r.dom _ _ d;omega
    have hL:L2 (EP zt (DR X.h X.Q c)) (Ey l off m' len) (Pi.BH es off (m'.map λx=>PV.agg (Pi.NV c x))):=by
     have:=H5 z (Pb hc.1 m') off len
     rwa [bc (by simp[U])]at this
    obtain⟨Y,y1,y2,y3,y4,y5⟩:=r.set (b':=.row zt c (Ey l off m' len) ex zf zf) E s trivial rfl d C (by intros;simp) eS
     (λY y1 y2 y3 u=>by
      rw[d];refine .inl ⟨pid,m,_,zf,rfl,by rw[y3];exact(d ▸ r.blk _ _ s).own trivial,by rw[y2,(Hp.get_set eS).1,zy rfl],λ_=>rfl,?_,k9,EDR.mono u hL⟩
      rw[Gk (by simp;omega)];exact N) X.h.nx
    refine⟨_,_,.tup [],k,Y,e,?_,⟨y2,y4,y5 n⟩,by simp[VR,VRL]⟩;unfold Pi.Nz;simp only[C,show ad (off+len) es.length=zt from by simpa using G,So hc.1 ((z.drop off).take len),i,eS,zb,aC]
   split at e
   ·simp only[VR]at f;subst f;exact⟨_,h,.tup [],X.h,X,e,rfl,same,by simp[VR,VRL]⟩
   ·rename_i j;split at e
    ·rename_i c' l ex s;replace e:=Ao e;obtain⟨D,e⟩:=e;subst D;replace e:=DZ e;obtain⟨m',i,e⟩:=e;simp only[VR]at f;have W:=r.blk _ _ s;cases d:X.π j with
     |none=>simp_all
     |some tt=>
      rw[d]at f W;rcases W with⟨pid,len,es,fz',L,M,C,k4,N,k7,z⟩|⟨L,M⟩|⟨es,L,M⟩
      ·cases L;simp only at f;subst f;have:=k4 rfl;subst this;have U:m'.length=l.length:=S _ _ i;have hl:l.length=len:=by rw[<- N,<- z.length]
       refine go (off:=0) (m':=m') s d C N k7 z (by omega) ?_ ?_
       ·rw[List.drop_zero,bc (by omega)];exact i
       ·rw[show Ey l 0 m' len=m' from ?_]
        ·exact e
        ·simp[Ey,bc (show m'.length<=len by omega),List.drop_of_length_le (show l.length<=m'.length by omega)]
      ·obtain⟨rfl,rfl⟩:=M;cases L;simp only at f;subst f;have:=cd.1 (S _ _ i);subst this;have E:j<1048575:=by have:=r.dom _ _ d;omega
       exact⟨_,_,.tup [],X.h,X,e,rfl,⟨rfl,r.reput E s trivial (by rw[d];exact .inr (.inl ⟨rfl,rfl,rfl⟩)),.put E s rfl _ _⟩,by simp[VR,VRL]⟩
      ·obtain⟨rfl,h0,C⟩:=M;have:=h0.resolve_left (by simp);subst this;have hes:=C.nil_inv;subst hes;cases L;simp only at f;subst f;have:=cd.1 (S _ _ i);subst this;have E:j<1048575:=by have:=r.dom _ _ d;omega
       exact⟨_,_,.tup [],X.h,X,e,rfl,⟨rfl,r.reput E s trivial (by rw[d];exact .inr (.inr ⟨_,rfl,rfl,.inr rfl,.nil⟩)),.put E s rfl _ _⟩,by simp[VR,VRL]⟩
    ·cases e
   ·rename_i j off len;split at e
    ·rename_i c' l ex s;replace e:=Ao e;obtain⟨D,e⟩:=e;subst D;replace e:=AI e;obtain⟨G,e⟩:=e;replace e:=DZ e;obtain⟨m',i,e⟩:=e;simp only[VR]at f;obtain⟨pid,m,d,rfl⟩:=f;obtain⟨es,fz',C,k4,N,k7,z⟩:=r.rowAt d s;have:=k4 rfl;subst this;refine go s d C N k7 z (by rw[<- z.length];simpa[B2,A0,AQ]using G) ?_ e;have:off+len-off=len:=by omega
     simpa[DV,A0,this]using i
    ·cases e
   ·cases e
  ·cases e
theorem IP(T:TabOK P tab)(D:DrawnAOK P tab){ann:H0}{F0:Nat}:∀ n,RecAOK P tab (NT P tab ann F0 n)
 |0=>⟨λe=>(by cases e),λe=>(by cases e)⟩
 |n+1=>by
  have R:=IP T D (ann:=ann) (F0:=F0) n;constructor
  ·intro β x f up args h nx K e X upP F r hn ha hu;simp only[NT]at e;split at e
   ·rename_i p hpr;split at e
    ·obtain⟨v,h',q,j,Y,e1,e2,⟨y1,y2,y3⟩,e4⟩:=QP r hn ha e;have E:upP=zn:=by simpa[UMR]using hu
     subst E;refine⟨.ret v,zn,h',nx,Y,.ret q,zn,j,e1,⟨1,λd a hF B=> ?_⟩,⟨y1,y2,hn,ab _,y3.ext (ab _) (ab _)⟩,⟨_,rfl,e4⟩,rfl⟩;obtain⟨a,rfl⟩:∃ m',a=m'+1:=⟨a-1,by omega⟩
     simp_all[Pi.B5,Pi.PU,aC]
    ·cases e
   rename_i hpr;replace e:=AD e;obtain⟨J,hf,e⟩:=e;replace e:=AD e;obtain⟨c,hc,e⟩:=e;replace e:=AN e;obtain⟨hb,e⟩:=e;have hb2:=hb;simp only[ac]at hb2;have hlen:args.length<=J.ntmps:=ap hb2.1;have hnt:J.ntmps<1048575:=by simp_all
   have hlP:F.length=args.length:=VRL.len ha;obtain⟨ex,C,h',k,Y,I,A,j,G,⟨N,q2⟩,s,q4,q5⟩:=Mi R T D F0 c e (fp:={ t:=Pi.Bq 0 F .lf,nt:=J.ntmps,ds:=[],up:=upP,ro:=zn }) r hn ⟨Iy ha (TR.lf X) (by omega),rfl,hnt,.nil,hu,rfl⟩ (ab _) (ab _)
   have go:∀ {u:UMA} {uP:UM} {o:OutA->H->Nat->Option β},EQ P (NT P tab ann F0 n) J β F0 C.ds u C.t h' k (λo h nx=>K o C.up h nx)=zo x->UMR Y (zo u) (zo uP) ->
     (∀ d a,N<=d->N<=a -> ∀ {y:Pi.Out} {U:Hp},Pi.leave P (Pi.B5 P (Ae tab) d a) J d A.ds uP A.t j=zo (y,U)->Pi.B5 P (Ae tab) d (a+1) (.fn f) upP F X.h=zo (y,A.up,U)) ->
     ∃ o z h' k Y y g j,K o z h' k=zo x/\PD P tab (.fn f) upP F X.h (y,g,j)/\Run nx X.h.nx X h nx Y h' k j/\MO Y o y/\UMR Y z g:=fun {u uP _} e hu U=>by
    obtain⟨o,h2,nx2,Z,y,hP2,c1,⟨N2,c2⟩,W,c4⟩:=Oo R e (b:=k) (bP:=Y.h.nx) s.rh s.big q4.ds hu q4.t (ab _) (ab _);have E:=W.ext.full s.rh (ab _);refine⟨o,C.up,h2,nx2,Z,y,A.up,hP2,c1,⟨max N N2+1,λd a hF B=> ?_⟩,⟨W.hp,W.rh,W.big,aw s.le W.le,s.ext.trans (W.ext.le s.le s.ext.nx)⟩,c4,q4.up.mono E⟩;obtain⟨a,rfl⟩:∃ m',a=m'+1:=⟨a-1,by omega⟩;refine U d a (by omega) (by omega) ?_;rw[<- s.hp]
    grind
   have head:∀ d a,Pi.B5 P (Ae tab) d (a+1) (.fn f) upP F X.h=(match (Pi.AY P (Ae tab) (Pi.B5 P (Ae tab) d a) d c { t:=Pi.Bq 0 F .lf,nt:=J.ntmps,ds:=[],up:=upP,ro:=zn } X.h)with
     |some (.normal,fr,h)|some (.ret,fr,h)=>(match Pi.leave P (Pi.B5 P (Ae tab) d a) J d fr.ds .ret fr.t h with
      |some (o,h)=>zo (o,fr.up,h)
      |none=>zn)
     |some (.panic e,fr,h)=>(match Pi.leave P (Pi.B5 P (Ae tab) d a) J d fr.ds (.pan [{ v:=e,recovered:=zf }]) fr.t h with
      |some (o,h)=>zo (o,fr.up,h)
      |none=>zn)
     |_=>zn):=λd a=>by
    rw[Pi.B5];simp only[Pi.PU,hpr,hf,hc,hlP,hb,zb];rfl
   cases ex with
   |normal=>
    have:I=.normal:=q5;subst this
    exact go (o:=λ_ _ _=>zn) G (show UMR Y (zo .ret) (zo .ret)from rfl) λd a hF B y U L=>by
     grind
   |ret=>
    have:I=.ret:=q5;subst this
    exact go (o:=λ_ _ _=>zn) G (show UMR Y (zo .ret) (zo .ret)from rfl) λd a hF B y U L=>by
     grind
   |panic v=>
    obtain⟨p,rfl,hv⟩:=q5
    exact go (o:=λ_ _ _=>zn) G (uP:=.pan [{ v:=p,recovered:=zf }]) (show UMR Y (zo (.pan [{ v:=v,recovered:=zf }])) (zo (.pan [{ v:=p,recovered:=zf }]))from⟨_,rfl,.cons ⟨hv,rfl⟩ .nil⟩) λd a hF B y U L=>by
     grind
   |_=>cases G
  ·intro β x l args h nx K e X lP m F r hn L ha;simp only[NT]at e;split at e
   ·rename_i st0 pd0 nt t psl asg O d0 hg;replace e:=AD e;obtain⟨t1,ht1,e⟩:=e;obtain⟨pid,n',tP,dP,m',k1,k2,k3,k4,k5,k6⟩:=r.blk _ _ hg;rw[L]at k1;cases k1;obtain⟨tP1,s1,s2⟩:=Cd k6 ha k4 ht1;obtain⟨ex,C,h',k,Y,I,A,j,G,⟨N,q2⟩,s,q4,q5⟩:=Mi R T D F0 asg e (fp:={ t:=tP1,nt:=nt,ds:=[],up:=zn,ro:=zo lP }) r hn ⟨s2,rfl,k6,.nil,rfl,⟨_,_,L,rfl⟩⟩ (ab _) (ab _);cases ex with
    |normal=>
     have:I=.normal:=q5;subst this;simp only at G;have E:=s.ext.full r (ab _);have hlY:=E.pi _ _ L;split at G
     ·rename_i pend nt2 t2 ps2 asg2 S d2 hg2;obtain⟨pid,n',tP2,dP2,m2,j1,j2,j3,j4,j5,j6⟩:=s.rh.blk _ _ hg2;rw[hlY]at j1;cases j1;obtain⟨hP2,es⟩:=BG Y.h lP (.lp 1 pend nt2 tP2 ps2 asg2 S dP2);obtain⟨Z,z1,z2,z3,z4,z5,z6⟩:=s.rh.setLp s.big hg2 hlY j3 es nx X.h.nx;obtain⟨ex3,fr3,h3,nx3,Y3,w,fp3,hP3,w1,⟨N3,w2⟩,w3,w4,w5⟩:=Mi R T D F0 O G (fp:=A) z5 s.big (q4.mono z4) (ab _) (bP:=X.h.nx) (by rw[z2,(Hp.get_set es).2];exact s.ext.nx);have x3:=(s.ext.trans z6).trans (w3.ext.le (b:=nx) (bP:=X.h.nx) s.le (ab _));have hl3:Y3.π l=zo (.blk lP m):=x3.up.pi _ _ (by rw[Cx.low_eq (r.dom _ _ L)];exact L)
      have fin:∀ {M:Option Code},Cl h3 nx3 l M K=zo x ->
        (∀ {rr},Pi.BB hP3 lP M=zo rr -> ∀ d a,max N N3<=d->max N N3<=a->Pi.B5 P (Ae tab) d (a+1) (.yl lP) zn F X.h=zo rr) ->
        ∃ o z h' k Y y g j,K o z h' k=zo x/\PD P tab (.yl lP) zn F X.h (y,g,j)/\Run nx X.h.nx X h nx Y h' k j/\MO Y o y/\UMR Y z g:=λe hh=>by
       obtain⟨o,z,h4,Y4,y,g,hP4,v1,v2,v3,v4,v5⟩:=E3 (b:=nx) (bP:=X.h.nx) w3.rh w3.big hl3 e;rw[w3.hp]at v2;refine⟨o,z,h4,nx3,Y4,y,g,hP4,v1,⟨max N N3+1,λd a hF B=> ?_⟩,⟨v3.hp,v3.rh,v3.big,aw s.le (aw w3.le v3.le),x3.trans v3.ext⟩,v4,v5⟩;obtain⟨a,rfl⟩:∃ m',a=m'+1:=⟨a-1,by omega⟩
       grind
      have head:∀ d a,max N N3<=d->max N N3<=a->Pi.B5 P (Ae tab) d (a+1) (.yl lP) zn F X.h=(match zo (w,fp3,hP3)with
        |some (.normal,_,h)=>Pi.BB h lP zn
        |some (.ret,_,h)=>Pi.BB h lP (zo .ret)
        |some (.exit id,_,h)=>Pi.BB h lP (zo (.exit id))
        |some (.goto id,_,h)=>Pi.BB h lP (zo (.goto id))
        |_=>zn):=λd a hF B=>by
       have a1:=q2 d d a (by omega) (by omega) (by omega);rw[<- s.hp]at a1;have a2:=w2 d d a (by omega) (by omega) (by omega);rw[z2]at a2;rw[Pi.B5];simp only[Pi.PU,k3,s1,a1,j3,es,a2];rfl
      cases ex3 with
      |normal=>
       have:w=.normal:=w5
       grind
      |ret=>
       have:w=.ret:=w5
       grind
      |exit i=>
       have:w=.exit i:=w5
       grind
      |goto i=>
       have:w=.goto i:=w5
       grind
      |panic=>cases w1
     ·cases G
    |_=>cases G
   ·cases e
theorem DX.wide{hh:Hp}{Q f:Nat->Prop}:∀ {c:Ty} {x:c.den} {d:List PV},DX hh Q f c x d->DX hh (λ_=>True) (λ_=>True) c x d
 |.int _,_,_,e=>e
 |.bool,_,_,e=>e
 |.str,_,_,e=>e
 |.unit,_,_,e=>e
 |.pair _ _,_,_,⟨p,q,e,a,b⟩=>⟨p,q,e,DX.wide a,DX.wide b⟩
 |.sl _ _,_,_,⟨p,e,h⟩=>⟨p,e,by
  rcases h with h|h|⟨pid,off,len,es,ex,fz,a,b,g,i,j,l⟩
  ·exact .inl h
  ·simp_all
  ·exact .inr (.inr ⟨pid,off,len,es,ex,fz,a,trivial,g,i,j,l.mono λ_ _ k=>k.mono λ_ _ k=>DR.mono (λq es ex fz n m=>⟨⟨fz,m⟩,trivial⟩) k⟩)⟩
theorem domX.wide{hh:Hp}{Q e:Nat->Prop}:∀ {l:List (Bool×Ty)} {y:AO l} {d:List PV},domX hh Q e l y d->domX hh (λ_=>True) (λ_=>True) l y d
 |[],_,_,h=>h
 |[p],_,_,⟨a,b,c⟩=>⟨a,b,c.mono λ_ _ k=>k.wide⟩
 |p::q::r,_,_,⟨a,t,b,c,f⟩=>⟨a,t,b,c.mono λ_ _ k=>k.wide,domX.wide f⟩
def TC:Cx:={ π:=λ_=>zn,h:=D1,O:=λ_=>False }
theorem Tz:RH TC .lf 0:=⟨λ_ _ h=>(by cases h),λ_ _ _ _ _ _ _ h=>(by cases h),λ_ _ h=>(by cases h),λ_ _=>rfl,λ_ h=>h.elim⟩
theorem H8(T:TabOK P tab)(D:DrawnAOK P tab){ann:H0}{F0 n:Nat}{f:FuncId}{dom g:List (Bool×Ty)}{x:AO dom}{y:AO g}(e:ND P tab ann F0 n f dom g x=zo y){w:List PV}(E:DU dom x w) :
  ∃ r up A,PD P tab (.fn f) zn w D1 (.ret r,up,A)/\HW A g y r:=by
 unfold ND at e;obtain⟨o,K,h',I,Y,L,q,s,e1,J,j,G,_⟩:=(IP T D n).fn e Tz (bB _) (Dz E) (show UMR TC zn zn from rfl);split at e1
 ·rename_i v;obtain⟨p,rfl,k⟩:=G;refine⟨p,q,s,J,?_⟩;rw[<- j.hp]
  have b:∀ (vs:List V) (i:List PV),VRL Y vs i->Bx h' g vs zo=zo y->domX Y.h (λ_=>True) (λ_=>True) g y i:=λvs i t F=>by
   obtain⟨z,u,B⟩:=Bu (Q:=λ_=>True) j.rh (λ_ _=>trivial) (λ_ _ _ _ _=>trivial) t F;cases u;exact B.wide
  match g,y,e1,b with
  |[],y,e1,b=>
   simp only at e1;split at e1
   ·simp only[VR]at k;obtain⟨i,rfl,m⟩:=k;exact⟨i,rfl,b _ _ m e1⟩
   ·cases e1
  |[c],y,e1,b=>
   obtain⟨a,C,m⟩:=b _ _ (.cons k .nil) e1;cases C;exact m
  |c::d::l,y,e1,b=>
   simp only at e1;split at e1
   ·simp only[VR]at k;obtain⟨i,rfl,m⟩:=k;exact⟨i,rfl,b _ _ m e1⟩
   ·unfold Bx at e1;simp only at e1;replace e1:=GR (Q:=λ_=>True) j.rh (λ_ _ _ _ _=>trivial) (λ_ _=>trivial) k e1;obtain⟨z,u,B⟩:=e1;cases l<;>cases u
 ·cases e1
theorem Qb(T:TabOK P tab)(D:DrawnAOK P tab){ann:H0}{F0 n:Nat}{f:FuncId}{dom:List (Bool×Ty)}{g:Bool}{c:Ty}{x:AO dom}{y:List c.den}(e:Qa P tab ann F0 n f dom g c x=zo y){k:List PV}(t:DU dom x k) :
  ∃ r up l,PD P tab (.fn f) zn k D1 (.ret r,up,l)/\HW l [(zf,.sl g c)] y r /\ ∀ j o len,r ≠ .own j o len:=by
 unfold Qa at e;obtain⟨o,I,h',F,Y,J,d,i,e1,G,b,w,_⟩:=(IP T D n).fn e Tz (bB _) (Dz t) (show UMR TC zn zn from rfl);split at e1
 ·rename_i v;obtain⟨p,rfl,A⟩:=w;refine⟨p,d,i,G,?_⟩;rw[<- b.hp]
  have m:Fu h' zf (.sl g c) v zo=zo y->HW Y.h [(zf,.sl g c)] y p:=λu=>by
   obtain⟨z,C,E⟩:=GR (Q:=λ_=>True) b.rh (λ_ _ _ _ _=>trivial) (λ_ _=>trivial) A u;cases C;have B:domX Y.h (λ_=>True) Y.Q [(zf,.sl g c)] y [p]:=⟨p,rfl,E⟩;obtain⟨a,q,s⟩:=B.wide;cases q;exact s
  grind [VR]
 ·cases e1
theorem MI{X:Cx}{p:Bool×Ty}{y:p.2.den}{a:PV}(h:EP p.1 (DP p.2) y a):VR X (bif Sy p then S5 (elP p.1 p.2 y)else elP p.1 p.2 y) (bif Sy p then MP a else a):=by
 cases d:Sy p with
 |false=>exact DJ h
 |true=>
  obtain⟨g,c⟩:=p;cases g with
  |false=>cases d
  |true=>
   have b:=DJ (X:=Cx.pure) h;obtain⟨j,rfl,_⟩:=h;simp only[elP,zb,VR]at b;obtain⟨f,e,i⟩:=b;cases e;show VR X (.pv _) (.view _)
   simp_all[VR]
theorem JO{X:Cx}:∀ {l:List (Bool×Ty)} {y:AO l} {d:List PV},DU l y d->VRL X (Qq l (Eb l y)) (G1 l d)
 |[],_,_,h=>by rw[show _=[]from h];exact .nil
 |[p],_,_,⟨a,b,c⟩=>by subst b;exact .cons (MI c) .nil
 |p::q::r,_,_,⟨a,t,b,c,e⟩=>by subst b;exact .cons (MI c) (JO e)
theorem Qd(T:TabOK P tab)(D:DrawnAOK P tab){ann:H0}{F0 n:Nat}{f:FuncId}{dom g:List (Bool×Ty)}{x:AO dom}{y:AO g}(e:Qc P tab ann F0 n f dom g x=zo y){w:List PV}(E:DU dom x w) :
  ∃ r up A,PD P tab (.fn f) zn (G1 dom w) D1 (.ret r,up,A)/\HW A g y r:=by
 unfold Qc at e;obtain⟨o,K,h',I,Y,L,q,s,e1,J,j,G,_⟩:=(IP T D n).fn e Tz (bB _) (JO E) (show UMR TC zn zn from rfl);split at e1
 ·rename_i v;obtain⟨p,rfl,k⟩:=G;refine⟨p,q,s,J,?_⟩;rw[<- j.hp]
  have b:∀ (vs:List V) (i:List PV),VRL Y vs i->Bx h' g vs zo=zo y->domX Y.h (λ_=>True) (λ_=>True) g y i:=λvs i t F=>by
   obtain⟨z,u,B⟩:=Bu (Q:=λ_=>True) j.rh (λ_ _=>trivial) (λ_ _ _ _ _=>trivial) t F;cases u;exact B.wide
  match g,y,e1,b with
  |[],y,e1,b=>
   simp only at e1;split at e1
   ·simp only[VR]at k;obtain⟨i,rfl,m⟩:=k;exact⟨i,rfl,b _ _ m e1⟩
   ·cases e1
  |[c],y,e1,b=>
   obtain⟨a,C,m⟩:=b _ _ (.cons k .nil) e1;cases C;exact m
  |c::d::l,y,e1,b=>
   simp only at e1;split at e1
   ·simp only[VR]at k;obtain⟨i,rfl,m⟩:=k;exact⟨i,rfl,b _ _ m e1⟩
   ·unfold Bx at e1;simp only at e1;replace e1:=GR (Q:=λ_=>True) j.rh (λ_ _ _ _ _=>trivial) (λ_ _=>trivial) k e1;obtain⟨z,u,B⟩:=e1;cases l<;>cases u
 ·cases e1
theorem Qf(T:TabOK P tab)(D:DrawnAOK P tab){ann:H0}{F0 n:Nat}{f:FuncId}{dom:List (Bool×Ty)}{g:Bool}{c:Ty}{x:AO dom}{y:List c.den}(e:Qe P tab ann F0 n f dom g c x=zo y)(X:y≠[]){w:List PV}(K:DU dom x w) :
  ∃ r up A,PD P tab (.fn f) zn w D1 (.ret r,up,A)/\PH A g c y r:=by
 unfold Qe at e;obtain⟨o,S,h',N,Y,oP,d,m,e1,O,b,L,_⟩:=(IP T D n).fn e Tz (bB _) (Dz K) (show UMR TC zn zn from rfl);split at e1
 ·rename_i j;obtain⟨p,rfl,h⟩:=L;refine⟨p,d,m,O,?_⟩;rw[<- b.hp];split at e1
  ·rename_i W U l Z s;replace e1:=AN e1;obtain⟨t,e1⟩:=e1;have:=eq_of_beq t;subst this;obtain⟨hc,e1⟩:=Ao e1;subst hc;cases e1;have B:=b.rh.blk _ _ s;simp only[VR]at h;cases u:Y.π j with
   |none=>simp_all
   |some a=>
    rw[u]at h B;rcases B with⟨pid,len,es,C,z,i,E,F,G,J,I⟩|⟨_,_,i⟩|⟨es,z,_,i,_⟩
    ·cases z;simp only at h;subst h;have:=F rfl;subst this;subst G;exact .inr ⟨pid,es,rfl,E,J rfl,I.mono λ_ _ k=>k.mono λ_ _ k=>DR.mono (λq es ex fz M s=>⟨⟨fz,s⟩,λhh=>M (hh ▸ i)⟩) k⟩
    all_goals simp_all
  ·cases e1
 ·cases e1
end
end
section
variable[Pi.Gl]
open Pi (PV T Hp Blk DF UM PE AM AS AB AW Ap)
def re(hs:Hp):Pi.R->Pi.R
 |.val v _=>.val v hs
 |.skip _=>.skip hs
 |r=>r
section
variable{P:Program}{h hs:Hp}
theorem Ef{o:Option PV}:Pi.vl o hs=(Pi.vl o h).map (re hs):=by cases o<;>rfl
theorem Kw{c:Bool}{v:PV}:(bif c then zo (Pi.R.val v hs)else zn)=(bif c then zo (Pi.R.val v h)else zn).map (re hs):=by cases c<;>rfl
theorem Re{c a b:PV}:Pi.Dk hs c a b=(Pi.Dk h c a b).map (re hs):=by unfold Pi.Dk;split<;>rfl
theorem QS{ty:TypeId}{a:List (Nat×PV)}:Pi.By P hs ty a=(Pi.By P h ty a).map (re hs):=by
 unfold Pi.By;split
 ·cases hc:(Array.toList _).all _ with
  |true=>simp only[zb];split<;>(try rfl);rename_i pl _;cases Pi.Ff _ pl<;>rfl
  |false=>rfl
 ·split
  ·rename_i n _;cases ae 0 n with
   |true=>simp only[zb];cases Pi.Ff _ _<;>rfl
   |false=>rfl
  ·rfl
 ·rfl
theorem SZ{p:PV}:Pi.Es hs p=(Pi.Es h p).map (re hs):=by unfold Pi.Es;split<;>rfl
theorem SX{c:BinOp}{ty:TypeId}{x y:Operand}{a b:PV}:Pi.Dd P hs c ty x y a b=(Pi.Dd P h c ty x y a b).map (re hs):=by
 unfold Pi.Dd;split
 ·cases Pi.CX x||Pi.CX y<;>simp only[zb,zj]
  ·rfl
  ·exact Ef
 ·cases P.eqGuardType P.depth ty<;>simp only[zb,zj]
  ·exact Ef
  ·rfl
 ·exact Ef
theorem NB{s d:TypeId}{x:PV}:Pi.BJ P hs s d x=(Pi.BJ P h s d x).map (re hs):=by
 unfold Pi.BJ;split
 ·rfl
 ·rfl
 ·split<;>rfl
 ·rfl
theorem SY{ty:TypeId}{v:PV}:Pi.Ed P hs ty v=(Pi.Ed P h ty v).map (re hs):=by unfold Pi.Ed;split<;>rfl
theorem L1{f:Fn}{a b:List PV}:Pi.BF hs f a b=(Pi.BF h f a b).map (re hs):=by unfold Pi.BF;split<;>rfl
theorem Kx{s:TypeId}{x:PV}{f:Nat}:Pi.Ax P hs s x f=(Pi.Ax P h s x f).map (re hs):=by
 unfold Pi.Ax;split
 ·split
  ·split
   ·rename_i n _;cases aa n 0 with
    |true=>rfl
    |false=>simp only[zj];split<;>rfl
   ·rfl
  ·rfl
 ·rfl
theorem QU{s:TypeId}{x:PV}{f:Nat}:Pi.B7 P hs s x f=(Pi.B7 P h s x f).map (re hs):=by
 unfold Pi.B7;split
 ·split
  ·exact Ef
  ·rfl
 ·rfl
theorem QV{s:TypeId}{x i:PV}:Pi.Bn P hs s x i=(Pi.Bn P h s x i).map (re hs):=by
 unfold Pi.Bn;split
 ·rename_i len e cs k _ _;cases ae k len with
  |true=>
   simp only[zb];split
   ·exact Ef
   ·rfl
  |false=>rfl
 ·split<;>rfl
 ·rfl
theorem O2{ty:TypeId}{v:PV}{b:Bool}:Pi.BK P hs ty v b=(Pi.BK P h ty v b).map (re hs):=by
 have z:∀ {e:TypeId},(bif b then(match Pi.Bw P e with
   |some z=>zo (Pi.R.val (.tup [z,.bool zf]) hs)
   |none=>zn)else zn)=(bif b then(match Pi.Bw P e with
   |some z=>zo (Pi.R.val (.tup [z,.bool zf]) h)
   |none=>zn)else zn).map (re hs):=by
  intro e;cases b with
  |true=>simp only[zb];split<;>rfl
  |false=>rfl
 unfold Pi.BK;split
 ·split
  ·split
   ·split
    ·rfl
    ·exact z
   ·rfl
  ·exact z
  ·rfl
 ·split
  ·rename_i u a;cases aa u ty with
   |true=>rfl
   |false=>exact z
  ·exact z
  ·rfl
 ·rfl
theorem NC{x:PV}{i:Nat}:Pi.Bh hs x i=(Pi.Bh h x i).map (re hs):=by
 unfold Pi.Bh;split
 ·exact Ef
 ·rfl
theorem Rd{ty:TypeId}{p:PV}(a:∀ q∈Pi.AE p,hs.get q=h.get q):Pi.CD P hs ty p=(Pi.CD P h ty p).map (re hs):=by
 unfold Pi.CD;cases p with
 |ptr j off=>
  simp only;rw[a j (by simp[Pi.AE])];split
  ·exact Ef
  ·rfl
 |view cs=>exact Ef
 |ept j i off=>
  simp only;rw[a j (by simp[Pi.AE])];split
  ·split
   ·exact Ef
   ·rfl
  ·rfl
 |_=>rfl
theorem Ky{ty:TypeId}{x i:PV}(b:∀ q∈Pi.AE x,hs.get q=h.get q):Pi.Aq P hs ty x i=(Pi.Aq P h ty x i).map (re hs):=by
 unfold Pi.Aq;split
 ·rename_i e k _ _;split
  ·rename_i n _;split
   ·split
    ·rename_i a _;cases aa a.cells.length n<;>rfl
    ·rfl
   ·rename_i j off len;rw[b j (by simp[Pi.AE])];cases ae k len with
    |true=>
     simp only[zb];split
     ·split
      ·rename_i a _;cases aa a.cells.length n<;>rfl
      ·rfl
     ·rfl
    |false=>rfl
   ·rfl
  ·rfl
 ·rename_i len e k _ _;split
  ·cases ae k len with
   |true=>simp only[zb];split<;>rfl
   |false=>rfl
  ·rfl
 ·rfl
theorem QW{ty:TypeId}{x:PV}{lo hi:Option PV}(a:∀ q∈Pi.AE x,hs.get q=h.get q):Pi.Ai P hs ty x lo hi zn=(Pi.Ai P h ty x lo hi zn).map (re hs):=by
 unfold Pi.Ai;split
 ·split
  ·exact Kw
  ·rfl
 ·split
  ·rfl
  ·rename_i n _;split
   ·split
    all_goals rfl
   ·rename_i full es;cases !Pi.CT n es with
    |true=>rfl
    |false=>
     simp only[zj];split
     ·rename_i l hh _ _;cases ad hh es.length&&ad l hh<;>rfl
     ·rfl
   ·rename_i j off len;rw[a j (by simp[Pi.AE])];split
    ·rename_i es ex fz _;cases !Pi.CT n es with
     |true=>rfl
     |false=>
      simp only[zj];split
      ·rename_i l hh _ _;cases !ad l hh || !ad (off+hh) es.length with
       |true=>rfl
       |false=>
        simp only[zj];cases ae (off+l) es.length<;>rfl
      ·rfl
    ·rfl
   ·rfl
 ·split
  ·unfold Pi.EE;split
   ·rename_i j off _;rw[a j (by simp[Pi.AE])];split
    ·exact Kw
    ·rfl
   ·rfl
  ·rfl
 ·rfl
theorem O3{ty:TypeId}{x:PV}{lo hi mx:Option PV}(c:mx≠zn)(d:∀ j a b,x ≠ .own j a b):Pi.Ai P hs ty x lo hi mx=(Pi.Ai P h ty x lo hi mx).map (re hs):=by
 unfold Pi.Ai;split
 ·simp_all
 ·split
  ·rfl
  ·rename_i n _;split
   ·split
    ·cases mx.isSome && !hi.isSome<;>rfl
    ·rfl
   ·rename_i full es;cases !Pi.CT n es with
    |true=>rfl
    |false=>
     simp only[zj];split
     ·cases mx with
      |none=>exact Kw
      |some m=>
       dsimp only;split
       ·exact Kw
       ·rfl
     ·rfl
   all_goals simp_all
 all_goals simp_all
theorem Fm{t:T PV}{x:Operand}{k a:PV->Option Pi.R}(f:∀ p,Pi.CO t x=zo p->a p=(k p).map (re hs)):Pi.e1 t x a=(Pi.e1 t x k).map (re hs):=by
 grind [Pi.e1]
theorem QT{t:T PV}{x y:Operand}{k a:PV->PV->Option Pi.R}(f:∀ p q,Pi.CO t x=zo p->Pi.CO t y=zo q->a p q=(k p q).map (re hs)):Pi.e2 t x y a=(Pi.e2 t x y k).map (re hs):=by
 grind [Pi.e2]
theorem TX{t:T PV}{x y z:Operand}{k a:PV->PV->PV->Option Pi.R}(f:∀ p q r,a p q r=(k p q r).map (re hs)):Pi.e3 t x y z a=(Pi.e3 t x y z k).map (re hs):=by
 grind [Pi.e3]
theorem Nb{t:T PV}{x:Operand}{l:List Operand}{p:PV}(a:Pi.CO t x=zo p):∀ q∈Pi.AE p,q∈Pi.BT t (x::l):=λq b=>by
 simp_all[Pi.BT]
theorem NA{id:Nat}{b:Builtin}{a:Array TypeId}{args:List PV}(c:b=.len\/b=.cap\/b=.max\/b=.min)(e:b=.len -> ∀ p∈args,∀ q∈Pi.Fg p,hs.get q=h.get q)(d:b ≠ .len -> ∀ p∈args,∀ q∈Pi.AE p,hs.get q=h.get q):Pi.AH P hs id b a args=(Pi.AH P h id b a args).map (re hs):=by
 unfold Pi.AH;rcases c with rfl|rfl|rfl|rfl
 ·simp only;split
  ·rename_i x t _;split
   ·rename_i j _;rw[e rfl (.mp j) (by simp) j (by simp[Pi.Fg])];split<;>rfl
   all_goals rfl
  ·rfl
 ·simp only;split
  ·rename_i x t _;split
   ·rename_i j off f _;rw[d (by simp) (.own j off f) (by simp) j (by simp[Pi.AE])];split<;>rfl
   all_goals rfl
  ·rfl
 ·simp only;split
  ·cases Pi.B9 _ _ _ _<;>rfl
  ·rfl
  ·rfl
 ·simp only;split
  ·cases Pi.B9 _ _ _ _<;>rfl
  ·rfl
  ·rfl
theorem J8{t:T PV}:∀ {l:List Operand} {b:List PV},Pi.MK t l=zo b -> ∀ p∈b,∀ q∈Pi.AE p,q∈Pi.BT t l
 |[],b,e,p,hp,q,hq=>by cases e;cases hp
 |o::l,b,e,p,hp,q,hq=>by
  unfold Pi.MK at e;split at e
  ·rename_i a f c d;cases e;rcases aj.1 hp with rfl|hp
   ·simp_all[Pi.BT]
   ·simp only[Pi.BT,c];exact am _ (J8 d p hp q hq)
  ·cases e
theorem LS{t:T PV}:∀ {l:List Operand} {b:List PV},Pi.MK t l=zo b -> ∀ p∈b,∀ q∈Pi.Fg p,q∈Pi.DL t l
 |[],b,e,p,hp,q,hq=>by cases e;cases hp
 |o::l,b,e,p,hp,q,hq=>by
  unfold Pi.MK at e;split at e
  ·rename_i a f c d;cases e;rcases aj.1 hp with rfl|hp
   ·simp_all[Pi.DL]
   ·simp only[Pi.DL,c];exact am _ (LS d p hp q hq)
  ·cases e
theorem Oa{t:T PV}{id:Nat}{o:Oper}(hc:AR o.op<=1)(j:∀ q∈Pi.Aw t h o.op,hs.get q=h.get q):Pi.AP P t hs id o=(Pi.AP P t h id o).map (re hs):=by
 unfold Pi.AP;generalize o.op=u at hc j;cases u with
 |move x=>exact Ef
 |assign x=>exact Ef
 |pick c a b=>exact TX λ_ _ _=>Re
 |build ty z=>
  simp only;split
  ·exact QS
  ·rfl
 |nilCheck x=>exact Fm λ_ _=>SZ
 |binOp _ _ x y _=>exact QT λ_ _ _ _=>SX
 |unOp _ _ x=>exact Fm λ_ _=>Ef
 |convert _ _ x=>exact Fm λ_ _=>NB
 |makeInterface _ x=>exact Fm λ_ _=>SY
 |makeFunc f a b=>
  simp only;split
  ·exact L1
  ·rfl
 |fieldAddr _ x _=>exact Fm λ_ _=>Kx
 |field _ x _=>exact Fm λ_ _=>QU
 |index _ x y=>exact QT λ_ _ _ _=>QV
 |typeAssert x _ _ _=>exact Fm λ_ _=>O2
 |extract x _=>exact Fm λ_ _=>NC
 |load _ x=>exact Fm λp g=>Rd λq i=>j q (Nb g q i)
 |indexAddr _ x y=>exact QT λp w g _=>Ky λq i=>j q (Nb g q i)
 |slice ty x lo hi mx=>
  cases mx with
  |some _=>simp[AR]at hc
  |none=>
   simp only;split
   ·rename_i n m s _ _ l;cases l;exact Fm λp g=>QW λq i=>j q (Nb g q i)
   ·rfl
 |call c=>
  simp only;split
  ·rename_i args e;cases d:c.callee with
   |builtin b=>
    simp only[AR,d]at hc;simp only[Pi.Aw,d]at j;refine NA ?_ (λk p g q i=>j q ?_) λk p g q i=>j q ?_
    ·grind
    ·subst k;exact LS e p g q i
    ·cases b<;>first|exact absurd rfl k|exact J8 e p g q i
   |value _=>simp[AR,d]at hc
   |invoke _ _=>simp[AR,d]at hc
  ·rfl
 |makeMap _ r=>cases r<;>simp[AR]at hc
 |_=>simp[AR]at hc
theorem Ke{id:Nat}{b:Blk}{d:Hp}(c:h.get id=zn->hs.get id=zn)(e:h.new id b=zo d):∃ a,hs.new id b=zo a:=
 F9 hs id b (c (Hp.get_new e).1)
theorem PA{ty:TypeId}{p v:PV}{r:Pi.R}(k:∀ q∈Pi.AE p,hs.get q=h.get q)(e:Pi.A3 P h ty p v=zo r):∃ a,Pi.A3 P hs ty p v=zo (.skip a):=by
 have l:∀ (j:Nat) (b:Blk),∃ a,(hs.set j b).map Pi.R.skip=zo (.skip a):=λj b=>by
  obtain⟨s,e⟩:=BG hs j b
  simp_all
 unfold Pi.A3 at e ⊢;split at e
 ·rename_i n o
  try simp only[o]
  replace e:=BE e;obtain⟨d,e⟩:=e;rw[d];simp only[zj];cases p with
  |ptr j off=>
   simp only at e ⊢;rw[k j (by simp[Pi.AE])];split at e
   ·rename_i cs g
    try simp only[g]
    replace e:=AN e;obtain⟨d,e⟩:=e;rw[d]
    simp_all
   ·cases e
  |ept j i off=>
   simp only at e ⊢;rw[k j (by simp[Pi.AE])];split at e
   ·rename_i es ex g
    try simp only[g]
    split at e
    ·rename_i m f
     try simp only[f]
     replace e:=AN e;obtain⟨d,e⟩:=e;rw[d];simp only[zb];cases m with
     |agg cs=>exact l _ _
     |_=>
      dsimp only at e ⊢;split at e
      ·rename_i c hc;replace e:=AN e;obtain⟨d,e⟩:=e
       try simp only[hc]
       rw[d];simp only[zb];cases c<;>first|exact l _ _|cases e
      ·cases e
    ·cases e
   ·cases e
  |_=>cases e
 ·cases e
theorem Mg{t:T PV}{id:Nat}{o:Oper}{r:Pi.R}(hc:AR o.op<=3)(l:∀ q∈Pi.Aw t h o.op,hs.get q=h.get q)(n:h.get id=zn->hs.get id=zn)(e:Pi.AP P t h id o=zo r) :
  (∀ v f,r=.val v f -> ∃ A d,Pi.AP P t hs id o=zo (.val A d))/\(∀ f,r=.skip f -> ∃ d,Pi.AP P t hs id o=zo (.skip d)):=by
 have i:AR o.op<=1\/AR o.op=2\/AR o.op=3:=by omega
 rcases i with hc|hc|hc
 ·have:=Oa (P:=P) (id:=id) hc l;rw[e]at this;exact⟨λv f k=>⟨v,hs,by rw[this,k];rfl⟩,λf k=>⟨hs,by rw[this,k];rfl⟩⟩
 ·have nw:∀ {b:Blk} {g:Hp->Pi.R},(h.new id b).map g=zo r->(∃ v,∀ h,g h=.val v h)->(∀ v f,r=.val v f -> ∃ A d,(hs.new id b).map g=zo (.val A d))/\(∀ f,r=.skip f -> ∃ d,(hs.new id b).map g=zo (.skip d)):=fun {b g} e ⟨v,F⟩=>by
   cases B:h.new id b with
   |none=>simp_all
   |some f=>
    rw[B]at e;cases e;obtain⟨d,e1⟩:=Ke n B
    simp_all
  unfold Pi.AP at e ⊢;generalize o.op=w at hc l e;cases w with
  |alloc ty=>
   dsimp only at e ⊢;unfold Pi.Cm at e ⊢;split at e
   ·rename_i cs u
    try simp only[u]
    exact nw e ⟨_,λ_=>rfl⟩
   ·cases e
  |box _ x=>
   simp only[Pi.e1]at e ⊢;split at e
   ·rename_i v s
    try simp only[s]
    unfold Pi.Fc at e ⊢;split at e
    ·cases e
    ·exact nw e ⟨_,λ_=>rfl⟩
   ·cases e
  |makeMap _ r=>
   cases r with
   |none=>exact nw e ⟨_,λ_=>rfl⟩
   |some _=>simp_all
  |makeSlice _ x y=>
   simp only[Pi.e2]at e ⊢;split at e
   ·rename_i a b D m
    try simp only[D,m]
    unfold Pi.C2 at e ⊢;split at e
    ·split at e
     ·split at e
      ·rename_i z u
       try simp only[u]
       replace e:=AN e;obtain⟨m,e⟩:=e;rw[m];simp only[zb];exact nw e ⟨_,λ_=>rfl⟩
      ·cases e
     ·cases e
    ·cases e
   ·cases e
  |slice _ _ _ _ mx=>cases mx<;>simp[AR]at hc
  |call c=>
   simp only[AR]at hc
   grind
  |_=>simp[AR]at hc
 ·unfold Pi.AP at e ⊢;generalize o.op=w at hc l e;cases w with
  |store ty a x=>
   simp only[Pi.e2]at e ⊢;split at e
   ·rename_i p v C s
    try simp only[C,s]
    have:=PA (hs:=hs) (λq E=>l q (Nb C q E)) e;refine⟨λv f k=> ?_,λ_ _=>this⟩;exfalso;subst k
    have G:∀ {j:Nat} {b:Blk},(h.set j b).map Pi.R.skip=zo (.val v f)->False:=fun {j b} e=>by
     simp_all
    unfold Pi.A3 at e;split at e
    ·replace e:=BE e;obtain⟨_,e⟩:=e;split at e
     ·grind
     ·split at e<;>grind
     ·cases e
    ·cases e
   ·cases e
  |slice _ _ _ _ mx=>cases mx<;>simp[AR]at hc
  |makeMap _ r=>cases r<;>simp[AR]at hc
  |call c=>
   simp only[AR]at hc
   grind
  |_=>simp[AR]at hc
end
end
section
variable[Pi.Gl]
open Pi (PV T Hp Blk DF UM PE AM AS AB AW Ap)
def CH(o:Option Pi.R):Prop:=∃ v h,o=zo (.val v h)
section
variable{P:Program}{h hs:Hp}
theorem JR{p:PV}(a:∀ q∈Pi.AE p,hs.get q=h.get q):Pi.A2 hs p=Pi.A2 h p:=by
 unfold Pi.A2
 grind [id,Pi.AE]
theorem FM{id:Nat}{b:Blk}{v:PV}(a:h.get id=zn->hs.get id=zn)(e:CH ((h.new id b).map λh=>.val v h)):CH ((hs.new id b).map λh=>.val v h):=by
 obtain⟨i,f,e⟩:=e;cases d:h.new id b with
 |none=>simp_all
 |some g=>
  obtain⟨c,e2⟩:=Ke a d;exact⟨v,c,by rw[e2];rfl⟩
theorem Ja{j:Nat}{b:Blk}{v:PV}(e:CH ((h.set j b).map λh=>.val v h)):CH ((hs.set j b).map λh=>.val v h):=by
 obtain⟨a,e2⟩:=BG hs j b;exact⟨v,a,by rw[e2];rfl⟩
theorem BM(e:CH zn){α:Prop}:α:=by obtain⟨_,_,e⟩:=e;cases e
theorem A4{c:Bool}{a b d b':Option Pi.R}(e:CH (bif c then a else b))(f:c=zt->CH a->CH d)(g:c=zf->CH b->CH b'):CH (bif c then d else b'):=by
 grind
theorem QH{id g:Nat}{s x:PV}(c:∀ q∈Pi.AE s,hs.get q=h.get q)(n:∀ q∈Pi.AE x,hs.get q=h.get q)(a:h.get id=zn->hs.get id=zn)(e:CH (Pi.EA P h id g s x)):CH (Pi.EA P hs id g s x):=by
 unfold Pi.EA at e ⊢;split at e
 ·rename_i u m
  try simp only[m]
  rw[JR n];split at e
  ·rename_i y A new z o p r t
   try simp only[o,p,r,t]
   refine A4 e (λ_ e=>BM e) λ_ e=> ?_;cases s with
   |nils=>
    simp only at e ⊢;exact A4 e (λ_ _=>⟨_,_,rfl⟩) λ_ e=>A4 e (λ_ e=>FM a e) λ_ e=>BM e
   |lst f es=>
    cases f with
    |true=>
     simp only at e ⊢;exact A4 e (λ_ _=>⟨_,_,rfl⟩) λ_ e=>A4 e (λ_ e=>FM a e) λ_ e=>BM e
    |false=>omega
   |own j off len=>
    simp only at e ⊢;rw[c j (by simp[Pi.AE])];split at e
    ·rename_i es ex fz i
     try simp only[i]
     refine A4 e (λ_ e=>BM e) λ_ e=> ?_;refine A4 e (λ_ e=> ?_) λ_ e=> ?_
     ·refine A4 e (λ_ _=>⟨_,_,rfl⟩) λ_ e=>A4 e (λ_ e=> ?_) λ_ e=>FM a e;exact A4 e (λ_ e=>BM e) λ_ e=>Ja e
     ·refine A4 e (λ_ e=> ?_) λ_ e=>BM e;obtain⟨w,d⟩:=BG h j .dead;obtain⟨k,b⟩:=BG hs j .dead;rw[d]at e;rw[b];simp only at e ⊢;refine FM (λl=> ?_) e;rw[(Hp.get_set d).1]at l;rw[(Hp.get_set b).1]
      grind
    omega
   |_=>omega
  omega
 omega
theorem Oy{id:Nat}{a:Array TypeId}{args:List PV}(d:∀ p∈args,∀ q∈Pi.AE p,hs.get q=h.get q)(e:CH (Pi.AH P h id .copy a args)):CH (Pi.AH P hs id .copy a args):=by
 simp only[Pi.AH]at e ⊢;split at e
 ·rename_i j off len x t b
  try simp only[b]
  rw[d (.own j off len) (by simp) j (by simp[Pi.AE]),JR (d x (by simp))];split at e
  ·rename_i f es ex new g i k
   try simp only[g,i,k]
   split at e
   ·rename_i l c
    try simp only[c]
    exact A4 e (λ_ e=>BM e) λ_ e=>Ja e
   omega
  omega
 omega
theorem EM:∀ {L:List Nat} {h hs d:Hp},(∀ x∈L,hs.get x=h.get x)->Pi.freeze h L=zo d -> ∃ a,Pi.freeze hs L=zo a /\ ∀ x,hs.get x=h.get x->a.get x=d.get x
 |[],h,hs,d,_,e=>by simp_all[Pi.freeze]
 |j::L,h,hs,d,hl,e=>by
  unfold Pi.freeze at e ⊢;rw[hl j (by simp)]
  have step:∀ {b:Blk},(match h.set j b with
    |some h=>Pi.freeze h L
    |none=>zn)=zo d -> ∃ a,(match hs.set j b with
    |some h=>Pi.freeze h L
    |none=>zn)=zo a /\ ∀ x,hs.get x=h.get x->a.get x=d.get x:=by
   intro b e;obtain⟨l,g⟩:=BG h j b;obtain⟨m,i⟩:=BG hs j b;rw[g]at e;rw[i];simp only at e ⊢
   have c:∀ x,hs.get x=h.get x->m.get x=l.get x:=λx k=>by
    rw[(Hp.get_set g).1,(Hp.get_set i).1]
    simp_all
   obtain⟨a,e1,n⟩:=EM (λx k=>c x (hl x (aB _ k))) e
   simp_all
  split at e
  ·rename_i cs fz f
   try simp only[f]
   exact step e
  ·rename_i es ex fz f
   try simp only[f]
   exact step e
  ·cases e
theorem Im{f g:PV->Option (PV×List Nat)}:∀ {i c:List PV} {l:List Nat},(∀ p q l',f p=zo (q,l')->(∀ x∈l',x∈l)->g p=zo (q,l'))->AB f i=zo (c,l)->AB g i=zo (c,l)
 |[],c,l,_,e=>e
 |p::i,c,l,hfg,e=>by
  unfold AB at e ⊢;split at e
  ·rename_i q a n b j k;cases e;rw[hfg _ _ _ j λx d=>ax _ d,Im (λp q l' h m=>hfg p q l' h λx d=>am _ (m x d)) k]
  ·cases e
theorem Kt:∀ (n:Nat) (p:PV) (q:PV) (l:List Nat),(∀ x∈l,hs.get x=h.get x)->AW h n p=zo (q,l)->AW hs n p=zo (q,l)
 |0,p,q,l,hl,e=>by simp[AW]at e
 |n+1,p,q,l,hl,e=>by
  have B:∀ {k m:List PV} {l':List Nat},(∀ x∈l',x∈l)->AB (AW h n) k=zo (m,l')->AB (AW hs n) k=zo (m,l'):=λu e=>
   Im (λp q z o r=>Kt n p q z (λx d=>hl x (u x (r x d))) o) e
  cases p with
  |agg cs=>simp only[AW]at e ⊢;obtain⟨⟨x,l'⟩,d,c⟩:=Pi.AA e;grind
  |tup cs=>simp only[AW]at e ⊢;obtain⟨⟨x,l'⟩,d,c⟩:=Pi.AA e;grind
  |ifc t x=>simp only[AW]at e ⊢;obtain⟨⟨y,l'⟩,w,c⟩:=Pi.AA e;cases c;rw[Kt n _ _ _ hl w];rfl
  |fn f a b=>
   grind [AW,ax,am]
  |own j off len=>
   simp only[AW]at e ⊢;split at e
   ·rename_i es ex fz g;replace e:=AN e;obtain⟨hc,e⟩:=e;obtain⟨⟨x,l'⟩,d,c⟩:=Pi.AA e;grind
   ·cases e
  |ptr j off=>
   simp only[AW]at e ⊢;split at e
   ·rename_i cs fz g;replace e:=AN e;obtain⟨hc,e⟩:=e;obtain⟨⟨x,l'⟩,d,c⟩:=Pi.AA e;grind
   ·cases e
  |ept j i off=>
   simp only[AW]at e ⊢;split at e
   ·rename_i es ex fz g;split at e
    ·rename_i A s;replace e:=AN e;obtain⟨hc,e⟩:=e;obtain⟨⟨x,l'⟩,d,c⟩:=Pi.AA e;grind
    ·cases e
   ·cases e
  |yl _=>simp[AW]at e
  |mp _=>simp[AW]at e
  |_=>exact e
theorem E2:∀ {f c:List PV} {l:List Nat},(∀ x∈l,hs.get x=h.get x)->Ap h f=zo (c,l)->Ap hs f=zo (c,l)
 |[],c,l,_,e=>e
 |p::f,c,l,hl,e=>by
  unfold Ap at e ⊢;split at e
  ·rename_i q a j b g i;cases e;rw[Kt _ _ _ _ (λx d=>hl x (ax _ d)) g,E2 (λx d=>hl x (am _ d)) i]
  ·cases e
theorem Fs{v:Value}{p:PV}(e:Pi.C1 v=zo p)(n:Nat):AW h (n+1) p=zo (p,[]):=by
 unfold Pi.C1 at e;split at e<;>first|cases e|skip
 all_goals first
  |rfl
  |(split at e<;>cases e;rfl)
theorem Em:∀ {vs:List Value} {a:List PV},Pi.cellsOf vs=zo a -> ∀ n,AB (AW h (n+1)) a=zo (a,[])
 |[],a,e,n=>by cases e;rfl
 |v::vs,a,e,n=>by
  unfold Pi.cellsOf at e;split at e
  ·rename_i p d b c;cases e;unfold AB;rw[Fs b,Em c];rfl
  ·cases e
theorem Qt{t:TypeId}{z:List PV}{d:Bool}{e:PV}(b:Pi.zeroCells P t=zo z)(a:Pi.Ka d z=zo e)(n:Nat):∃ q,AW h (n+2) e=zo (q,[]):=by
 unfold Pi.zeroCells at b;split at b
 ·split at b
  ·have f:=λn=>Em (h:=h) b n;unfold Pi.Ka at a;cases d with
   |true=>
    simp only[zb,Option.some.injEq]at a;subst a;refine⟨.agg z,?_⟩;show(AB (AW h (n+1)) z).map _=_
    grind
   |false=>
    simp only[zj]at a;split at a
    ·rename_i c;cases a;have:=f (n+1)
     grind [AB,Option.some.injEq,Prod.mk.injEq]
    ·cases a
  ·cases b
 ·cases b
theorem JU:∀ {n:Nat} {a:List (Nat×PV)} {es es':List PV},Pi.Fe n es a=zo es' -> ∀ e∈es',e∈es \/ ∃ i,(i,e)∈a
 |n,[],es,es',e,x,hx=>by simp_all[Pi.Fe,Option.some.injEq]
 |n,(i,v)::r,es,es',e,x,hx=>by
  unfold Pi.Fe at e;replace e:=AN e;obtain⟨_,e⟩:=e;rcases JU e x hx with h|⟨j,h⟩
  ·grind [Pi.AS]
  grind
theorem Ly:∀ {es c:List PV} {l:List Nat},Ap h es=zo (c,l) -> ∀ x∈l,∃ e∈es,∃ q l',AW h Pi.AT e=zo (q,l')/\x∈l'
 |[],c,l,e,x,hx=>by cases e;cases hx
 |p::ps,c,l,e,x,hx=>by
  unfold Ap at e;split at e
  ·rename_i q a f b g d;cases e;rcases al.1 hx with hx|hx
   ·grind
   ·obtain⟨e,i,k⟩:=Ly d x hx
    grind
  ·cases e
theorem Gs{t:T PV}:∀ {l:List (Nat×Operand)} {b:List (Nat×PV)},Pi.CB t l=zo b -> ∀ i p,(i,p)∈b -> ∀ q m,AW h Pi.AT p=zo (q,m) -> ∀ x∈m,x∈Pi.Ec t h (l.map (·.2))
 |[],b,e,i,p,hp,_,_,_,_,_=>by cases e;cases hp
 |(j,o)::l,b,e,i,p,hp,q,m,hm,x,hx=>by
  unfold Pi.CB at e;split at e
  ·rename_i a f c d;cases e;simp only[cj,Pi.Ec,c];rcases aj.1 hp with hp|hp
   ·simp_all
   ·have:=Gs d i p hp q m hm x hx
    grind
  ·cases e
theorem IJ{ty:TypeId}{len:Nat}{j:List (Nat×PV)}(G:∀ i p,(i,p)∈j -> ∀ q m,AW h Pi.AT p=zo (q,m) -> ∀ x∈m,hs.get x=h.get x)(e:CH (Pi.Ah P h ty len j)):CH (Pi.Ah P hs ty len j):=by
 unfold Pi.Ah at e ⊢;split at e
 ·rename_i D u
  try simp only[u]
  split at e
  ·rename_i n C z y A s
   try simp only[y,A,s]
   split at e
   ·rename_i J f
    try simp only[f]
    refine A4 e (λ_ e=>BM e) λ_ e=> ?_;split at e
    ·rename_i es c
     try simp only[c]
     split at e
     ·rename_i B l d
      have o:∀ x∈l,hs.get x=h.get x:=λx w=>by
       obtain⟨a,t,q,l',k,E⟩:=Ly d x w;rcases JU c a t with r|⟨i,r⟩
       ·have:=List.eq_of_mem_replicate r;subst this;obtain⟨I,F⟩:=Qt (h:=h) s f 10;have b:AW h (10+2) a=zo (q,l'):=k
        simp_all
       grind
      rw[E2 o d];obtain⟨_,_,e⟩:=e;obtain⟨k,g,_⟩:=Pi.AA e;obtain⟨b,e1,_⟩:=EM o g;show CH ((Pi.freeze hs l).map λh=>Pi.R.val (.lst zt B) h);rw[e1];exact⟨_,b,rfl⟩
     ·exact BM e
    omega
   omega
  omega
 omega
theorem LQ{t:T PV}{id:Nat}{o:Oper}(s:∀ ty x lo hi m,o.op=.slice ty x lo hi (zo m) -> ∀ p,Pi.CO t x=zo p -> ∀ j a b,p ≠ .own j a b)(hc:AR o.op=4)(w:∀ q∈Pi.Aw t h o.op,hs.get q=h.get q)(A:h.get id=zn->hs.get id=zn)(e:CH (Pi.AP P t h id o)):CH (Pi.AP P t hs id o):=by
 unfold Pi.AP at e ⊢;generalize o.op=L at hc w e s;cases L with
 |buildSlice ty len D=>
  simp only at e ⊢;split at e
  ·rename_i N n
   try simp only[n]
   exact IJ (λi p k q m B x I=>w x (Gs n i p k q m B x I)) e
  omega
 |call c=>
  simp only at e ⊢;split at e
  ·rename_i args d
   try simp only[d]
   cases f:c.callee with
   |builtin b=>
    simp only[AR,f]at hc;simp only[f]at e ⊢
    replace w:∀ q∈Pi.BT t c.args.toList,hs.get q=h.get q:=by
     grind [Pi.Aw]
    have g:∀ p∈args,∀ q∈Pi.AE p,hs.get q=h.get q:=λp k q F=>w q (J8 d p k q F);cases b with
    |append=>
     simp only[Pi.AH]at e ⊢;split at e
     ·rename_i p q t O l
      try simp only[l]
      exact A4 e (λ_ e=>QH (g p (by simp)) (g q (by simp)) A e) λ_ e=>BM e
     omega
    |copy=>exact Oy g e
    |_=>simp at hc
   |value _=>simp_all
   |invoke _ _=>simp_all
  omega
 |slice ty x lo hi mx=>
  cases mx with
  |none=>simp[AR]at hc
  |some m=>
   simp only at e ⊢;split at e
   ·rename_i C z u J K y
    have B:u≠zn:=λE=>by
     subst E;simp only[Pi.Pf]at y;cases G:Pi.CO t m<;>rw[G]at y<;>cases y
    try simp only[J,K,y]
    obtain⟨v,M,e⟩:=e;obtain⟨p,k,e⟩:=Pi.Aa e;have:=O3 (P:=P) (hs:=hs) (h:=h) (ty:=ty) (lo:=C) (hi:=z) (mx:=u) B (s _ _ _ _ _ rfl p k);rw[e]at this;unfold Pi.e1;rw[k];exact⟨v,hs,this⟩
   omega
 |makeMap _ r=>cases r<;>simp[AR]at hc
 |_=>simp[AR]at hc
theorem KN{id:Nat}{l:List Nat}{h':Hp}{r q:PV}{o:Hp}(m:∀ x∈l,hs.get x=h.get x)(t:h.get id=zn->hs.get id=zn)(e:Pi.Ag id l h h' r=zo (q,o)):∃ d,Pi.Ag id l hs h' r=zo (q,d):=by
 unfold Pi.Ag at e ⊢;split at e
 ·rename_i len n ex u
  try dsimp only
  split at e
  ·rename_i k b;obtain⟨z,f,g⟩:=Pi.AA e;cases g
   have:∃ a,(bif Pi.BS n then zo hs else Pi.freeze hs l)=zo a/\(k.get id=zn->a.get id=zn):=by
    cases c:Pi.BS n with
    |true=>
     simp_all
    |false=>
     rw[c]at b;obtain⟨a,e3,j⟩:=EM m b;refine⟨a,e3,λf=> ?_⟩;by_cases s:h.get id=zn
     ·simp_all
     ·exact absurd f ((C7 b id).2 s)
   obtain⟨a,e3,j⟩:=this;obtain⟨p,y⟩:=Ke j f
   simp_all
  ·cases e
 ·rename_i u
  try dsimp only
  split at e
  ·rename_i w A i
   try simp only[i]
   cases c:Pi.flat w with
   |true=>
    simp_all
   |false=>
    rw[c]at e;simp only[zj]at e ⊢;obtain⟨k,b,g⟩:=Pi.AA e;cases g;obtain⟨a,e3,_⟩:=EM m b
    simp_all
  ·cases e
theorem M8:∀ (n:Nat) (p q:PV) (l:List Nat),AW h n p=zo (q,l) -> ∀ x∈l,h.get x≠zn
 |0,p,q,l,e,x,hx=>by simp[AW]at e
 |n+1,p,q,l,e,x,hx=>by
  have w:∀ {g k:List PV} {l':List Nat},AB (AW h n) g=zo (k,l') -> ∀ x∈l',h.get x≠zn:=by
   intro g
   induction g with
   |nil=>intro k l' e x hx;cases e;cases hx
   |cons p g r=>
    intro k l' e x hx;unfold AB at e;split at e
    ·rename_i q a s b o u;cases e;rcases al.1 hx with hx|hx
     ·exact M8 n _ _ _ o x hx
     simp_all
    ·cases e
  cases p with
  |agg cs=>simp only[AW]at e;obtain⟨⟨y,l'⟩,d,c⟩:=Pi.AA e;grind
  |tup cs=>simp only[AW]at e;obtain⟨⟨y,l'⟩,d,c⟩:=Pi.AA e;grind
  |ifc t v=>simp only[AW]at e;obtain⟨⟨y,l'⟩,d,c⟩:=Pi.AA e;cases c;exact M8 n _ _ _ d x hx
  |fn f a b=>
   grind [AW]
  |own j off len=>
   simp only[AW]at e;split at e
   ·rename_i es ex fz m;replace e:=AN e;obtain⟨_,e⟩:=e;obtain⟨⟨y,l'⟩,d,c⟩:=Pi.AA e;grind
   ·cases e
  |ptr j off=>
   simp only[AW]at e;split at e
   ·rename_i cs fz m;replace e:=AN e;obtain⟨_,e⟩:=e;obtain⟨⟨y,l'⟩,d,c⟩:=Pi.AA e;grind
   ·cases e
  |ept j i off=>
   simp only[AW]at e;split at e
   ·rename_i es ex fz m;split at e
    ·replace e:=AN e;obtain⟨_,e⟩:=e;obtain⟨⟨y,l'⟩,d,c⟩:=Pi.AA e;grind
    ·cases e
   ·cases e
  |yl _=>simp[AW]at e
  |mp _=>simp[AW]at e
  |_=>cases e;cases hx
theorem En{t:T PV}:∀ {l:List Operand},∀ x∈Pi.Ec t h l,h.get x≠zn
 |[],x,hx=>by cases hx
 |o::l,x,hx=>by
  unfold Pi.Ec at hx;split at hx
  ·split at hx
   ·rename_i q m a;rcases al.1 hx with hx|hx
    ·exact M8 _ _ _ _ a x hx
    ·exact En x hx
   ·exact En x hx
  ·exact En x hx
end
end
section
variable[Pi.Gl]
open Pi (PV T Hp Blk DF UM PE AM AS AB AW Ap)
section
variable{P:Program}{h hs:Hp}
theorem H6(c:Hp):∀ (l:List Nat) (h:Hp),∃ a,Pi.over c l h=zo a/\a.nx=h.nx
 |[],h=>⟨h,rfl,rfl⟩
 |j::l,h=>by
  unfold Pi.over;split
  ·rename_i b f;obtain⟨e,e3⟩:=BG h j b;obtain⟨a,e2,d⟩:=H6 c l e;exact⟨a,by simp_all,by rw[d];exact(Hp.get_set e3).2⟩
  ·exact H6 c l h
theorem Aj{h:Hp}:∀ {l:List Nat} {x:Nat},x∈Pi.BC h l->x∈l
 |[],x,hx=>by simp[Pi.BC]at hx
 |j::l,x,hx=>by
  unfold Pi.BC at hx;split at hx
  ·exact aB _ (Aj hx)
  ·exact aB _ (Aj hx)
  ·rcases aj.1 hx with rfl|hx
   ·simp
   ·exact aB _ (Aj hx)
theorem JI{o:Op}(a:Pi.Av o=zt):(AR o<=1->Pi.quiet o=zt)/\(AR o=2\/AR o=3->Pi.quiet o=zf/\Pi.Ee o=zf)/\(AR o=0\/AR o=2 -> ∀ t h,Pi.Aw t h o=[])/\(AR o=4->Pi.quiet o=zf):=by
 cases o with
 |slice _ _ _ _ mx=>cases mx<;>simp[AR,Pi.quiet,Pi.Ee]
 |makeMap _ r=>cases r<;>simp[AR,Pi.quiet,Pi.Ee,Pi.Aw]
 |call c=>
  cases hc:c.callee with
  |builtin b=>cases b<;>simp[AR,Pi.quiet,Pi.Ee,hc]
  |_=>simp[AR,hc]
 |_=>simp[AR,Pi.quiet,Pi.Ee,Pi.Aw]
theorem IR{t:T PV}{id:Nat}{o:Oper}{r:Pi.R}(I:∀ ty x lo hi m,o.op=.slice ty x lo hi (zo m) -> ∀ p,Pi.CO t x=zo p -> ∀ j a b,p ≠ .own j a b)(i:Pi.Av o.op=zt)(z:h.get id=zn)(e:Pi.AP P t h id o=zo r) :
  (∀ v f,r=.val v f->AR o.op<=2\/AR o.op=4 -> ∃ d wr,(∀ rec,Pi.Ay P rec t h id o=zo (v,d,id::Pi.Aw t h o.op,wr))/\(∀ q,d.get q=f.get q)/\d.nx=h.nx/\(AR o.op<=1->wr=[]/\f=h) /\ ∀ w∈wr,w∈id::Pi.Aw t h o.op) /\
  (∀ f,r=.skip f->AR o.op=3 -> ∃ d wr,(∀ rec,Pi.Ay P rec t h id o=zo (.tup [],d,id::Pi.Aw t h o.op,wr))/\(∀ q,d.get q=f.get q)/\d.nx=h.nx /\ ∀ w∈wr,w∈id::Pi.Aw t h o.op):=by
 have k:∀ q∈id::Pi.Aw t h o.op,(h.cut (id::Pi.Aw t h o.op)).get q=h.get q:=λq n=>by
  simp_all[Pi.EH,zy]
 have low:=λhc=>Mg (P:=P) (hs:=h.cut (id::Pi.Aw t h o.op)) hc (λq n=>k q (aB _ n)) (λ_=>by simp_all) e;have sub:Pi.Eh (h.cut (id::Pi.Aw t h o.op)) h:=λx b hb=>(Pi.Dw hb).2;have N:ae id (id+1)=zt:=by simp
 have n:=JI i
 have g:∀ {c f:Hp},Pi.Lay (h.cut (id::Pi.Aw t h o.op)) h c f id -> ∃ d,Pi.over c (id::Pi.Aw t h o.op) h=zo d/\(∀ q,d.get q=f.get q)/\d.nx=h.nx:=fun {c f} l=>by
  obtain⟨d,e2,S⟩:=H6 c (id::Pi.Aw t h o.op) h;refine⟨d,e2,λq=> ?_,S⟩;rw[Pi.DS e2 q,l.get q];by_cases L:q∈id::Pi.Aw t h o.op
  ·grind
  ·rw[zx L];cases O:c.get q with
   |none=>rfl
   |some b=>
    rcases l.keys q b O with⟨b0,hb⟩|hb
    ·exact absurd (Pi.Dw hb).1 L
    simp_all
 refine⟨λv f s hc=> ?_,λf s hc=> ?_⟩
 ·obtain⟨M,c,B⟩:∃ M c,Pi.AP P t (h.cut (id::Pi.Aw t h o.op)) id o=zo (.val M c):=by
   rcases hc with hc|hc
   ·grind
   ·exact LQ I hc (λq n=>k q (aB _ n)) (λ_=>by simp_all) ⟨v,f,by rw[e,s]⟩
  have lay:=Pi.Cj sub (λ_=>z) i B;obtain⟨d,A,J⟩:=lay;rw[e,s]at A;cases A;by_cases y:AR o.op<=1
  ·have F:=n.1 y;have:=Pi.GX F i (by rw[e,s]);refine⟨h,[],λrec=> ?_,λq=>by rw[this],rfl,λ_=>⟨rfl,this⟩,λ_ u=>by cases u⟩;unfold Pi.Ay
   grind
  ·have G:Pi.quiet o.op=zf:=by
    grind
   obtain⟨D,e3,C,K⟩:=g J;refine⟨D,bif Pi.Ee o.op then id::Pi.Aw t h o.op else Pi.BC h (id::Pi.Aw t h o.op),λrec=> ?_,C,K,λh=>absurd h y,λw u=> ?_⟩
   ·unfold Pi.Ay
    grind
   ·cases E:Pi.Ee o.op with
    |true=>simp_all
    |false=>rw[E]at u;exact Aj u
 ·obtain⟨c,B⟩:=(low (by omega)).2 f s;have lay:=Pi.Cj sub (λ_=>z) i B;obtain⟨d,A,J⟩:=lay;rw[e,s]at A;cases A;have G:=n.2.1 (.inr hc);obtain⟨D,e3,C,K⟩:=g J;refine⟨D,Pi.BC h (id::Pi.Aw t h o.op),λrec=> ?_,C,K,λw u=>Aj u⟩;unfold Pi.Ay
  grind
theorem BR.there{X:Cx}{c:BA}{pid m:Nat}(b:BR X c (zo (.blk pid m)))(e:c.live):X.h.get pid≠zn:=by
 cases c with
 |box=>obtain⟨_,_,_,_,a,_,d,_⟩:=b;simp_all
 |row=>
  rcases b with⟨_,_,_,_,a,_,d,_⟩|⟨a,_⟩|⟨_,a,_⟩<;>simp_all
 |mp=>obtain⟨_,_,_,a,_,d,_⟩:=b;simp_all
 |lp=>obtain⟨_,_,_,_,_,a,_,d,_⟩:=b;simp_all
 |df=>obtain⟨_,_,_,a,_,d,_⟩:=b;simp_all
 |dead=>exact e.elim
theorem D4{X:Cx}{h:H}{n id pid m:Nat}(r:RH X h n)(a:Gi h id=zt)(f:X.π id=zo (.blk pid m)):X.h.get pid≠zn:=by
 unfold Gi at a;split at a
 ·cases a
 ·rename_i c d e
  have b:c.live:=by
   cases c<;>first|trivial|exact absurd e (by simpa using d)
  exact(f ▸ r.blk _ _ e).there b
 ·cases a
theorem Pm{X:Cx}{h:H}{n:Nat}(r:RH X h n){v:V}{p:PV}(d:VR X v p)(o:Ru h v=zt):∀ q∈Pi.AE p,X.h.get q≠zn:=by
 intro q e;cases v with
 |ow id=>
  simp only[VR]at d;cases s:X.π id with
  |none=>simp_all
  |some a=>
   rw[s]at d;cases a with
   |blk pid len=>simp only at d;subst d;simp only[Pi.AE,au]at e;subst e;exact D4 r o s
   |nil=>simp_all[Pi.AE]
   |fz es=>simp_all[Pi.AE]
 |own id off len=>simp only[VR]at d;obtain⟨pid,m,j,rfl⟩:=d;simp only[Pi.AE,au]at e;subst e;exact D4 r o j
 |ptr id off=>simp only[VR]at d;obtain⟨pid,m,j,rfl⟩:=d;simp only[Pi.AE,au]at e;subst e;exact D4 r o j
 |aptr id off k n=>simp only[VR]at d;obtain⟨pid,m,j,rfl,_⟩:=d;simp only[Pi.AE,au]at e;subst e;exact D4 r o j
 |ept id i off=>simp only[VR]at d;obtain⟨pid,m,j,rfl⟩:=d;simp only[Pi.AE,au]at e;subst e;exact D4 r o j
 |mp id=>simp only[VR]at d;obtain⟨pid,m,j,rfl⟩:=d;simp only[Pi.AE,au]at e;subst e;exact D4 r o j
 |lf full g c l=>
  grind [VR,Pi.AE,au]
 |view cs=>
  grind [VR,Pi.AE,au]
 |exl f es=>grind [VR,Pi.AE]
 |pl g c l=>grind [VR,Pi.AE]
 |pv cs=>grind [VR,Pi.AE]
 |agg cs=>grind [VR,Pi.AE]
 |tup cs=>grind [VR,Pi.AE]
 |fn f a b=>grind [VR,Pi.AE]
 |yl id=>grind [VR,Pi.AE]
 |ifc t v=>grind [VR,Pi.AE]
 |dd=>cases o
 |_=>simp_all[VR,Pi.AE]
theorem LJ{v:Value}{p:PV}(e:Pi.C1 v=zo p):Pi.AE p=[]:=by
 unfold Pi.C1 at e;split at e<;>first|cases e|skip
 all_goals first|rfl|(cases e;rfl)|(replace e:=AN e;cases e.2;rfl)|(split at e<;>first|(cases e;rfl)|cases e)
theorem GA{v:Value}{p:PV}(e:Pi.D8 v=zo p):Pi.AE p=[]:=by
 unfold Pi.D8 at e;split at e
 ·obtain⟨x,_,rfl⟩:=Pi.AA e;rfl
 ·replace e:=AN e;cases e.2;rfl
 ·split at e
  ·cases e;rfl
  ·cases e
 ·exact LJ e
theorem Ia{X:Cx}{h:H}{n:Nat}(r:RH X h n){t:T V}{i:T PV}(d:TR X t i):∀ {l:List Operand},Gj h t l=zt -> ∀ q∈Pi.BT i l,X.h.get q≠zn
 |[],_,q,hq=>by simp[Pi.BT]at hq
 |o::l,hl,q,hq=>by
  unfold Pi.BT at hq
  have j:Gj h t l=zt:=by
   cases o with
   |tmp k=>simp_all[Gj,ac]
   |_=>exact hl
  split at hq
  ·rename_i p a;rcases al.1 hq with hq|hq
   ·cases o with
    |tmp k=>
     simp only[Gj,ac]at hl;have b:=hl.1;split at b
     ·rename_i v m;obtain⟨s,c,e⟩:=d _ _ m;simp only[Pi.CO,c,aD,Option.some.injEq]at a;subst a;exact Pm r e b q hq
     ·cases b
    |const v=>rw[GA a]at hq;cases hq
    |func f=>grind [Pi.CO,Option.some.injEq,Pi.AE]
    |global g=>
     simp only[Pi.CO]at a;obtain⟨cs,_,rfl⟩:=Pi.AA a;simp[Pi.AE]at hq
   ·exact Ia r d j q hq
  ·exact Ia r d j q hq
theorem F1{t:T PV}{q:Nat}:∀ {l:List Operand},q∈Pi.DL t l->q∈Pi.BT t l
 |[],h=>h
 |o::l,h=>by
  unfold Pi.DL at h;unfold Pi.BT;split at h
  ·rename_i p a
   try rw[a]
   try simp only
   rcases al.1 h with h|h
   ·refine ax _ ?_;cases p<;>first|exact h|(simp[Pi.Fg]at h)
   ·exact am _ (F1 h)
  ·rename_i a
   try rw[a]
   exact F1 h
theorem Nc{X:Cx}{h:H}{n:Nat}(r:RH X h n){t:T V}{e:T PV}(k:TR X t e){o:Op}(hc:AR o<=4)(g:Pi.Av o=zt)(j:Gj h t (Pi.Az o)=zt):∀ q∈Pi.Aw e X.h o,X.h.get q≠zn:=by
 intro q d;have:=Ia r k j;cases o with
 |load _ _=>exact this q d
 |indexAddr _ _ _=>exact this q d
 |store _ _ _=>exact this q d
 |slice ty x lo hi mx=>
  cases mx with
  |some _=>exact En q (by simpa[Pi.Aw]using d)
  |none=>
   refine this q ?_;simp only[Pi.Aw,cr,zj]at d
   have f:∀ {a b:List Operand},q∈Pi.BT e a->q∈Pi.BT e (a++b):=by
    intro a b
    induction a with
    |nil=>intro h;simp[Pi.BT]at h
    |cons o a l=>
     grind [Pi.BT]
   exact f (a:=[x]) d
 |call c=>
  simp only[Pi.Aw]at d;split at d
  ·rename_i b i;simp only[Pi.Az,i]at this;refine this q ?_;split at d
   ·exact F1 d
   ·exact d
  ·cases d
 |buildSlice _ _ _=>exact En q d
 |lookup _ _ _ _=>cases g
 |mapUpdate _ _ _ _=>cases g
 |insert _ _ _ _=>cases g
 |_=>simp[Pi.Aw]at d
end
end
section
variable[Pi.Gl]
open Pi (PV T Hp Blk DF UM PE AM AS AB AW Ap)
section
variable{P:Program}{tab:Dr}
def Cx.with(X:Cx)(a:Hp):Cx:={ X with h:=a }
theorem Ea{X:Cx}{a:Hp}(g:∀ q,a.get q=X.h.get q):Up X (X.with a):=⟨λ_ _ h=>h,λq es ex fz b c=>⟨⟨fz,by show a.get q=_;simp_all⟩,b⟩⟩
theorem RH.with{X:Cx}{h:H}{n:Nat}{a:Hp}(r:RH X h n)(g:∀ q,a.get q=X.h.get q)(e:a.nx=X.h.nx):RH (X.with a) h n:=
 ⟨λi c hi=>(r.blk i c hi).keep (Ea g) λ_ _ _ d=>⟨g _,d⟩,r.inj,r.dom,λq b=>by show a.get q=zn;rw[g];exact r.fresh q (by have:a.nx<=q:=b;omega),λq b=>by show a.get q≠zn;rw[g];exact r.ob q b⟩
theorem St.with{X Y:Cx}{h h':H}{id idP:Nat}{a:Hp}(s:St X h id idP Y h')(g:∀ q,a.get q=Y.h.get q)(e:a.nx=Y.h.nx):St X h id idP (Y.with a) h':=
 ⟨s.up.trans (Ea g),by show a.nx=_;rw[e];exact s.nx,s.pin,λq f k=>by show a.get q=zn;rw[g];exact s.hpn q f k,s.lk,λq l i nt t j c b d k=>by show a.get q=_;rw[g];exact s.lps _ _ _ _ _ _ _ _ _ k⟩
def FpA(X:Cx)(l:List Nat×Bool)(q:Nat):Prop:=(∃ j∈l.1,∃ m,X.π j=zo (.blk q m))\/(l.2=zt/\X.Q q /\ ∃ es ex fz,X.h.get q=zo (.row es ex fz))
theorem FpA.mono{X Y:Cx}(u:Up X Y){l:List Nat×Bool}{q:Nat}(h:FpA X l q):FpA Y l q:=by
 rcases h with⟨j,g,m,i⟩|⟨b,c,es,ex,fz,d⟩
 ·exact .inl ⟨j,g,m,u.pi _ _ i⟩
 ·obtain⟨⟨a,e⟩,f⟩:=u.rows _ _ _ _ c d;exact .inr ⟨b,f,es,ex,a,e⟩
def OH(X:Cx)(own:Nat)(f:Option (List Nat×Bool))(rd:List Nat):Prop:=∀ l,f=zo l -> ∀ q∈rd,q=own\/FpA X l q
def FpP(X:Cx)(own:Nat)(f:Option (List Nat×Bool))(rd:List Nat):Prop:=∀ l,f=zo l -> ∀ q∈rd,(q=own/\X.h.get q=zn)\/FpA X l q
def PastE(X:Cx)(baseP i len:Nat)(a:Nat×Nat×Option (List Nat×Bool))(b:Nat×List Nat×List Nat):Prop:=
 a.1=b.1/\b.1<i/\(∀ w∈b.2.2,w∈b.2.1)/\(a.2.1<=1->b.2.2=[])/\(∀ q∈b.2.1,∀ k,i<=k->k<len->q≠baseP+k)/\(a.2.1=0->b.2.1=[baseP+b.1]/\X.h.get (baseP+b.1)=zn)/\FpP X (baseP+b.1) a.2.2 b.2.1
theorem BD:∀ {a b:List Nat},(∀ x∈a,x ∉ b)->Pi.Cf a b=zf
 |[],b,_=>rfl
 |x::a,b,h=>by
  simp only[Pi.Cf,af,aN];refine⟨λy e d=> ?_,BD λz c=>h z (by simp[c])⟩
  simp_all
theorem Ll:∀ {a b:List Nat},Pi.Cf a b=zf -> ∀ x∈a,x ∉ b
 |[],_,_,x,hx=>by cases hx
 |y::a,b,h,x,hx=>by
  simp only[Pi.Cf,af,aN]at h;rcases aj.1 hx with rfl|hx
  ·intro c;exact h.1 x c (by simp)
  ·exact Ll h.2 x hx
theorem HO{h:H}:∀ {l:List Nat},Le h l=zt -> ∀ j∈l,Gi h j=zt
 |[],_,j,hj=>by cases hj
 |k::l,hl,j,hj=>by
  simp only[Le,ac]at hl;rcases aj.1 hj with rfl|hj
  ·exact hl.1
  ·exact HO hl.2 j hj
theorem HN{h:H}{id:Nat}(a:Gi h id=zt):∃ b,h.get id=zo b/\b.live:=by
 unfold Gi at a;split at a
 ·cases a
 ·rename_i c d e;exact⟨c,e,by cases c<;>first|trivial|exact absurd e (by simpa using d)⟩
 ·cases a
theorem HS{h:H}:∀ {l:List Nat},Lw h l=zt -> ∀ j∈l,∃ b,h.get j=zo b
 |[],_,j,hj=>by cases hj
 |k::l,hl,j,hj=>by
  simp only[Lw,ac]at hl;rcases aj.1 hj with rfl|hj
  ·exact Option.isSome_iff_exists.1 hl.1
  ·exact HS hl.2 j hj
theorem D9{X:Cx}{h:H}{n:Nat}(z:RH X h n){baseP i len A c:Nat}{f:Option (List Nat×Bool)}{rd wr:List Nat}(hf:OH X (baseP+i) f rd)(hi:i<len)(hw:∀ w∈wr,w∈rd)(h1:c<=1->wr=[])(K:c=0\/c=2->rd=[baseP+i])(L:∀ q∈rd,q=baseP+i\/X.h.get q≠zn) :
  ∀ {pa:List (Nat×Nat×Option (List Nat×Bool))} {pp:List (Nat×List Nat×List Nat)},L2 (PastE X baseP i len) pa pp->DQ h A c f pa=zt->Pi.F3 A rd wr pp=zt
 |[],pp,t,_=>by rw[L2.nil_inv t];rfl
 |(j,d,g)::pa,pp,t,ho=>by
  obtain⟨⟨j',r,w⟩,pp',rfl,⟨e1,e2,e3,J,U,W,Y⟩,N⟩:=L2.cons_inv t;simp only at e1 e2 e3 J U W Y;subst e1;simp only[DQ,ac,bz]at ho;simp only[Pi.F3,ac,bz,aU];refine⟨?_,D9 z hf hi hw h1 K L N ho.2⟩;have own:∀ x∈r,x≠baseP+i:=λx e=>U x e i (ab _) hi;rcases ho.1 with hb|hb|hb|hb|hb|hb
  ·grind
  ·have hc:=ai hb;refine .inr ?_;rw[K (.inl hc),h1 (by omega)];exact af.2 ⟨BD λx e k=>own x (e3 x e) (by grind),rfl⟩
  ·have hc:=ai hb;have hr:=K (.inr hc);refine .inr (af.2 ⟨BD λx e k=>own x (e3 x e) (by simp_all),BD λx e k=>own x k (by grind)⟩)
  ·have hd:=ai hb;obtain⟨f1,f2⟩:=W hd;refine .inr (af.2 ⟨by rw[J (by omega)];rfl,BD λx e k=> ?_⟩)
   grind
  ·have hc:=ai hb.1;have hd:=ai hb.2;exact .inr (af.2 ⟨by rw[J (by omega)];rfl,by rw[h1 (by omega)];rfl⟩)
  ·unfold TH at hb;split at hb
   ·rename_i a b;simp only[ac,aU]at hb;obtain⟨k,hpq,B,C⟩:=hb
    have D:∀ {l:List Nat} {j q m:Nat},Le h l=zt->j∈l->X.π j=zo (.blk q m)->X.O q:=λt M F=>by
     obtain⟨I,y,G⟩:=HN (HO t _ M);exact(F ▸ z.blk _ _ y).own G
    have E:∀ {l:List Nat} {j q m:Nat},Lw h l=zt->j∈l->X.π j=zo (.blk q m)->X.O q:=λt M F=>by
     obtain⟨I,y⟩:=HS t _ M;have hB:=z.blk _ _ y;cases I with
     |dead=>exact(hB _ _ F).1
     |_=>exact(F ▸ hB).own trivial
    have no:∀ x∈rd,x ∉ r:=λx e hr=>by
     rcases hf a rfl x e with hh|h1
     ·grind
     ·rcases Y b rfl x hr with⟨hh,hh2⟩|h2
      ·grind
      ·rcases h1 with⟨j1,s,m1,u⟩|⟨q1,P,_⟩
       ·rcases h2 with⟨j2,o,m2,p⟩|⟨_,P,_⟩
        ·obtain⟨I,y,G⟩:=HN (HO B j1 s);obtain⟨S,Z⟩:=HS C j2 o
         have l2:S.live:=by
          cases S with
          |dead=>exact absurd ((z.blk _ _ Z) _ _ p).2 ((u ▸ z.blk _ _ y).nd G)
          |_=>trivial
         have:=z.inj _ _ _ _ _ _ _ y Z G l2 u p;subst this;exact Ll k _ s o
        ·exact P (D B s u)
       ·rcases h2 with⟨j2,o,m2,p⟩|⟨q3,_,_⟩
        ·exact P (E C o p)
        simp_all
    exact .inr (af.2 ⟨BD λx e k=>no x k (e3 x e),BD λx e k=>no x (hw x e) k⟩)
   ·cases hb
theorem FpP.mono{X Y:Cx}(u:Up X Y){own:Nat}(c:X.h.get own=zn->Y.h.get own=zn){f:Option (List Nat×Bool)}{rd:List Nat}(h:FpP X own f rd):FpP Y own f rd:=λl a q b=>by
 rcases h l a q b with⟨rfl,h1⟩|h1
 ·simp_all
 ·exact .inr (h1.mono u)
theorem PastE.next{X Y:Cx}{h h':H}{baseP base i len:Nat}{a:Nat×Nat×Option (List Nat×Bool)}{b:Nat×List Nat×List Nat}(s:St X h (base+i) (baseP+i) Y h')(k:PastE X baseP i len a b):PastE Y baseP (i+1) len a b:=by
 obtain⟨e1,e2,e3,e,f,c,g⟩:=k;exact⟨e1,by omega,e3,e,λq m k n j=>f q m k (by omega) j,λd=>⟨(c d).1,s.hpn _ (by omega) (c d).2⟩,g.mono s.up λl=>s.hpn _ (by omega) l⟩
theorem CW{X:Cx}{t:T V}{C:T PV}(w:TR X t C):∀ {ops:List Operand} {l:List Nat×Bool},Of t ops=zo l -> ∀ q∈Pi.BT C ops,FpA X l q
 |[],_,_,q,hq=>by simp[Pi.BT]at hq
 |o::ops,l,e,q,hq=>by
  unfold Pi.BT at hq;cases o with
  |tmp k=>
   unfold Of at e
   have z:∀ {v:V},t.get k=zo v -> ∃ p,Pi.CO C (.tmp k)=zo p/\VR X v p:=λr=>by
    obtain⟨W,I,d⟩:=w _ _ r
    simp_all[Pi.CO,aD]
   have u:∀ {v:V} {id:Nat},t.get k=zo v->(∀ p,VR X v p -> ∀ q∈Pi.AE p,∃ m,X.π id=zo (.blk q m))->((Of t ops).map (λa=>(id::a.1,a.2))=zo l)->FpA X l q:=fun {v id} r A e=>by
    obtain⟨p,s,d⟩:=z r;rw[s]at hq;obtain⟨l',y,rfl⟩:=Pi.AA e;rcases al.1 hq with hq|hq
    ·obtain⟨m,B⟩:=A p d q hq;exact .inl ⟨id,by simp,m,B⟩
    ·rcases CW w y q hq with⟨j,G,m,B⟩|hq
     ·exact .inl ⟨j,by simp[G],m,B⟩
     ·exact .inr hq
   have D:∀ {v:V},t.get k=zo v->(∀ p,VR X v p -> ∀ q∈Pi.AE p,X.Q q /\ ∃ es ex fz,X.h.get q=zo (.row es ex fz))->((Of t ops).map (λa=>(a.1,zt))=zo l)->FpA X l q:=fun {v} r A e=>by
    obtain⟨p,s,d⟩:=z r;rw[s]at hq;obtain⟨l',y,rfl⟩:=Pi.AA e;rcases al.1 hq with hq|hq
    ·exact .inr ⟨rfl,A p d q hq⟩
    ·rcases CW w y q hq with h|hq
     ·exact .inl h
     ·exact .inr ⟨rfl,hq.2⟩
   split at e
   ·rename_i id r;refine u r (λp d q hq=> ?_) e
    grind [VR,Pi.AE,au]
   ·rename_i id off len r;refine u r (λp d q hq=> ?_) e
    grind [VR,Pi.AE,au]
   ·rename_i id off r;refine u r (λp d q hq=> ?_) e
    grind [VR,Pi.AE,au]
   ·rename_i id i off r;refine u r (λp d q hq=> ?_) e
    grind [VR,Pi.AE,au]
   ·rename_i id off k len r;refine u r (λp d q hq=> ?_) e
    grind [VR,Pi.AE,au]
   ·rename_i id r;refine u r (λp d q hq=> ?_) e
    grind [VR,Pi.AE,au]
   ·grind [VR,Pi.AE,au]
   ·rename_i cs r;refine D r (λp d q hq=> ?_) e;simp only[VR]at d;rcases d with⟨Y,rfl,_⟩|⟨pid,i,off,es,ex,fz,e,rfl,E,F,_⟩
    ·simp[Pi.AE]at hq
    ·simp only[Pi.AE,au]at hq;subst hq;exact⟨E,_,_,_,F⟩
   ·cases e
   ·rename_i v J O P S K L U M N r;obtain⟨p,s,d⟩:=z r;rw[s]at hq;rcases al.1 hq with hq|hq
    ·exfalso;cases v with
     |ow id=>exact J _ rfl
     |own id off len=>grind
     |ptr id off=>grind
     |ept id i off=>grind
     |aptr id off k n=>grind
     |mp id=>exact L _ rfl
     |lf full g c l=>grind
     |dd=>exact(N rfl).elim
     |view cs=>exact M _ rfl
     |pl g c l=>simp only[VR]at d;rcases d with⟨rfl,_⟩|⟨_,_,rfl,_⟩<;>simp[Pi.AE]at hq
     |pv cs=>grind [VR,Pi.AE]
     |exl f es=>simp only[VR]at d;obtain⟨_,_,rfl,_⟩:=d;simp[Pi.AE]at hq
     |agg cs=>simp only[VR]at d;obtain⟨_,rfl,_⟩:=d;simp[Pi.AE]at hq
     |tup cs=>grind [VR,Pi.AE]
     |fn f a b=>simp only[VR]at d;obtain⟨_,_,rfl,_⟩:=d;simp[Pi.AE]at hq
     |yl id=>simp only[VR]at d;obtain⟨_,_,_,rfl⟩:=d;simp[Pi.AE]at hq
     |ifc t v=>simp only[VR]at d;obtain⟨_,rfl,_⟩:=d;simp[Pi.AE]at hq
     |_=>simp only[VR]at d;subst d;simp[Pi.AE]at hq
    ·exact CW w e q hq
   ·cases e
  |const v=>
   have x:Of t ops=zo l:=e;split at hq
   ·rename_i p s;rcases al.1 hq with hq|hq
    ·rw[GA s]at hq;cases hq
    ·exact CW w x q hq
   ·exact CW w x q hq
  |func f=>
   have x:Of t ops=zo l:=e;split at hq
   ·rename_i p s;rcases al.1 hq with hq|hq
    ·simp only[Pi.CO,Option.some.injEq]at s;subst s;simp[Pi.AE]at hq
    ·exact CW w x q hq
   ·exact CW w x q hq
  |global g=>
   have x:Of t ops=zo l:=e;split at hq
   ·rename_i p s;simp only[Pi.CO]at s;obtain⟨cs,_,rfl⟩:=Pi.AA s;rcases al.1 hq with hq|hq
    ·simp[Pi.AE]at hq
    ·exact CW w x q hq
   ·exact CW w x q hq
theorem HJ{t:T PV}{q:Nat}{b:List Operand}:∀ {a:List Operand},q∈Pi.BT t a->q∈Pi.BT t (a++b)
 |[],h=>by simp[Pi.BT]at h
 |o::a,h=>by
  simp only[bf,Pi.BT]at h ⊢;split at h
  ·rename_i p c
   try rw[c]
   try simp only
   rcases al.1 h with h|h
   ·simp_all
   ·exact am _ (HJ h)
  ·rename_i c
   try rw[c]
   exact HJ h
theorem Ik{f:PV->Option (PV×List Nat)}:∀ {a b:List PV} {d:List PV} {c:List Nat},AB f (a++b)=zo (d,c) -> ∃ i e j g,AB f a=zo (i,e)/\AB f b=zo (j,g)/\c=e++g
 |[],b,d,c,h=>⟨[],[],d,c,rfl,h,rfl⟩
 |p::a,b,d,c,h=>by
  simp only[bf,AB]at h;split at h
  ·rename_i q l m l' n k;cases h;obtain⟨i,e,j,g,o,r,rfl⟩:=Ik k
   grind [AB]
  ·cases h
theorem EV{f:PV->Option (PV×List Nat)}{p:PV}{b:List PV}{a:List Nat}(h:AB f [p]=zo (b,a)):∃ q,f p=zo (q,a):=by
 grind [AB]
theorem HR{f:PV->Option (PV×List Nat)}{p q:PV}{a:List Nat}(h:f p=zo (q,a)):AB f [p]=zo ([q],a):=by
 simp only[AB,h,aK]
theorem ET{f:PV->Option (PV×List Nat)}{T:Nat->Prop}:∀ {es:List PV},(∀ e∈es,∀ q l,f e=zo (q,l) -> ∀ i∈l,T i) -> ∀ {b:List PV} {a:List Nat},AB f es=zo (b,a) -> ∀ i∈a,T i
 |[],_,b,a,h,i,hi=>by cases h;cases hi
 |e::es,hf,b,a,h,i,hi=>by
  simp only[AB]at h;split at h
  ·rename_i q l g l' j c;cases h;rcases al.1 hi with hi|hi
   ·simp_all
   ·exact ET (λe d=>hf e (by simp[d])) c i hi
  ·cases h
theorem Mt{α:Type}{R:α->PV->Prop}{l:List α}{es:List PV}(h:L2 R l es):∀ e∈es,∃ y,R y e:=by
 induction h<;>grind
def PG(hh:Hp)(Q:Nat->Prop)(i:Nat):Prop:=Q i /\ ∃ es ex fz,hh.get i=zo (.row es ex fz)
theorem Fx{hh:Hp}{Q:Nat->Prop}:∀ {c:Ty} {x:c.den} {z:List PV},DR hh Q c x z -> ∀ {d:Nat} {m:List PV} {k:List Nat},AB (AW hh d) z=zo (m,k) -> ∀ i∈k,PG hh Q i
 |.int _,_,_,e,d,m,k,h,i,hi=>by
  subst e;obtain⟨q,h⟩:=EV h;cases d<;>cases h;cases hi
 |.bool,_,_,e,d,m,k,h,i,hi=>by
  subst e;obtain⟨q,h⟩:=EV h;cases d<;>cases h;cases hi
 |.str,_,_,e,d,m,k,h,i,hi=>by
  subst e;obtain⟨q,h⟩:=EV h;cases d<;>cases h;cases hi
 |.unit,_,_,e,d,m,k,h,i,hi=>by subst e;cases h;cases hi
 |.pair a b,_,_,⟨p,q,e,A,o⟩,d,m,k,h,i,hi=>by
  subst e;obtain⟨M,K,N,L,I,J,rfl⟩:=Ik h;rcases al.1 hi with hi|hi
  ·exact Fx A I i hi
  ·exact Fx o J i hi
 |.sl g c,_,_,⟨p,e,F⟩,d,m,k,h,i,hi=>by
  subst e;obtain⟨q,h⟩:=EV h;rcases F with⟨rfl,_⟩|⟨f,es,rfl,_⟩|⟨pid,off,len,es,ex,fz,rfl,o,t,_,_,B⟩
  ·cases d<;>cases h;cases hi
  ·cases d<;>cases h;cases hi
  ·cases d with
   |zero=>cases h
   |succ d=>
    simp only[AW,t]at h;replace h:=AN h;obtain⟨_,h⟩:=h;obtain⟨⟨xs,l⟩,E,G⟩:=Pi.AA h;cases G;rcases aj.1 hi with rfl|hi
    ·exact⟨o,es,ex,fz,t⟩
    ·refine ET (λe D q l n j w=> ?_) E i hi;obtain⟨y,u⟩:=Mt B e D;cases g with
     |true=>
      obtain⟨cs,rfl,C⟩:=u;cases d with
      |zero=>cases n
      |succ d=>
       rw[EY]at n;obtain⟨⟨O,l'⟩,r,s⟩:=Pi.AA n;cases s;exact Fx C r j w
     |false=>exact Fx (show DR hh Q c y [e]from u) (HR n) j w
theorem Pc{hh:Hp}{Q:Nat->Prop}{g:Bool}{c:Ty}{y:c.den}{e q:PV}{d:Nat}{l:List Nat}(h:EP g (DR hh Q c) y e)(a:AW hh d e=zo (q,l)):∀ j∈l,PG hh Q j:=by
 intro j i;cases g with
 |true=>
  obtain⟨cs,rfl,k⟩:=h;cases d with
  |zero=>cases a
  |succ d=>
   rw[EY]at a;obtain⟨⟨m,l'⟩,b,f⟩:=Pi.AA a;cases f;exact Fx k b j i
 |false=>exact Fx (show DR hh Q c y [e]from h) (HR a) j i
theorem Mo{X:Cx}{f:V->Option (List Nat×Bool)}{d:Nat}(s:∀ {v:V} {p:PV} {l:List Nat×Bool},VR X v p->f v=zo l -> ∀ {q:PV} {c:List Nat},AW X.h d p=zo (q,c) -> ∀ i∈c,FpA X l i) :
  ∀ {vs:List V} {k:List PV} {l:List Nat×Bool},VRL X vs k->TG f vs=zo l -> ∀ {r:List PV} {c:List Nat},AB (AW X.h d) k=zo (r,c) -> ∀ i∈c,FpA X l i
 |[],k,l,hv,e,r,c,h,i,hi=>by rw[hv.nil_inv]at h;cases h;cases hi
 |v::vs,k,l,hv,e,r,c,h,i,hi=>by
  obtain⟨p,A,rfl,t,u⟩:=hv.cons_inv;unfold TG at e;split at e
  ·rename_i a b w x;cases e;simp only[AB]at h;split at h
   ·rename_i q l B l' y z;cases h;rcases al.1 hi with hi|hi
    ·rcases s t w y i hi with⟨j,g,m,n⟩|⟨g,o⟩
     ·exact .inl ⟨j,ax _ g,m,n⟩
     ·exact .inr ⟨by simp[g],o⟩
    ·rcases Mo s u x z i hi with⟨j,g,m,n⟩|⟨g,o⟩
     ·exact .inl ⟨j,am _ g,m,n⟩
     ·exact .inr ⟨by simp[g],o⟩
   ·cases h
  ·cases e
theorem J2{hh:Hp}{Q:Nat->Prop}:∀ {c:Ty} {x:c.den} {d:List PV},c.hasSl=zf->DR hh Q c x d->DR hh (λ_=>False) c x d
 |.int _,_,_,_,h=>h
 |.bool,_,_,_,h=>h
 |.str,_,_,_,h=>h
 |.unit,_,_,_,h=>h
 |.pair a b,_,_,hs,⟨p,q,e,f,i⟩=>by
  simp only[Ty.hasSl,af]at hs;exact⟨p,q,e,J2 hs.1 f,J2 hs.2 i⟩
 |.sl g c,_,_,hs,_=>by cases hs
theorem Pd{hh:Hp}{Q:Nat->Prop}{g:Bool}{c:Ty}{y:c.den}{e q:PV}{d:Nat}{l:List Nat}(hs:c.hasSl=zf)(b:EP g (DR hh Q c) y e)(i:AW hh d e=zo (q,l)):∀ j∈l,False:=by
 intro j h
 have a:EP g (DR hh (λ_=>False) c) y e:=by
  cases g with
  |true=>obtain⟨cs,rfl,f⟩:=b;exact⟨cs,rfl,J2 hs f⟩
  |false=>exact J2 hs b
 exact(Pc a i j h).1
theorem Jo{X:Cx}{h:H}{n:Nat}(r:RH X h n){id off len pid m d:Nat}{q:PV}{u:List Nat}(E:X.π id=zo (.blk pid m))(P:Gi h id=zt)(a:AW X.h d (.own pid off len)=zo (q,u)):∀ i∈u,FpA X ([id],QZ h id) i:=by
 intro i hi;obtain⟨b,O,A⟩:=HN P;have p:=r.blk _ _ O;rw[E]at p;cases d with
 |zero=>cases a
 |succ d=>
  simp only[AW]at a;split at a
  ·rename_i es ex fz s;replace a:=AN a;obtain⟨_,a⟩:=a;obtain⟨⟨xs,l⟩,D,S⟩:=Pi.AA a;cases S;rcases aj.1 hi with rfl|hi
   ·exact .inl ⟨id,by simp,m,E⟩
   ·cases b with
    |row g c l L N G=>
     rcases p with⟨J,F,es',M,f,Y,o,Z,h5,h7,C⟩|⟨f,_⟩|⟨_,f,_⟩
     ·cases f;rw[s]at o;cases o;cases hs:c.hasSl with
      |true=>
       refine .inr ⟨by unfold QZ;simp_all,ET (T:=PG X.h X.Q) (λe x U l' k j z=> ?_) D i hi⟩;obtain⟨y,w⟩:=Mt C e (cm (co x));exact Pc w k j z
      |false=>
       exact(ET (T:=λ_=>False) (λe x U l' k j z=>by
        obtain⟨y,w⟩:=Mt C e (cm (co x))
        exact Pd hs w k j z) D i hi).elim
     all_goals simp_all
    |box cs fz G=>obtain⟨_,_,_,_,f,_,o,_⟩:=p;simp_all
    |mp kk g c l G=>obtain⟨_,_,_,f,_,o,_⟩:=p;simp_all
    |lp st I nt t ps K B d=>obtain⟨_,_,_,_,_,f,_,o,_⟩:=p;simp_all
    |df W=>obtain⟨_,_,_,f,_,o,_⟩:=p;simp_all
    |dead=>exact A.elim
  ·cases a
theorem Mq{X:Cx}{h:H}{n0:Nat}(r:RH X h n0):∀ {n:Nat} {v:V} {p:PV} {l:List Nat×Bool},VR X v p->Tn h n v=zo l -> ∀ {d:Nat} {q:PV} {o:List Nat},AW X.h d p=zo (q,o) -> ∀ i∈o,FpA X l i
 |0,_,_,_,_,e,_,_,_,_,_,_=>by cases e
 |n+1,v,p,l,hv,e,d,q,o,j,i,hi=>by
  cases v with
  |bool b=>simp only[VR]at hv;subst hv;cases d<;>cases j;cases hi
  |int k b=>simp only[VR]at hv;subst hv;cases d<;>cases j;cases hi
  |str b=>simp only[VR]at hv;subst hv;cases d<;>cases j;cases hi
  |nils=>simp only[VR]at hv;subst hv;cases d<;>cases j;cases hi
  |pl g c l=>simp only[VR]at hv;rcases hv with⟨rfl,_⟩|⟨_,_,rfl,_⟩<;>cases d<;>cases j<;>cases hi
  |exl f es=>simp only[VR]at hv;obtain⟨_,_,rfl,_⟩:=hv;cases d<;>cases j;cases hi
  |lf f g c F=>
   cases e
   have x:DR X.h X.Q (.sl g c) F [p]:=by
    simp only[VR]at hv;refine⟨p,rfl,?_⟩;rcases hv with h|⟨f,es,t,_,w⟩|⟨pid,off,len,es,ex,fz,t,_,w,B,C,E,D⟩
    ·exact .inl h
    ·grind
    ·exact .inr (.inr ⟨pid,off,len,es,ex,fz,t,w,B,C,E,D⟩)
   obtain⟨t,w⟩:=Fx x (HR j) i hi;exact .inr ⟨rfl,t,w⟩
  |ow id=>
   replace e:=AN e;obtain⟨s,e⟩:=e;cases e;simp only[VR]at hv;cases u:X.π id with
   |none=>simp_all
   |some a=>
    rw[u]at hv;cases a with
    |blk pid len=>simp only at hv;subst hv;exact Jo r u s j i hi
    |nil=>simp only at hv;subst hv;cases d<;>cases j;cases hi
    |fz es=>simp only at hv;subst hv;cases d<;>cases j;cases hi
  |own id off len=>
   replace e:=AN e;obtain⟨s,e⟩:=e;cases e;simp only[VR]at hv;obtain⟨pid,m,t,rfl⟩:=hv;exact Jo r t s j i hi
  |agg cs=>
   obtain⟨G,rfl,A⟩:=hv.agg_inv;cases d with
   |zero=>cases j
   |succ d=>
    rw[EY]at j;obtain⟨⟨I,l'⟩,y,z⟩:=Pi.AA j;cases z;exact Mo (fun {v p l} hv e {q o} j i hi=>Mq r hv e j i hi) A e y i hi
  |_=>cases e
theorem MW{v:Value}{p q:PV}{hh:Hp}{d:Nat}{a:List Nat}(e:Pi.C1 v=zo p)(h:AW hh d p=zo (q,a)):a=[]:=by
 cases d with
 |zero=>cases h
 |succ d=>rw[Fs e]at h;cases h;rfl
theorem Ow{v:Value}{p q:PV}{hh:Hp}{a:List Nat}(e:Pi.D8 v=zo p)(h:AW hh Pi.AT p=zo (q,a)):a=[]:=by
 unfold Pi.D8 at e;split at e
 ·obtain⟨x,c,rfl⟩:=Pi.AA e;rw[show Pi.AT=11+1 from rfl,EY,Em c 10]at h;cases h;rfl
 ·replace e:=AN e;cases e.2;cases h;rfl
 ·split at e
  ·rename_i d b;cases e;rw[show Pi.AT=11+1 from rfl,Ks,Fs b 10]at h;cases h;rfl
  ·cases e
 ·exact MW e h
theorem FpA.left{X:Cx}{a b:List Nat×Bool}{q:Nat}(h:FpA X a q):FpA X (a.1++b.1,a.2||b.2) q:=by
 rcases h with⟨j,c,m,d⟩|⟨c,e⟩
 ·exact .inl ⟨j,ax _ c,m,d⟩
 ·exact .inr ⟨by simp[c],e⟩
theorem FpA.right{X:Cx}{a b:List Nat×Bool}{q:Nat}(h:FpA X b q):FpA X (a.1++b.1,a.2||b.2) q:=by
 rcases h with⟨j,c,m,d⟩|⟨c,e⟩
 ·exact .inl ⟨j,am _ c,m,d⟩
 ·exact .inr ⟨by simp[c],e⟩
theorem DM{X:Cx}{h:H}{n0:Nat}(r:RH X h n0){t:T V}{u:T PV}(c:TR X t u):∀ {ops:List Operand} {l:List Nat×Bool},RD h t ops=zo l -> ∀ q∈Pi.Ec u X.h ops,FpA X l q
 |[],_,_,q,hq=>by simp[Pi.Ec]at hq
 |o::ops,l,e,q,hq=>by
  unfold Pi.Ec at hq;cases o with
  |tmp k=>
   unfold RD at e;split at e
   ·rename_i v A;split at e
    ·rename_i a b y w;cases e;obtain⟨B,z,s⟩:=c _ _ A;have n:Pi.CO u (.tmp k)=zo B:=by grind [Pi.CO]
     rw[n]at hq;simp only at hq;split at hq
     ·rename_i x m i;rcases al.1 hq with hq|hq
      ·exact(Mq r s y i q hq).left
      ·exact(DM r c w q hq).right
     ·exact(DM r c w q hq).right
    ·cases e
   ·cases e
  |const v=>
   have d:RD h t ops=zo l:=e;split at hq
   ·rename_i p j;split at hq
    ·rename_i x m i;rcases al.1 hq with hq|hq
     ·rw[Ow j i]at hq;cases hq
     ·exact DM r c d q hq
    ·exact DM r c d q hq
   ·exact DM r c d q hq
  |func f=>
   have d:RD h t ops=zo l:=e;simp only[Pi.CO]at hq;split at hq
   ·rename_i x m i;rcases al.1 hq with hq|hq
    ·have:m=[]:=by
      rw[show Pi.AT=11+1 from rfl,M9]at i;simp only[AB,aK,Option.some.injEq,Prod.mk.injEq]at i;exact i.2.symm
     rw[this]at hq;cases hq
    ·exact DM r c d q hq
   ·exact DM r c d q hq
  |global g=>
   have d:RD h t ops=zo l:=e;split at hq
   ·rename_i p j;simp only[Pi.CO]at j;obtain⟨cs,_,rfl⟩:=Pi.AA j;have:Pi.AW X.h Pi.AT (.view cs)=zo (.view cs,[]):=rfl;rw[this]at hq;exact DM r c d q (by grind)
   ·exact DM r c d q hq
theorem EL{X:Cx}{t:T V}{w:T PV}(i:TR X t w):∀ {ops:List Operand} {l:List Nat×Bool},RE t ops=zo l -> ∀ q∈Pi.DL w ops,FpA X l q
 |[],_,_,q,hq=>by simp[Pi.DL]at hq
 |o::ops,l,e,q,hq=>by
  unfold Pi.DL at hq;cases o with
  |tmp k=>
   unfold RE at e;split at e
   ·rename_i id z;obtain⟨l',x,rfl⟩:=Pi.AA e;obtain⟨u,y,h⟩:=i _ _ z;have r:Pi.CO w (.tmp k)=zo u:=by grind [Pi.CO]
    rw[r]at hq;simp only at hq;simp only[VR]at h;obtain⟨pid,m,A,rfl⟩:=h;rcases al.1 hq with hq|hq
    ·simp only[Pi.Fg,au]at hq;subst hq;exact .inl ⟨id,by simp,m,A⟩
    ·rcases EL i x q hq with⟨j,B,m,C⟩|hq
     ·exact .inl ⟨j,by simp[B],m,C⟩
     ·exact .inr hq
   ·rename_i v D z;obtain⟨u,y,h⟩:=i _ _ z;have r:Pi.CO w (.tmp k)=zo u:=by grind [Pi.CO]
    rw[r]at hq;simp only at hq;rcases al.1 hq with hq|hq
    ·exfalso;cases u with
     |mp pid=>
      cases v with
      |mp id=>simp_all
      |ow id=>
       grind [VR]
      |lf f g c l=>simp_all[VR]
      |pl g c l=>simp_all[VR]
      |view cs=>simp_all[VR]
      |exl f es=>simp_all[VR]
      |agg cs=>simp_all[VR]
      |tup cs=>simp_all[VR]
      |pv cs=>simp_all[VR]
      |fn f a b=>simp_all[VR]
      |yl id=>simp_all[VR]
      |ifc t v=>simp_all[VR]
      |own a b c=>simp_all[VR]
      |ptr a b=>simp_all[VR]
      |ept a b c=>simp_all[VR]
      |aptr a b c d=>simp_all[VR]
      |dd=>simp_all[VR]
      |_=>simp only[VR]at h;cases h
     |_=>simp[Pi.Fg]at hq
    ·exact EL i e q hq
   ·cases e
  |const v=>
   have n:RE t ops=zo l:=e;split at hq
   ·rename_i p s;rcases al.1 hq with hq|hq
    ·have:=GA s;cases p<;>first|(simp[Pi.Fg]at hq;done)|(simp[Pi.AE]at this)
    ·exact EL i n q hq
   ·exact EL i n q hq
  |func f=>
   have n:RE t ops=zo l:=e;split at hq
   ·rename_i p s;rcases al.1 hq with hq|hq
    ·grind [Pi.CO,Option.some.injEq,Pi.Fg]
    ·exact EL i n q hq
   ·exact EL i n q hq
  |global g=>
   have n:RE t ops=zo l:=e;split at hq
   ·rename_i p s;simp only[Pi.CO]at s;obtain⟨cs,_,rfl⟩:=Pi.AA s;rcases al.1 hq with hq|hq
    ·simp[Pi.Fg]at hq
    ·exact EL i n q hq
   ·exact EL i n q hq
theorem Rs{X:Cx}{h:H}{n:Nat}(r:RH X h n){t:T V}{f:T PV}(e:TR X t f){o:Op}(own:Nat):OH X own (fp h t o) (own::Pi.Aw f X.h o):=by
 intro l d q hq;rcases aj.1 hq with hq|hq
 ·omega
 refine .inr ?_;unfold fp at d;cases o with
 |load _ _=>exact CW e d q hq
 |indexAddr _ _ _=>exact CW e d q hq
 |store _ _ _=>exact CW e d q hq
 |buildSlice _ _ parts=>exact DM r e d q hq
 |slice ty x lo hi mx=>
  cases mx with
  |some _=>exact DM r e d q (by simpa[Pi.Aw]using hq)
  |none=>
   refine CW e d q ?_;simp only[Pi.Aw,cr,zj]at hq;exact HJ (a:=[x]) hq
 |call c=>
  simp only[Pi.Aw]at hq;simp only at d;split at hq
  ·rename_i b g;simp only[g]at d;cases b<;>first|exact EL e d q hq|exact CW e d q hq|cases d
  ·cases hq
 |alloc _=>simp[Pi.Aw]at hq
 |box _ _=>simp[Pi.Aw]at hq
 |makeSlice _ _ _=>simp[Pi.Aw]at hq
 |makeMap _ r=>simp[Pi.Aw]at hq
 |_=>cases d
theorem RT{t:T PV}{h i:Hp}{id:Nat}{o:Oper}{v:PV}(g:h.get id=zn)(l:Pi.Av o.op=zt)(hc:AR o.op=2\/AR o.op=4)(e:Pi.AP P t h id o=zo (.val v i)):i.get id=zn\/Pi.AE v=[id]:=by
 unfold Pi.AP at e;generalize o.op=u at l hc e
 have nw:∀ {b:Blk} {h:Hp} {k:PV},Pi.AE k=[id]->(h.new id b).map (λh=>Pi.R.val k h)=zo (.val v i)->i.get id=zn\/Pi.AE v=[id]:=λA e=>by
  simp_all
 have fr:∀ {L:List Nat} {k:PV},(Pi.freeze h L).map (λh=>Pi.R.val k h)=zo (.val v i)->i.get id=zn\/Pi.AE v=[id]:=λe=>by
  obtain⟨s,m,r⟩:=Pi.AA e;cases r;exact .inl ((C7 m id).1 g)
 have w:∀ {j:Nat} {b b0:Blk} {k:PV},h.get j=zo b0->(h.set j b).map (λh=>Pi.R.val k h)=zo (.val v i)->i.get id=zn\/Pi.AE v=[id]:=λz e=>by
  obtain⟨s,m,r⟩:=Pi.AA e;cases r;refine .inl ?_;rw[(Hp.get_set m).1,zx (λhh=>by simp_all)];exact g
 cases u with
 |alloc _=>
  simp only at e;unfold Pi.Cm at e;split at e
  ·exact nw rfl e
  ·cases e
 |box _ x=>
  obtain⟨p,_,e⟩:=Pi.Aa e;unfold Pi.Fc at e;split at e
  ·cases e
  ·exact nw rfl e
 |makeMap ty rs=>
  cases rs with
  |none=>exact nw rfl e
  |some _=>cases e
 |makeSlice _ x y=>
  obtain⟨p,q,_,_,e⟩:=Pi.CR e;unfold Pi.C2 at e;simp only[ay]at e
  repeat' split at e
  all_goals first|(cases e;done)|exact nw rfl e
 |buildSlice ty n B=>
  simp only at e;split at e
  ·unfold Pi.Ah at e;simp only[ay]at e
   repeat' split at e
   all_goals first|(cases e;done)|exact fr e
  ·cases e
 |slice ty x lo hi mx=>
  simp only at e;split at e
  ·obtain⟨p,_,e⟩:=Pi.Aa e;unfold Pi.Ai Pi.Dc Pi.EE at e;simp only[ay]at e
   repeat' split at e
   all_goals first|(cases e;done)|exact fr e|(cases e;exact .inl g)
  ·cases e
 |call c=>
  simp only at e;split at e
  ·cases d:c.callee with
   |builtin b=>
    simp only[AR,d]at hc;simp only[d]at e;cases b with
    |append=>
     simp only[Pi.AH,ay]at e;split at e
     ·split at e
      ·unfold Pi.EA at e;simp only[ay]at e
       repeat' split at e
       all_goals first|(cases e;done)|exact nw rfl e|(cases e;exact .inl g)|(refine w (b0:=?_) ?_ e;rotate_left;assumption)
      ·cases e
     ·cases e
    |copy=>
     simp only[Pi.AH,ay]at e
     grind
    |_=>simp at hc
   |value f=>simp[AR,d]at hc
   |invoke a b=>simp[AR,d]at hc
  ·cases e
 |_=>simp[AR]at hc
theorem Ib{X:Cx}{v:V}{p:PV}(d:VR X v p){own:Nat}{f:Option (List Nat×Bool)}{rd:List Nat}(hn:X.h.get own=zn\/Pi.AE p=[own])(F:OH X own f rd):FpP X own (JX v f) rd:=by
 intro l o q y;cases f with
 |none=>cases o
 |some a=>
  have D:∀ {b:Bool} {r:List Nat},(a.2=zt->b=zt)->(∀ j∈a.1,j∈r)->FpA X a q->FpA X (r,b) q:=λB hi h=>by
   rcases h with⟨j,u,m,C⟩|⟨u,y⟩
   ·exact .inl ⟨j,hi j u,m,C⟩
   ·exact .inr ⟨B u,y⟩
  have E:∀ x,FpA X a x->FpA X l x:=λx h=>by
   have D:∀ {b:Bool} {r:List Nat},(a.2=zt->b=zt)->(∀ j∈a.1,j∈r)->FpA X (r,b) x:=λB hi=>by
    rcases h with⟨j,u,m,C⟩|⟨u,y⟩
    ·exact .inl ⟨j,hi j u,m,C⟩
    ·exact .inr ⟨B u,y⟩
   unfold JX at o
   grind
  rcases F a rfl q y with rfl|h
  ·rcases hn with hn|hn
   ·simp_all
   ·refine .inr ?_;unfold JX at o;simp only at o;split at o
    ·rename_i id;cases o;simp only[VR]at d;cases w:X.π id with
     |none=>simp_all
     |some b=>
      rw[w]at d;cases b with
      |blk pid len=>simp only at d;subst d;simp only[Pi.AE,List.cons.injEq,and_true]at hn;subst hn;exact .inl ⟨id,by simp,len,w⟩
      |nil=>simp_all[Pi.AE]
      |fz es=>simp_all[Pi.AE]
    ·cases o;simp only[VR]at d;obtain⟨pid,m,s,rfl⟩:=d;simp only[Pi.AE,List.cons.injEq,and_true]at hn;subst hn;exact .inl ⟨_,by simp,m,s⟩
    ·cases o;simp only[VR]at d;obtain⟨pid,m,s,rfl⟩:=d;simp only[Pi.AE,List.cons.injEq,and_true]at hn;subst hn;exact .inl ⟨_,by simp,m,s⟩
    ·cases o;simp only[VR]at d;obtain⟨pid,m,s,rfl⟩:=d;simp only[Pi.AE,List.cons.injEq,and_true]at hn;subst hn;exact .inl ⟨_,by simp,m,s⟩
    ·cases o;simp only[VR]at d;obtain⟨pid,m,s,rfl,_⟩:=d;simp only[Pi.AE,List.cons.injEq,and_true]at hn;subst hn;exact .inl ⟨_,by simp,m,s⟩
    ·cases o;simp only[VR]at d;obtain⟨pid,m,s,rfl⟩:=d;simp only[Pi.AE,List.cons.injEq,and_true]at hn;subst hn;exact .inl ⟨_,by simp,m,s⟩
    ·cases o;simp only[VR]at d;rcases d with⟨rfl,_⟩|⟨_,_,rfl,_⟩|⟨pid,off,len,es,ex,fz,rfl,_,z,A,_⟩
     ·simp[Pi.AE]at hn
     ·simp[Pi.AE]at hn
     ·simp only[Pi.AE,List.cons.injEq,and_true]at hn;subst hn;exact .inr ⟨rfl,z,es,ex,fz,A⟩
    ·cases o;simp only[VR]at d;rcases d with⟨_,rfl,_⟩|⟨pid,i,off,es,ex,fz,e,rfl,z,A,_⟩
     ·simp[Pi.AE]at hn
     ·simp only[Pi.AE,List.cons.injEq,and_true]at hn;subst hn;exact .inr ⟨rfl,z,es,ex,fz,A⟩
    ·cases o
    ·rename_i M G N I J O P K L;exfalso;cases v with
     |ow id=>grind
     |own id off len=>exact G _ _ _ rfl
     |ptr id off=>simp_all
     |ept id i off=>exact I _ _ _ rfl
     |aptr id off k n=>grind
     |mp id=>grind
     |lf f g c l=>grind
     |dd=>exact L rfl
     |view cs=>exact K _ rfl
     |pl g c l=>grind [VR,Pi.AE]
     |pv cs=>grind [VR,Pi.AE]
     |exl f es=>grind [VR,Pi.AE]
     |agg cs=>grind [VR,Pi.AE]
     |tup cs=>grind [VR,Pi.AE]
     |fn f a b=>simp only[VR]at d;obtain⟨_,_,rfl,_⟩:=d;simp[Pi.AE]at hn
     |yl id=>grind [VR,Pi.AE]
     |ifc t v=>grind [VR,Pi.AE]
     |_=>simp only[VR]at d;subst d;simp[Pi.AE]at hn
  simp_all
theorem FH{X:Cx}{h:H}{n0:Nat}(r:RH X h n0){args:List V}{b:List PV}(d:VRL X args b){c:List PV}{lP:List Nat}(a:Ap X.h b=zo (c,lP))(own:Nat):OH X own (BL h args) (own::lP):=by
 intro l f q hq;rcases aj.1 hq with hq|hq
 ·omega
 ·rw[Gw]at a;exact .inr (Mo (fun {v p l} hv e {q ids} a i hi=>Mq r hv e a i hi) d f a q hq)
theorem Iz{h a:Hp}{j q:Nat}{b b0:Blk}(g:h.get j=zo b0)(c:h.get q=zn){r:Pi.R}(e:(h.set j b).map Pi.R.skip=zo r)(d:r=.skip a):a.get q=zn:=by
 subst d;obtain⟨f,e2,e3⟩:=Pi.AA e;cases e3;rw[(Hp.get_set e2).1,zx (λhh=>by simp_all)];exact c
theorem NK{h c:Hp}{ty:TypeId}{p v:PV}{q:Nat}(b:h.get q=zn)(e:Pi.A3 P h ty p v=zo (.skip c)):c.get q=zn:=by
 unfold Pi.A3 at e;split at e
 ·replace e:=BE e;obtain⟨_,e⟩:=e;split at e
  ·split at e
   ·rename_i a;replace e:=AN e;exact Iz a b e.2 rfl
   ·cases e
  ·split at e
   ·rename_i a;split at e
    ·replace e:=AN e;obtain⟨_,e⟩:=e;split at e
     ·exact Iz a b e rfl
     ·split at e
      ·replace e:=AN e;obtain⟨_,e⟩:=e;split at e
       ·cases e
       ·cases e
       ·exact Iz a b e rfl
      ·cases e
    ·cases e
   ·cases e
  ·cases e
 ·cases e
theorem OS{t:T PV}{h b:Hp}{id q:Nat}{o:Oper}(hc:AR o.op=3)(d:h.get q=zn)(e:Pi.AP P t h id o=zo (.skip b)):b.get q=zn:=by
 unfold Pi.AP at e;generalize o.op=f at hc e;cases f with
 |store ty a x=>
  simp only[Pi.e2]at e;split at e
  ·exact NK d e
  ·cases e
 |slice _ _ _ _ mx=>cases mx<;>simp[AR]at hc
 |makeMap _ r=>cases r<;>simp[AR]at hc
 |call c=>
  grind [AR]
 |_=>simp[AR]at hc
theorem Rc{β:Type}{x:β}{X:Cx}{t:T V}{c:T PV}(l:TR X t c){nt:Nat}(k:nt<1048575){a:Option Nat}{v:V}{p:PV}(m:VR X v p){K:T V->Option β}(e:Hy t nt a v K=zo x) :
  ∃ f b,K f=zo x/\TR X f b/\(∀ d,a=zo d->ae d nt=zt/\b=T.put 20 c d p)/\(a=zn->b=c):=by
 unfold Hy at e;split at e
 ·rename_i d;replace e:=AN e;obtain⟨g,e⟩:=e;have i:d<nt:=by simpa using g
  exact⟨_,_,e,l.put (d:=d) (by omega) m,λn j=>(by simp_all),λh=>(by cases h)⟩
 grind
theorem DX.flat{hh:Hp}{Q h:Nat->Prop}:∀ {c:Ty} {y:c.den} {g:List PV},c.hasSl=zf->DX hh Q h c y g->Pi.BS g=zt
 |.int _,_,_,_,e=>by subst e;rfl
 |.bool,_,_,_,e=>by subst e;rfl
 |.str,_,_,_,e=>by subst e;rfl
 |.unit,_,_,_,e=>by subst e;rfl
 |.pair a b,_,_,hs,⟨p,q,e,d,f⟩=>by
  subst e;simp only[Ty.hasSl,af]at hs;have j:=DX.flat hs.1 d;have i:=DX.flat hs.2 f;clear d f
  induction p with
  |nil=>exact i
  |cons a p k=>
   simp_all[Pi.BS,ac,bf,Bool.true_and]
 |.sl _ _,_,_,hs,_=>by cases hs
theorem L3{d:Hp}{l:List (Bool×Ty)}{y:AO l}{r:PV}(hs:B4 l=zf)(h:HW d l y r):∀ j a b,r ≠ .own j a b:=by
 intro j a b g;subst g
 match l,y,h with
 |[],y,⟨rs,c,_⟩=>cases c
 |[p],y,h=>
  have e:p.2.hasSl=zf:=by simpa[B4]using hs
  have h':EP p.1 (DX d (λ_=>True) (λ_=>True) p.2) y (.own j a b):=h;cases f:p.1 with
  |true=>rw[f]at h';obtain⟨cs,c,_⟩:=h';cases c
  |false=>
   rw[f]at h';have:=DX.flat e (show DX d _ _ p.2 y [.own j a b]from h');simp[Pi.BS,Pi.flat]at this
 |p::q::rr,y,⟨rs,c,_⟩=>cases c
theorem Fh{b:Hp}{l:List (Bool×Ty)}{y:AO l}{r:PV}(c:Cs l=zt)(hs:B4 l=zf)(h:HW b l y r):∃ q,(∀ (id:Nat) (lP:List Nat) (hh:Hp),Pi.Ag id lP hh b r=zo (q,hh))/\Ri l y q/\Pi.flat q=zt:=by
 obtain⟨q,e,f,a⟩:=N5 c h;have d:=Jk hs a;refine⟨q,λid lP hh=> ?_,a,d⟩;unfold Pi.Ag;have g:=L3 hs h
 simp_all
theorem GO{a:T PV}{h h':Hp}{id:Nat}{o:Oper}(hc:CP o.op=zt):Pi.AP P a h id o=Pi.AP P a h' id o:=by
 unfold Pi.AP;generalize o.op=b at hc;cases b with
 |call c=>
  grind [CP]
 |_=>cases hc
theorem J3{X:Cx}{h:H}{n idP:Nat}(r:RH X h n){o:Oper}{I:T PV}{f:FuncId}{sg:Sg}(M:FnOK P tab f sg)(i:B4 sg.cod=zf){args:List V}{G:List PV}(A:Pi.Av o.op=zt)(b:CP o.op=zt)(C:Pi.AP P I X.h idP o=zo (.call f G)){β:Type}{x:β}{K:V->H->Option β}(ha:VRL X args G)(e:Db h sg args K=zo x) :
  ∃ v q rd,K v h=zo x/\VR X v q/\(∀ a∈rd,a=idP\/X.h.get a≠zn)/\OH X idP (BL h args) rd /\ ∃ N,∀ F m,N<=F->N<=m->Pi.Ay P (Pi.B5 P (Ae tab) F m) I X.h idP o=zo (q,X.h,rd,[]):=by
 unfold Db at e;replace e:=BE e;obtain⟨L,e⟩:=e;simp only[af,aq]at L;obtain⟨t,u⟩:=L
 let Q:Nat->Prop:=λpid=>X.Q pid \/ ∃ id∈DN args,∃ m,X.π id=zo (.blk pid m)
 replace e:=Bu (Q:=Q) r (λ_ h=>.inl h) (λid pid m hi W=>.inr ⟨id,hi,m,W⟩) ha e;obtain⟨y,e,B⟩:=e;replace e:=AD e;obtain⟨h',j,e⟩:=e;rw[i]at j;cases j;replace e:=DZ e;obtain⟨z,Z,e⟩:=e;obtain⟨J,lP,g,w,k⟩:=ED (λ_ h=>.inl h) t B;obtain⟨rP,up,hR,⟨N,S⟩,p⟩:=M y z Z J w;obtain⟨q,E,Y,D⟩:=Fh u i p
 have d:Pi.Aw I X.h o.op=[]:=by
  generalize o.op=op at b;cases op with
  |call c=>
   grind [Pi.Aw,CP]
  |_=>cases b
 refine⟨_,q,(idP::[])++lP,e,Gx Y,λa ha=> ?_,FH r ha g idP,N,λF m O U=> ?_⟩
 ·simp only[bf,bY,aj]at ha;rcases ha with ha|ha
  ·omega
  ·obtain⟨_,es,ex,fz,hg⟩:=k a ha
   simp_all
 ·unfold Pi.Ay;have s:ae idP (idP+1)=zt:=by simp
  simp only[A,s,ao,aL,zj,d];rw[GO (h':=X.h) b,C];simp only[g];have l:Ap (X.h.cut (idP::lP)) G=zo (J,lP):=E2 (h:=X.h) (λx hx=>by simp_all[Pi.EH,zy]) g;unfold Pi.A9;simp only[zj,l];rw[show({ m:=.lf,nx:=0 }:Hp)=D1 from rfl,S F m O U];simp only[E,aC,D,zb]
theorem JK{X:Cx}{h:H}{n:Nat}(r:RH X h n):∀ {dom:List (Bool×Ty)} {args:List V} {f:List PV} {b:List V} {js:List Nat},VRL X args f->Eo h dom args=zo (b,js) ->
  ∃ d,VRL X b d /\ ∀ g c,Ap X.h d=zo (g,c) -> ∃ lP,Ap X.h f=zo (G1 dom g,lP) /\ ∀ i∈lP,i∈c \/ ∃ j∈js,∃ m,X.π j=zo (.blk i m)/\X.h.get i≠zn
 |[],args,f,b,js,hv,e=>by
  grind [Eo,G1]
 |p::l,[],f,b,js,hv,e=>by
  unfold Eo at e;cases e;refine⟨f,hv,λg c h=>⟨c,?_,λi hi=>.inl hi⟩⟩;rw[hv.nil_inv]at h ⊢;cases h;rfl
 |p::l,v::vs,f,b,js,hv,e=>by
  obtain⟨q,qs,rfl,s,J⟩:=hv.cons_inv;unfold Eo at e;split at e
  ·rename_i a K;obtain⟨d,E,F⟩:=JK r J (show Eo h l vs=zo (a.1,a.2)from K);replace e:=BP e;rcases e with⟨S,e⟩|⟨S,e⟩
   ·split at e
    ·rename_i j off;split at e
     ·rename_i cs fz lk O;replace e:=AN e;obtain⟨D,e⟩:=e;cases e;simp only[VR]at s;obtain⟨pid,n',u,rfl⟩:=s;have B:=r.blk _ _ O;rw[u]at B;obtain⟨G,n'',A,I,t,L,M,N,k⟩:=B;cases t;have C:cs.length=A.length:=k.length;refine⟨.agg (A.drop off)::d,.cons (by simp only[VR];exact⟨_,rfl,k.drop off⟩) E,λg c hh=> ?_⟩;unfold Ap at hh;split at hh
      ·rename_i Y o z b' x y;cases hh;obtain⟨lP,U,W⟩:=F _ _ y;rw[show Pi.AT=11+1 from rfl,EY]at x;obtain⟨⟨Z,l'⟩,P,w⟩:=Pi.AA x;cases w;refine⟨(pid::o)++lP,?_,λi hi=> ?_⟩
       ·unfold Ap
        have e1:AW X.h Pi.AT (.ptr pid off)=zo (.view Z,pid::o):=by
         rw[show Pi.AT=11+1 from rfl];unfold AW
         grind
        simp_all[G1,zb,MP]
       grind
      ·cases hh
     ·cases e
    ·cases e
   ·cases e;refine⟨q::d,.cons s E,λg c hh=> ?_⟩;unfold Ap at hh;split at hh
    ·rename_i Y o z b' x y;cases hh;obtain⟨lP,U,W⟩:=F _ _ y;refine⟨o++lP,?_,λi hi=> ?_⟩
     ·simp_all[Ap,G1,zj]
     grind
    ·cases hh
  ·cases e
theorem Pn{X:Cx}{own:Nat}{js:List Nat}{f:Option (List Nat×Bool)}{rd lP:List Nat}(g:OH X own f rd)(h:∀ i∈lP,i∈rd \/ ∃ j∈js,∃ m,X.π j=zo (.blk i m)/\X.h.get i≠zn):OH X own (TF js f) lP:=by
 intro l k q d;obtain⟨a,e,rfl⟩:=Pi.AA k;rcases h q d with d|⟨j,b,m,c,_⟩
 ·rcases g a e q d with h1|⟨j,b,m,c⟩|h1
  ·omega
  ·exact .inr (.inl ⟨j,am _ b,m,c⟩)
  ·exact .inr (.inr h1)
 ·exact .inr (.inl ⟨j,ax _ b,m,c⟩)
theorem LO{X:Cx}{h:H}{n idP:Nat}(r:RH X h n){o:Oper}{Y:T PV}{f:FuncId}{sg:Sg}(TO:FnP P tab f sg)(l:B4 sg.cod=zf){args:List V}{W:List PV}(I:Pi.Av o.op=zt)(g:CP o.op=zt)(L:Pi.AP P Y X.h idP o=zo (.call f W)){β:Type}{x:β}{K:V->H->Option β}{b:List V}{js:List Nat}(E:Eo h sg.dom args=zo (b,js))(ha:VRL X args W)(e:Db h sg b K=zo x) :
  ∃ v q rd,K v h=zo x/\VR X v q/\(∀ a∈rd,a=idP\/X.h.get a≠zn)/\OH X idP (TF js (BL h b)) rd /\ ∃ N,∀ F m,N<=F->N<=m->Pi.Ay P (Pi.B5 P (Ae tab) F m) Y X.h idP o=zo (q,X.h,rd,[]):=by
 obtain⟨ps2,k,p⟩:=JK r ha E;unfold Db at e;replace e:=BE e;obtain⟨hd,e⟩:=e;simp only[af,aq]at hd;obtain⟨C,D⟩:=hd
 let Q:Nat->Prop:=λpid=>X.Q pid \/ ∃ id∈DN b,∃ m,X.π id=zo (.blk pid m)
 replace e:=Bu (Q:=Q) r (λ_ h=>.inl h) (λid pid m hi hp=>.inr ⟨id,hi,m,hp⟩) k e;obtain⟨y,e,J⟩:=e;replace e:=AD e;obtain⟨h',s,e⟩:=e;rw[l]at s;cases s;replace e:=DZ e;obtain⟨z,hz,e⟩:=e;obtain⟨Z,U,d,G,t⟩:=ED (λ_ h=>.inl h) C J;obtain⟨lP,u,S⟩:=p _ _ d;obtain⟨rP,up,hR,⟨N,hN⟩,A⟩:=TO y z hz Z G;obtain⟨q,O,hq,M⟩:=Fh D l A
 have j:Pi.Aw Y X.h o.op=[]:=by
  generalize o.op=op at g;cases op with
  |call c=>
   grind [Pi.Aw,CP]
  |_=>cases g
 refine⟨_,q,(idP::[])++lP,e,Gx hq,λa ha=> ?_,Pn (rd:=(idP::[])++U) (FH r k d idP) (λi hi=>by
   grind),N,λF m hF hm=> ?_⟩
 ·simp only[bf,bY,aj]at ha;rcases ha with ha|ha
  ·omega
  ·rcases S a ha with ha|⟨_,_,_,_,hg⟩
   ·obtain⟨_,es,ex,fz,hg⟩:=t a ha
    simp_all
   simp_all
 ·unfold Pi.Ay;have B:ae idP (idP+1)=zt:=by simp
  simp only[I,B,ao,aL,zj,j];rw[GO (h':=X.h) g,L];simp only[u];have w:Ap (X.h.cut (idP::lP)) W=zo (G1 sg.dom Z,lP):=E2 (h:=X.h) (λx hx=>by simp_all[Pi.EH,zy]) u;unfold Pi.A9;simp only[zj,w];rw[show({ m:=.lf,nx:=0 }:Hp)=D1 from rfl,hN F m hF hm];simp only[O,aC,M,zb]
theorem Ep{X:Cx}{h:H}{n id idP:Nat}(r:RH X h n)(w:Nw X n id idP){o:Oper}{tP:T PV}{f:FuncId}{args:List V}{E:List PV}(J:Pi.Av o.op=zt)(l:CP o.op=zt)(L:Pi.AP P tP X.h idP o=zo (.call f E)){β:Type}{x:β}{K:V->H->Option β}(C:VRL X args E){T:Hp->PV->Prop}
  (e:∃ v h' q d Y A lP z up t,K v h'=zo x/\Ap X.h E=zo (A,lP)/\PD P tab (.fn f) zn A D1 (.ret z,up,t)/\Pi.Ag idP lP X.h t z=zo (q,d)/\(∀ y∈lP,X.h.get y≠zn)/\E7 X h n id idP h' d Y/\VR Y v q/\T d q) :
  ∃ v q B Y k rd wr,K v B=zo x/\VR Y v q/\(∃ I,E7 X h n id idP B I Y/\T I q)/\(∀ a∈wr,a∈rd)/\(∀ a∈rd,a=idP\/X.h.get a≠zn)/\OH X idP (BL h args) rd/\(∀ a,k.get a=Y.h.get a)/\k.nx=X.h.nx /\ ∃ N,∀ F m,N<=F->N<=m->Pi.Ay P (Pi.B5 P (Ae tab) F m) tP X.h idP o=zo (q,k,rd,wr):=by
 obtain⟨v,B,q,d,Y,A,lP,z,up,t,e1,g,⟨N,hN⟩,M,hmet,U,hv,hT⟩:=e
 have i:Pi.Aw tP X.h o.op=[]:=by
  generalize o.op=op at l;cases op with
  |call c=>
   grind [Pi.Aw,CP]
  |_=>cases l
 let hs:=X.h.cut (idP::lP)
 have p:∀ q∈idP::lP,hs.get q=X.h.get q:=λq hq=>by
  show(X.h.cut (idP::lP)).get q=_
  simp_all[Pi.EH,zy]
 have sub:Pi.Eh hs X.h:=λx b hb=>(Pi.Dw hb).2;obtain⟨G,u⟩:=KN (hs:=hs) (λx Z=>p x (aB _ Z)) (λ_=>by simp_all) M;have j:Ap hs E=zo (A,lP):=E2 (h:=X.h) (λx Z=>p x (aB _ Z)) g
 have O:∀ {hh k:Hp} {rec:Pi.GH},Ap hh E=zo (A,lP)->rec (.fn f) zn A { m:=.lf,nx:=0 }=zo (.ret z,up,t)->Pi.Ag idP lP hh t z=zo (q,k)->Pi.A9 (λ_=>zf) rec idP f E hh=zo (.ret q,k):=λB k h3=>by
  simp_all[Pi.A9,zj,aC]
 have c1:=O (rec:=λ_ _ _ _=>zo (.ret z,up,t)) j rfl u;have c2:=O (rec:=λ_ _ _ _=>zo (.ret z,up,t)) g rfl M;obtain⟨⟨h3,k1,lay⟩,kf,_⟩:=Pi.IM sub (λ_=>w.hp) c1;rw[c2]at k1;cases k1;obtain⟨_,kf2,_⟩:=Pi.IM (hs:=X.h) (h:=X.h) (λ_ _ h=>h) (λh=>h) c2;have hy:=U.1;cases W:Pi.flat q with
 |true=>
  have e0:=kf2 W;refine⟨v,q,B,Y,X.h,idP::lP,[],e1,hv,⟨d,U,hT⟩,λ_ h=>(by cases h),λa C=> ?_,FH r C g idP,λa=>(by rw[hy,e0]),rfl,N,λF m S D=> ?_⟩
  ·grind
  ·unfold Pi.Ay;have s:ae idP (idP+1)=zt:=by simp
   simp only[J,s,ao,aL,zj,i];rw[GO (h':=X.h) l,L];simp only[g];have:=O (rec:=Pi.B5 P (Ae tab) F m) j (hN F m S D) u
   grind
 |false=>
  obtain⟨k,e2,n2⟩:=H6 G (idP::lP) X.h
  have g2:∀ a,k.get a=d.get a:=λa=>by
   rw[Pi.DS e2 a,lay.get a];by_cases D:a∈idP::lP
   ·grind
   ·rw[zx D];cases hg:G.get a with
    |none=>rfl
    |some b=>
     rcases lay.keys a b hg with⟨b0,hb⟩|hb
     ·exact absurd (Pi.Dw hb).1 D
     simp_all
  refine⟨v,q,B,Y,k,idP::lP,Pi.BC X.h (idP::lP),e1,hv,⟨d,U,hT⟩,λa C=>Aj C,λa C=> ?_,FH r C g idP,λa=>by rw[hy,g2],n2,N,λF m S D=> ?_⟩
  ·grind
  ·unfold Pi.Ay;have s:ae idP (idP+1)=zt:=by simp
   simp only[J,s,ao,aL,zj,i];rw[GO (h':=X.h) l,L];simp only[g];have:=O (rec:=Pi.B5 P (Ae tab) F m) j (hN F m S D) u
   grind
theorem LN(TO:TabOK P tab){base baseP b bP nt nx:Nat}(hb:b<=base)(hbP:bP<=baseP)(hnt:nt<1048575)(hn:nx<=1048575){all:List Oper}(hall:∀ o∈all,∀ d,o.dst=zo d->d<nt){β:Type}{x:β}{len:Nat} :
  ∀ {ops:List Oper} {i:Nat} {ms:List Pi.Mk} {pa:List (Nat×Nat×Option (List Nat×Bool))} {pp:List (Nat×List Nat×List Nat)} {t:T V} {h:H} {K:T V->H->Option β} {X:Cx} {U:T PV},BQ P tab base nt all i ops ms pa t h K=zo x->RH X h nx->TR X t U->DY X base baseP i ops.length->base+i+ops.length<=nx->baseP+i+ops.length<=X.h.nx->len=i+ops.length->L2 (PastE X baseP i len) pa pp ->
   ∃ t' h' Y L,K t' h'=zo x/\(∃ N,∀ F n,N<=F->N<=n->Pi.AX P (Pi.B5 P (Ae tab) F n) baseP nt all i ops ms pp U X.h=zo (L,Y.h))/\RH Y h' nx/\Ext b bP X h Y h'/\TR Y t' L:=by
 intro ops
 induction ops with
 |nil=>
  intro i ms pa pp t h K X U e r ht _ _ _ _ _;cases ms<;>exact⟨t,h,X,U,e,⟨0,λ_ _ _ _=>rfl⟩,r,Ext.refl _ _ _ _,ht⟩
 |cons o ops ih=>
  intro i ms pa pp t h K X U e r ht hfr hlen hlenP hl E;cases ms with
  |nil=>cases e
  |cons m ms=>
   simp only[bu]at hlen hlenP hfr hl;have C:=hfr i (ab _) (by omega);have w:Nw X nx (base+i) (baseP+i):=⟨C.1,by omega,hn,C.2,by omega⟩;unfold BQ at e;obtain⟨t1,G,hcase⟩:=JY (nt:=nt) ht hnt hall e
   have go:∀ {v:V} {p:PV} {h1:H} {pa1:List (Nat×Nat×Option (List Nat×Bool))} {pp1:List (Nat×List Nat×List Nat)} {Y:Cx},Hy t1 nt o.dst v (λt=>BQ P tab base nt all (i+1) ops ms pa1 t h1 K)=zo x->RH Y h1 nx->TR Y t1 U->VR Y v p->St X h (base+i) (baseP+i) Y h1->L2 (PastE Y baseP (i+1) len) pa1 pp1 ->
     (∀ {rr:T PV×Hp},(∃ N,∀ F n,N<=F->N<=n->(match o.dst with
      |some d=>bif ae d nt then Pi.AX P (Pi.B5 P (Ae tab) F n) baseP nt all (i+1) ops ms pp1 (T.put 20 U d p) Y.h else zn
      |none=>Pi.AX P (Pi.B5 P (Ae tab) F n) baseP nt all (i+1) ops ms pp1 U Y.h)=zo rr) -> ∃ N,∀ F n,N<=F->N<=n->Pi.AX P (Pi.B5 P (Ae tab) F n) baseP nt all i (o::ops) (m::ms) pp U X.h=zo rr) ->
     ∃ t' h' Y L,K t' h'=zo x/\(∃ N,∀ F n,N<=F->N<=n->Pi.AX P (Pi.B5 P (Ae tab) F n) baseP nt all i (o::ops) (m::ms) pp U X.h=zo (L,Y.h))/\RH Y h' nx/\Ext b bP X h Y h'/\TR Y t' L:=by
    intro v p h1 pa1 pp1 Y e r1 htY S s hp1 hP;obtain⟨t2,tP2,e2,ht2,hd,hnd⟩:=Rc htY hnt S e
    have hfr1:DY Y base baseP (i+1) ops.length:=λj h1 J=>by
     obtain⟨a1,a2⟩:=hfr j (by omega) (by omega);exact⟨s.pin _ (by omega) a1,s.hpn _ (by omega) a2⟩
    obtain⟨t',h',Z,L,k1,⟨N,k2⟩,k3,k4,k5⟩:=ih e2 r1 ht2 hfr1 (by omega) (by rw[s.nx];omega) (by omega) hp1;refine⟨t',h',Z,L,k1,hP ⟨N,λF n hF hn=> ?_⟩,k3,(s.ext (by omega) (by omega)).trans k4,k5⟩
    grind
   have pnext:∀ {Y:Cx} {h1:H},St X h (base+i) (baseP+i) Y h1->L2 (PastE Y baseP (i+1) len) pa pp:=λs=>E.mono λ_ _ k=>k.next s
   have entry:∀ {Y:Cx} {h1:H} {c:Nat} {f:Option (List Nat×Bool)} {rd wr:List Nat},St X h (base+i) (baseP+i) Y h1->(∀ w∈wr,w∈rd)->(c<=1->wr=[])->(∀ q∈rd,q=baseP+i\/X.h.get q≠zn)->(c=0->rd=[baseP+i]/\Y.h.get (baseP+i)=zn)->FpP Y (baseP+i) f rd->L2 (PastE Y baseP (i+1) len) ((i,c,f)::pa) ((i,rd,wr)::pp):=fun {Y h1 c f rd wr} s h1 J h3 h4 h5=>by
    refine .cons ⟨rfl,by omega,h1,J,λq hq k k1 k2=> ?_,h4,h5⟩ (pnext s);rcases h3 q hq with hh|hh
    ·omega
    ·intro he;obtain⟨_,a2⟩:=hfr k (by omega) (by omega);rw[he]at hh;exact hh a2
   have B:∀ {Y:Cx} {h1:H} {f:Option (List Nat×Bool)} {rd:List Nat},St X h (base+i) (baseP+i) Y h1->Y.h.get (baseP+i)=zn->OH X (baseP+i) f rd->FpP Y (baseP+i) f rd:=λs hn hf l hl q hq=>by
    rcases hf l hl q hq with rfl|h1
    ·exact .inl ⟨rfl,hn⟩
    ·exact .inr (h1.mono s.up)
   have fpUp:∀ {Y:Cx} {h1:H} {f:Option (List Nat×Bool)} {rd:List Nat},St X h (base+i) (baseP+i) Y h1->OH X (baseP+i) f rd->OH Y (baseP+i) f rd:=λs hf l hl q hq=>(hf l hl q hq).imp id (FpA.mono s.up);rcases hcase with⟨e,hw⟩|⟨e,hw⟩
   ·replace e:=BE e;obtain⟨D,e⟩:=e;have D:Pi.Av o.op=zt:=by simpa using D
    have ev:=Pe r w G e;generalize O:Pi.AP P U X.h (baseP+i) o=op at ev;cases ev with
    |@val v h1 p hP1 Y e ok S=>
     obtain⟨y1,y2,M⟩:=ok;simp only at e;replace e:=AN e;obtain⟨g,e⟩:=e;simp only[ac]at g
     have hc2:AR o.op<=2\/AR o.op=4:=by
      rcases Bool.or_eq_true_iff.1 g.1 with hc|hc
      ·exact .inl (ap hc)
      ·exact .inr (ai hc)
     obtain⟨hpl,hck1,hck2⟩:=g.2
     have hsl:∀ ty x lo hi m,o.op=.slice ty x lo hi (zo m) -> ∀ p,Pi.CO U x=zo p -> ∀ j a b,p ≠ .own j a b:=λty x lo hi m ho p hp j a b hpe=>by
      rw[ho]at hpl;cases x with
      |tmp k=>
       simp only[SU]at hpl;split at hpl
       ·rename_i hk;obtain⟨p',hp',hvr⟩:=G _ _ hk;simp only[Pi.CO,hp',aD,Option.some.injEq]at hp;subst hp;subst hpe;simp only[VR]at hvr;rcases hvr with⟨h,_⟩|⟨_,_,h,_⟩<;>cases h
       ·rename_i hk;obtain⟨p',hp',hvr⟩:=G _ _ hk;simp only[Pi.CO,hp',aD,Option.some.injEq]at hp;subst hp;subst hpe;simp only[VR]at hvr;cases hvr
       ·cases hpl
      |_=>simp[SU]at hpl
     obtain⟨J,wr,d1,d2,d3,d4,d5⟩:=(IR hsl D C.2 O).1 p hP1 rfl hc2;have I:∀ q,J.get q=Y.h.get q:=λq=>by rw[d2,y1]
     have n2:J.nx=Y.h.nx:=by rw[d3,M.nx]
     have s2:=M.with I n2
     have hfo:=(JI D).2.2.1
     have y:∀ q∈(baseP+i)::Pi.Aw U X.h o.op,q=baseP+i\/X.h.get q≠zn:=λq hq=>by
      rcases aj.1 hq with hq|hq
      ·omega
      ·exact .inr (Nc r G (by omega) D hck1 q hq)
     have u:=Rs r G (o:=o.op) (baseP+i);have z:=D9 r u (rd:=(baseP+i)::Pi.Aw U X.h o.op) (wr:=wr) (len:=len) (by omega) d5 (λhc=>(d4 hc).1) (λhc=>by rw[hfo hc]) y E hck2
     have hq0:AR o.op<=1->(Y.with J).h.get (baseP+i)=zn:=λhc=>by
      show J.get _=zn;rw[d2,(d4 hc).2];exact C.2
     refine go (p:=p) e (y2.with I n2) (G.mono s2.up) (S.mono (Ea I)) s2 (entry s2 d5 (λhc=>(d4 hc).1) y (λhc=>⟨by rw[hfo (.inl hc)],hq0 (by omega)⟩) ?_) ?_
     ·cases hcl:ad (AR o.op) 1 with
      |true=>exact B s2 (hq0 (ap hcl)) u
      |false=>
       have hcl':¬ AR o.op<=1:=λhh=>by rw[show ad (AR o.op) 1=zt from by simpa using hh]at hcl;cases hcl
       refine Ib (S.mono (Ea I)) ?_ (fpUp s2 u);rcases RT C.2 D (by omega) O with hn|hn
       ·exact .inl (by show J.get _=zn;rw[d2];exact hn)
       ·exact .inr hn
     ·rintro rr ⟨N,W⟩;refine⟨N,λF n hF hn=> ?_⟩;unfold Pi.AX;simp only[hw,zb,d1,z];exact W F n hF hn
    |@skip h1 hP1 Y e ok=>
     obtain⟨y1,y2,M⟩:=ok;simp only at e;replace e:=AN e;obtain⟨g,e⟩:=e;simp only[ac]at g;have hc3:AR o.op=3:=ai g.1;obtain⟨J,wr,d1,d2,d3,d5⟩:=(IR (λty x lo hi m ho=>by rw[ho]at hc3;simp[AR]at hc3) D C.2 O).2 hP1 rfl hc3;have I:∀ q,J.get q=Y.h.get q:=λq=>by rw[d2,y1]
     have n2:J.nx=Y.h.nx:=by rw[d3,M.nx]
     have s2:=M.with I n2
     have y:∀ q∈(baseP+i)::Pi.Aw U X.h o.op,q=baseP+i\/X.h.get q≠zn:=λq hq=>by
      rcases aj.1 hq with hq|hq
      ·omega
      ·exact .inr (Nc r G (by omega) D g.2.1 q hq)
     have u:=Rs r G (o:=o.op) (baseP+i);have z:=D9 r u (c:=3) (rd:=(baseP+i)::Pi.Aw U X.h o.op) (wr:=wr) (len:=len) (by omega) d5 (λhc=>by omega) (λhc=>by omega) y E g.2.2;refine go (p:=.tup []) e (y2.with I n2) (G.mono s2.up) (by simp only[VR];exact⟨[],rfl,.nil⟩) s2 (entry (c:=3) s2 d5 (λhc=>by omega) y (λhc=>by omega) (B s2 (by show J.get _=zn;rw[d2];exact OS hc3 C.2 O) u)) ?_
     rintro rr ⟨N,W⟩;refine⟨N,λF n hF hn=> ?_⟩;unfold Pi.AX;simp only[hw,zb,d1,z];exact W F n hF hn
    |@call f as ps e ha=>
     simp only at e
     have any:∀ {v:V} {q:PV} {h1:H} {Y:Cx} {J:Hp} {rd wr:List Nat} {f':Option (List Nat×Bool)},Hy t1 nt o.dst v (λt=>BQ P tab base nt all (i+1) ops ms ((i,4,f')::pa) t h1 K)=zo x->VR Y v q->RH Y h1 nx->St X h (base+i) (baseP+i) Y h1->(∀ a∈wr,a∈rd)->(∀ a∈rd,a=baseP+i\/X.h.get a≠zn)->OH X (baseP+i) (BL h as) rd->FpP (Y.with J) (baseP+i) f' rd->(∀ a,J.get a=Y.h.get a)->J.nx=X.h.nx->DQ h m.bef 4 (BL h as) pa=zt ->
       (∃ N,∀ F m,N<=F->N<=m->Pi.Ay P (Pi.B5 P (Ae tab) F m) U X.h (baseP+i) o=zo (q,J,rd,wr)) ->
       ∃ t' h' Y L,K t' h'=zo x/\(∃ N,∀ F n,N<=F->N<=n->Pi.AX P (Pi.B5 P (Ae tab) F n) baseP nt all i (o::ops) (m::ms) pp U X.h=zo (L,Y.h))/\RH Y h' nx/\Ext b bP X h Y h'/\TR Y t' L:=by
      intro v q h1 Y J rd wr f' e1 S y2 M d5 y u hfq I n2 g ⟨N0,hN0⟩;have n2':J.nx=Y.h.nx:=by rw[n2,M.nx]
      have s2:=M.with I n2'
      have z:=D9 r u (c:=4) (rd:=rd) (wr:=wr) (len:=len) (by omega) d5 (λhc=>by omega) (λhc=>by omega) y E g;refine go (p:=q) e1 (y2.with I n2') (G.mono s2.up) (S.mono (Ea I)) s2 (entry (c:=4) s2 d5 (λhc=>by omega) y (λhc=>by omega) hfq) ?_
      rintro rr ⟨N,W⟩;refine⟨max N0 N,λF n hF hn=> ?_⟩;unfold Pi.AX;simp only[hw,zb,hN0 F n (by omega) (by omega),z];exact W F n (by omega) (by omega)
     split at e
     ·rename_i sg hsg;replace e:=BE e;obtain⟨A,e⟩:=e;simp only[af,aq]at A;obtain⟨A,g⟩:=A;obtain⟨v,q,h1,Y,J,rd,wr,e1,S,⟨hP1,⟨y1,y2,M⟩,hT⟩,d5,y,u,I,n2,W⟩:=Ep r w D A O ha (Hd r w (λdom g' c fn hh=>TO.getR (by rw[hsg,hh])) ha e);have s2:=M.with I (by rw[n2,M.nx])
      exact any e1 S y2 M d5 y u (Ib (S.mono (Ea I)) (hT.imp (λhn=>by show J.get _=zn;rw[I,y1];exact hn) id) (fpUp s2 u)) I n2 g W
     ·split at e
      ·rename_i sg hsg;replace e:=BE e;obtain⟨A,e⟩:=e;have A:CP o.op=zt:=by simpa using A
       replace e:=BE e;obtain⟨g,e⟩:=e;have g:DQ h m.bef 4 (BL h as) pa=zt:=by simpa using g
       obtain⟨v,q,h1,Y,J,rd,wr,e1,S,⟨hP1,⟨y1,y2,M⟩,hT⟩,d5,y,u,I,n2,W⟩:=Ep r w D A O ha (T:=λhP _=>hP.get (baseP+i)=zn) (LH r w (TO.getL hsg) ha e);have s2:=M.with I (by rw[n2,M.nx])
       exact any e1 S y2 M d5 y u (B s2 (by show J.get _=zn;rw[I,y1];exact hT) u) I n2 g W
      ·split at e
       ·rename_i sg hsg;replace e:=BE e;obtain⟨A,e⟩:=e;have A:CP o.op=zt:=by simpa using A
        replace e:=BP e;rcases e with⟨hcs,e⟩|⟨hcs,e⟩
        ·replace e:=BE e;obtain⟨g,e⟩:=e;have g:DQ h m.bef 4 (BL h as) pa=zt:=by simpa using g
         obtain⟨v,q,h1,Y,J,rd,wr,e1,S,⟨hP1,⟨y1,y2,M⟩,hT⟩,d5,y,u,I,n2,W⟩:=Ep r w D A O ha (He r w (TO.getD hsg) ha e);have s2:=M.with I (by rw[n2,M.nx])
         refine any e1 S y2 M d5 y u ?_ I n2 g W;cases ho:Ls sg.cod with
         |true=>exact Ib (S.mono (Ea I)) (hT.2.imp (λhn=>by show J.get _=zn;rw[I,y1];exact hn) id) (fpUp s2 u)
         |false=>exact B s2 (by show J.get _=zn;rw[I,y1];exact hT.1 ho) u
        ·replace e:=BE e;obtain⟨g,e⟩:=e;have g:DQ h m.bef 1 (BL h as) pa=zt:=by simpa using g
         obtain⟨v,q,rd,e1,S,y,u,N0,hN0⟩:=J3 r (TO.getD hsg) hcs D A O ha e;have z:=D9 r u (c:=1) (rd:=rd) (wr:=[]) (len:=len) (by omega) (λ_ hw=>by cases hw) (λ_=>rfl) (λhc=>by omega) y E g;have s2:=St.refl X h (base+i) (baseP+i);refine go (p:=q) e1 r G S s2 (entry (c:=1) (wr:=[]) s2 (λ_ hw=>by cases hw) (λ_=>rfl) y (λhc=>by omega) (B s2 C.2 u)) ?_;rintro rr ⟨N,W⟩;refine⟨max N0 N,λF n hF hn=> ?_⟩;unfold Pi.AX;simp only[hw,zb,hN0 F n (by omega) (by omega),z];exact W F n (by omega) (by omega)
       ·split at e
        ·rename_i sg hsg;replace e:=BE e;obtain⟨A,e⟩:=e;simp only[af,aq]at A;obtain⟨A,hcs⟩:=A;replace e:=AD e;obtain⟨⟨args2,js⟩,hde,e⟩:=e;replace e:=BE e;obtain⟨g,e⟩:=e;have g:DQ h m.bef 1 (TF js (BL h args2)) pa=zt:=by simpa using g
         obtain⟨v,q,rd,e1,S,y,u,N0,hN0⟩:=LO r (TO.getP hsg) hcs D A O hde ha e;have z:=D9 r u (c:=1) (rd:=rd) (wr:=[]) (len:=len) (by omega) (λ_ hw=>by cases hw) (λ_=>rfl) (λhc=>by omega) y E g;have s2:=St.refl X h (base+i) (baseP+i);refine go (p:=q) e1 r G S s2 (entry (c:=1) (wr:=[]) s2 (λ_ hw=>by cases hw) (λ_=>rfl) y (λhc=>by omega) (B s2 C.2 u)) ?_;rintro rr ⟨N,W⟩;refine⟨max N0 N,λF n hF hn=> ?_⟩;unfold Pi.AX;simp only[hw,zb,hN0 F n (by omega) (by omega),z];exact W F n (by omega) (by omega)
        ·cases e
    |yield e=>cases e
    |pan e=>cases e
    |rcv e=>cases e
    |dfr e=>cases e
   ·have s2:=St.refl X h (base+i) (baseP+i);refine go (p:=.tup []) e r G (by simp only[VR];exact⟨[],rfl,.nil⟩) s2 (pnext s2) ?_;rintro rr ⟨N,W⟩;refine⟨N,λF n hF hn=> ?_⟩;unfold Pi.AX;simp only[hw,zj];exact W F n hF hn
theorem Ci(o:TabOK P tab):DrawnAOK P tab:=by
 constructor;intro β x nx ops fr h K e X fp r i F d;unfold MZ at e;replace e:=AD e;obtain⟨D,p,e⟩:=e
 have fresh:DY (X.bump ops.length) nx X.h.nx 0 ops.length:=λj _ _=>⟨by
  cases m:X.π (nx+j)with
  |none=>exact m
  |some a=>have:=r.dom _ _ m;omega,by rw[LG];exact r.fresh _ (by omega)⟩
 have f:=λ(b bP:Nat) (g:b<=nx) (c:bP<=X.h.nx)=>LN o (nx:=nx+ops.length) g c F.big i d (len:=ops.length) e (r.bump _) (F.t.mono (GN X _)) fresh (by omega) (by show X.h.nx+0+_<=X.h.nx+ops.length;omega) (by omega) (pa:=[]) (pp:=[]) .nil;obtain⟨z,h',Y,l,s,⟨N,C⟩,u,w,y⟩:=f nx X.h.nx (ab _) (ab _);have ext:=(GM X h ops.length nx X.h.nx).trans w;have up:=ext.full r (ab _);have q:fp.nt=fr.nt:=F.nt;refine⟨{ fr with t:=z },h',Y,{ fp with t:=l },Y.h,s,⟨N,λA n B i=> ?_⟩,λb bP g c=>⟨rfl,u,i,Nat.le_add_right _ _,ext.le g c⟩,⟨y,F.nt,F.big,F.ds.mono λ_ _ k=>k.mono up,F.up.mono up,F.ro.mono up⟩⟩
 simp_all[Pi.drawn]
end
end
section
variable[Pi.Gl]
open Pi (PV T Hp Blk DF UM PE AM AS AB AW Ap)
theorem K2(a:FuncId->Bool)(L:List (FuncId×Sg)):Ae (Af a L)=λf=> !a f:=by
 grind [Ae,Af]
theorem PD.mk{P:Program}{a:FuncId->Bool}{L c:List (FuncId×Sg)}{b:Pi.Tg}{up:Option UM}{args:List PV}{h:Hp}{r:Pi.Out×Option UM×Hp}(e:PD P (Af a L) b up args h r):PD P (Af a c) b up args h r:=by
 simp_all[PD,K2]
theorem UB(P:Program)(a:FuncId->Bool):TabOK P (Af a []):=by
 have:∀ f sg,Af a [] f≠zo (zo sg):=λf sg e=>by
  unfold Af at e;replace e:=BP e;rcases e with⟨_,e⟩|⟨_,e⟩<;>cases e
 exact⟨λf sg _ e=>absurd e (this _ _),λf dom g c b _ e=>absurd e (this _ _),λf sg _ e=>absurd e (this _ _),λf sg _ e=>absurd e (this _ _)⟩
theorem FnOK.mk{P:Program}{a:FuncId->Bool}{L b:List (FuncId×Sg)}{f:FuncId}{sg:Sg}(h:FnOK P (Af a L) f sg):FnOK P (Af a b) f sg:=λx y g c e=>by
 obtain⟨r,up,d,i,j⟩:=h x y g c e;exact⟨r,up,d,i.mk,j⟩
theorem RowOK.mk{P:Program}{b:FuncId->Bool}{L d:List (FuncId×Sg)}{f:FuncId}{dom:List (Bool×Ty)}{g:Bool}{c:Ty}{a:AO dom->Option (List c.den)}(h:RowOK P (Af b L) f dom g c a):RowOK P (Af b d) f dom g c a:=λx y k e j=>by
 obtain⟨r,up,i,l,m⟩:=h x y k e j;exact⟨r,up,i,l.mk,m⟩
theorem FnP.mk{P:Program}{a:FuncId->Bool}{L b:List (FuncId×Sg)}{f:FuncId}{sg:Sg}(h:FnP P (Af a L) f sg):FnP P (Af a b) f sg:=λx y g c e=>by
 obtain⟨r,up,d,i,j⟩:=h x y g c e;exact⟨r,up,d,i.mk,j⟩
theorem FnL.mk{P:Program}{a:FuncId->Bool}{L b:List (FuncId×Sg)}{f:FuncId}{sg:Sg}(h:FnL P (Af a L) f sg):FnL P (Af a b) f sg:=λx y g c e=>by
 obtain⟨r,up,d,i,j⟩:=h x y g c e;exact⟨r,up,d,i.mk,j⟩
theorem Kh{a b c d:Nat}(e:ae a c=zt)(f:c<=d)(h:a=b+d):False:=bl.2 (aw f (aM d b)) (h ▸ Dj e)
theorem Ak{b:FuncId->Bool}{L:List (FuncId×Sg)}{k f:FuncId}{sg a:Sg}(e:Af b ((k,sg)::L) f=zo (zo a)):(f=k/\a=sg)\/Af b L f=zo (zo a):=by
 unfold Af at e ⊢;replace e:=BP e;rcases e with⟨d,e⟩|⟨_,e⟩
 ·simp only[Option.some.injEq]at e;unfold NL at e;replace e:=BP e;rcases e with⟨c,e⟩|⟨_,e⟩<;>simp_all
 ·cases e
theorem H9{P:Program}{j:FuncId->Bool}{L:List (FuncId×Sg)}(d:TabOK P (Af j L)){k:FuncId}{sg:Sg}(i:ae k Cy=zt)(h:FnOK P (Af j L) (R2 k) sg):TabOK P (Af j ((k,sg)::L)) where
 std:=λf a b e=>by
  rcases Ak e with⟨rfl,rfl⟩|e
  ·exact h.mk
  ·exact(d.std f a b e).mk
 row:=λf dom g c l m e=>by
  rcases Ak e with⟨rfl,_⟩|e
  ·exfalso;exact bl.2 (aM Cy f) (Dj i)
  ·exact(d.row f dom g c l m e).mk
 dat:=λf a b e=>by
  rcases Ak e with⟨rfl,_⟩|e
  ·exfalso;exact bl.2 (aw (by decide:Cy<=M4) (aM M4 f)) (Dj i)
  ·exact(d.dat f a b e).mk
 ptr:=λf a b e=>by
  rcases Ak e with⟨rfl,_⟩|e
  ·exfalso;exact bl.2 (aw (by decide:Cy<=Is) (aM Is f)) (Dj i)
  ·exact(d.ptr f a b e).mk
theorem Rn{P:Program}{m:FuncId->Bool}{L:List (FuncId×Sg)}(l:TabOK P (Af m L)){f:FuncId}(d:ae f Cw=zt){dom:List (Bool×Ty)}{g:Bool}{c:Ty}{o:AO dom->Option (List c.den)}(h:RowOK P (Af m L) f dom g c o):TabOK P (Af m ((f+Cy,⟨dom,[(zf,.sl g c)],o⟩)::L)) where
 std:=λa b i e=>by
  rcases Ak e with⟨rfl,_⟩|e
  ·exfalso;exact bl.2 (aM Cy f) (Dj i)
  ·exact(l.std a b i e).mk
 row:=λa n s r p q e=>by
  rcases Ak e with⟨j,k⟩|e
  ·have:a=f:=bI j;subst this;cases k;exact h.mk
  ·exact(l.row _ _ _ _ _ q e).mk
 dat:=λa b i e=>by
  rcases Ak e with⟨j,_⟩|e
  ·exfalso
   have k:f=a+Cy:=by
    have:a+(Cy+Cy)=f+Cy:=j
    grind
   exact Kh d (by decide) k
  ·exact(l.dat a b i e).mk
 ptr:=λa b i e=>by
  rcases Ak e with⟨j,_⟩|e
  ·exfalso
   have k:a+1048576=f:=by
    have:a+(1048576+Cy)=f+Cy:=j;omega
   rw[<- k]at d;exact bl.2 (aM _ a) (Dj d)
  ·exact(l.ptr a b i e).mk
theorem UC{P:Program}{l:FuncId->Bool}{L:List (FuncId×Sg)}(d:TabOK P (Af l L)){ann:H0}{F n:Nat}{f:FuncId}{dom a:List (Bool×Ty)}{o:AO dom->Option (AO a)}(h:∀ x,Qc P (Af l L) ann F n f dom a x=o x)(hc:B4 a=zf:=by rfl)(k:ae f Cw=zt:=by rfl):TabOK P (Af l ((f+Is,⟨dom,a,o⟩)::L)) where
 std:=λc b g e=>by
  rcases Ak e with⟨rfl,_⟩|e
  ·exfalso;exact bl.2 (aw (by decide:Cy<=Is) (aM Is f)) (Dj g)
  ·exact(d.std c b g e).mk
 row:=λc m w u p r e=>by
  rcases Ak e with⟨_,j⟩|e
  ·cases j;cases hc
  ·exact(d.row _ _ _ _ _ r e).mk
 dat:=λc b g e=>by
  rcases Ak e with⟨i,_⟩|e
  ·exfalso
   have j:f=c+Cw:=by
    have:c+(Cw+Is)=f+Is:=i
    grind
   exact Kh k (by decide) j
  ·exact(d.dat c b g e).mk
 ptr:=λc b g e=>by
  rcases Ak e with⟨i,rfl⟩|e
  ·have:c=f:=bI i;subst this;exact FnP.mk λx y s t q=>Qd d (Ci d) ((h x).trans s) q
  ·exact(d.ptr _ _ g e).mk
theorem UA{P:Program}{l:FuncId->Bool}{L:List (FuncId×Sg)}(i:TabOK P (Af l L)){ann:H0}{F n:Nat}{f:FuncId}{dom:List (Bool×Ty)}{g:Bool}{c:Ty}{o:AO dom->Option (List c.den)}(h:∀ x,Qa P (Af l L) ann F n f dom g c x=o x)(s:ae f Cw=zt:=by rfl):TabOK P (Af l ((f+M4,⟨dom,[(zf,.sl g c)],o⟩)::L)) where
 std:=λa b d e=>by
  rcases Ak e with⟨rfl,_⟩|e
  ·exfalso;exact bl.2 (aw (by decide:Cy<=M4) (aM M4 f)) (Dj d)
  ·exact(i.std a b d e).mk
 row:=λa m z w q p e=>by
  rcases Ak e with⟨j,_⟩|e
  ·exfalso
   have k:a=f+Cy:=by
    have:a+Cy=f+(Cy+Cy):=j;omega
   exact Kh p (by decide) k
  ·exact(i.row _ _ _ _ _ p e).mk
 ptr:=λa b d e=>by
  rcases Ak e with⟨j,_⟩|e
  ·exfalso
   have k:a=f+Cw:=by
    have:a+Is=f+(Cw+Is):=j;omega
   exact Kh d (by decide) k
  ·exact(i.ptr a b d e).mk
 dat:=λa b d e=>by
  rcases Ak e with⟨j,rfl⟩|e
  ·have:a=f:=bI j;subst this;exact FnL.mk λx y t u r=>Qb i (Ci i) ((h x).trans t) r
  ·exact(i.dat _ _ d e).mk
theorem Tb{P:Program}{c:FuncId->Bool}{L:List (FuncId×Sg)}(b:TabOK P (Af c L)){ann:H0}{F n:Nat}{g k:FuncId}{dom a:List (Bool×Ty)}{d:AO dom->Option (AO a)}(h:∀ x,ND P (Af c L) ann F n g dom a x=d x)(i:ae k Cy=zt:=by rfl)(f:R2 k=g:=by rfl) :
  TabOK P (Af c ((k,⟨dom,a,d⟩)::L)):=H9 b i (by rw[f];exact λx y j l e=>H8 b (Ci b) ((h x).trans j) e)
def Ni{α β:Type}(a:(α->Option β)->α->Option β):Nat->α->Option β
 |0=>λ_=>zn
 |n+1=>a (Ni a n)
theorem UD{P:Program}{c:FuncId->Bool}{L:List (FuncId×Sg)}(f:TabOK P (Af c L)){ann:H0}{F n:Nat}{g:FuncId}{dom a:List (Bool×Ty)}{b:(AO dom->Option (AO a))->AO dom->Option (AO a)}
  (h:∀ r x,ND P (Af c ((g,⟨dom,a,r⟩)::L)) ann F n g dom a x=b r x) (i:ae g Cy=zt:=by rfl) (l:R2 g=g:=by rfl):∀ d,TabOK P (Af c ((g,⟨dom,a,Ni b d⟩)::L)):=by
 intro d
 induction d with
 |zero=>exact H9 f i λx y e=>by cases e
 |succ d j=>
  refine H9 f i ?_;rw[l];have:FnOK P (Af c ((g,⟨dom,a,Ni b d⟩)::L)) g ⟨dom,a,Ni b (d+1)⟩:=λx y e m k=>H8 j (Ci j) ((h _ x).trans e) k;exact this.mk
end
section
variable[Pi.Gl]
open Pi (PV T Hp Blk DF UM PE Rep RepL mu0 Al Sim)
open Go.RowKit
theorem Sc{M:Al}{w:World}(e:Pi.GlOK M)(f:∀ a v,M a=zo v->a.spot=zn/\w.cell? a=zo v):Sim M mu0 D1 w:=by
 refine⟨e,λa v h=>f a v h,λid b c=> ?_,λid r d=> ?_,λid g r i b b' d=> ?_,λid r b a v c=> ?_⟩
 ·rw[show D1={ m:=.lf,nx:=0 }from rfl,Pi.Hp.get_lf]at c;cases c
 ·simp[mu0]at d
 ·simp[mu0]at d
 ·rw[show D1={ m:=.lf,nx:=0 }from rfl,Pi.Hp.get_lf]at c;cases c
theorem Su(h:∀ g,Pi.Gl.g g=zn)(M:Al):Pi.GlOK M:=λg cs e=>by rw[h]at e;cases e
theorem Pk{P:Program}(l:Pi.Cz P){b:Dr}(i:TabOK P b){ann:H0}{F n:Nat}{f:FuncId}{dom:List (Bool×Ty)}{x:AO dom}{c:Ty}{y:c.den}(e:ND P b ann F n f dom [(zf,c)] x=zo y)
  {j:List PV} (q:DU dom x j) {M:Al} (o:Pi.GlOK M) {w:World} (p:∀ a v,M a=zo v->a.spot=zn/\w.cell? a=zo v) {vs:List Value} (t:RepL M mu0 j vs) :
  Calls P f vs.toArray w λe w'=>(∃ v r d μ' g,e=.returned v/\Rep d μ' r v/\HW g [(zf,c)] y r)/\Pi.WStays w w':=by
 intro cs;obtain⟨r,up,g,⟨N,z⟩,k⟩:=H8 i (Ci i) e q;have R:=Pi.PT (sh:=Ae b) l (λrec R=>Pi.GU (P:=P) (rec:=rec) R) N N;obtain⟨d,μ',w',fr,s1,m,A,h,v,u,s⟩:=R.nrm (z N N (ab _) (ab _)) (Sc o p) t cs;exact⟨_,w',fr,⟨⟨v,r,d,μ',g,rfl,u,k⟩,m.stays⟩,A,h,s⟩
theorem Sz{P:Program}(g:Pi.Cz P){b:Dr}(i:TabOK P b){ann:H0}{F n:Nat}{f:FuncId}{dom:List (Bool×Ty)}{x:AO dom}(e:ND P b ann F n f dom [(zf,.bool)] x=zo zt)
  {d:List PV} (m:DU dom x d) {M:Al} (j:Pi.GlOK M) {w:World} (l:∀ a v,M a=zo v->a.spot=zn/\w.cell? a=zo v) {vs:List Value} (c:RepL M mu0 d vs) :
  Calls P f vs.toArray w λe w'=>e=.returned (.bool zt)/\Pi.WStays w w':=by
 refine(Pk g i e m j l c).mono λe w' ⟨⟨v,r,p,μ',q,o,c,k⟩,h⟩=>⟨?_,h⟩
 have:r=.bool zt:=by
  have:[r]=[PV.bool zt]:=k;simpa using this
 subst this;cases c;exact o
end
section
variable[Pi.Gl]
open Pi (PV T Hp Blk DF UM PE)
theorem Rz{P:Program}{a:Dr}{b:Pi.Tg}{up:Option UM}{args:List PV}{h:Hp}{r:Pi.Out×Option UM×Hp}{F n:Nat}(e:Pi.B5 P (Ae a) F n b up args h=zo r):PD P a b up args h r:=
 ⟨max F n,λc g d f=>Pi.PS (by omega) (by omega) _ _ _ _ _ e⟩
def Tk(P:Program)(sh:FuncId->Bool)(F n:Nat)(g:FuncId):Bool:=match Pi.B5 P sh F n (.fn g) zn [] D1 with
 |some (.ret v,_,_)=>(match v with
  |.bool b=>b
  |_=>zf)
 |_=>zf
def HA(P:Program)(sh:FuncId->Bool)(F n:Nat)(g:FuncId)(p:PV):Bool:=match Pi.B5 P sh F n (.fn g) zn [p] D1 with
 |some (.ret v,_,_)=>(match v with
  |.nils=>zt
  |.lst _ es=>es.isEmpty
  |_=>zf)
 |_=>zf
theorem OV{P:Program}{sh:FuncId->Bool}{F n:Nat}{g:FuncId}{p:PV}(e:HA P sh F n g p=zt):∃ v up h,Pi.B5 P sh F n (.fn g) zn [p] D1=zo (.ret v,up,h)/\(v=.nils \/ ∃ f,v=.lst f []):=by
 grind [HA]
def Mb(P:Program)(sh:FuncId->Bool)(F n:Nat)(g:FuncId):Bool:=HA P sh F n g .nils&&(HA P sh F n g (.lst zf [])&&HA P sh F n g (.lst zt []))
theorem QB{P:Program}{b:FuncId->Bool}{L:List (FuncId×Sg)}{F0 n0:Nat}{g:FuncId}{gg:Bool}{c:Ty}(i:Mb P (λf=> !b f) F0 n0 g=zt){d:List PV}(m:DU [(zf,.sl gg c)] ([]:List c.den) d):∃ v up h,PD P (Af b L) (.fn g) zn d D1 (.ret v,up,h)/\(v=.nils \/ ∃ f,v=.lst f []):=by
 obtain⟨p,rfl,a⟩:=m;have a:∃ q,[p]=[q]/\((q=.nils/\([]:List c.den)=[]) \/ ∃ f es,q=.lst f es/\L2 (EP gg (DP c)) [] es):=a;obtain⟨q,r,a⟩:=a;cases r;unfold Mb at i;simp only[ac]at i
 have j:HA P (λf=> !b f) F0 n0 g p=zt -> ∃ v up h,PD P (Af b L) (.fn g) zn [p] D1 (.ret v,up,h)/\(v=.nils \/ ∃ f,v=.lst f []):=λe=>by
  obtain⟨v,up,l,n,s⟩:=OV e;exact⟨v,up,l,Rz (by rw[K2];exact n),s⟩
 rcases a with⟨rfl,_⟩|⟨k,es,rfl,o⟩
 ·grind
 ·have:=o.nil_inv;subst this;cases k<;>simp_all
theorem Tc{P:Program}{i:FuncId->Bool}{L:List (FuncId×Sg)}(m:TabOK P (Af i L)){ann:H0}{F n F0 n0:Nat}{g:FuncId}{gg:Bool}{c:Ty}{j:List c.den->Option (List c.den)}
  (p:Mb P (λf=> !i f) F0 n0 g=zt) (o:j []=zo []) (h:∀ a l,ND P (Af i L) ann F n g [(zf,.sl gg c)] [(zf,.sl gg c)] (a::l)=j (a::l)) (s:ae g Cy=zt:=by rfl) (q:R2 g=g:=by rfl) :
  TabOK P (Af i ((g,⟨[(zf,.sl gg c)],[(zf,.sl gg c)],j⟩)::L)):=H9 m s (by
 rw[q]
 have key:∀ (x y:List c.den) (b:List PV),j x=zo y->DU [(zf,.sl gg c)] x b -> ∃ r up d,PD P (Af i L) (.fn g) zn b D1 (.ret r,up,d)/\HW d [(zf,.sl gg c)] y r:=by
  intro x y b e k;cases x with
  |cons a l=>exact H8 m (Ci m) ((h a l).trans e) k
  |nil=>
   rw[o]at e;cases e;obtain⟨v,up,d,u,t⟩:=QB p k;refine⟨v,up,d,u,?_⟩;show DX d (λ_=>True) (λ_=>True) (.sl gg c) [] [v];refine⟨v,rfl,?_⟩;rcases t with rfl|⟨f,rfl⟩
   ·simp_all
   ·exact .inr (.inl ⟨f,[],rfl,.nil⟩)
 exact λx y e b k=>key x y b e k)
def G9(P:Program)(sh:FuncId->Bool)(F n:Nat)(g:FuncId)(p:PV):Bool:=match Pi.B5 P sh F n (.fn g) zn [p] D1 with
 |some (.ret v,_,_)=>(match v with
  |.nils=>zt
  |.lst zt es=>es.isEmpty
  |_=>zf)
 |_=>zf
theorem OU{P:Program}{sh:FuncId->Bool}{F n:Nat}{g:FuncId}{p:PV}(e:G9 P sh F n g p=zt):∃ v up h,Pi.B5 P sh F n (.fn g) zn [p] D1=zo (.ret v,up,h)/\(v=.nils\/v=.lst zt []):=by
 grind [G9]
def Pa(P:Program)(sh:FuncId->Bool)(F n:Nat)(g:FuncId):Bool:=G9 P sh F n g .nils&&(G9 P sh F n g (.lst zf [])&&G9 P sh F n g (.lst zt []))
theorem Td{P:Program}{d:FuncId->Bool}{L:List (FuncId×Sg)}(s:TabOK P (Af d L)){ann:H0}{F n F0 n0:Nat}{g:FuncId}{gg:Bool}{c:Ty}{k:List c.den->Option (List c.den)}
  (z:Pa P (λf=> !d f) F0 n0 g=zt) (u:k []=zo []) (w:∀ a l y,k (a::l)=zo y->y≠[]) (h:∀ a l,Qe P (Af d L) ann F n g [(zf,.sl gg c)] gg c (a::l)=k (a::l)) (t:ae g Cw=zt:=by rfl) :
  TabOK P (Af d ((g+Cy,⟨[(zf,.sl gg c)],[(zf,.sl gg c)],k⟩)::L)):=Rn s t (by
 have key:∀ (x y:List c.den) (j:List PV),k x=zo y->DU [(zf,.sl gg c)] x j -> ∃ r up b,PD P (Af d L) (.fn g) zn j D1 (.ret r,up,b)/\PH b gg c y r:=by
  intro x y j i o;cases x with
  |cons a l=>exact Qf s (Ci s) ((h a l).trans i) (w _ _ _ i) o
  |nil=>
   rw[u]at i;cases i;obtain⟨p,rfl,m⟩:=o;have m:∃ q,[p]=[q]/\((q=.nils/\([]:List c.den)=[]) \/ ∃ f es,q=.lst f es/\L2 (EP gg (DP c)) [] es):=m;obtain⟨q,E,m⟩:=m;cases E;unfold Pa at z;simp only[ac]at z
   have A:G9 P (λf=> !d f) F0 n0 g p=zt -> ∃ r up b,PD P (Af d L) (.fn g) zn [p] D1 (.ret r,up,b)/\PH b gg c [] r:=λe=>by
    obtain⟨v,up,b,C,G⟩:=OU e;exact⟨v,up,b,Rz (by rw[K2];exact C),.inl ⟨rfl,G⟩⟩
   rcases m with⟨rfl,_⟩|⟨B,es,rfl,D⟩
   ·grind
   ·have:=D.nil_inv;subst this;cases B<;>simp_all
 exact λx y i j o=>key x y j i o)
theorem TB{α:Type}{a:α}{l y:List α}(h:gd (B2 (AQ (a::l)) 1048576) (λ_=>zo (a::l))=zo y):y≠[]:=by
 grind [gd]
end
section
variable[Pi.Gl]
open Pi (PV Rep RepL mu0 Al)
open Go.RowKit Go.ChangeShapes Go.WideShapes
def D6(w:World):Al:=λa=>if a.spot=zn then w.cell? a else zn
theorem TQ(w:World):∀ a v,D6 w a=zo v->a.spot=zn/\w.cell? a=zo v:=λa v h=>by
 simp_all[D6]
def Rx:(c:Ty)->c.den->Prop
 |.int k,n=>(Lit.int k n).wf=zt
 |.bool,_=>True
 |.str,s=>s.length<=maxLen
 |.unit,_=>True
 |.pair a b,x=>Rx a x.1/\Rx b x.2
 |.sl _ c,l=>l.length<=maxLen /\ ∀ x∈l,Rx c x
def Ry:(l:List (Bool×Ty))->AO l->Prop
 |[],_=>True
 |[p],x=>Rx p.2 x
 |p::q::r,x=>Rx p.2 x.1/\Ry (q::r) x.2
def Rh:Nat->Ty->Ty
 |0,_=>.unit
 |n+1,c=>match n with
  |0=>c
  |_=>.pair c (Rh n c)
def Lt(P:Program):Nat->TypeId->Option (Bool×Ty)
 |0,_=>zn
 |d+1,t=>match P.underlying t with
  |some (.int k)=>zo (zf,.int k)
  |some .bool=>zo (zf,.bool)
  |some .string=>zo (zf,.str)
  |some (.slice e)=>match Lt P d e with
   |some (g,c)=>bif ae 0 c.wd then zo (zf,.sl g c)else zn
   |none=>zn
  |some (.struct fs)=>(Qo (Lt P d) fs.toList).map λc=>(zt,c)
  |some (.array n e)=>(Lt P d e).map λp=>(zt,Rh n p.2)
  |_=>zn
theorem Nv{P:Program}:∀ {d:Nat} {t:TypeId} {c:Ty},Lt P d t=zo (zf,c)->(∃ k,c=.int k)\/c=.bool\/c=.str \/ ∃ g e,c=.sl g e
 |0,t,c,h=>by cases h
 |d+1,t,c,h=>by
  unfold Lt at h;split at h
  ·grind
  ·simp_all
  ·simp_all
  ·grind
  all_goals simp_all
structure Cells (w:World) (c:Ty) (x:c.den) (ps:List PV) (cs:List Value):Prop where
 dp:DP c x ps
 ok:Rx c x
 len:ps.length=cs.length
 wd:cs.length=c.wd
 rep:∀ (i:Nat) p v,ps[i]?=zo p->cs[i]?=zo v->Rep (D6 w) mu0 p v
 one:∀ v∈cs,v.oneCell'=zt
theorem Cells.pair{w:World}{f g:Ty}{l:f.den}{m:g.den}{e h:List PV}{j k:List Value}(a:Cells w f l e j)(b:Cells w g m h k):Cells w (.pair f g) (l,m) (e++h) (j++k):=by
 refine⟨⟨e,h,rfl,a.dp,b.dp⟩,⟨a.ok,b.ok⟩,by simp only[bS,a.len,b.len],by rw[bS,a.wd,b.wd];rfl,λi p v c d=> ?_,λv hv=> ?_⟩
 ·by_cases hi:i<e.length
  ·rw[bC hi]at c;rw[bC (by rw[<- a.len];exact hi)]at d;exact a.rep i p v c d
  ·rw[aS (by omega)]at c;rw[aS (by rw[<- a.len];omega),<- a.len]at d;exact b.rep _ p v c d
 ·rcases al.1 hv with hv|hv
  ·exact a.one v hv
  ·exact b.one v hv
theorem Cells.ep{w:World}{d:Nat}{P:Program}{t:TypeId}{g:Bool}{c:Ty}(hc:Lt P d t=zo (g,c)){x:c.den}{a:List PV}{cs:List Value}(h:Cells w c x a cs):∃ e,EP g (DP c) x e/\e.cells=a:=by
 cases g with
 |true=>exact⟨.agg a,⟨a,rfl,h.dp⟩,rfl⟩
 |false=>
  rcases Nv hc with⟨k,rfl⟩|rfl|rfl|⟨g,e,rfl⟩
  ·have:=h.dp;exact⟨.int k x,rfl,this.symm⟩
  ·have:=h.dp;exact⟨.bool x,rfl,this.symm⟩
  ·have:=h.dp;exact⟨.str x,rfl,this.symm⟩
  ·obtain⟨p,i,b⟩:=h.dp;refine⟨p,⟨p,rfl,b⟩,?_⟩;rw[i];rcases b with⟨rfl,_⟩|⟨f,es,rfl,_⟩<;>rfl
section
variable{H:Type}{NV:TypeId×Value->H}{P:Program}{w:World}
theorem NP{a:Addr}(b:a.spot=zn)(n:Nat):a.add n=⟨a.block,a.off+n,zn⟩:=by
 unfold Addr.add;split
 ·rename_i h;subst h;cases a;simp_all
 ·rfl
theorem OQ{a:Addr}{v:Value}(h:w.cell? a=zo v):a.spot=zn:=by
 unfold World.cell? at h;split at h<;>simp_all
theorem EX(K:Kids P (· < P.types.size)):∀ (D:Nat) {t:TypeId} {g:Bool} {c:Ty},Lt P D t=zo (g,c)->t<P.types.size -> ∀ {N:Nat} {cs:List Value} {y:DataW H×List MemPlace},DataW.trod NV P w 0 (λ_=>zt) zt N t cs=zo y -> ∃ x B,Cells w c x B cs
 |0,t,g,c,hc,_,_,_,_,_=>by cases hc
 |D+1,t,g,c,hc,ht,N,cs,y,h=>by
  unfold Lt at hc;split at hc
  ·rename_i k C;cases hc;obtain⟨n,rfl,_,hw⟩:=DataW.trod_int C h;exact⟨n,[.int k n],rfl,hw,rfl,rfl,λi p v d l=>by cases i<;>simp at d l;subst d;subst l;exact .int _ _ _,λv A=>by simp at A;subst A;rfl⟩
  ·rename_i C;cases hc;obtain⟨b,rfl,_⟩:=DataW.trod_bool C h;exact⟨b,[.bool b],rfl,trivial,rfl,rfl,λi p v d l=>by cases i<;>simp at d l;subst d;subst l;exact .bool _ _,λv A=>by simp at A;subst A;rfl⟩
  ·rename_i C;cases hc;obtain⟨s,rfl,_,hs⟩:=DataW.trod_string C h;exact⟨s.data.toList,[.str s.data.toList],rfl,(by show s.data.toList.length<=maxLen;simpa using hs),rfl,rfl,λi p v d l=>by cases i<;>simp at d l;subst d;subst l;exact .str _ _,λv A=>by simp at A;subst A;rfl⟩
  ·rename_i e C;split at hc
   ·rename_i ge ce I;replace hc:=AN hc;obtain⟨hwd,hc⟩:=hc;cases hc;have hwd:0<ce.wd:=by simp_all
    have W:=K.slice ht C;rcases DataW.trod_slice C h with⟨rfl,_⟩|⟨a,len,cap,F,rest,n,_,rfl,_,_,hlc,hcm,hel,hels,_,_⟩
    ·exact⟨[],[.nils],⟨_,rfl,.inl ⟨rfl,rfl⟩⟩,⟨bB _,λ_ h=>by cases h⟩,rfl,rfl,λi p v d l=>by cases i<;>simp at d l;subst d;subst l;exact .nils _,λv A=>by simp at A;subst A;rfl⟩
    ·
     have M:∀ i,i<len -> ∃ x B cs,Cells w ce x B cs/\(∀ (j:Nat),j<cs.length->w.cell? ((a.add (i*P.cellsOf e)).add j)=cs[j]?)/\cs.length=P.cellsOf e:=λi hi=>by
      have d:=hels i hi;rw[show F[i]?=zo F[i] by grind]at d;cases hcs:w.cells? 0 (a.add (i*P.cellsOf e)) (P.cellsOf e)with
      |none=>simp_all
      |some cs=>
       rw[hcs]at d;obtain⟨x,B,E⟩:=EX K D I W (show DataW.trod NV P w 0 (λ_=>zt) zt n e cs=zo _ from d);obtain⟨_,hl,q⟩:=World.cells?_some hcs
       grind
     by_cases h0:len=0
     ·subst h0;exact⟨[],[.lst zf []],⟨_,rfl,.inr ⟨_,_,rfl,.nil⟩⟩,⟨bB _,λ_ h=>by cases h⟩,rfl,rfl,λi p v d l=>by cases i<;>simp at d l;subst d;subst l;exact .lst0 _ _ _ _ (λh=>by cases h),λv A=>by simp at A;subst A;rfl⟩
     ·have U:a.spot=zn:=by
       obtain⟨x,B,cs,E,q,hl⟩:=M 0 (by omega);have O:=E.wd;have:=q 0 (by omega);rw[show cs[0]?=zo cs[0]from by simp]at this;have hs:=OQ this;simpa[Addr.add]using hs
      have all:∀ m,m<=len -> ∃ (xs:List ce.den) (es:List PV) (vs:List (List Value)),xs.length=m/\es.length=m/\vs.length=m/\L2 (EP ge (DP ce)) xs es/\(∀ x∈xs,Rx ce x) /\
        ∀ (i:Nat) z u,es[i]?=zo z->vs[i]?=zo u->z.cells.length=u.length/\u.length=P.cellsOf e/\(∀ (j:Nat) p v,z.cells[j]?=zo p->u[j]?=zo v->Rep (D6 w) mu0 p v/\v.oneCell'=zt/\w.cell? ((a.add (i*P.cellsOf e)).add j)=zo v):=by
       intro m
       induction m with
       |zero=>exact λ_=>⟨[],[],[],rfl,rfl,rfl,.nil,(λ_ h=>by cases h),λi z u h=>by simp at h⟩
       |succ m ih=>
        intro hm;obtain⟨xs,es,vs,l1,l2,l3,hl,hok,hr⟩:=ih (by omega);obtain⟨x,B,cs,E,q,hlc⟩:=M m (by omega);obtain⟨e1,he1,he2⟩:=E.ep I;refine⟨xs++[x],es++[e1],vs++[cs],by simp[l1],by simp[l2],by simp[l3],hl.append (.cons he1 .nil),λy hy=> ?_,λi z u d l=> ?_⟩
        ·rcases al.1 hy with hy|hy
         ·grind
         ·simp at hy;subst hy;exact E.ok
        ·by_cases hi:i<m
         ·rw[bC (by omega)]at d l;exact hr i z u d l
         ·have him:i=m:=by
           have:=(an.1 d).1;simp[l2]at this;omega
          subst him;rw[aS (by omega),l2]at d;rw[aS (by omega),l3]at l;simp at d l;subst d;subst l;refine⟨by rw[he2,E.len],hlc,λj p v d l=> ?_⟩;rw[he2]at d;have hj:=(an.1 l).1;exact⟨E.rep j p v d l,E.one v (bK l),by grind⟩
      obtain⟨xs,es,vs,l1,l2,l3,hl,hok,hr⟩:=all len (ab _)
      have S:∀ (i:Nat) (z:PV),es[i]?=zo z -> ∃ u,vs[i]?=zo u:=λi z d=>by
       have:=(an.1 d).1;exact⟨vs[i]'(by omega),by simp[show i<vs.length by omega]⟩
      have q:∀ (i:Nat) (z:PV) (j:Nat) (p:PV),es[i]?=zo z->z.cells[j]?=zo p -> ∃ v,((vs.getD i []).getD j .nilIface)=v/\Rep (D6 w) mu0 p v/\v.oneCell'=zt/\w.cell? ⟨a.block,a.off+i*P.cellsOf e+j,zn⟩=zo v:=λi z j p d l=>by
       obtain⟨u,h3⟩:=S i z d;obtain⟨Y,Z,k3⟩:=hr i z u d h3;have hj:=(an.1 l).1;have A:u[j]?=zo (u[j]'(by omega)):=by simp[show j<u.length by omega]
       obtain⟨q1,q2,q3⟩:=k3 j p _ l A;rw[NP U]at q3;rw[NP rfl]at q3;exact⟨_,by simp[List.getD_eq_getElem?_getD,h3,A],q1,q2,q3⟩
      refine⟨xs,[.lst zf es],⟨_,rfl,.inr ⟨_,_,rfl,hl⟩⟩,⟨by omega,hok⟩,rfl,rfl,λi p v d l=> ?_,λv A=>by simp at A;subst A;rfl⟩;cases i with
      |succ i=>simp at d
      |zero=>
       simp at d l;subst d;subst l;have ea:a=⟨a.block,a.off,zn⟩:=by cases a;grind
       rw[ea,show len=es.length from l2.symm];refine .lst _ _ es a.block a.off (P.cellsOf e) cap (λi j=>(vs.getD i []).getD j .nilIface) (λh=>by cases h) (by omega) (λi z d=> ?_) (λi z j p d l=> ?_) (λi z j p d l=> ?_) (λi z j p d l=> ?_)
       ·obtain⟨u,h3⟩:=S i z d;obtain⟨Y,Z,_⟩:=hr i z u d h3;omega
       ·obtain⟨v,e1,_,_,e4⟩:=q i z j p d l;simp only[D6,if_true,e4,e1]
       ·obtain⟨v,e1,_,e3,_⟩:=q i z j p d l
        grind
       ·obtain⟨v,e1,e2,_,_⟩:=q i z j p d l
        grind
   ·cases hc
  ·rename_i fs C;obtain⟨u,hgo,E⟩:=Pi.AA hc;cases E;obtain⟨xs,n,_,_,O,hxs,hf⟩:=DataW.trod_struct C h;obtain⟨hty,J,hoff⟩:=K.struct ht C
   have go:∀ (r o:List Field) (u:Ty),fs.toList=o++r->Qo (Lt P D) r=zo u -> ∃ x B,Cells w u x B ((cs.drop ((o.map λf=>P.cellsOf f.type).sum)).take ((r.map λf=>P.cellsOf f.type).sum)):=by
    intro r
    induction r with
    |nil=>
     intro o u _ hg;cases hg;exact⟨(),[],rfl,trivial,by simp,by simp[Ty.wd],λi p v d=>by simp at d,λv A=>by simp at A⟩
    |cons f r ih=>
     intro o u hfs hg
     have hfi:fs[o.length]?=zo f:=by
      rw[<- Array.getElem?_toList,hfs];simp
     have hfi':fs.toList[o.length]?=zo f:=by grind
     have ho:=hoff _ _ hfi';rw[show(fs.toList.take o.length)=o by grind]at ho;have hfe:=hf _ _ hfi
     have hi:o.length<xs.length:=by
      grind
     rw[show xs[o.length]?=zo xs[o.length] by simp[hi],ho]at hfe;have htf:=hty f (by grind)
     have htot:cs.length=((o.map λf=>P.cellsOf f.type).sum)+(P.cellsOf f.type+(r.map λf=>P.cellsOf f.type).sum):=by
      simp_all
     have X:∀ {g:Bool} {c1:Ty},Lt P D f.type=zo (g,c1) -> ∃ x B,Cells w c1 x B ((cs.drop ((o.map λf=>P.cellsOf f.type).sum)).take (P.cellsOf f.type)):=λd=>EX K D d htf hfe;cases r with
     |nil=>
      have G:(Lt P D f.type).map (·.2)=zo u:=hg;obtain⟨⟨g,c1⟩,d,l⟩:=Pi.AA G
      grind
     |cons f2 r=>
      have G:(match Lt P D f.type,Qo (Lt P D) (f2::r)with
       |some (_,c),zo r=>zo (.pair c r)
       |_,_=>zn)=zo u:=hg
      split at G
      ·rename_i g1 c1 c2 d l;cases G;obtain⟨x1,p1,Y⟩:=X d;obtain⟨x2,p2,Z⟩:=ih (o++[f]) c2 (by grind) l;rw[show(((o++[f]).map λf=>P.cellsOf f.type).sum)=((o.map λf=>P.cellsOf f.type).sum)+P.cellsOf f.type by simp_all]at Z
       have L:(cs.drop ((o.map λf=>P.cellsOf f.type).sum)).take (((f::f2::r).map λf=>P.cellsOf f.type).sum)=(cs.drop ((o.map λf=>P.cellsOf f.type).sum)).take (P.cellsOf f.type)++(cs.drop ((o.map λf=>P.cellsOf f.type).sum+P.cellsOf f.type)).take (((f2::r).map λf=>P.cellsOf f.type).sum):=by
        rw[cj,List.sum_cons,cW,bO]
       rw[L];exact⟨(x1,x2),p1++p2,Y.pair Z⟩
      ·cases G
   obtain⟨x,B,k⟩:=go fs.toList [] c (by simp) hgo
   grind
  ·rename_i n e C;obtain⟨⟨g',u⟩,I,E⟩:=Pi.AA hc;cases E;obtain⟨W,J⟩:=K.array ht C;obtain⟨xs,m,_,_,O,hxs,hf⟩:=DataW.trod_array C h
   have X:∀ i,i<n -> ∃ x B,Cells w u x B ((cs.drop (i*P.cellsOf e)).take (P.cellsOf e)):=λi hi=>by
    have:=hf i hi;rw[show xs[i]?=zo (xs[i]'(by omega)) by simp_all]at this;exact EX K D I W this
   have go:∀ k i,i+k=n -> ∃ x B,Cells w (Rh k u) x B ((cs.drop (i*P.cellsOf e)).take (k*P.cellsOf e)):=by
    intro k
    induction k with
    |zero=>exact λi _=>⟨(),[],rfl,trivial,by simp,by simp[Rh,Ty.wd],λi p v d=>by simp at d,λv A=>by simp at A⟩
    |succ k ih=>
     intro i hi;obtain⟨x1,p1,Y⟩:=X i (by omega);cases k with
     |zero=>exact⟨x1,p1,by rw[show(0+1)*P.cellsOf e=P.cellsOf e by omega];exact Y⟩
     |succ k=>
      obtain⟨x2,p2,Z⟩:=ih (i+1) (by omega);refine⟨(x1,x2),p1++p2,?_⟩;have:=Y.pair Z;rw[Nat.add_mul i 1,Nat.one_mul,<- bO,<- cW]at this;rw[show(k+1+1)*P.cellsOf e=P.cellsOf e+(k+1)*P.cellsOf e by grind];exact this
   obtain⟨x,B,k⟩:=go n 0 (by omega)
   grind
  ·cases hc
def QE(P:Program)(D:Nat):List TypeId->Option (List (Bool×Ty))
 |[]=>zo []
 |t::ts=>match Lt P D t,QE P D ts with
  |some p,zo l=>bif ae t P.types.size then zo (p::l)else zn
  |_,_=>zn
theorem Ki{D:Nat}{t:TypeId}{g:Bool}{c:Ty}(hc:Lt P D t=zo (g,c)){r:Reach}{b0:Nat}{v:Value}(d:Value.okWide P w r b0 t v):(g=zt /\ ∃ cs,v=.agg cs)\/(g=zf/\v.cells = #[v]):=by
 cases D with
 |zero=>cases hc
 |succ D=>
  unfold Lt at hc;split at hc
  ·rename_i b;cases hc;obtain⟨n,rfl⟩:=okWide_int b d;exact .inr ⟨rfl,rfl⟩
  ·rename_i b;cases hc;obtain⟨n,rfl⟩:=okWide_bool b d;exact .inr ⟨rfl,rfl⟩
  ·rename_i b;cases hc;obtain⟨n,rfl⟩:=okWide_string b d;exact .inr ⟨rfl,rfl⟩
  ·rename_i b;split at hc
   ·replace hc:=AN hc;cases hc.2;obtain⟨a,len,cap,rfl⟩:=okWide_slice b d;exact .inr ⟨rfl,rfl⟩
   ·cases hc
  ·rename_i b;obtain⟨x,_,e⟩:=Pi.AA hc;cases e;obtain⟨cs,rfl,_⟩:=okWide_struct b d
   simp_all
  ·rename_i b;obtain⟨x,_,e⟩:=Pi.AA hc
   grind [Value.okWide]
  ·cases hc
theorem QF(K:Kids P (· < P.types.size)){D:Nat}{t:TypeId}{g:Bool}{c:Ty}(hc:Lt P D t=zo (g,c))(y:t<P.types.size){r:Reach}{b0:Nat}{v:Value}(z:Value.okWide P w r b0 t v){d:DataW H}{q:List MemPlace}(h:DataW.Trod NV P w 0 (λ_=>zt) zt t v d q) :
  ∃ x p,EP g (DP c) x p/\Rx c x/\Rep (D6 w) mu0 p v:=by
 obtain⟨o,h⟩:=h;obtain⟨x,f,k⟩:=EX K D hc y h;rcases Ki hc z with⟨rfl,cs,rfl⟩|⟨rfl,l⟩
 ·refine⟨x,.agg f,⟨f,rfl,k.dp⟩,k.ok,.agg _ _ _ (by have:=k.len;rw[Array.length_toList]at this;exact this) (λi v hi=>k.one v ?_) λi p v b C=>k.rep i p v b ?_⟩
  ·have:cs.toList[i]?=zo v:=by grind
   exact bK this
  ·show cs.toList[i]?=zo v
   grind
 ·obtain⟨e,a,j⟩:=k.ep hc;have s:=k.len;rw[l]at s
  have n:∃ p,f=[p]:=by
   match f,s with
   |[p],_=>simp_all
  obtain⟨p,rfl⟩:=n;refine⟨x,e,a,k.ok,?_⟩
  have m:e=p:=by
   rcases Nv hc with⟨A,rfl⟩|rfl|rfl|⟨g,B,rfl⟩
   ·have b:[e]=[PV.int A x]:=a
    simp_all[PV.cells]
   ·have b:[e]=[PV.bool x]:=a
    simp_all[PV.cells]
   ·have b:[e]=[PV.str x]:=a
    simp_all[PV.cells]
   ·obtain⟨F,u,E⟩:=a
    grind [PV.cells]
  subst m;exact k.rep 0 e v rfl (by grind)
theorem Ox(K:Kids P (· < P.types.size)){D:Nat}{r:Reach}{b0:Nat}:∀ {c:List TypeId} {dom:List (Bool×Ty)},QE P D c=zo dom -> ∀ {vs:List Value} {e:List (DataW H)} {q:List MemPlace},(∀ (j:Nat) t v,c[j]?=zo t->vs[j]?=zo v->Value.okWide P w r b0 t v)->DataW.TrodAll NV P w 0 (λ_=>zt) zt c vs e q ->
  ∃ x b,DU dom x b/\Ry dom x/\RepL (D6 w) mu0 b vs
 |[],dom,h,vs,e,q,hv,ht=>by
  cases h;obtain⟨rfl,_,_⟩:=trodAll_nil ht;exact⟨(),[],rfl,trivial,.nil _ _⟩
 |t::c,dom,h,vs,e,q,hv,ht=>by
  unfold QE at h;split at h
  ·rename_i p l m n;replace h:=AN h;obtain⟨u,h⟩:=h;cases h;obtain⟨v,B,d,i,C,E,rfl,rfl,rfl,z,A⟩:=trodAll_cons ht;obtain⟨x,a,e1,e2,e3⟩:=QF K m (by simp_all) (hv 0 t v rfl rfl) z;obtain⟨y,b,f,k,g⟩:=Ox K n (λj t v o s=>hv (j+1) t v o s) A;cases l with
   |nil=>
    have:b=[]:=f;subst this;exact⟨x,[a],⟨a,rfl,e1⟩,e2,.cons e3 g⟩
   |cons q r=>exact⟨(x,y),a::b,⟨a,b,rfl,e1,f⟩,⟨e2,k⟩,.cons e3 g⟩
  ·cases h
theorem OJ(K:Kids P (· < P.types.size))(k:∀ t e,t<P.types.size->P.underlying t=zo (.slice e)->0<P.cellsOf e){w':World}{l:Nat->Bool}:∀ {f:List TypeId} {vs:List Value} {g:List (DataW H)} {a:List MemPlace},(∀ t∈f,t<P.types.size)->DataW.TrodAll NV P w 0 (λ_=>zt) zt f vs g a->(∀ p∈a,w.sameAt w' p)->(∀ p∈a,l p.block=zt)->DataW.TrodAll NV P w' 0 l zt f vs g a
 |[],[],[],_,_,h,_,_=>h
 |_::_,_::_,_::_,_,i,⟨p,q,⟨n,b⟩,c,e⟩,j,hs=>⟨p,q,⟨n,DataW.trod_stays K (λb c=>k _ _ b c) (λh=>by cases h) (i _ (by simp)) b (λx d=>j x (by simp_all)) (λx d=>hs x (by simp_all))⟩,
   OJ K k (λt m=>i t (by simp[m])) c (λx d=>j x (by simp_all)) (λx d=>hs x (by simp_all)),e⟩
end
end
section
section
variable{α β γ:Type}
theorem J0{c:Bool}{p:Prop}[Decidable p](h:c=zt<->p)(x y:Unit->Option β):br c x y=if p then x ()else y ():=by
 unfold br;by_cases a:p
 ·rw[h.2 a,zy a];rfl
 ·have:c=zf:=by cases c with
   |false=>rfl
   |true=>exact absurd (h.1 rfl) a
  rw[this,zx a];rfl
theorem SG{c:Bool}{p:Prop}[Decidable p](h:c=zt<->p)(k:Unit->Option β):gd c k=if p then k ()else zn:=J0 h k λ_=>zn
theorem Uo(a b:Int)(x y:Unit->Option β):br (UV a b) x y=if a<b then x ()else y ():=J0 (by unfold UV;simp) x y
theorem Un(a b:Int)(x y:Unit->Option β):br (UU a b) x y=if a<=b then x ()else y ():=J0 (by unfold UU;simp) x y
theorem Um(a b:Int)(x y:Unit->Option β):br (UT a b) x y=if a>b then x ()else y ():=J0 (by unfold UT;simp) x y
theorem Ul(a b:Int)(x y:Unit->Option β):br (Sw a b) x y=if a>=b then x ()else y ():=J0 (by unfold Sw;simp) x y
theorem Uk(a b:Int)(x y:Unit->Option β):br (PC a b) x y=if a=b then x ()else y ():=J0 (by unfold PC;simp) x y
theorem Uq(a b:Int)(x y:Unit->Option β):br (Sx a b) x y=if a=b then y ()else x ():=by
 rw[J0 (p:=a≠b) (by unfold Sx;simp)];by_cases h:a=b<;>simp[h]
theorem UJ(c:Bool)(x y:Unit->Option β):br (IG c) x y=br c y x:=by unfold br IG;cases c<;>rfl
theorem Uw(c:Bool)(x y:Unit->Option β):br c x y=if c=zt then x ()else y ():=by unfold br;cases c<;>rfl
theorem UH(a b:Nat)(x y:Unit->Option β):br (neq a b) x y=if a=b then x ()else y ():=J0 (by unfold neq;simp) x y
theorem UI(a b:Nat)(x y:Unit->Option β):br (I8 a b) x y=if a<b then x ()else y ():=J0 (by unfold I8;exact iff_of_eq bG) x y
theorem Tj(x y:Unit->Option β):br zt x y=x ():=rfl
theorem TA(x y:Unit->Option β):br zf x y=y ():=rfl
theorem UG(x:α)(k:α->Option β):bd (zo x) k=k x:=rfl
theorem UO(a b:Nat)(k:Unit->Option β):gd (neq a b) k=if a=b then k ()else zn:=SG (by unfold neq;simp) k
theorem UP(a b:Nat)(k:Unit->Option β):gd (B2 a b) k=if a<=b then k ()else zn:=SG (by unfold B2;simp) k
theorem UQ(a b:Nat)(k:Unit->Option β):gd (I8 a b) k=if a<b then k ()else zn:=SG (by unfold I8;exact iff_of_eq bG) k
theorem Tu{n:Int}(h:0<=n)(k:Nat->Option β):S1 n k=k n.toNat:=by unfold S1;simp[h]
theorem Ua{l:List α}{i:Nat}{x:α}(h:l[i]?=zo x)(k:α->Option β):ix l i k=k x:=by unfold ix;rw[h]
theorem Np{f:α->Option (LR α β)}{a:α->Prop}{Q:β->Prop}{m:α->Nat}
  (step:∀ s,a s->(∃ s',f s=zo (.nx s')/\a s'/\m s'<m s)\/(∃ x,f s=zo (.dn x)/\Q x)) :
  ∀ (n:Nat) (s:α),a s->m s<n -> ∃ x,Ih n f s=zo x/\Q x
 |0,s,_,h=>by omega
 |n+1,s,hi,h=>by
  unfold Ih;rcases step s hi with⟨s',e,b,d⟩|⟨x,e,c⟩
  ·rw[e];exact Np step n s' b (by omega)
  ·rw[e];exact⟨x,rfl,c⟩
theorem TP{f:α->Option (LR α β)}(a:α->Prop)(Q:β->Prop)(m:α->Nat){s:α}(hs:a s)(b:m s<18446744073709551616)
  (step:∀ s,a s->(∃ s',f s=zo (.nx s')/\a s'/\m s'<m s)\/(∃ x,f s=zo (.dn x)/\Q x)):∃ x,loop f s=zo x/\Q x:=
 Np step _ s hs b
theorem To{a b:Int}(h : -9223372036854775808<=a+b/\a+b<=9223372036854775807):TI .i64 a b=a+b:=IntWalk.i64_in _ h
theorem Tq{a b:Int}(h : -9223372036854775808<=a-b/\a-b<=9223372036854775807):TM .i64 a b=a-b:=IntWalk.i64_in _ h
theorem Tp{a b:Int}(h : -9223372036854775808<=a*b/\a*b<=9223372036854775807):TJ .i64 a b=a*b:=IntWalk.i64_in _ h
theorem TL{a:Int}(h : -9223372036854775808<=2*a/\2*a<=9223372036854775807):SM .i64 a 1=2*a:=by
 have:SM .i64 a 1=IntKind.i64.wrap (a*2):=rfl;rw[this,Int.mul_comm,IntWalk.i64_in _ h]
end
end
end Go.Proofs.YtoefnfbpoabinaaGreatDoor.Sv
