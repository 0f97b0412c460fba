/- Functions of the program and of the specification as plain functions, and laws about them. No condition. -/
import Derived.Test.YtfceigpbgndbgaaGreatDoorPl1
import Derived.KernelRfl
set_option linter.all false
open List renaming filter_cons->xT, find?_append->xl, find?_cons->hV, find?_some->x9, flatten_cons->lc, foldl_cons->iz, getElem?_eq_getElem->co, getElem?_eq_none->a9, getElem?_eq_some_iff->a8, getElem?_of_mem->eg, getElem?_take->p8, getElem_mem->rY, length_append->hI, length_cons->ci, length_map->sr, length_nil->cP, length_pos_iff->ee, length_take->ta, map_cons->nP, map_map->yw, mem_append->l6, mem_append_right->sk, mem_cons->ey, mem_flatten->l4, mem_map->o3, mem_map_of_mem->l5, mem_of_find?_eq_some->tT, mem_of_getElem?->bo, mem_singleton->q9, nil_append->ox, nodup_cons->oy, take_add_one->gw, take_of_length_le->eo
open Nat renaming add_comm->Ds, add_mul->TT, le_refl->ed, le_trans->wl, mul_le_mul_right->xk, sub_le->xo, zero_add->en
open Int renaming toNat_natCast->bl
open Option renaming filter->ml, getD_some->gM, none_or->s9, or_assoc->hM, toList_some->xb
open Option renaming some->zo, none->zn
open Bool renaming true->zt, false->zf
namespace Go.Proofs.YtfceigpbgndbgaaGreatDoor.Pl
section
open Go Sv
def zS:UX:=((0,[]),([],0))
def VU(j:Job):List UZ:=j.2.2.2.1
def ZT(s:UX)(j:Job):Nat:=if WT s.1 j=zt then j.1.toNat else j.1.toNat+1
def WN(s:UX)(j:Job):Ub:=if VU j=[]then VY s.1 j.1.toNat []else VY (VY s.1 j.1.toNat []) (ZT s j) (Ud (VY s.1 j.1.toNat []).2 (ZT s j)++[(s.2.2,VU j)])
def ZB(s:UX)(j:Job):Int:=if VU j=[]then s.2.2 else s.2.2+1
def Zv(s:UX)(j:Job):UX×Int:=
 if 0<Un s.1 j\/WH s.1 j=zf then(zS,9)else if s.2.2>1000000/\VU j≠[]then(zS,5)else(Yy s (WN s j) (ZB s j) j.1,0)
theorem bA:∀ (ls:List (List Uy)) (i:Nat),(Uf i ls).Nodup /\ ∀ d∈Uf i ls,(i:Int)<=d
 |[],_=>⟨.nil,λ_ h=>by cases h⟩
 |rs::ls,i=>by
  obtain⟨b,a⟩:=bA ls (i+1);rw[YC];by_cases h:rs.length=2
  ·rw[zy h];refine⟨oy.2 ⟨λc=> ?_,b⟩,λd hd=> ?_⟩
   ·have:=a _ c;omega
   ·rcases ey.1 hd with e|hd
    ·omega
    ·have:=a d hd;omega
  ·rw[zx h];exact⟨b,λd hd=>by have:=a d hd;omega⟩
theorem VSt.nodup{s:UX}(v:VSt s):(s.2.1.map (·.1)).Nodup:=by rw[v.due];exact(bA _ _).1
theorem JobAt.out{L:Ub}{n:Nat}{j:Job}(h:JobAt L n j)(v:VLev L)(hs:(∀ r∈Ud L.2 n,r.2.length<=2000)):VL (VU j)/\((VU j).length:Int)<=2*VJ L.1 n/\j.1=(n:Int)/\n<12/\Ud L.2 n≠[]:=by
 obtain⟨a,b,d,k,e,rfl,i,_,v0,v1⟩:=h;have c:Ud L.2 n=[a,b]:=by unfold Ud;rw[e];rfl
 have p:=hs a (by rw[c];simp);have q:=hs b (by rw[c];simp);have s:=((v.own n).2 a (by rw[c];simp)).le;have t:=((v.own n).2 b (by rw[c];simp)).le;obtain⟨f,g⟩:=gG v1 v0 d i (by omega);have m:=(a8.1 e).1;have o:=v.len;refine⟨f,?_,rfl,by omega,by rw[c];simp⟩
 have l:((VU ((n:Int),WG b.2 a.2 d k)).length:Int)<=(b.2.length:Int)+(a.2.length:Int):=by
  have:(VU ((n:Int),WG b.2 a.2 d k)).length<=b.2.length+a.2.length:=g;omega
 omega
def kh(L:Ub):Prop:=∀ i,∀ r∈Ud L.2 i,r.2.length<=2000
structure InstF (s:UX) (n:Nat) (j:Job):Prop where
 l1:VLev (VY s.1 n [])
 to12:VU j≠[]->ZT s j<12
 vr:VU j≠[]->VR (VJ s.1.1 (ZT s j)) (s.2.2,VU j)
 id:∀ y∈(VY s.1 n []).2.flatten,y.1≠s.2.2
 room:VU j≠[]->(Ud (VY s.1 n []).2 (ZT s j)).length<2
 lev:VLev (WN s j)
theorem ip{s:UX}(v:VSt s)(A:kh s.1){n:Nat}{j:Job}(z:JobAt s.1 n j)(G:¬ 0<Un s.1 j)(hc:WH s.1 j=zt)(x:VU j≠[]->s.2.2<=1000000):InstF s n j:=by
 obtain⟨C,D,E,t,I⟩:=z.out v.lev (A n);have a:=v.lev.leave (n:=n) t;have e:j.1.toNat=n:=by rw[E];simp
 have b:WT s.1 j≠zt->n+1<12/\(Ud s.1.2 (n+1)).length<2:=λhs=>by
  unfold WH at hc;rw[show decide (0<Un s.1 j)=zf by simp;omega,e]at hc;cases o:WT s.1 j with
  |true=>exact absurd o hs
  |false=>
   rw[o]at hc;simpa[Yu,Ud]using hc
 have d:∀ y∈(VY s.1 n []).2.flatten,y.1≠s.2.2:=λy r=>by
  obtain⟨p,q,i,k⟩:=YE s.1 n [];rw[k,ox]at r
  have B:y∈s.1.2.flatten:=by
   rw[i];rcases l6.1 r with h|h
   ·exact List.mem_append_left _ h
   ·exact sk _ (sk _ h)
  have:=Yl B;have:=v.n3;omega
 have m:ZT s j<12/\(Ud (VY s.1 n []).2 (ZT s j)).length<2/\((VU j).length:Int)<=VJ s.1.1 (ZT s j):=by
  unfold ZT;by_cases hs:WT s.1 j=zt
  ·rw[zy hs,e];refine⟨t,by rw[XM,zy rfl];simp,?_⟩;have c:=hs;unfold WT at c;rw[e]at c;exact of_decide_eq_true c
  ·rw[zx hs,e];obtain⟨i,k⟩:=b hs;refine⟨i,by rw[XM,zx (by omega)];exact k,?_⟩;rw[dI];exact D
 obtain⟨u,w,F⟩:=m;have g:VU j≠[]->VR (VJ s.1.1 (ZT s j)) (s.2.2,VU j):=λf=>⟨v.n1,x f,C,f,F⟩;refine⟨a,λ_=>u,g,d,λ_=>w,?_⟩;unfold WN;rw[e];by_cases l:VU j=[]
 ·rw[zy l];exact a
 ·rw[zx l];exact a.arrive u w (g l) d
theorem cv{s:UX}(v:VSt s)(u:kh s.1){n:Nat}{j:Job}(t:JobAt s.1 n j)(w:¬ 0<Un s.1 j)(hc:WH s.1 j=zt)(y:VU j≠[]->s.2.2<=1000000)(l:Int) :
  (bd (WW (s.1,(n:Int))) λd=>br (O3 d.2.2 0) (λ_=>br (Ti (Kx (AR j.2.2.2.1)) 0) (λ_=>bd (VC (s,(j,l))) λK=>br (Hl K) (λ_=>bd (U5 ((d.1,(So .i64 (n:Int) 1,(s.2.2,j.2.2.2.1))))) λm=>br (SS m.2 0) (λ_=>zo ((((0,[]),([],0)),m.2))) λ_=>bd (Ut ((s,(m.1,(So .i64 s.2.2 1,(n:Int)))))) λL=>zo L) λ_=>bd (U5 ((d.1,((n:Int),(s.2.2,j.2.2.2.1))))) λo=>br (SS o.2 0) (λ_=>zo ((((0,[]),([],0)),o.2))) λ_=>bd (Ut ((s,(o.1,(So .i64 s.2.2 1,(n:Int)))))) λM=>zo M) λ_=>br (SS d.2.2 0) (λ_=>zo ((((0,[]),([],0)),d.2.2))) λ_=>bd (Ut ((s,(d.1,(s.2.2,(n:Int)))))) λN=>zo N) λ_=>br (SS d.2.2 0) (λ_=>zo ((((0,[]),([],0)),d.2.2))) λ_=>bd (Ut ((s,(d.1,(s.2.2,(n:Int)))))) λk=>zo k)
  = zo (Yy s (WN s j) (ZB s j) j.1,0):=by
 have F:=ip v u t w hc y;obtain⟨G,O,g,I,J⟩:=t.out v.lev (u n);have i:j.1.toNat=n:=by rw[g];simp
 have D:=v.n2;have C:=v.n1;have A:=v.jsmall;have a:=F.lev;rw[gD v.lev J,TW];show(br (O3 0 0) _ _)=_;rw[UD,zy rfl,Ug,Uc,UF];by_cases b:VU j=[]
 ·rw[zx (show ¬ ((j.2.2.2.1.length:Int)>0) by rw[show j.2.2.2.1=[]from b];simp),UI,zy rfl];unfold WN at a ⊢;rw[zy b,i]at a;rw[zy b,i,Zw v.nodup (by omega) a,TW];unfold ZB;rw[zy b,g]
 ·rw[zy (show((j.2.2.2.1.length:Int)>0) by have:=ee.2 b;have h:(VU j).length=j.2.2.2.1.length:=rfl;omega),cc v.lev g I,TW,U2];have E:(VU j).length<=1048576:=by have:=G.len;omega
  have B:kR [] (VJ (VY s.1 n []).1 (ZT s j)) (s.2.2,VU j)=0:=iq.2 ⟨F.vr b,by simp⟩;have f:=bV F.l1 (F.to12 b) (x:=(s.2.2,VU j)) E F.id (F.room b);rw[zx (by simp[B])]at f
  have z:WN s j=VY (VY s.1 n []) (ZT s j) (Ud (VY s.1 n []).2 (ZT s j)++[(s.2.2,VU j)]):=by
   unfold WN;rw[zx b,i]
  have q:ZB s j=s.2.2+1:=by unfold ZB;rw[zx b]
  rw[<- z]at f;have p:So .i64 s.2.2 1=s.2.2+1:=TE (by omega);have r:=Zw v.nodup (by omega) a (s.2.2+1) (n:Int);rw[UL];have c:ZT s j=if WT s.1 j=zt then n else n+1:=by unfold ZT;rw[i]
  by_cases hs:WT s.1 j=zt
  ·rw[zy hs]at c ⊢;rw[c]at f;have e:U5 (VY s.1 n [],((n:Int),(s.2.2,j.2.2.2.1)))=zo (WN s j,0):=f;rw[e,TW,UI,zy rfl,p,r,TW,q,g]
  ·rw[zx hs]at c ⊢;rw[c]at f;rw[Uh (by omega)];have e:U5 (VY s.1 n [],(((n+1:Nat):Int),(s.2.2,j.2.2.2.1)))=zo (WN s j,0):=f;rw[e,TW,UI,zy rfl,p,r,TW,q,g]
theorem ff{s:UX}(m:Sm s)(k:kh s.1)(a:Int):Wx (s,a)=zo (Wf zS Zv s a):=by
 unfold Wx;rw[eA m,TW];unfold Wf;by_cases b:(Ua s).2=0;rotate_left
 ·rw[zy b,UI,zx b,zy b];rfl
 rw[zx (show ¬ (Ua s).2≠0 by simp[b]),zx (show ¬ (Ua s).2≠0 by simp[b])];have v:=Ue.1 b;unfold bQ;cases p:aX a 0 (Uf 0 s.1.2)with
 |none=>rfl
 |some i=>
  obtain⟨j,n,l,o,f,g,q⟩:=v.at p;have:=v.lev.len;subst o;simp only[l];unfold U0 Zv;rw[UI,zy rfl,TW,UF];by_cases e:0<Un s.1 j
  ·rw[zy (show((Un s.1 j:Int))>0 by omega),zy (.inl e)];rfl
  rw[zx (show ¬ ((Un s.1 j:Int))>0 by omega),dR v.lev f (by omega) _ rfl,TW,U2,UL];by_cases hc:WH s.1 j=zt;rotate_left
  ·rw[zx hc,zy (.inr (by simpa using hc))];rfl
  rw[zy hc,zx (show ¬ (0<Un s.1 j\/WH s.1 j=zf) by rw[hc];simp;omega),UF];by_cases d:s.2.2>1000000
  ·rw[zy d,Ug,Uc,UF];by_cases c:VU j=[]
   ·rw[zx (show ¬ ((j.2.2.2.1.length:Int)>0) by rw[show j.2.2.2.1=[]from c];simp),zx (by simp[c])];exact cv v k g e hc (λh=>absurd c h) _
   ·rw[zy (show((j.2.2.2.1.length:Int)>0) by have:=ee.2 c;have h:(VU j).length=j.2.2.2.1.length:=rfl;omega),zy ⟨d,c⟩];rfl
  ·rw[zx d,zx (by simp[d])];exact cv v k g e hc (λh=>by omega) _
end
section
open Go Sv
def Zm(L:Ub)(j:Job):YZ:=match Ud L.2 j.1.toNat with
 |[r0,r1]=>WG r1.2 r0.2 j.2.2.1.2.2 (j.2.2.2.2.toNat+1)
 |_=>j.2
def al(s:UX)(j:Job):UX:=(s.1,(lset s.2.1 ((aX j.1 0 (Uf 0 s.1.2)).getD 0) (j.1,Zm s.1 j),s.2.2))
theorem lZ{s:UX}(m:Sm s)(v:VSt s){a:Int}{i:Nat}(h:aX a 0 (Uf 0 s.1.2)=zo i){j:Job}(e:s.2.1[i]?=zo j)(t:0<Un s.1 j):Y6 (s,(a,1))=zo (al s j,(1,0)):=by
 obtain⟨j',n,f,y,u,q,B⟩:=v.at h;rw[e]at f;cases f;subst y;have r:(Ua s).2=0:=Ue.2 v
 have l:Y5 s (n:Int)=((i:Int),0):=by
  unfold Y5;rw[zx (show ¬ (Ua s).2≠0 by simp[r]),h]
 have w:=v.jsmall;have hi:=(a8.1 e).1;unfold Y6;rw[sE m,TW,UI,zy r,UH,zx (show ¬ ((1:Int)<0) by omega),dW m,TW,l,UI,zy rfl,UY,Tq e,(JobAt.left q).1,TW,UD,zx (show ¬ ((Un s.1 j:Int)=0) by omega),UY,Tq e];obtain⟨b,c,d,k,p,rfl,x,A,v0,v1⟩:=q;have z:Ud s.1.2 n=[b,c]:=by unfold Ud;rw[p];rfl
 have o:Un s.1 ((n:Int),WG c.2 b.2 d k)=c.2.length+b.2.length-k:=by
  unfold Un;simp only[bl,p];show c.2.length+b.2.length-((k:Int)).toNat=_;rw[bl]
 rw[o]at t;have g:=dJ v1 v0 d x (k:=1);rw[show min 1 (c.2.length+b.2.length-k)=1 by omega]at g;show(bd (Vc (WG c.2 b.2 d k,((1:Nat):Int))) λC=>_)=_;rw[g,TW];simp only;rw[UI,zy rfl];unfold VA;rw[VG (by simp only[AR];omega),TW,UY,Te,zy (by simp only[AR];exact hi),Tq e];unfold al Zm;simp only[bl,z,h,gM];have e1:(WG c.2 b.2 d k).2.1.2.2=d:=bj _ _ _ _;have e2:(WG c.2 b.2 d k).2.2.2.toNat=k:=by show((k:Int)).toNat=k;rw[bl]
 rw[e1,e2];rfl
def YX(s:UX)(j:Job):UX×(Bool×Int):=if WH s.1 j=zf then(zS,(zf,9))else if 0<Un s.1 j then(al s j,(zf,0))else((Zv s j).1,(O3 (Zv s j).2 0,(Zv s j).2))
def XB(s:UX)(a:Int):UX×(Bool×Int):=if(Ua s).2≠0 then(zS,(zf,(Ua s).2))else match bQ s a with
 |some j=>YX s j
 |none=>(zS,(zf,4))
theorem dM{s:UX}(m:Sm s)(g:kh s.1)(a:Int):Vd (s,a)=zo (XB s a):=by
 unfold Vd;rw[eA m,TW,ff m g];unfold Wf XB;by_cases b:(Ua s).2=0;rotate_left
 ·rw[zy b,UI,zx b,zy b];rfl
 rw[zx (show ¬ (Ua s).2≠0 by simp[b]),zx (show ¬ (Ua s).2≠0 by simp[b]),zx (show ¬ (Ua s).2≠0 by simp[b])];have v:=Ue.1 b;unfold bQ;cases f:aX a 0 (Uf 0 s.1.2)with
 |none=>rfl
 |some i=>
  obtain⟨j,n,e,k,d,h,l⟩:=v.at f;have:=v.lev.len;simp only[e];unfold YX U0;rw[UI,zy rfl,dR v.lev d (by omega) _ rfl,TW,U2,UL];cases hc:WH s.1 j with
  |false=>rw[zx (by simp),zy rfl];rfl
  |true=>
   rw[zy rfl,zx (by simp),TW,UF];by_cases c:0<Un s.1 j
   ·rw[zy (show((Un s.1 j:Int))>0 by omega),zy c,lZ m v f e c];rfl
   ·rw[zx (show ¬ ((Un s.1 j:Int))>0 by omega),zx c];rfl
end
section
open Go Sv
theorem dk{ls:List (List Uy)}{d:Int}(h:d∈Uf 0 ls):∃ (n:Nat) (a b:Uy),d=(n:Int)/\ls[n]?=zo [a,b]:=by
 obtain⟨k,f⟩:=eg h;obtain⟨n,c,a,b,e⟩:=Ym f;exact⟨n,a,b,by rw[c,en],e⟩
theorem eW{l:List (List Uy)}{n:Int}(i:0<n)(h:∀ x∈l.flatten,x.1<n):XJ l<n:=by
 have f:∀ (rs:List Uy) (m:Int),m<n->(∀ x∈rs,x.1<n)->rs.foldl (λm r=>UP m r.1) m<n:=by
  intro rs
  induction rs with
  |nil=>intro m b _;exact b
  |cons r rs e=>
   intro m b c;rw[iz];refine e _ ?_ λx d=>c x (by simp[d]);rw[X6];have:=c r (by simp);omega
 have two:∀ (ls:List (List Uy)) (m:Int),m<n->(∀ rs∈ls,∀ x∈rs,x.1<n)->ls.foldl (λm rs=>rs.foldl (λm r=>UP m r.1) m) m<n:=by
  intro ls
  induction ls with
  |nil=>intro m b _;exact b
  |cons rs ls e=>
   intro m b c;rw[iz];exact e _ (f rs m b (c rs (by simp))) λg a=>c g (by simp[a])
 exact two l 0 i λrs a x d=>h x (l4.2 ⟨rs,a,d⟩)
theorem ir{l:List (List Uy)}(e:l.getLast? ≠ zo []){n:Nat}(a:Ud l n≠[])(b:∀ i,n<i->Ud l i=[]):l.length=n+1:=by
 have f:n<l.length:=by
  by_cases h:n<l.length
  ·exact h
  ·unfold Ud at a;rw[a9 (by omega)]at a;exact absurd rfl a
 by_cases c:l.length=n+1
 ·exact c
 ·exfalso;have d:=b (l.length-1) (by omega);refine e ?_;rw[List.getLast?_eq_getElem?,Wz (by omega),d]
theorem cE{js:List Job}{d:Int}{j:Job}(h:VN js d=zo j):j∈js/\j.1=d:=by
 unfold VN at h;have a:=x9 h;unfold db at a;rw[Wb]at a;exact⟨tT h,(of_decide_eq_true a).symm⟩
theorem km{L:Ub}(v:VLev L){n:Nat}{b c:Uy}(h:L.2[n]?=zo [b,c]):JobAt L n (XN L (n:Int)):=by
 have a:Ud L.2 n=[b,c]:=by unfold Ud;rw[h];rfl
 refine⟨b,c,decide ((n:Int)=(L.2.length:Int)-1),0,h,?_,Nat.zero_le _,λhd=> ?_,VR.vl' v (n:=n) (by rw[a];simp),VR.vl' v (n:=n) (by rw[a];simp)⟩
 ·unfold XN;rw[bl,a]
 ·have:=of_decide_eq_true hd;have:=(a8.1 h).1;omega
theorem fb{s:UX}(v:VSt s){L:Ub}(t:VLev L){next a:Int}(E:1<=next)(F:next<=1000001)(G:∀ x∈L.2.flatten,x.1<next)
  (I:∀ (n:Nat) (f g:Uy),s.1.2[n]?=zo [f,g]->(n:Int)≠a->(∃ p q,L.2[n]?=zo [p,q])->L.2[n]?=zo [f,g]/\(n+1=s.1.2.length->n+1=L.2.length)):VSt (Yy s L next a):=by
 have b:∀ d∈Uf 0 L.2,(XV s L a d).1=d /\ ∃ n,JobAt L n (XV s L a d):=λd hd=>by
  obtain⟨n,p,q,rfl,r⟩:=dk hd;unfold XV;cases i:(if(n:Int)=a then zn else VN s.2.1 (n:Int))with
  |none=>
   rw[Option.getD_none];have h:=km t r;refine⟨?_,n,h⟩;obtain⟨_,_,_,_,_,e,_⟩:=h;rw[e]
  |some j=>
   rw[gM];by_cases l:(n:Int)=a
   ·rw[zy l]at i;cases i
   rw[zx l]at i;obtain⟨o,c⟩:=cE i;refine⟨c,n,?_⟩;obtain⟨m,f,g,D,k,u,rfl,w,y,z,A⟩:=v.job j o;have J:m=n:=by have:(m:Int)=(n:Int):=c;omega
   subst J;obtain⟨B,C⟩:=I m f g u l ⟨p,q,r⟩;exact⟨f,g,D,k,B,rfl,w,λh=>C (y h),z,A⟩
 refine⟨t,E,F,eW (by show 0<next;omega) G,?_,λj o=> ?_⟩
 ·show((Uf 0 L.2).map (XV s L a)).map (·.1)=Uf 0 L.2;rw[yw]
  conv=>rhs;rw[<- List.map_id (Uf 0 L.2)]
  exact List.map_congr_left λd hd=>(b d hd).1
 ·obtain⟨d,hd,rfl⟩:=o3.1 o;exact(b d hd).2
theorem X9{l:List (List Uy)}{n:Nat}{b c:Uy}:l[n]?=zo [b,c]<->Ud l n=[b,c]:=by
 unfold Ud;constructor
 ·intro h;rw[h];rfl
 ·intro h;cases a:l[n]? with
  |none=>rw[a]at h;cases h
  |some rs=>rw[a]at h;exact congrArg zo h
theorem Wm{s:UX}{j:Job}{n:Nat}(b:j.1.toNat=n)(i:Nat):Ud (WN s j).2 i=if VU j≠[]/\i=ZT s j then(if i=n then[]else Ud s.1.2 i)++[(s.2.2,VU j)]else if i=n then[]else Ud s.1.2 i:=by
 unfold WN;rw[b];by_cases a:VU j=[]
 ·rw[zy a,zx (by simp[a]),XM]
 ·rw[zx a,XM];by_cases hi:i=ZT s j
  ·rw[zy hi,zy ⟨a,hi⟩,XM,<- hi]
  ·rw[zx hi,zx (by simp[hi]),XM]
theorem lE{s:UX}(v:VSt s)(u:kh s.1){n:Nat}{j:Job}(t:JobAt s.1 n j)(B:¬ 0<Un s.1 j)(hc:WH s.1 j=zt)(r:VU j≠[]->s.2.2<=1000000):VSt (Yy s (WN s j) (ZB s j) j.1):=by
 have F:=ip v u t B hc r;obtain⟨O,P,w,S,q⟩:=t.out v.lev (u n);have l:j.1.toNat=n:=by rw[w];simp
 have E:=v.n1;have G:=v.n2
 have k:s.2.2<=ZB s j/\ZB s j<=1000001/\(VU j≠[]->s.2.2<ZB s j):=by
  unfold ZB;by_cases d:VU j=[]
  ·rw[zy d];exact⟨by omega,by omega,λh=>absurd d h⟩
  ·rw[zx d];have:=r d;exact⟨by omega,by omega,λ_=>by omega⟩
 refine fb v F.lev (by omega) k.2.1 (λx L=> ?_) (λm z A D C N=> ?_)
 ·obtain⟨i,hi⟩:=Z0.1 L;rw[Wm l]at hi
  have b:∀ {y:Uy},y∈(if i=n then[]else Ud s.1.2 i)->y.1<ZB s j:=fun {y} o=>by
   by_cases a:i=n
   ·rw[zy a]at o;cases o
   ·rw[zx a]at o;have:=Yl (Z0.2 ⟨i,o⟩);have:=v.n3;omega
  split at hi
  ·rename_i hh;rcases l6.1 hi with hi|hi
   ·exact b hi
   ·rw[q9.1 hi];exact k.2.2 hh.1
  ·exact b hi
 ·have f:m≠n:=λe=>C (by rw[w,e]);have g:Ud s.1.2 m=[z,A]:=X9.1 D
  have p:¬ (VU j≠[]/\m=ZT s j):=λ⟨d,J⟩=>by
   have:=F.room d;rw[XM,<- J,zx f,g]at this;simp at this
  have c:Ud (WN s j).2 m=[z,A]:=by rw[Wm l,zx p,zx f,g]
  refine⟨X9.2 c,λM=>(ir F.lev.last (by rw[c];simp) λi hi=> ?_).symm⟩;have a:Ud s.1.2 i=[]:=by unfold Ud;rw[a9 (by omega)];rfl
  have I:n<s.1.2.length:=by
   by_cases h:n<s.1.2.length
   ·exact h
   ·unfold Ud at q;rw[a9 (by omega)]at q;exact absurd rfl q
  have K:ZT s j<=n+1:=by unfold ZT;rw[l];split<;>omega
  rw[Wm l,zx (by rintro⟨_,h⟩;omega),a];split<;>rfl
theorem Job.steps{L:Ub}{n:Nat}{j:Job}(f:JobAt L n j)(h:0<Un L j):JobAt L n (j.1,Zm L j):=by
 obtain⟨a,b,c,k,d,rfl,l,g,v0,v1⟩:=f;have i:=X9.1 d
 have e:Un L ((n:Int),WG b.2 a.2 c k)=b.2.length+a.2.length-k:=by
  unfold Un;simp only[bl,d];show b.2.length+a.2.length-((k:Int)).toNat=_;rw[bl]
 rw[e]at h;refine⟨a,b,c,k+1,d,?_,by omega,g,v0,v1⟩;unfold Zm;simp only[bl,i];have e1:(WG b.2 a.2 c k).2.1.2.2=c:=bj _ _ _ _;have e2:(WG b.2 a.2 c k).2.2.2.toNat=k:=by show((k:Int)).toNat=k;rw[bl]
 rw[e1,e2]
theorem ld{s:UX}(v:VSt s){j:Job}{i n:Nat}(e:aX j.1 0 (Uf 0 s.1.2)=zo i)(a:s.2.1[i]?=zo j)(d:JobAt s.1 n j)(c:0<Un s.1 j):VSt (al s j):=by
 unfold al;rw[e,gM];refine⟨v.lev,v.n1,v.n2,v.n3,?_,λx hx=> ?_⟩
 ·show(s.2.1.set i (j.1,Zm s.1 j)).map (·.1)=_;rw[<- v.due,List.map_set];refine List.ext_getElem? λk=> ?_;rw[List.getElem?_set];by_cases b:i=k
  ·subst b;have hi:=(a8.1 a).1;rw[zy rfl,sr,zy hi,List.getElem?_map,a];rfl
  ·rw[zx b]
 ·rcases List.mem_or_eq_of_mem_set hx with hx|hx
  ·exact v.job x hx
  ·rw[hx];exact⟨n,Job.steps d c⟩
end
section
open Go Sv
theorem sF{B:Int}{M:List (List Uy)}{f:(Int×List (List Uy))->Option (LR (Int×List (List Uy)) (Nat×((Int×List (List Uy))×Unit)))}(a:f (B,[])=zo (.dn (0,((B,[]),()))))(hs:∀ k,k<M.length->f (B,M.take (k+1))=if Ud M k=[]then zo (.nx (B,M.take k))else zo (.dn (0,((B,M.take (k+1)),())))):∀ k,k<=M.length->IX (k+1) f (B,M.take k)=zo (0,((B,M.take (ZW M k)),()))
 |0,_=>by rw[List.take_zero];exact U7 a
 |k+1,hk=>by
  have h:=hs k (by omega);unfold ZW;by_cases b:Ud M k=[]
  ·rw[zy b]at h ⊢;rw[U1 h];exact sF a hs k (by omega)
  ·rw[zx b]at h ⊢;exact U7 h
theorem qd{M:List (List Uy)}{k:Nat}(h:k<M.length):M.take (k+1)=M.take k++[Ud M k]:=by
 rw[gw,Wz h];rfl
theorem fD{L:Ub}(s:L.2.length<=1000){n:Nat}(u:n<1000){r:List Uy}(l:r.length<=1048576)(o:∀ i,(Ud L.2 i).length<=1048576):WM (L,((n:Int),r))=zo (VY L n r):=by
 have t:(Xi L.2 n r).length=max L.2.length (n+1):=by unfold Xi;rw[List.length_set,Z4]
 unfold WM;simp only[Ug,Uc];refine Uw (YV (r:=(0,((((max L.2.length (n+1):Nat):Int),(L.1,Xi L.2 n r)),()))) (λk=>((k:Int),(L.1,(Xi L.2 n r).take k))) (max L.2.length (n+1)) (by simp) (by omega) (λk j=> ?_) ?_) ?_
 ·have c:((Xi L.2 n r).take k).length=k:=by rw[ta];omega
  simp only[c];rw[qd (by omega),fE,Uh (by omega),UH];by_cases g:k<L.2.length
  ·rw[zy (by omega),UE,zx (by omega),UY,Tq (Wz g),UD];by_cases a:k=n
   ·rw[zy (by omega),zy a,VG l,VG (by simp only[BG,ci,cP];omega)];rfl
   ·rw[zx (by omega),zx a,VG (o k),VG (by simp only[BG,ci,cP];omega)];rfl
  ·rw[zx (by omega),UG,zy (by omega),UE,zy (by omega),UD];by_cases a:k=n
   ·rw[zy (by omega),zy a,VG l,VG (by simp only[BG,ci,cP];omega)];rfl
   ·rw[zx (by omega),zx a,VG (by simp only[BG,ci,cP];omega)];have:Ud L.2 k=[]:=by unfold Ud;rw[a9 (by omega)];rfl
    rw[this];rfl
 ·have c:(Xi L.2 n r).take (max L.2.length (n+1))=Xi L.2 n r:=eo (by omega);simp only;rw[UH,zx (by omega),UG,zx (by omega),c]
 ·have d:=sF (B:=L.1) (M:=Xi L.2 n r) (f:=λb=>br (Ti (b.2.length:Int) 0) (λ_=>SW (Ss .i64 (b.2.length:Int) 1) λp=>ix b.2 p λq=>br (O3 (q.length:Int) 0) (λ_=>SW (Ss .i64 (b.2.length:Int) 1) λh=>gd (CI h b.2.length) λ_=>gd (CI 0 h) λ_=>zo (.nx (b.1,D6 b.2 0 h))) λ_=>zo (.dn ((0,(b,()))))) λ_=>zo (.dn ((0,(b,()))))) rfl (λk j=>by
   have c:((Xi L.2 n r).take (k+1)).length=k+1:=by rw[ta];omega
   have hi:Ss .i64 ((k+1:Nat):Int) 1=(k:Int):=by rw[TG (by omega)];omega
   have m:((Xi L.2 n r).take (k+1))[k]?=zo (Ud (Xi L.2 n r) k):=by rw[p8,zy (by omega),Wz j]
   simp only[c,hi];rw[UF,zy (by omega),UY,Tq m,de];by_cases e:Ud (Xi L.2 n r) k=[]
   ·rw[zy e,zy e,UY,VG (by omega),VG (by omega)]
    have:D6 ((Xi L.2 n r).take (k+1)) 0 k=(Xi L.2 n r).take k:=by
     unfold D6;rw[List.drop_zero,Nat.sub_zero,List.take_take];congr 1;omega
    rw[this]
   ·rw[zx e,zx e]) _ (ed _)
  rw[eo (ed _)]at d;exact Uw (Vk (by omega) d) rfl
end
section
open Go Sv
theorem jZ{s:UX}(m:Sm s)(v:VSt s){a:Int}{i:Nat}(h:aX a 0 (Uf 0 s.1.2)=zo i){j:Job}(e:s.2.1[i]?=zo j)(t:0<Un s.1 j):Yk (s,(a,1))=zo (al s j,(1,0)):=by
 obtain⟨j',n,f,z,w,u,C⟩:=v.at h;rw[e]at f;cases f;subst z;have l:(Ua s).2=0:=Ue.2 v
 have o:Y5 s (n:Int)=((i:Int),0):=by
  unfold Y5;rw[zx (show ¬ (Ua s).2≠0 by simp[l]),h]
 have q:Wf (0:Int) (λs j=>((Un s.1 j:Int),0)) s (n:Int)=((Un s.1 j:Int),0):=by
  unfold Wf bQ;rw[zx (show ¬ (Ua s).2≠0 by simp[l]),h];simp only[e]
 have x:=v.jsmall;have hi:=(a8.1 e).1;unfold Yk;rw[vR m,TW,UD,zy l,UH,zx (show ¬ ((1:Int)<0) by omega),UI,zy l,ZQ m,q,TW,UD,zy rfl,UD,zx (show ¬ ((Un s.1 j:Int)=0) by omega),UI,zy rfl,Z5 m,o,TW,UY,Tq e];obtain⟨b,c,d,k,r,rfl,y,B,v0,v1⟩:=u;have A:Ud s.1.2 n=[b,c]:=by unfold Ud;rw[r];rfl
 have p:Un s.1 ((n:Int),WG c.2 b.2 d k)=c.2.length+b.2.length-k:=by
  unfold Un;simp only[bl,r];show c.2.length+b.2.length-((k:Int)).toNat=_;rw[bl]
 rw[p]at t;have g:=cW v1 v0 d y (k:=1);rw[show min 1 (c.2.length+b.2.length-k)=1 by omega]at g;show(bd (Uz (WG c.2 b.2 d k,((1:Nat):Int))) λD=>_)=_;rw[g,TW];simp only;rw[VG (by simp only[AR];omega),UY,Te,zy (by simp only[AR];exact hi),Tq e];unfold al Zm;simp only[bl,A,h,gM];have e1:(WG c.2 b.2 d k).2.1.2.2=d:=bj _ _ _ _;have e2:(WG c.2 b.2 d k).2.2.2.toNat=k:=by show((k:Int)).toNat=k;rw[bl]
 rw[e1,e2];rfl
theorem jX{L:Ub}(v:VLev L){n:Nat}(h:(Ud L.2 n).length=2):Vb (L,(n:Int))=zo (XN L n,0):=by
 have d:n<L.2.length:=by
  by_cases e:n<L.2.length
  ·exact e
  ·unfold Ud at h;rw[a9 (by omega)]at h;cases h
 have i:=v.len;obtain⟨f,g⟩:=v.small;unfold Vb;simp only[Ug,Uc];rw[gL _ f g,XK v,TW,UD,zy rfl,UH,zx (by omega),UE,zx (by omega),UD,zy rfl,UE,zx (by omega),UY,Tq (Wz d),UH,zx (by omega),UI,zy rfl,cU v d,TW]
 obtain⟨b,c,a⟩:∃ b c,Ud L.2 n=[b,c]:=by
  match hq:Ud L.2 n with
  |[b,c]=>exact⟨b,c,rfl⟩
  |[]=>rw[hq]at h;cases h
  |[_]=>rw[hq]at h;cases h
  |_::_::_::_=>rw[hq]at h;simp at h
 rw[dE _ (by rw[Wz d,a]) (VR.vl' v (n:=n) (by rw[a];simp)) (VR.vl' v (n:=n) (by rw[a];simp)),TW];unfold XN;rw[bl,a]
theorem ao(l:List UZ)(c:l.length<=9223372036854775807):WZ (l,l)=zo zt:=by
 unfold WZ;simp only[Ug,Uc];refine Uw (YV (r:=(1,(((l.length:Int),zf),()))) (λk=>((k:Int),zf)) l.length rfl (by omega) (λk a=> ?_) (by simp only;rw[re];rfl)) ?_
 ·have b:l[k]?=zo l[k]:=co a;simp only;rw[rl a,TB,TB,UY,Tq b,UY,Tq b,bw,zy rfl,Uh (by omega)]
 ·rw[TX,zx (show ¬ (1=0) by omega)];unfold O3;simp
theorem fU(r:Uy)(a:r.2.length<=9223372036854775807):XY (r,r)=zo zt:=by
 unfold XY;rw[UD,zy rfl,ao _ a];rfl
theorem du(l:List Uy)(c:l.length<=1048576)(h:∀ r∈l,r.2.length<=9223372036854775807):XG (l,l)=zo zt:=by
 unfold XG;simp only[Ug,Uc];rw[UI,zy rfl];refine Uw (YV (r:=(1,(((l.length:Int),zf),()))) (λk=>((k:Int),zf)) l.length rfl (by omega) (λk a=> ?_) (by simp only;rw[re];rfl)) rfl;have b:l[k]?=zo l[k]:=co a;simp only;rw[rl a,TB,UY,Tq b,UY,Tq b,fU _ (h _ (rY a)),TW,ZV,Sd,Uh (by omega)]
theorem fT(L:Ub)(e:L.2.length<=1048576)(d:∀ rs∈L.2,rs.length<=1048576 /\ ∀ r∈rs,r.2.length<=9223372036854775807):Yj (L,L)=zo zt:=by
 unfold Yj;simp only[Ug,Uc];rw[UI,zy rfl,UI,zy rfl];refine Uw (YV (r:=(1,(((L.2.length:Int),zf),()))) (λk=>((k:Int),zf)) L.2.length rfl (by omega) (λk b=> ?_) (by simp only;rw[re];rfl)) rfl;have c:L.2[k]?=zo L.2[k]:=co b;have a:=d _ (rY b);simp only;rw[rl b,TB,UY,Tq c,UY,Tq c,du _ a.1 a.2,TW,ZV,Sd,Uh (by omega)]
theorem fS{L:Ub}{n:Nat}{j:Job}(h:JobAt L n j):Xa (j,j)=zo zt:=by
 obtain⟨g,i,a,k,_,rfl,b,_,v0,v1⟩:=h;obtain⟨s1,s2,c,d,e,f⟩:=ax v1 v0 a b;unfold Xa;rw[UD,zy rfl,cQ _ _ s1 s2 c d e f];simp[TW]
theorem gP{t:UX}(v:VSt t):XI (t,t)=zo zt:=by
 have m:=v.sm;have d:=v.jsmall;unfold XI;simp only[Ug,Uc];rw[fT _ m.lv m.rs,TW,ZV,Sd,UI,zy rfl,UI,zy rfl];refine Uw (YV (r:=(1,(((t.2.1.length:Int),zf),()))) (λk=>((k:Int),zf)) t.2.1.length rfl (by omega) (λk a=> ?_) (by simp only;rw[re];rfl)) rfl;have b:t.2.1[k]?=zo t.2.1[k]:=co a;obtain⟨n,c⟩:=v.job _ (rY a);simp only;rw[rl a,TB,UY,Tq b,UY,Tq b,fS c,TW,ZV,Sd,Uh (by omega)]
theorem xi:XI (zS,zS)=zo zt:=by decide +kernel
end
section
open Go Sv
abbrev kj:=(Int×qM)
def eO(j:Job):kj:=(j.1,(j.2.1.1,(j.2.1.2.1,(j.2.1.2.2.1,(j.2.1.2.2.2.1,(j.2.1.2.2.2.2,(j.2.2.1.1,(j.2.2.1.2.1,(j.2.2.1.2.2,(j.2.2.2.1,j.2.2.2.2))))))))))
theorem jN(p:List Job)(x:Job)(d:Int):VN (p++[x]) d=(VN p d).or (if x.1=d then zo x else zn):=by
 unfold VN;rw[xl]
 congr 1
 rw[hV];unfold db;rw[Wb];by_cases h:x.1=d
 ·rw[zy h,show decide (d=x.1)=zt by simp[h]]
 ·rw[zx h,show decide (d=x.1)=zf by simp;exact λe=>h e.symm];rfl
theorem kq{s:UX}(w:(s.2.1.map (·.1)).Nodup)(C:s.2.1.length<=1000)(L:Ub)(a:Int){D:List Int}{i:Nat}{d:Int}(hi:D[i]?=zo d):(loop (λ(c:Int×kj)=>br (Tk c.1 (s.2.1.length:Int)) (λ_=>SW c.1 λm=>ix s.2.1 m λr=>SW (i:Int) λn=>ix D n λt=>br (O3 r.1 t) (λ_=>SW (i:Int) λo=>ix D o λu=>br (SS u a) (λ_=>SW c.1 λq=>ix s.2.1 q λb=>zo (.nx ((So .i64 c.1 1,(b.1,(b.2.1.1,(b.2.1.2.1,(b.2.1.2.2.1,(b.2.1.2.2.2.1,(b.2.1.2.2.2.2,(b.2.2.1.1,(b.2.2.1.2.1,(b.2.2.1.2.2,b.2.2.2))))))))))))) λ_=>zo (.nx (So .i64 c.1 1,c.2))) λ_=>zo (.nx (So .i64 c.1 1,c.2))) λ_=>zo (.dn (((0:Nat),(c,()))))) ((0:Int),eO (XN L d)))=zo (0,(((s.2.1.length:Int),eO (XV s L a d)),())):=by
 refine Vq (l:=s.2.1) (σ:=Job) (s:=((0:Int),eO (XN L d))) (λk j=>((k:Int),eO j)) (λls k j=>∃ p,s.2.1=p++ls/\j=(if d=a then zn else VN p d).getD (XN L d)) (λ_ _ _=>(0,(((s.2.1.length:Int),eO (XV s L a d)),()))) (XN L d) rfl (by omega) ⟨[],rfl,by split<;>rfl⟩ (λj h=> ?_) (λk x ls j hd y z h=> ?_)
 ·obtain⟨p,e,rfl⟩:=h;rw[List.append_nil]at e;simp only;rw[re,Sd,<- e];rfl
 ·obtain⟨p,e,rfl⟩:=h
  have B:x.1 ∉ p.map (·.1):=λA=>by
   rw[e,List.map_append,List.nodup_append]at w;exact w.2.2 _ A x.1 (by simp) rfl
  refine⟨(if d=a then zn else VN (p++[x]) d).getD (XN L d),?_,⟨p++[x],by rw[e];simp,rfl⟩,rfl⟩
  simp only;rw[rl z,TB,UY,Tq y,UY,Tq hi,UD,Uh (by omega),jN];by_cases f:x.1=d
  ·rw[zy f,UY,Tq hi,UI,UY,Tq y,zy f];by_cases g:d=a
   ·rw[zy g,zy g,zy g]
   ·rw[zx g,zx g,Ze (by rw[<- f];exact B)];rfl
  ·rw[zx f,zx f];have:(VN p d).or zn=VN p d:=by cases VN p d<;>rfl
   rw[this]
theorem bq{s:UX}(B:(s.2.1.map (·.1)).Nodup)(D:s.2.1.length<=1000){L:Ub}(v:VLev L)(next b:Int):loop (λ(g:(Int×(Int×((List (List Uy))×((List Job)×Int)))))=>br (Tk g.1 ((Uf 0 L.2).length:Int)) (λ_=>SW g.1 λm=>ix (Uf 0 L.2) m λt=>bd (Vb (((g.2.1,g.2.2.1),t))) λc=>bd (loop (λ(f:Int×kj)=>br (Tk f.1 (s.2.1.length:Int)) (λ_=>SW f.1 λo=>ix s.2.1 o λu=>SW g.1 λp=>ix (Uf 0 L.2) p λw=>br (O3 u.1 w) (λ_=>SW g.1 λq=>ix (Uf 0 L.2) q λx=>br (SS x b) (λ_=>SW f.1 λr=>ix s.2.1 r λe=>zo (.nx ((So .i64 f.1 1,(e.1,(e.2.1.1,(e.2.1.2.1,(e.2.1.2.2.1,(e.2.1.2.2.2.1,(e.2.1.2.2.2.2,(e.2.2.1.1,(e.2.2.1.2.1,(e.2.2.1.2.2,e.2.2.2))))))))))))) λ_=>zo (.nx (So .i64 f.1 1,f.2))) λ_=>zo (.nx (So .i64 f.1 1,f.2))) λ_=>zo (.dn (((0:Nat),(f,()))))) (((0:Int),(c.1.1,(c.1.2.1.1,(c.1.2.1.2.1,(c.1.2.1.2.2.1,(c.1.2.1.2.2.2.1,(c.1.2.1.2.2.2.2,(c.1.2.2.1.1,(c.1.2.2.1.2.1,(c.1.2.2.1.2.2,c.1.2.2.2)))))))))))) λa=>gd (CI (BG g.2.2.2.1.length [((a.2.1.2.1,((a.2.1.2.2.1,(a.2.1.2.2.2.1,(a.2.1.2.2.2.2.1,(a.2.1.2.2.2.2.2.1,a.2.1.2.2.2.2.2.2.1)))),((a.2.1.2.2.2.2.2.2.2.1,(a.2.1.2.2.2.2.2.2.2.2.1,a.2.1.2.2.2.2.2.2.2.2.2.1)),a.2.1.2.2.2.2.2.2.2.2.2.2))):Job)].length) 1048576) λ_=>zo (.nx ((So .i64 g.1 1,(g.2.1,(g.2.2.1,(Iy g.2.2.2.1 ([(a.2.1.2.1,((a.2.1.2.2.1,(a.2.1.2.2.2.1,(a.2.1.2.2.2.2.1,(a.2.1.2.2.2.2.2.1,a.2.1.2.2.2.2.2.2.1)))),((a.2.1.2.2.2.2.2.2.2.1,(a.2.1.2.2.2.2.2.2.2.2.1,a.2.1.2.2.2.2.2.2.2.2.2.1)),a.2.1.2.2.2.2.2.2.2.2.2.2)))]),g.2.2.2.2))))))) λ_=>zo (.dn (((0:Nat),(g,()))))) (((0:Int),(L.1,(L.2,(([]:List Job),next)))))=zo (0,((((Uf 0 L.2).length:Int),(L.1,(L.2,((Uf 0 L.2).map (XV s L b),next)))),())):=by
 have G:=v.len;have hd:=WU L.2 0;refine Vq (l:=Uf 0 L.2) (σ:=List Job) (λi js=>((i:Int),(L.1,(L.2,(js,next))))) (λls i js=>js++ls.map (XV s L b)=(Uf 0 L.2).map (XV s L b)) (λ_ _ _=>(0,((((Uf 0 L.2).length:Int),(L.1,(L.2,((Uf 0 L.2).map (XV s L b),next)))),()))) [] rfl (by omega) rfl (λjs h=> ?_) (λi d ls js A hi C h=> ?_)
 ·simp only;rw[re,Sd,<- h];simp
 ·refine⟨js++[XV s L b d],?_,by rw[<- h];simp,rfl⟩;obtain⟨n,I,J,k,E⟩:=dk (bo hi);have y:=jX v (n:=n) (by rw[X9.1 E];rfl);rw[<- k]at y
  have F:js.length<=1000:=by
   have z:=congrArg List.length h;rw[hI,sr,sr]at z;omega
  simp only;rw[rl C,TB,UY,Tq hi];have j:Vb ((L.1,L.2),d)=zo (XN L d,0):=y;rw[j,TW];refine Uw (kq B D L b hi) ?_;rw[VG (by simp only[BG,ci,cP];omega),Uh (by omega)];rfl
end
section
open Go Sv
theorem Zz{α β σ S:Type}{l:List α}(c:Nat)(n:c<=1000)(mk:Nat->σ->S)(I:Nat->σ->Prop)(Q:β->Prop){f:S->Option (LR S β)}{s:S}(a:σ)(i:s=mk 0 a)(hi:I 0 a)
  (p:∀ k a,(k=l.length\/k=c)->k<=l.length->I k a -> ∃ r,f (mk k a)=zo (.dn r)/\Q r)
  (hc:∀ k x a,l[k]?=zo x->k<c->I k a->(∃ b,f (mk k a)=zo (.nx (mk (k+1) b))/\I (k+1) b) \/ ∃ r,f (mk k a)=zo (.dn r)/\Q r):∃ r,loop f s=zo r/\Q r:=by
 refine Xg (l:=l.take c) mk (λ_ k a=>I k a/\k<=(l.take c).length) Q a i (by simp;omega) ⟨hi,by omega⟩ (λa h=>p _ a (by simp;omega) (by simp;omega) h.1) (λk x m a hd e o h=> ?_);have d:k<c:=by simp at o;omega
 have g:l[k]?=zo x:=by rw[p8]at e;rw[zy d]at e;exact e
 rcases hc k x a g d h.1 with⟨b,h1,j⟩|h1
 ·exact .inl ⟨b,h1,j,by omega⟩
 ·exact .inr h1
theorem eY{k c:Nat}(h:k<c):Tk (k:Int) (c:Int)=zt:=by unfold Tk;simp;omega
theorem kz{α β:Type}{l:List α}{k c:Nat}(h:k=l.length\/k=c)(b:k<=l.length)(A B C:Option β)(e:B=C):br (Tk (k:Int) (l.length:Int)) (λ_=>br (Tk (k:Int) (c:Int)) (λ_=>A) λ_=>B) (λ_=>C)=C:=by
 rw[UH];by_cases a:(k:Int)<(l.length:Int)
 ·rw[zy a,UH,zx (by omega),e]
 ·rw[zx a]
end
section
open Go Sv
end
section
open Go Sv
theorem lr(L:Ub)(n:Nat):Xy (L,(n:Int))=zo (Ud L.2 n):=by
 unfold Xy;simp only[Ug,Uc];rw[UE];by_cases h:n<L.2.length
 ·rw[zx (by omega),UY,Tq (Wz h)]
 ·rw[zy (by omega)];unfold Ud;rw[a9 (by omega)];rfl
theorem cS{s:UX}(v:VSt s)(hf:kh s.1){n:Nat}{j:Job}(ha:JobAt s.1 n j)(h0:¬ 0<Un s.1 j)(hc:WH s.1 j=zt)(h5:VU j≠[]->s.2.2<=1000000){X:Int}(D:X=(ZT s j:Int)) :
  (bd (WM ((s.1,((n:Int),[])))) λp=>br (Ti (Kx (AR j.2.2.2.1)) 0) (λ_=>bd (Xy (p,X)) λw=>gd (CI (AR w) 1048576) λ_=>gd (CI (BG (AR w) (AR ([(s.2.2,j.2.2.2.1)]))) 1048576) λ_=>bd (WM ((p,(X,Iy w ([(s.2.2,j.2.2.2.1)]))))) λy=>bd (VV y) λq=>bd (loop (λ(c:(Int×qL))=>br (Tk c.1 (Kx (AR q))) (λ_=>SW c.1 λE=>ix q E λY=>bd (Vb (((c.2.1,c.2.2.1),Y))) λe=>bd (loop (λ(l:(Int×(Int×qM)))=>br (Tk l.1 (Kx (AR s.2.1))) (λ_=>SW l.1 λG=>ix s.2.1 G λZ=>SW c.1 λI=>ix q I λx52=>br (O3 Z.1 x52) (λ_=>SW c.1 λJ=>ix q J λx54=>br (SS x54 (n:Int)) (λ_=>SW l.1 λK=>ix s.2.1 K λg=>zo (.nx ((So .i64 l.1 1,(g.1,(g.2.1.1,(g.2.1.2.1,(g.2.1.2.2.1,(g.2.1.2.2.2.1,(g.2.1.2.2.2.2,(g.2.2.1.1,(g.2.2.1.2.1,(g.2.2.1.2.2,g.2.2.2))))))))))))) λ_=>zo (.nx (So .i64 l.1 1,l.2))) λ_=>zo (.nx (So .i64 l.1 1,l.2))) λ_=>zo (.dn ((0,(l,()))))) ((0,(e.1.1,(e.1.2.1.1,(e.1.2.1.2.1,(e.1.2.1.2.2.1,(e.1.2.1.2.2.2.1,(e.1.2.1.2.2.2.2,(e.1.2.2.1.1,(e.1.2.2.1.2.1,(e.1.2.2.1.2.2,e.1.2.2.2)))))))))))) λa=>gd (CI (BG (AR c.2.2.2.1) (AR ([(a.2.1.2.1,((a.2.1.2.2.1,(a.2.1.2.2.2.1,(a.2.1.2.2.2.2.1,(a.2.1.2.2.2.2.2.1,a.2.1.2.2.2.2.2.2.1)))),((a.2.1.2.2.2.2.2.2.2.1,(a.2.1.2.2.2.2.2.2.2.2.1,a.2.1.2.2.2.2.2.2.2.2.2.1)),a.2.1.2.2.2.2.2.2.2.2.2.2)))]))) 1048576) λ_=>zo (.nx ((So .i64 c.1 1,(c.2.1,(c.2.2.1,(Iy c.2.2.2.1 ([(a.2.1.2.1,((a.2.1.2.2.1,(a.2.1.2.2.2.1,(a.2.1.2.2.2.2.1,(a.2.1.2.2.2.2.2.1,a.2.1.2.2.2.2.2.2.1)))),((a.2.1.2.2.2.2.2.2.2.1,(a.2.1.2.2.2.2.2.2.2.2.1,a.2.1.2.2.2.2.2.2.2.2.2.1)),a.2.1.2.2.2.2.2.2.2.2.2.2)))]),c.2.2.2.2))))))) λ_=>zo (.dn ((0,(c,()))))) ((0,(y.1,(y.2,([],So .i64 s.2.2 1)))))) λz=>zo ((((z.2.1.2.1,z.2.1.2.2.1),z.2.1.2.2.2),0))) λ_=>bd (VV p) λt=>bd (loop (λ(d:(Int×qL))=>br (Tk d.1 (Kx (AR t))) (λ_=>SW d.1 λN=>ix t N λx62=>bd (Vb (((d.2.1,d.2.2.1),x62))) λf=>bd (loop (λ(m:(Int×(Int×qM)))=>br (Tk m.1 (Kx (AR s.2.1))) (λ_=>SW m.1 λO=>ix s.2.1 O λx66=>SW d.1 λP=>ix t P λx68=>br (O3 x66.1 x68) (λ_=>SW d.1 λS=>ix t S λx70=>br (SS x70 (n:Int)) (λ_=>SW m.1 λU=>ix s.2.1 U λk=>zo (.nx ((So .i64 m.1 1,(k.1,(k.2.1.1,(k.2.1.2.1,(k.2.1.2.2.1,(k.2.1.2.2.2.1,(k.2.1.2.2.2.2,(k.2.2.1.1,(k.2.2.1.2.1,(k.2.2.1.2.2,k.2.2.2))))))))))))) λ_=>zo (.nx (So .i64 m.1 1,m.2))) λ_=>zo (.nx (So .i64 m.1 1,m.2))) λ_=>zo (.dn ((0,(m,()))))) ((0,(f.1.1,(f.1.2.1.1,(f.1.2.1.2.1,(f.1.2.1.2.2.1,(f.1.2.1.2.2.2.1,(f.1.2.1.2.2.2.2,(f.1.2.2.1.1,(f.1.2.2.1.2.1,(f.1.2.2.1.2.2,f.1.2.2.2)))))))))))) λb=>gd (CI (BG (AR d.2.2.2.1) (AR ([(b.2.1.2.1,((b.2.1.2.2.1,(b.2.1.2.2.2.1,(b.2.1.2.2.2.2.1,(b.2.1.2.2.2.2.2.1,b.2.1.2.2.2.2.2.2.1)))),((b.2.1.2.2.2.2.2.2.2.1,(b.2.1.2.2.2.2.2.2.2.2.1,b.2.1.2.2.2.2.2.2.2.2.2.1)),b.2.1.2.2.2.2.2.2.2.2.2.2)))]))) 1048576) λ_=>zo (.nx ((So .i64 d.1 1,(d.2.1,(d.2.2.1,(Iy d.2.2.2.1 ([(b.2.1.2.1,((b.2.1.2.2.1,(b.2.1.2.2.2.1,(b.2.1.2.2.2.2.1,(b.2.1.2.2.2.2.2.1,b.2.1.2.2.2.2.2.2.1)))),((b.2.1.2.2.2.2.2.2.2.1,(b.2.1.2.2.2.2.2.2.2.2.1,b.2.1.2.2.2.2.2.2.2.2.2.1)),b.2.1.2.2.2.2.2.2.2.2.2.2)))]),d.2.2.2.2))))))) λ_=>zo (.dn ((0,(d,()))))) ((0,(p.1,(p.2,([],s.2.2)))))) λA=>zo ((((A.2.1.2.1,A.2.1.2.2.1),A.2.1.2.2.2),0)):Option (UX×Int))=zo (Yy s (WN s j) (ZB s j) j.1,0):=by
 have F:=ip v hf ha h0 hc h5;obtain⟨o1,o2,W,o4,o5⟩:=ha.out v.lev (hf n);have hj:j.1.toNat=n:=by rw[W];simp
 have hn2:=v.n2;have hn1:=v.n1;have hjs:=v.jsmall;have o:=F.lev;have hl:=v.lev.len;have hl1:=F.l1.len;have small:∀ {M:Ub},VLev M -> ∀ i,(Ud M.2 i).length<=1048576:=λvM i=>by have:=(vM.own i).1;omega
 rw[fD (by omega) (by omega) (by simp) (small v.lev),TW];simp only[Ug,Uc];rw[UF];by_cases u:VU j=[]
 ·rw[zx (show ¬ ((j.2.2.2.1.length:Int)>0) by rw[show j.2.2.2.1=[]from u];simp)];have B:WN s j=VY s.1 n []:=by unfold WN;rw[zy u,hj]
  have C:ZB s j=s.2.2:=by unfold ZB;rw[zy u]
  rw[<- B,bf (by have:=o.len;omega),TW];refine Uw (bq v.nodup (by omega) o s.2.2 (n:Int)) ?_;rw[C,W];rfl
 ·rw[zy (show((j.2.2.2.1.length:Int)>0) by have:=ee.2 u;have h:(VU j).length=j.2.2.2.1.length:=rfl;omega),D,lr,TW];have hro:=F.room u;have ht:=F.to12 u
  have B:WN s j=VY (VY s.1 n []) (ZT s j) (Ud (VY s.1 n []).2 (ZT s j)++[(s.2.2,VU j)]):=by
   unfold WN;rw[zx u,hj]
  have C:ZB s j=s.2.2+1:=by unfold ZB;rw[zx u]
  rw[VG (by omega),VG (by simp only[BG,ci,cP];omega)];have hW:=fD (L:=VY s.1 n []) (n:=ZT s j) (r:=Ud (VY s.1 n []).2 (ZT s j)++[(s.2.2,VU j)]) (by omega) (by omega) (by simp;omega) (small F.l1);rw[<- B]at hW;refine Uw (x:=WN s j) hW ?_;rw[bf (by have:=o.len;omega),TW,TE (by omega)];refine Uw (bq v.nodup (by omega) o (s.2.2+1) (n:Int)) ?_;rw[C,W];rfl
theorem fA{s:UX}(m:Sm s)(l:kh s.1)(a:Int):Xb (s,a)=zo (Wf zS Zv s a):=by
 unfold Xb;rw[gI m,TW,Z5 m,dm m];unfold Wf;by_cases b:(Ua s).2=0;rotate_left
 ·rw[zy b,UI,zx b,zy b];rfl
 rw[zx (show ¬ (Ua s).2≠0 by simp[b]),zx (show ¬ (Ua s).2≠0 by simp[b]),zx (show ¬ (Ua s).2≠0 by simp[b])];have v:=Ue.1 b;unfold bQ Y5;rw[zx (show ¬ (Ua s).2≠0 by simp[b])];cases q:aX a 0 (Uf 0 s.1.2)with
 |none=>rfl
 |some i=>
  obtain⟨j,n,o,p,f,k,r⟩:=v.at q;have:=v.lev.len;subst p;simp only[o];unfold Zv aq;by_cases c:0<Un s.1 j
  ·rw[zy c,zy (.inl c)];rfl
  rw[zx c]
  have g:(if WT s.1 j=zt then(j.1,(0:Int))else(j.1+1,0))=((ZT s j:Int),0):=by
   unfold ZT;split<;>rw[f]<;>simp
  rw[g,UI,zy rfl,TW,UY,Tq o,TW,U2,UL];by_cases hc:WH s.1 j=zt;rotate_left
  ·rw[zx hc,zy (.inr (by simpa using hc))];rfl
  rw[zy hc,zx (show ¬ (0<Un s.1 j\/WH s.1 j=zf) by rw[hc];simp;omega),UF];by_cases e:s.2.2>1000000
  ·rw[zy e,UF];by_cases d:VU j=[]
   ·rw[zx (show ¬ (Kx (AR j.2.2.2.1)>0) by rw[show j.2.2.2.1=[]from d];simp[Ug,Uc]),zx (by simp[d])];dsimp only;exact cS v l k c hc (λh=>absurd d h) rfl
   ·rw[zy (show Kx (AR j.2.2.2.1)>0 by have:=ee.2 d;have h:(VU j).length=j.2.2.2.1.length:=rfl;rw[Ug,Uc];omega),zy ⟨e,d⟩];rfl
  ·rw[zx e,zx (by simp[e])];dsimp only;exact cS v l k c hc (λh=>by omega) rfl
theorem jW{s:UX}(m:Sm s)(f:kh s.1)(a:Int):Zc (s,a)=zo (XB s a):=by
 unfold Zc;rw[dm m,TW,ZQ m,fA m f];unfold Wf XB;by_cases b:(Ua s).2=0;rotate_left
 ·rw[zy b,zy b,UD,zx b];rw[UI,zx b,zy b];rfl
 rw[zx (show ¬ (Ua s).2≠0 by simp[b]),zx (show ¬ (Ua s).2≠0 by simp[b]),zx (show ¬ (Ua s).2≠0 by simp[b]),zx (show ¬ (Ua s).2≠0 by simp[b])];have v:=Ue.1 b;unfold bQ;cases e:aX a 0 (Uf 0 s.1.2)with
 |none=>
  simp only;rw[UD,zx (by omega),UI,zx (by omega)];rfl
 |some i=>
  obtain⟨j,n,d,k,g,h,l⟩:=v.at e;simp only[d];unfold YX;rw[UD,zy rfl,U2,UL];by_cases hc:WH s.1 j=zt;rotate_left
  ·rw[zx hc,zy (by simpa using hc)];rfl
  rw[zy hc,zx (by simp[hc]),UI,zy rfl,TW,UF];by_cases c:0<Un s.1 j
  ·rw[zy (show((Un s.1 j:Int))>0 by omega),zy c,jZ m v e d c];rfl
  ·rw[zx (show ¬ ((Un s.1 j:Int))>0 by omega),zx c];rfl
end
section
open Go Sv
def VK(l:List UZ)(k:YA):Option UZ:=l.find? λx=>decide (x.1=k)
theorem VQ(x:UZ)(l:List UZ)(k:YA):VK (x::l) k=if x.1=k then zo x else VK l k:=by
 unfold VK;rw[hV];by_cases h:x.1=k<;>simp[h]
theorem af(l m:List UZ)(k:YA):VK (l++m) k=(VK l k).or (VK m k):=by
 unfold VK;rw[xl]
theorem ZJ(x:UZ)(k:YA):VK [x] k=if x.1=k then zo x else zn:=by rw[VQ];rfl
theorem eU{l:List UZ}{k:YA}{x:UZ}(h:VK l k=zo x):x.1=k/\x∈l:=by
 unfold VK at h;exact⟨by simpa using x9 h,tT h⟩
theorem ZI{l:List UZ}{k:YA}(h:∀ x∈l,x.1≠k):VK l k=zn:=by
 unfold VK;rw[List.find?_eq_none];intro x a;simpa using h x a
theorem aL:∀ {l:List UZ} {q:YA},Asc (zo q) l -> ∀ x∈l,S4 q x.1=zt
 |x::l,q,⟨a,b⟩,y,hy=>by
  rcases ey.1 hy with e|hy
  ·rw[e];exact a q rfl
  ·exact XL (a q rfl) (aL b y hy)
theorem ie:∀ {l m:List UZ} {p q:Option YA},Asc p l->Asc q m->(∀ k,VK l k=VK m k)->l=m
 |[],[],_,_,_,_,_=>rfl
 |[],y::m,_,_,_,_,h=>by
  have:=h y.1;rw[VQ,zy rfl]at this;cases this
 |x::l,[],_,_,_,_,h=>by
  have:=h x.1;rw[VQ,zy rfl]at this;cases this
 |x::l,y::m,p,q,⟨t,f⟩,⟨s,d⟩,h=>by
  have e1:=h x.1;have e2:=h y.1;rw[VQ,zy rfl,VQ]at e1;rw[VQ,VQ,zy rfl]at e2
  have g:x.1=y.1:=by
   by_cases b:y.1=x.1
   ·exact b.symm
   ·rw[zx b]at e1;rw[zx (λe=>b e.symm)]at e2;have n:=aL d x (eU e1.symm).2;have j:=aL f y (eU e2).2;rw[Vw n]at j;cases j
  rw[zy g.symm]at e1;have c:x=y:=Option.some.inj e1;subst c;refine congrArg (x::·) (ie f d λk=> ?_);have b:=h k;rw[VQ,VQ]at b;by_cases a:x.1=k
  ·have o:VK l k=zn:=ZI λz i=>by
    have:=aL f z i;rw[a]at this;exact λe=>Z6 this e.symm
   have r:VK m k=zn:=ZI λz i=>by
    have:=aL d z i;rw[a]at this;exact λe=>Z6 this e.symm
   rw[o,r]
  ·rw[zx a,zx a]at b;exact b
theorem aK(P:UZ->Bool):∀ {l:List UZ} {p:Option YA},Asc p l->Asc p (l.filter P)
 |[],_,_=>trivial
 |x::l,p,⟨b,d⟩=>by
  have c:=aK P d;rw[xT];cases P x with
  |true=>exact⟨b,c⟩
  |false=>
   refine c.weak λe a=>⟨x.1,rfl,?_⟩;exact Vw (b e a)
theorem Zu(P:UZ->Bool)(k:YA):∀ {l:List UZ} {p:Option YA},Asc p l->VK (l.filter P) k=(VK l k).filter P
 |[],_,_=>rfl
 |x::l,p,⟨h,c⟩=>by
  have d:=Zu P k c;rw[xT,VQ];by_cases a:x.1=k
  ·rw[zy a]
   have f:VK (l.filter P) k=zn:=ZI λz g=>by
    have:=aL c z (List.mem_filter.1 g).1;rw[a]at this;exact λe=>Z6 this e.symm
   cases b:P x with
   |true=>rw[zy rfl,VQ,zy a];simp[ml,b]
   |false=>rw[zx (by simp),f];simp[ml,b]
  ·rw[zx a];cases b:P x with
   |true=>rw[zy rfl,VQ,zx a];exact d
   |false=>simpa using d
def bY:List UZ->UZ->List UZ
 |[],x=>[x]
 |y::l,x=>if S4 y.1 x.1=zt then y::bY l x else if y.1=x.1 then y::l else x::y::l
theorem d6(x:UZ):∀ {l:List UZ} {p:Option YA},Asc p l->(∀ q,p=zo q->S4 q x.1=zt)->Asc p (bY l x)
 |[],p,_,hp=>⟨hp,trivial⟩
 |y::l,p,⟨d,a⟩,hp=>by
  unfold bY;by_cases h:S4 y.1 x.1=zt
  ·rw[zy h];exact⟨d,d6 x a λq c=>by cases c;exact h⟩
  ·rw[zx h];by_cases b:y.1=x.1
   ·rw[zy b];exact⟨d,a⟩
   ·rw[zx b];exact⟨hp,λq c=>by cases c;exact aV (by simpa using h) b,a⟩
theorem d7(x:UZ)(k:YA):∀ {l:List UZ} {p:Option YA},Asc p l->VK (bY l x) k=(VK l k).or (if x.1=k then zo x else zn)
 |[],_,_=>by unfold bY;rw[ZJ];rfl
 |y::l,p,⟨f,d⟩=>by
  unfold bY;by_cases h:S4 y.1 x.1=zt
  ·rw[zy h,VQ,VQ,d7 x k d];split<;>rfl
  ·rw[zx h];by_cases b:y.1=x.1
   ·rw[zy b,VQ,<- b];by_cases a:y.1=k
    ·rw[zy a];rfl
    ·rw[zx a,zx a];cases VK l k<;>rfl
   ·rw[zx b,VQ];have c:S4 x.1 y.1=zt:=aV (by simpa using h) b;by_cases a:x.1=k
    ·rw[zy a]
     have:VK (y::l) k=zn:=ZI λz hz=>by
      rw[<- a];rcases ey.1 hz with e|hz
      ·rw[e];exact b
      ·exact λe=>Z6 (XL c (aL d z hz)) e.symm
     rw[this,zy a];rfl
    ·rw[zx a,zx a];cases VK (y::l) k<;>rfl
theorem ic(k:YA):∀ (r l:List UZ),Asc zn l->Asc zn (r.foldl bY l)/\VK (r.foldl bY l) k=(VK l k).or (VK r k)
 |[],l,h=>⟨h,by show VK l k=_;cases VK l k<;>rfl⟩
 |x::r,l,h=>by
  obtain⟨a,b⟩:=ic k r (bY l x) (d6 x h λ_ h=>by cases h);refine⟨a,?_⟩;rw[iz,b,d7 x k h,VQ,hM]
  congr 1
  split<;>rfl
def jF(rs:List Uy)(l:List UZ):List UZ:=rs.foldl (λout r=>r.2.foldl bY out) l
def WD:List Uy->YA->Option UZ
 |[],_=>zn
 |r::rs,k=>(VK r.2 k).or (WD rs k)
theorem dN(k:YA):∀ (rs:List Uy) (l:List UZ),Asc zn l->Asc zn (jF rs l)/\VK (jF rs l) k=(VK l k).or (WD rs k)
 |[],l,h=>⟨h,by show VK l k=_;cases VK l k<;>rfl⟩
 |r::rs,l,h=>by
  obtain⟨a,b⟩:=ic k r.2 l h;obtain⟨c,d⟩:=dN k rs (r.2.foldl bY l) a;refine⟨c,?_⟩;show VK (jF rs (r.2.foldl bY l)) k=_;rw[d,b,hM];rfl
def YS(x:UZ):Bool:=!x.2.2.1
def LW(L:Ub):List UZ:=(jF (VS L.2) []).filter YS
theorem lJ{L M:Ub}(h:∀ k,(WD (VS L.2) k).filter YS=(WD (VS M.2) k).filter YS):LW L=LW M:=by
 have a:=λk=>dN k (VS L.2) [] trivial;have b:=λk=>dN k (VS M.2) [] trivial;refine ie (aK YS (a []).1) (aK YS (b []).1) λk=> ?_;show VK ((jF (VS L.2) []).filter YS) k=VK ((jF (VS M.2) []).filter YS) k;rw[Zu YS k (a []).1,Zu YS k (b []).1,(a k).2,(b k).2];exact h k
theorem ec:∀ (a b:List Uy) (k:YA),WD (a++b) k=(WD a k).or (WD b k)
 |[],b,k=>rfl
 |r::a,b,k=>by
  show(VK r.2 k).or (WD (a++b) k)=((VK r.2 k).or (WD a k)).or (WD b k);rw[ec a b k,hM]
theorem i5:∀ {l:List UZ} {s:VO} {k:YA},au s l->s.1=zt->S4 k s.2.1=zt->VK l k=zn
 |[],_,_,_,_,_=>rfl
 |x::l,s,k,⟨_,c,d⟩,b,hk=>by
  have a:S4 k x.1=zt:=fX hk (c b);rw[VQ,zx (λe=>Z6 a e.symm)];exact i5 d rfl a
theorem eL(k:YA):∀ {l:List UZ} {s:VO},au s l->VK (W0 s l) k=if s.1=zt/\s.2.1=k then zn else(VK l k).filter λx=> !(s.2.2&&x.2.2.1)
 |[],s,_=>by unfold W0;split<;>rfl
 |x::l,s,⟨_,g,c⟩=>by
  have f:=eL k c;simp only[true_and]at f;unfold W0;rw[af,f,VQ];by_cases a:x.1=k
  ·rw[zy a,zy a];by_cases hs:s.1=zt/\s.2.1=k
   ·rw[zy hs];have:keep s x=zf:=by unfold keep;rw[hs.1,hs.2,a];simp
    rw[this];rfl
   ·rw[zx hs]
    have:keep s x = !(s.2.2&&x.2.2.1):=by
     unfold keep
     have:(s.1&&decide (x.1=s.2.1))=zf:=by
      cases b:s.1 with
      |false=>rfl
      |true=>
       simp only[Bool.true_and,decide_eq_false_iff_not];intro e;exact hs ⟨b,by rw[<- e];exact a⟩
     rw[this];rfl
    rw[this];cases d:(!(s.2.2&&x.2.2.1))with
    |true=>rw[zy rfl,ZJ,zy a];simp[ml,d]
    |false=>rw[zx (by simp)];simp[ml,d,VK]
  ·rw[zx a,zx a]
   have b:VK (if keep s x=zt then[x]else[]) k=zn:=by
    split
    ·rw[ZJ,zx a]
    ·rfl
   rw[b,s9];by_cases hs:s.1=zt/\s.2.1=k
   ·rw[zy hs]
    have h:S4 k x.1=zt:=by
     rw[<- hs.2];refine aV (g hs.1) λe=>a ?_;rw[e];exact hs.2
    rw[i5 c rfl h];rfl
   ·rw[zx hs]
theorem cM{a b:List UZ}(va:VL a)(l:VL b)(k:YA):∀ {n:Nat},n<=a.length+b.length->VK (Uq a b n) k=(VK (a.take (pos a b n).1) k).or (VK (b.take (pos a b n).2) k)
 |0,_=>rfl
 |n+1,h=>by
  have G:=cM va l k (n:=n) (by omega);obtain⟨q,hs⟩:=W9 va l (n:=n) (by omega);obtain⟨x,c,_⟩:=Wc va l (n:=n) (by omega);rw[Xh va l c,af,G,ZJ];unfold bW at c;rw[show pos a b (n+1)=if Yn a b (pos a b n).1 (pos a b n).2=zt then((pos a b n).1+1,(pos a b n).2)else((pos a b n).1,(pos a b n).2+1)from rfl]
  revert c q;generalize (pos a b n).1=i;generalize (pos a b n).2=j;intro q c;cases g:Yn a b i j with
  |true=>
   rw[zy g]at c;rw[zy rfl];simp only;rw[gw,c,xb,af,ZJ,hM,hM]
   congr 1
   by_cases r:x.1=k
   ·rw[zy r]
    have:VK (b.take j) k=zn:=ZI λy F=>by
     obtain⟨m,o⟩:=eg F;rw[p8]at o;split at o
     ·rename_i E;have D:=q.jb;have f:b[j-1]?=zo b[j-1]:=co (by omega);have B:=q.pb (j-1) (by omega) _ x f c
      have C:S4 b[j-1].1 y.1=zf:=by
       by_cases s:m=j-1
       ·subst s;rw[f]at o;cases o;exact Xj _
       ·have A:=l.asc
        have:∀ d,m+d+1<=j-1 -> ∀ z,b[m+d+1]?=zo z->S4 y.1 z.1=zt:=by
         intro d
         induction d with
         |zero=>intro _ z t;exact l.lt o t
         |succ d u=>
          intro hd z t;have p:b[m+d+1]?=zo b[m+d+1]:=co (by omega);exact XL (u (by omega) _ p) (l.lt p t)
        exact Vw (this (j-1-m-1) (by omega) _ (by rw[show m+(j-1-m-1)+1=j-1 by omega];exact f))
      intro e;have w:S4 y.1 x.1=zt:=cb C B;rw[e,r,Xj]at w;cases w
     ·cases o
    rw[this];rfl
   ·rw[zx r];cases VK (b.take j) k<;>rfl
  |false=>
   rw[zx (show ¬ Yn a b i j=zt by rw[g];decide)]at c;rw[zx (show ¬ (zf=zt) by decide)];simp only;rw[gw,c,xb,af,ZJ,hM]
theorem rM{a b:List UZ}(va:VL a)(e:VL b)(c:Bool)(k:YA):VK (WG a b c (a.length+b.length)).2.2.1 k=((VK a k).or (VK b k)).filter λx=> !(c&&x.2.2.1):=by
 have f:=YH va e c (ed (a.length+b.length));obtain⟨d,hs⟩:=W9 va e (ed (a.length+b.length));show VK (W0 (s0 c) (Uq a b (a.length+b.length))) k=_;rw[eL k f,zx (by simp),cM va e k (ed _)];rw[eo (by have:=d.ia;have:=d.jb;omega),eo (by have:=d.ia;have:=d.jb;omega)]
end
section
open Go Sv
def aj(f:Nat->Option UZ):Nat->Nat->Option UZ
 |_,0=>zn
 |i,m+1=>(f i).or (aj f (i+1) m)
theorem iu(f:Nat->Option UZ):∀ (m i:Nat),aj f (i+1) m=aj (λj=>f (j+1)) i m
 |0,_=>rfl
 |m+1,i=>by
  show(f (i+1)).or (aj f (i+1+1) m)=(f (i+1)).or (aj (λj=>f (j+1)) (i+1) m);rw[iu f m (i+1)]
theorem ZK{f g:Nat->Option UZ}:∀ (m i:Nat),(∀ j,i<=j->j<i+m->f j=g j)->aj f i m=aj g i m
 |0,_,_=>rfl
 |m+1,i,h=>by
  show(f i).or (aj f (i+1) m)=(g i).or (aj g (i+1) m);rw[h i (by omega) (by omega),ZK m (i+1) λj a b=>h j (by omega) (by omega)]
theorem dh:∀ (m i:Nat),aj (λ_=>zn) i m=zn
 |0,_=>rfl
 |m+1,i=>by show(zn:Option UZ).or _=_;rw[s9];exact dh m (i+1)
theorem cI(f:Nat->Option UZ):∀ (p i q:Nat),aj f i (p+q)=(aj f i p).or (aj f (i+p) q)
 |0,i,q=>by rw[en];rfl
 |p+1,i,q=>by
  rw[show p+1+q=(p+q)+1 by omega];show(f i).or (aj f (i+1) (p+q))=((f i).or (aj f (i+1) p)).or (aj f (i+(p+1)) q);rw[cI f p (i+1) q,hM,show i+1+p=i+(p+1) by omega]
theorem bG(k:YA):∀ (ls:List (List Uy)) (K:Nat),ls.length<=K->WD (VS ls) k=aj (λj=>WD (Ud ls j).reverse k) 0 K
 |[],K,_=>by
  have:(λj=>WD (Ud [] j).reverse k)=λ_=>zn:=by
   funext j;have:Ud [] j=[]:=rfl
   rw[this];rfl
  rw[this,dh];rfl
 |rs::ls,0,h=>by simp at h
 |rs::ls,K+1,h=>by
  have e:VS (rs::ls)=rs.reverse++VS ls:=rfl;rw[e,ec,bG k ls K (by simpa using h)];show _=(WD (Ud (rs::ls) 0).reverse k).or (aj (λj=>WD (Ud (rs::ls) j).reverse k) (0+1) K);rw[iu];rfl
theorem jO{s:UX}(v:VSt s)(C:kh s.1){n:Nat}{j:Job}(r:JobAt s.1 n j)(E:¬ 0<Un s.1 j)(hc:WH s.1 j=zt)(G:VU j≠[]->s.2.2<=1000000):LW (WN s j)=LW s.1:=by
 have F:=ip v C r E hc G;obtain⟨P,S,K,U,W⟩:=r.out v.lev (C n);have d:j.1.toNat=n:=by rw[K];simp
 obtain⟨b,c,q,m,B,f,M,t,v0,v1⟩:=r;have J:=X9.1 B
 have L:Un s.1 j=c.2.length+b.2.length-m:=by
  rw[f];unfold Un;simp only[bl,B];show c.2.length+b.2.length-((m:Int)).toNat=_;rw[bl]
 have u:m=c.2.length+b.2.length:=by omega
 subst u
 have p:∀ k,VK (VU j) k=((VK c.2 k).or (VK b.2 k)).filter λx=> !(q&&x.2.2.1):=λk=>by
  rw[f];exact rM v1 v0 q k
 refine lJ λk=> ?_;have N:=F.lev.len;have O:=v.lev.len;rw[bG k _ 14 (by omega),bG k _ 14 (by omega)];rw[show 14=n+(1+(13-n)) by omega,cI,cI _ n 0];have w:ZT s j=n\/ZT s j=n+1:=by unfold ZT;rw[d];split<;>omega
 have l:aj (λi=>WD (Ud (WN s j).2 i).reverse k) 0 n=aj (λi=>WD (Ud s.1.2 i).reverse k) 0 n:=ZK _ _ λi _ hi=>by
  rw[Wm d,zx (by rintro⟨_,h⟩;omega),zx (by omega)]
 rw[l];generalize aj (λi=>WD (Ud s.1.2 i).reverse k) 0 n=A
 have y:aj (λi=>WD (Ud (WN s j).2 i).reverse k) (0+n) (1+(13-n))=(VK (VU j) k).or (aj (λi=>WD (Ud s.1.2 i).reverse k) (n+1) (13-n)):=by
  rw[en,Ds 1];show(WD (Ud (WN s j).2 n).reverse k).or (aj (λi=>WD (Ud (WN s j).2 i).reverse k) (n+1) (13-n))=_;by_cases a:VU j=[]
  ·rw[Wm d,zx (by simp[a]),zy rfl,a];refine congrArg _ (ZK _ _ λi hi _=> ?_);rw[Wm d,zx (by simp[a]),zx (by omega)]
  ·rcases w with ht|ht
   ·rw[Wm d,zy ⟨a,ht.symm⟩,zy rfl]
    have e:WD (([]:List Uy)++[(s.2.2,VU j)]).reverse k=VK (VU j) k:=by
     show(VK (VU j) k).or zn=_;cases VK (VU j) k<;>rfl
    rw[e];refine congrArg _ (ZK _ _ λi hi _=> ?_);rw[Wm d,zx (by rintro⟨_,h⟩;omega),zx (by omega)]
   ·rw[Wm d,zx (by rintro⟨_,h⟩;omega),zy rfl];have D:=F.to12 a;rw[show 13-n=(12-n)+1 by omega];show(zn:Option UZ).or ((WD (Ud (WN s j).2 (n+1)).reverse k).or (aj _ (n+1+1) (12-n)))=(VK (VU j) k).or ((WD (Ud s.1.2 (n+1)).reverse k).or (aj _ (n+1+1) (12-n)));rw[Wm d,zy ⟨a,ht.symm⟩,zx (by omega),List.reverse_append,s9];have e:WD ([(s.2.2,VU j)].reverse++(Ud s.1.2 (n+1)).reverse) k=(VK (VU j) k).or (WD (Ud s.1.2 (n+1)).reverse k):=rfl;rw[e,hM];refine congrArg _ (congrArg _ (ZK _ _ λi hi _=> ?_));rw[Wm d,zx (by rintro⟨_,h⟩;omega),zx (by omega)]
 have o:aj (λi=>WD (Ud s.1.2 i).reverse k) (0+n) (1+(13-n))=((VK c.2 k).or (VK b.2 k)).or (aj (λi=>WD (Ud s.1.2 i).reverse k) (n+1) (13-n)):=by
  rw[en,Ds 1];show(WD (Ud s.1.2 n).reverse k).or _=_;rw[J];refine congrArg (λz=>Option.or z _) ?_;show(VK c.2 k).or ((VK b.2 k).or zn)=_;cases VK b.2 k<;>rfl
 rw[y,o,p k];cases q with
 |false=>
  have:((VK c.2 k).or (VK b.2 k)).filter (λx=> !(zf&&x.2.2.1))=(VK c.2 k).or (VK b.2 k):=by
   cases(VK c.2 k).or (VK b.2 k)<;>simp[ml]
  rw[this]
 |true=>
  have I:aj (λi=>WD (Ud s.1.2 i).reverse k) (n+1) (13-n)=zn:=by
   rw[ZK (g:=λ_=>zn) _ _ λi hi _=> ?_,dh];have:Ud s.1.2 i=[]:=by unfold Ud;rw[a9 (by have:=t rfl;omega)];rfl
   rw[this];rfl
  rw[I];cases A with
  |some x=>rfl
  |none=>
   cases(VK c.2 k).or (VK b.2 k)with
   |none=>rfl
   |some x=>
    cases hd:x.2.2.1<;>simp[ml,YS,hd]
end
section
open Go Sv
theorem jf{t:UX}(h:t=zS\/VSt t):XI (t,t)=zo zt:=by
 rcases h with h|h
 ·rw[h];exact xi
 ·exact gP h
end
section
open Go Sv
end
section
open Go Sv
def Uj(l:List Uy):Nat:=(l.map λr=>r.2.length).sum
theorem Vt(r:Uy)(l:List Uy):Uj (r::l)=r.2.length+Uj l:=by simp[Uj]
theorem VT(l m:List Uy):Uj (l++m)=Uj l+Uj m:=by simp[Uj]
theorem ky(l:List Uy):Uj l.reverse=Uj l:=by simp[Uj]
theorem dS{l:List Uy}(h:∀ r∈l,r.2.length<=5000):Uj l<=l.length*5000:=by
 induction l with
 |nil=>simp[Uj]
 |cons r l b=>
  rw[Vt,ci];have:=h r (by simp);have:=b λx a=>h x (by simp[a]);omega
theorem aO:∀ ls:List (List Uy),Uj (VS ls)=Uj ls.flatten/\(VS ls).length=ls.flatten.length
 |[]=>⟨rfl,rfl⟩
 |rs::ls=>by
  obtain⟨a,b⟩:=aO ls;have e:VS (rs::ls)=rs.reverse++VS ls:=rfl;rw[e,lc,VT,VT,ky,a];simp[b]
theorem rD{S β:Type}{f:S->Option (LR S β)}{r:β}(mk:Int->Nat->S)(n:Nat){s:S}(b:s=mk ((n:Int)-1) n)(g:n<1000000000)(hs:∀ k,k<n->f (mk (k:Int) (k+1))=zo (.nx (mk ((k:Int)-1) k)))(c:f (mk (-1) 0)=zo (.dn r)):loop f s=zo r:=by
 subst b
 have a:∀ k,k<=n->IX (k+1) f (mk ((k:Int)-1) k)=zo r:=by
  intro k
  induction k with
  |zero=>intro _;exact U7 c
  |succ k d=>
   intro e;have:=hs k (by omega);rw[show((k+1:Nat):Int)-1=(k:Int) by omega,U1 this];exact d (by omega)
 exact Vk (by omega) (a n (ed _))
theorem ZY{L:Ub}(v:VLev L):L.2.flatten.length<=24/\Uj L.2.flatten<=24*5000:=by
 have b:L.2.flatten.length<=24:=by
  have h:=Z1 L.2 v.two;have:=v.len;rw[(aO L.2).2]at h;omega
 refine⟨b,?_⟩
 have:=dS (l:=L.2.flatten) λr a=>by
  obtain⟨rs,c,d⟩:=l4.1 a;obtain⟨i,hi⟩:=eg c;exact((v.lev i rs hi).2 r d).vl.len
 exact wl this (xk _ b)
def fo(L:Ub):Int×(Int×Int):=if(WF L).2.2≠0 then(0,(0,(WF L).2.2))else((Uj L.2.flatten:Int),((L.2.flatten.length:Int),0))
theorem ki(L:Ub)(g:L.2.length<=1048576)(n:∀ rs∈L.2,rs.length<=1048576 /\ ∀ r∈rs,r.2.length<=9223372036854775807):Yr L=zo (fo L):=by
 unfold Yr fo;simp only[Ug,Uc];rw[Zf _ g n,TW,UI];by_cases b:(WF L).2.2=0;rotate_left
 ·rw[zx b,zy b]
 rw[zy b,zx (by simp[b])];have v:=YW.1 b;have p:=v.len;obtain⟨s1,s2⟩:=ZY v
 rw[Vq (l:=L.2) (σ:=Nat×Nat) (s:=((0:Int),((0:Int),(0:Int)))) (λi a=>((i:Int),((a.1:Int),(a.2:Int)))) (λls i a=>a.1+Uj ls.flatten=Uj L.2.flatten/\a.2+ls.flatten.length=L.2.flatten.length) (λ_ _ _=>(0,(((L.2.length:Int),((Uj L.2.flatten:Int),(L.2.flatten.length:Int))),()))) (0,0) rfl (by omega) ⟨by simp,by simp⟩ (λa h=>by
  obtain⟨c,d⟩:=h;simp only;rw[re,Sd,<- c,<- d]
  simp[Uj]) (λi rs ls a hd hi e h=>by
   obtain⟨c,d⟩:=h;rw[lc,VT]at c;rw[lc,hI]at d;have o:=v.two rs (bo hi);refine⟨(a.1+Uj rs,a.2+rs.length),?_,⟨by simp only;omega,by simp only;omega⟩,rfl⟩;simp only;rw[rl e,TB,UY,Tq hi,TG (by omega)]
   rw[rD (λk m=>(k,(((a.1+Uj (rs.drop m):Nat):Int),((a.2+(rs.length-m):Nat):Int)))) rs.length (by simp[Uj]) (by omega) (λk f=>by
    have j:rs[k]?=zo rs[k]:=co f;have hd:Uj (rs.drop k)=rs[k].2.length+Uj (rs.drop (k+1)):=by rw[List.drop_eq_getElem_cons f,Vt]
    have hc:Uj (rs.drop k)<=Uj rs:=by
     have:=VT (rs.take k) (rs.drop k);rw[List.take_append_drop]at this;omega
    simp only;rw[UE,zy (by omega),UY,Tq j,TG (by omega),TE (by omega),TE (by omega),hd]
    congr 4
    ·omega
    ·congr 1
     omega) (r:=(0,(((-1:Int),(((a.1+Uj rs:Nat):Int),((a.2+rs.length:Nat):Int))),()))) rfl,TW]
   rw[Ui hi (by omega)]),TW]
theorem jU{L:Ub}(v:VLev L):YQ L=zo ((Uj L.2.flatten:Int),((L.2.flatten.length:Int),0)):=by
 unfold YQ;simp only[Ug,Uc];rw[cV v,TW];simp only;rw[UI,zy rfl];obtain⟨s1,s2⟩:=ZY v;obtain⟨n1,n2⟩:=aO L.2
 rw[Vq (l:=VS L.2) (σ:=Nat) (s:=((0:Int),(0:Int))) (λi a=>((a:Int),(i:Int))) (λls i a=>a+Uj ls=Uj L.2.flatten) (λ_ _ _=>(0,(((Uj L.2.flatten:Int),((VS L.2).length:Int)),()))) 0 rfl (by omega) (by rw[n1];simp) (λa h=>by
  simp only
  rw[re,Sd,<- h];simp[Uj]) (λi r ls a hd hi b h=>by
   rw[Vt]at h;refine⟨a+r.2.length,?_,by omega,rfl⟩;simp only;rw[rl b,TB,UY,Tq hi,TE (by omega),Ui hi (by omega)]
   rfl),TW,n2]
theorem qm{s:UX}(m:Sm s)(a:Int):Zr (s,a)=zo (Wf 0 (λs j=>((Un s.1 j:Int),0)) s a):=by
 unfold Zr;rw[dW m,TW];unfold Wf bQ Y5;by_cases b:(Ua s).2=0;rotate_left
 ·rw[zy b,UI,zx b,zy b]
 rw[zx (show ¬ (Ua s).2≠0 by simp[b]),zx (show ¬ (Ua s).2≠0 by simp[b])];have v:=Ue.1 b;cases e:aX a 0 (Uf 0 s.1.2)with
 |none=>rfl
 |some i=>
  obtain⟨j,n,c,g,f,d,h⟩:=v.at e;simp only[c];rw[UI,zy rfl,UY,Tq c,(JobAt.left d).1,TW]
def bR(s:UX)(d:Int):Nat:=match bQ s d with
 |some j=>Un s.1 j+1
 |none=>0
def ab(s:UX):Nat:=((Uf 0 s.1.2).map (bR s)).sum
theorem VSt.debt{s:UX}(v:VSt s){d:Int}(h:d∈Uf 0 s.1.2)(m:Sm s):cB (s,d)=zo ((bR s d:Int),0)/\bT (s,d)=zo ((bR s d:Int),0)/\bR s d<=10001:=by
 obtain⟨j,n,b,f,g,c,k⟩:=v.atDue h;have e:(Ua s).2=0:=Ue.2 v;have hd:bR s d=Un s.1 j+1:=by unfold bR;rw[b]
 have i:=(JobAt.left c).2.2
 have a:Wf (0:Int) (λs j=>((Un s.1 j:Int),0)) s d=((Un s.1 j:Int),0):=by
  unfold Wf;rw[zx (show ¬ (Ua s).2≠0 by simp[e]),b]
 unfold cB bT;rw[qm m,ZQ m,a,hd,TW];simp only[TW];rw[UI,zy rfl,TE (by omega)];exact⟨rfl,rfl,by omega⟩
def Vs(b:Uy):Int×Int:=if b.1<1\/b.1>16 then(0,7)else if(b.2.length:Int)>b.1 then(0,3)else Zn zn 0 b.2
theorem bu(b:Uy):WV b=zo (Vs b):=by
 unfold WV Vs;rw[UH,UF,UF];by_cases c:b.1<1
 ·rw[zy c,zy (.inl c)]
 rw[zx c];by_cases d:b.1>16
 ·rw[zy d,zy (.inr d)]
 rw[zx d,zx (show ¬ (b.1<1\/b.1>16) by omega),Ug,Uc];by_cases a:(b.2.length:Int)>b.1
 ·rw[zy a,zy a]
 rw[zx a,zx a];have e:=W2 b.2 (by omega);unfold U8 WI at e;rw[UF,Ug,Uc,zx (show ¬ (b.2.length:Int)>5000 by omega),zx (show ¬ b.2.length>5000 by omega)]at e;exact e
def Uo(f:VZ):Int:=if(Vs f.1).2≠0 then(Vs f.1).2 else if(Ua f.2).2≠0 then(Ua f.2).2 else if f.1.1≠f.2.1.1 then 6 else 0
theorem bz{f:VZ}(m:Sm f.2):WX f=zo (Uo f):=by
 unfold WX Uo;rw[bu,TW,UI];by_cases a:(Vs f.1).2=0;rotate_left
 ·rw[zx a,zy a]
 rw[zy a,zx (show ¬ (Vs f.1).2≠0 by simp[a]),sE m,TW,UI];by_cases b:(Ua f.2).2=0;rotate_left
 ·rw[zx b,zy b]
 rw[zy b,zx (show ¬ (Ua f.2).2≠0 by simp[b]),UI];by_cases c:f.1.1=f.2.1.1
 ·rw[zy c,zx (show ¬ f.1.1≠f.2.1.1 by simp[c])]
 ·rw[zx c,zy c]
end
section
open Go Sv
end
section
open Go Sv
def bp(s:UX)(l:List UZ):Ub:=VY s.1 0 (Ud s.1.2 0++[(s.2.2,l)])
def cf(s:UX)(l:List UZ):UX×Int:=
 if(Ua s).2≠0 then(zS,(Ua s).2)else if s.2.2>1000000\/2<=(Ud s.1.2 0).length then(zS,5)else if(WI l).2≠0 then(zS,(WI l).2)
 else if kR [] (VJ s.1.1 0) (s.2.2,l)≠0 then(zS,kR [] (VJ s.1.1 0) (s.2.2,l))else(Yy s (bp s l) (s.2.2+1) (-1),0)
theorem eR{s:UX}(v:VSt s):∀ y∈s.1.2.flatten,y.1≠s.2.2:=λy a=>by
 have:=Yl a;have:=v.n3;omega
theorem dO{s:UX}(v:VSt s){l:List UZ}(a:(Ud s.1.2 0).length<2)(b:kR [] (VJ s.1.1 0) (s.2.2,l)=0):VLev (bp s l):=
 v.lev.arrive (by omega) a (iq.1 b).1 (eR v)
theorem dQ(s:UX)(l:List UZ)(i:Nat):Ud (bp s l).2 i=if i=0 then Ud s.1.2 0++[(s.2.2,l)]else Ud s.1.2 i:=by
 unfold bp;rw[XM]
theorem qp{s:UX}(v:VSt s){l:List UZ}(d:(Ud s.1.2 0).length<2)(h:kR [] (VJ s.1.1 0) (s.2.2,l)=0)(t:s.2.2<=1000000):VSt (Yy s (bp s l) (s.2.2+1) (-1)):=by
 have m:=v.n1;refine fb v (dO v d h) (by omega) (by omega) (λx o=> ?_) (λn q r j _ _=> ?_)
 ·obtain⟨i,hi⟩:=Z0.1 o
  have a:∀ {y:Uy} {k:Nat},y∈Ud s.1.2 k->y.1<s.2.2+1:=fun {y k} p=>by
   have:=Yl (Z0.2 ⟨k,p⟩);have:=v.n3;omega
  rw[dQ]at hi;by_cases g:i=0
  ·rw[zy g]at hi;rcases l6.1 hi with hi|hi
   ·exact a hi
   ·rw[q9.1 hi];show s.2.2<s.2.2+1;omega
  ·rw[zx g]at hi;exact a hi
 ·have c:=X9.1 j;have f:n≠0:=λe=>by rw[e]at c;rw[c]at d;simp at d
  have b:Ud (bp s l).2 n=[q,r]:=by rw[dQ,zx f,c]
  refine⟨X9.2 b,λu=>(ir (dO v d h).last (by rw[b];simp) λi hi=> ?_).symm⟩;rw[dQ,zx (by omega)];unfold Ud;rw[a9 (by omega)];rfl
theorem wz{s:UX}(v:VSt s)(h:s.2.2<=1000000)(l:List UZ):kR [] (VJ s.1.1 0) (s.2.2,l)=if(WI l).2≠0 then(WI l).2 else if l.length=0 then 4 else if(l.length:Int)>VJ s.1.1 0 then 3 else 0:=by
 have:=v.n1;unfold kR;rw[zx (by simp only;omega)];simp
theorem jB{s:UX}(m:Sm s){l:List UZ}(o:l.length<=1000):XD (s,l)=zo (cf s l):=by
 unfold XD cf;rw[sE m,TW,UI];by_cases b:(Ua s).2=0;rotate_left
 ·rw[zx b,zy b];rfl
 have v:=Ue.1 b;have j:=v.n1;have k:=bE v.lev (n:=0) (by omega);rw[zy b,zx (by simp[b])];show(bd (V5 (s.1,((0:Nat):Int))) λp=>_)=_;rw[k,TW];simp only;rw[zx (show ¬ (0>=12) by omega),UI,zy rfl,UF];by_cases d:s.2.2>1000000
 ·rw[zy d,zy (.inl d)];rfl
 have e:Yu s.1 0=decide ((Ud s.1.2 0).length<2):=by unfold Yu Ud;simp
 rw[zx d,U2,e,Vx];by_cases f:2<=(Ud s.1.2 0).length
 ·rw[zx (by omega),zy (.inr f)];rfl
 rw[zy (by omega),zx (show ¬ (s.2.2>1000000\/2<=(Ud s.1.2 0).length) by omega)];rw[VG (by simp only[AR];omega),an _ (by simp only;omega),TW,zx (show ¬ (s.2.2<1\/s.2.2>1000000) by omega),UI];by_cases c:(WI l).2=0;rotate_left
 ·rw[zx c,zy c];rfl
 rw[zy c,zx (by simp[c])];have g:=bV v.lev (n:=0) (by omega) (x:=(s.2.2,l)) (by simp only;omega) (eR v) (by omega);show(bd (U5 (s.1,(((0:Nat):Int),(s.2.2,l)))) λq=>_)=_;rw[g,TW];by_cases a:kR [] (VJ s.1.1 0) (s.2.2,l)=0;rotate_left
 ·rw[zy a,zy a,UI,zx a];rfl
 rw[zx (by simp[a]),zx (by simp[a]),UI,zy rfl];have i:=v.jsmall;have h:=Zw v.nodup (by omega) (dO v (by omega) a) (s.2.2+1) (-1);rw[TE (by omega)];show(bd (Ut (s,(bp s l,(s.2.2+1,(-1))))) λr=>_)=_;rw[h];rfl
end
section
open Go Sv
end
section
open Go Sv
end
section
open Go Sv
end
section
open Go Sv
def Gd(s0 s:UX):Prop:=VSt s/\LW s.1=LW s0.1/\Uj s.1.2.flatten<=2000
theorem qw{l:List Uy}{r:Uy}(h:r∈l):r.2.length<=Uj l:=by
 induction l with
 |nil=>cases h
 |cons x l a=>
  rw[Vt];rcases ey.1 h with e|h
  ·rw[e];omega
  ·have:=a h;omega
theorem Z8{L:Ub}(h:Uj L.2.flatten<=2000):kh L:=λi r a=>by
 have:=qw (Z0.2 ⟨i,a⟩);omega
theorem eC{s:UX}(v:VSt s)(h:kh s.1){n:Nat}{j:Job}(g:JobAt s.1 n j)(C:¬ 0<Un s.1 j):Uj (WN s j).2.flatten<=Uj s.1.2.flatten:=by
 obtain⟨E,F,y,G,I⟩:=g.out v.lev (h n);have w:j.1.toNat=n:=by rw[y];simp
 have a:=h n;obtain⟨d,e,m,k,u,c,x,D,v0,v1⟩:=g;have i:=X9.1 u;rw[i]at a;have B:=a d (by simp);have f:=a e (by simp)
 have l:(VU j).length<=e.2.length+d.2.length:=by
  rw[c];exact(gG v1 v0 m x (by omega)).2
 obtain⟨p,q,f,o⟩:=YE s.1 n []
 have e1:Uj s.1.2.flatten=Uj p+((d.2.length+e.2.length)+Uj q):=by
  rw[f,i,VT,VT,Vt,Vt];simp[Uj]
 have e2:Uj (VY s.1 n []).2.flatten=Uj p+Uj q:=by rw[o,VT,VT];simp[Uj]
 unfold WN;rw[w];by_cases b:VU j=[]
 ·rw[zy b];omega
 ·rw[zx b];obtain⟨z,A,r,t⟩:=YE (VY s.1 n []) (ZT s j) (Ud (VY s.1 n []).2 (ZT s j)++[(s.2.2,VU j)]);have e3:Uj (VY s.1 n []).2.flatten=Uj z+(Uj (Ud (VY s.1 n []).2 (ZT s j))+Uj A):=by rw[r,VT,VT]
  rw[t,VT,VT,VT,Vt];simp only[Uj,List.map_nil,List.sum_nil];simp only[Uj]at e3 e2 e1;omega
theorem dX{s:UX}(v:VSt s){d:Int}(h:d∈Uf 0 s.1.2):∃ (i:Nat) (j:Job) (n:Nat),aX d 0 (Uf 0 s.1.2)=zo i/\s.2.1[i]?=zo j/\d=(n:Int)/\j.1=(n:Int)/\JobAt s.1 n j:=by
 obtain⟨i,hi⟩:=dY (k:=0) h;obtain⟨j,n,a,b,c,d,_⟩:=v.at hi;exact⟨i,j,n,hi,a,b,c,d⟩
theorem jM{s0 s:UX}(g:Gd s0 s){d:Int}(h:d∈Uf 0 s.1.2):∃ (c:Bool) (t:UX) (b:Bool) (e:Int),XP (s,d)=zo (c,0)/\Vd (s,d)=zo (t,(b,e))/\(s.2.2<=1000000->c=decide (e=0))/\(e=0->Gd s0 t):=by
 obtain⟨v,z,hc⟩:=g;have r:=Z8 hc;have m:=v.sm;obtain⟨i,j,n,hi,y,hd,w,q⟩:=dX v h;have A:(Ua s).2=0:=Ue.2 v;have o:bQ s d=zo j:=by unfold bQ;rw[hi];exact y
 have p:XP (s,d)=zo (WH s.1 j,0):=by
  rw[fe m];unfold Wf;rw[zx (by simp[A]),o]
 have k:Vd (s,d)=zo (YX s j):=by
  rw[dM m r];unfold XB;rw[zx (by simp[A]),o]
 refine⟨WH s.1 j,(YX s j).1,(YX s j).2.1,(YX s j).2.2,p,k,?_⟩;unfold YX;by_cases l:WH s.1 j=zf
 ·rw[zy l,l];exact⟨λ_=>by simp,λh=>by cases h⟩
 have a:WH s.1 j=zt:=by simpa using l
 rw[zx l];by_cases f:0<Un s.1 j
 ·rw[zy f];refine⟨λ_=>by simp[a],λ_=>⟨ld v (by rw[w,<- hd];exact hi) y q f,z,hc⟩⟩
 rw[zx f];unfold Zv;rw[zx (λh=>h.elim f l)];by_cases u:s.2.2>1000000/\VU j≠[]
 ·rw[zy u];exact⟨λh=>by omega,λh=>by cases h⟩
 rw[zx u]
 have x:VU j≠[]->s.2.2<=1000000:=λC=>by
  by_cases B:s.2.2>1000000
  ·exact absurd ⟨B,C⟩ u
  ·omega
 refine⟨λ_=>by simp[a],λ_=>⟨lE v r q f a x,?_,?_⟩⟩
 ·exact(jO v r q f a x).trans z
 ·have:=eC v r q f;show Uj (WN s j).2.flatten<=2000;omega
theorem eI:∀ (ls:List (List Uy)) (i:Nat),(Uf i ls).Pairwise (· < ·)
 |[],_=>.nil
 |rs::ls,i=>by
  have a:=eI ls (i+1);have b:=(bA ls (i+1)).2;rw[YC];split
  ·refine List.pairwise_cons.2 ⟨λd hd=> ?_,a⟩;have:=b d hd;omega
  ·exact a
theorem ad:∀ {ls:List (List Uy)} {i n:Nat},(Ud ls n).length=2->((i+n:Nat):Int)∈Uf i ls
 |[],i,n,h=>by simp[Ud]at h
 |rs::ls,i,0,h=>by
  have h':rs.length=2:=h;rw[YC,zy h'];simp
 |rs::ls,i,n+1,h=>by
  rw[YC];refine sk _ ?_;have:=ad (ls:=ls) (i:=i+1) (n:=n) h
  rwa [show i+1+n=i+(n+1) by omega]at this
theorem jL{s:UX}(v:VSt s){k:Nat}{d:Int}(r:(Uf 0 s.1.2)[k]?=zo d)(F:k+1=(Uf 0 s.1.2).length)(u:d<11):XP (s,d)=zo (zt,0):=by
 have m:=v.sm;have c:=bo r;obtain⟨i,j,n,hi,x,hd,g,E⟩:=dX v c;have B:(Ua s).2=0:=Ue.2 v;have f:bQ s d=zo j:=by unfold bQ;rw[hi];exact x
 have a:WH s.1 j=zt:=by
  have C:=(v.lev.own (n+1)).1
  have D:¬ (Ud s.1.2 (n+1)).length=2:=λh=>by
   have y:=ad (i:=0) h;obtain⟨q,z⟩:=eg y;have t:=eI s.1.2 0;rw[List.pairwise_iff_getElem]at t;obtain⟨o,e⟩:=a8.1 z;obtain⟨l,b⟩:=a8.1 r;by_cases p:q=k
   ·subst p;rw[e]at b;omega
   ·have:=t q k o l (by omega);rw[e,b]at this;omega
  have A:Yu s.1 (j.1.toNat+1)=zt:=by
   unfold Yu;rw[g,bl];have w:((s.1.2[n+1]?).getD []).length=(Ud s.1.2 (n+1)).length:=rfl;rw[w];exact decide_eq_true ⟨by omega,by omega⟩
  unfold WH;rw[A];simp
 rw[fe m];unfold Wf;rw[zx (by simp[B]),f];show zo (WH s.1 j,(0:Int))=_;rw[a]
end
section
open Go Sv
def Vj(f:Nat->Nat):Nat->Nat
 |0=>0
 |m+1=>Vj f m+f m
theorem bM{f g:Nat->Nat}:∀ {m:Nat},(∀ i,i<m->g i<=f i)->Vj g m<=Vj f m
 |0,_=>ed _
 |m+1,h=>Nat.add_le_add (bM λi hi=>h i (by omega)) (h m (by omega))
theorem cd{f g:Nat->Nat}{n:Nat}(a:g n+1<=f n):∀ {m:Nat},n<m->(∀ i,i<m->i≠n->g i<=f i)->Vj g m+1<=Vj f m
 |0,h,_=>absurd h (by omega)
 |m+1,h,ho=>by
  unfold Vj;by_cases e:n=m
  ·subst e;have:=bM (f:=f) (g:=g) (m:=n) λi hi=>ho i (by omega) (by omega);omega
  ·have:=cd a (m:=m) (by omega) λi hi=>ho i (by omega);have:=ho m (by omega) (λh=>e h.symm);omega
theorem dK{f g:Nat->Nat}{n:Nat}(a:g n+g (n+1)+1<=f n+f (n+1)):∀ {m:Nat},n+1<m->(∀ i,i<m->i≠n->i≠n+1->g i<=f i)->Vj g m+1<=Vj f m
 |0,h,_=>absurd h (by omega)
 |m+1,h,ho=>by
  unfold Vj;by_cases e:n+1=m
  ·subst e;have:=bM (f:=f) (g:=g) (m:=n) λi hi=>ho i (by omega) (by omega) (by omega);unfold Vj;omega
  ·have:=dK a (m:=m) (by omega) λi hi=>ho i (by omega);have:=ho m (by omega) (by omega) (by omega);omega
theorem Z9:∀ {js:List Job} {j:Job},(js.map (·.1)).Nodup->j∈js->VN js j.1=zo j
 |[],_,_,h=>by cases h
 |i::js,j,hn,h=>by
  rw[nP,oy]at hn;unfold VN;rw[hV];unfold db;rw[Wb];rcases ey.1 h with e|h
  ·subst e;simp
  ·have a:¬ j.1=i.1:=λe=>hn.1 (by rw[<- e];exact l5 h);rw[decide_eq_false a];exact Z9 hn.2 h
theorem cw:∀ {js:List Job} {i:Nat} {j:Job} (w:YZ) (d:Int),(js.map (·.1)).Nodup->js[i]?=zo j->VN (js.set i (j.1,w)) d=if d=j.1 then zo (j.1,w)else VN js d
 |[],i,j,w,d,_,h=>by simp at h
 |x::js,0,j,w,d,hn,h=>by
  have e:x=j:=by simpa using h
  subst e;unfold VN;rw[List.set_cons_zero,hV,hV];unfold db;rw[Wb];by_cases e:d=x.1<;>simp[e]
 |x::js,i+1,j,w,d,hn,h=>by
  rw[nP,oy]at hn;have h':js[i]?=zo j:=by simpa using h
  have b:=cw w d hn.2 h';unfold VN at b ⊢;rw[List.set_cons_succ,hV,hV,b];have c:db d x=decide (d=x.1):=Wb _ _;rw[c];by_cases e:d=x.1
  ·have a:¬ d=j.1:=λe2=>hn.1 (by rw[<- e,e2];exact l5 (bo h'));rw[decide_eq_true e];simp only[a,if_false]
  ·rw[decide_eq_false e]
theorem VSt.noJob{s:UX}(v:VSt s){i:Nat}(h:(Ud s.1.2 i).length≠2):VN s.2.1 (i:Int)=zn:=by
 refine Ze λa=>h ?_;rw[v.due]at a;obtain⟨n,c,d,e,b⟩:=dk a;have:i=n:=by omega
 rw[this,X9.1 b];rfl
theorem VSt.hasJob{s:UX}(v:VSt s){i:Nat}(h:(Ud s.1.2 i).length=2):∃ j,VN s.2.1 (i:Int)=zo j:=by
 have a:=ad (i:=0) h;rw[en,<- v.due]at a;obtain⟨j,b,e⟩:=o3.1 a;exact⟨j,by rw[<- e];exact Z9 v.nodup b⟩
theorem VSt.jobAt{s:UX}(v:VSt s){i:Nat}{j:Job}(h:VN s.2.1 (i:Int)=zo j):JobAt s.1 i j:=by
 obtain⟨b,e⟩:=cE h;obtain⟨n,a⟩:=v.job j b
 have:n=i:=by
  obtain⟨_,_,_,_,_,rfl,_⟩:=a;have c:(n:Int)=(i:Int):=e;omega
 rwa [this]at a
theorem fm{s:UX}(v:VSt s)(d:Int):bQ s d=VN s.2.1 d:=by
 by_cases h:d∈Uf 0 s.1.2
 ·obtain⟨j,n,a,hd,b,_⟩:=v.atDue h;rw[a,hd,<- b];refine(Z9 v.nodup ?_).symm;unfold bQ at a;split at a
  ·exact bo a
  ·cases a
 ·rw[Ze (by rw[v.due];exact h)];unfold bQ;split
  ·rename_i i hi;have:=(fx hi).2;exact absurd (bo this) h
  ·rfl
def ql(j:Job):Nat:=j.2.2.2.2.toNat
theorem JobAt.rd{L:Ub}{n:Nat}{j:Job}(h:JobAt L n j):∃ a b,Ud L.2 n=[a,b]/\ql j<=b.2.length+a.2.length/\Un L j=b.2.length+a.2.length-ql j/\(0<Un L j->ql (j.1,Zm L j)=ql j+1):=by
 obtain⟨a,b,c,k,d,rfl,f,g,v0,v1⟩:=h;have e:=X9.1 d;have e1:(WG b.2 a.2 c k).2.1.2.2=c:=bj _ _ _ _;have e2:(WG b.2 a.2 c k).2.2.2.toNat=k:=by show((k:Int)).toNat=k;rw[bl]
 refine⟨a,b,e,?_,?_,λ_=> ?_⟩
 ·show(WG b.2 a.2 c k).2.2.2.toNat<=_;rw[e2];exact f
 ·unfold Un ql;simp only[bl,d]
 ·show(Zm L ((n:Int),WG b.2 a.2 c k)).2.2.2.toNat=(WG b.2 a.2 c k).2.2.2.toNat+1;unfold Zm;simp only[bl,e];rw[e1,e2];show(((k+1:Nat):Int)).toNat=_;rw[bl]
structure StepF (s:UX) (n:Nat) (j:Job) (t:UX) (b:Bool):Prop where
 job:VN s.2.1 (n:Int)=zo j
 read:0<Un s.1 j->b=zf/\t.1=s.1/\t.2.2=s.2.2 /\ ∀ i:Nat,VN t.2.1 (i:Int)=if i=n then zo (j.1,Zm s.1 j)else VN s.2.1 (i:Int)
 inst:Un s.1 j=0->b=zt/\t.1=WN s j/\t.2.2=ZB s j/\(∀ i,(Ud t.1.2 i)=if VU j≠[]/\i=ZT s j then(if i=n then[]else Ud s.1.2 i)++[(s.2.2,VU j)]else if i=n then[]else Ud s.1.2 i)/\(ZT s j=n\/ZT s j=n+1/\n+1<12/\(VU j≠[]->(Ud s.1.2 (n+1)).length<2)) /\
  ∀ i:Nat,VN t.2.1 (i:Int)=if(Ud t.1.2 i).length=2 then zo ((if i=n then zn else VN s.2.1 (i:Int)).getD (XN t.1 (i:Int)))else zn
theorem gU{s0 s:UX}(g:Gd s0 s){d:Int}(h:d∈Uf 0 s.1.2)(e:(XB s d).2.2=0):∃ (n:Nat) (j:Job),d=(n:Int)/\n<12/\JobAt s.1 n j/\WH s.1 j=zt/\StepF s n j (XB s d).1 (XB s d).2.1/\Gd s0 (XB s d).1:=by
 obtain⟨v,Y,hc⟩:=g;have W:=Z8 hc;have m:=v.sm;obtain⟨c,t,b,er,_,J,_,X⟩:=jM ⟨v,Y,hc⟩ h;rw[dM m W]at J;have w:=Option.some.inj J;obtain⟨i,j,n,hi,S,hd,u,P⟩:=dX v h;have hz:(Ua s).2=0:=Ue.2 v;have C:bQ s d=zo j:=by unfold bQ;rw[hi];exact S
 have Z:n<12:=by
  have:=v.lev.len;obtain⟨_,_,_,_,U,_⟩:=P;have:=(a8.1 U).1;omega
 have E:VN s.2.1 (n:Int)=zo j:=by rw[<- hd,<- fm v,C]
 have hS:XB s d=YX s j:=by unfold XB;rw[zx (by simp[hz]),C]
 have A:Gd s0 (XB s d).1:=by rw[w];exact X (by rw[<- e,w])
 have k:=A.1;rw[hS]at e k A ⊢;refine⟨n,j,hd,Z,P,?_,⟨E,λN=> ?_,λN=> ?_⟩,A⟩
 ·unfold YX at e;by_cases a:WH s.1 j=zf
  ·rw[zy a]at e;cases e
  ·simpa using a
 ·unfold YX at e ⊢;have a:¬ WH s.1 j=zf:=λa=>by rw[zy a]at e;cases e
  rw[zx a,zy N];refine⟨rfl,rfl,rfl,λo=> ?_⟩;show VN (al s j).2.1 _=_;unfold al;rw[u,<- hd,hi,gM];show VN (s.2.1.set i (d,Zm s.1 j)) _=_;have:=cw (Zm s.1 j) (o:Int) v.nodup S;rw[u,<- hd]at this;rw[this,hd];by_cases p:o=n
  ·rw[zy (by rw[p]),zy p]
  ·rw[zx (by omega),zx p]
 ·unfold YX at e k ⊢;have a:¬ WH s.1 j=zf:=λa=>by rw[zy a]at e;cases e
  have q:WH s.1 j=zt:=by simpa using a
  have z:¬ 0<Un s.1 j:=by omega
  rw[zx a,zx z]at e k ⊢;unfold Zv at e k ⊢;rw[zx (λh=>h.elim z a)]at e k ⊢;by_cases O:s.2.2>1000000/\VU j≠[]
  ·rw[zy O]at e;cases e
  rw[zx O]at e k ⊢;have B:j.1.toNat=n:=by rw[u];simp
  have G:∀ i,Ud (WN s j).2 i=_:=λi=>Wm (s:=s) (j:=j) B i;refine⟨rfl,rfl,rfl,G,?_,λo=> ?_⟩
  ·unfold ZT;rw[B];by_cases hs:WT s.1 j=zt
   ·rw[zy hs];exact .inl rfl
   ·rw[zx hs]
    have hr:Yu s.1 (n+1)=zt:=by
     unfold WH at q;rw[B]at q;simpa[hs,z]using q
    have I:=of_decide_eq_true hr;exact .inr ⟨rfl,I.1,λ_=>I.2⟩
  ·have r:VSt (Yy s (WN s j) (ZB s j) j.1):=k;show VN (Yy s (WN s j) (ZB s j) j.1).2.1 (o:Int)=if(Ud (WN s j).2 o).length=2 then zo ((if o=n then zn else VN s.2.1 (o:Int)).getD (XN (WN s j) (o:Int)))else zn
   have ho:(Ud (Yy s (WN s j) (ZB s j) j.1).1.2 o)=Ud (WN s j).2 o:=rfl;by_cases K:(Ud (WN s j).2 o).length=2
   ·rw[zy K];have M:=ad (i:=0) K;rw[en]at M;have F:XV s (WN s j) j.1 (o:Int)∈(Yy s (WN s j) (ZB s j) j.1).2.1:=l5 M
    have D:(XV s (WN s j) j.1 (o:Int)).1=(o:Int):=by
     have L:(Uf 0 (WN s j).2).map (λd=>(XV s (WN s j) j.1 d).1)=Uf 0 (WN s j).2:=by
      have:=r.due;simpa[Yy,yw,Function.comp_def]using this
     have key:∀ {l:List Int} {f:Int->Int},l.map f=l -> ∀ x∈l,f x=x:=by
      intro l f
      induction l with
      |nil=>intro _ x hx;cases hx
      |cons y l ih=>
       intro h x hx;rw[nP]at h;obtain⟨k1,k2⟩:=List.cons.inj h;rcases ey.1 hx with rfl|hx
       ·exact k1
       ·exact ih k2 x hx
     exact key L _ M
    have:=Z9 r.nodup F;rw[D]at this;rw[this];unfold XV;rw[u];by_cases p:o=n
    ·rw[zy (by omega),zy p]
    ·rw[zx (by omega),zx p]
   ·rw[zx K];exact r.noJob (by rw[ho];exact K)
end
section
open Go Sv
def lY(s:UX)(i:Nat):Nat:=match VN s.2.1 (i:Int)with
 |some j=>ql j
 |none=>0
def dl(N:Nat)(s:UX)(i:Nat):Nat:=(Ud s.1.2 i).length*(N+1)-lY s i
def ZD(N:Nat)(s:UX):Nat:=Vj (dl N s) 12
theorem dT{L:Ub}{n:Nat}{a b:Uy}(h:Ud L.2 n=[a,b]):a.2.length+b.2.length<=Uj L.2.flatten:=by
 obtain⟨p,q,c,_⟩:=YE L n [];rw[c,h,VT,VT,Vt,Vt];omega
theorem VSt.rd0{s:UX}(v:VSt s){i:Nat}(h:(Ud s.1.2 i).length≠2):lY s i=0:=by
 unfold lY;rw[v.noJob h]
theorem lU{N:Nat}{s t:UX}{n:Nat}{j:Job}{b:Bool}(v:VSt s)(A:Uj s.1.2.flatten<=N)(q:n<12)(x:JobAt s.1 n j)(F:StepF s n j t b):ZD N t+1<=ZD N s:=by
 obtain⟨D,E,l,B,C,y⟩:=x.rd;have hc:=dT l
 have hs:dl N s n=2*(N+1)-ql j:=by
  unfold dl lY;rw[F.job,l];rfl
 by_cases o:0<Un s.1 j
 ·obtain⟨_,e1,_,e2⟩:=F.read o;refine cd (n:=n) ?_ q λi _ a=> ?_
  ·have m:dl N t n=2*(N+1)-(ql j+1):=by
    unfold dl lY;rw[e2,zy rfl,e1,l,<- y o];rfl
   omega
  ·unfold dl lY;rw[e2,zx a,e1];exact ed _
 ·obtain⟨_,e1,_,e2,e3,e4⟩:=F.inst (by omega)
  have d:∀ i,i≠n -> ¬ (VU j≠[]/\i=ZT s j)->dl N t i<=dl N s i:=λi a hit=>by
   have e:Ud t.1.2 i=Ud s.1.2 i:=by rw[e2,zx hit,zx a]
   have c:lY t i=lY s i:=by
    by_cases c:(Ud s.1.2 i).length=2
    ·obtain⟨j',k⟩:=v.hasJob c;unfold lY;rw[e4,e,zy c,zx a,k];rfl
    ·rw[v.rd0 c];unfold lY;rw[e4,e,zx c]
   unfold dl;rw[e,c];exact ed _
  by_cases m:VU j≠[]/\ZT s j≠n
  ·obtain⟨p,r⟩:=m;rcases e3 with e3|⟨e3,f,c⟩
   ·exact absurd e3 r
   have c:=c p;refine dK (n:=n) ?_ f λi _ a g=>d i a (by rw[e3];exact λh=>g h.2)
   have u:dl N t n=0:=by
    unfold dl;rw[e2,zx (by rw[e3];omega),zy rfl];simp
   have w:dl N t (n+1)<=((Ud s.1.2 (n+1)).length+1)*(N+1):=by
    unfold dl;rw[e2,zy ⟨p,e3.symm⟩,zx (by omega),hI];exact xo _ _
   have z:dl N s (n+1)=(Ud s.1.2 (n+1)).length*(N+1):=by
    unfold dl;rw[v.rd0 (by omega)];rfl
   rw[TT]at w;omega
  ·refine cd (n:=n) ?_ q λi _ a=>d i a (λh=>m ⟨h.1,by rw[<- h.2];exact a⟩)
   have u:dl N t n<=1*(N+1):=by
    refine wl (xo _ _) (xk _ ?_);rw[e2,zy rfl];split<;>simp
   omega
theorem dw(L:List (List Uy)):∀ m,Vj (λi=>(Ud L i).length) m=(L.take m).flatten.length
 |0=>by simp[Vj]
 |m+1=>by
  unfold Vj;rw[dw L m];by_cases h:m<L.length
  ·have:L.take (m+1)=L.take m++[Ud L m]:=by
    rw[gw,Wz h];rfl
   rw[this,List.flatten_append];simp
  ·have:Ud L m=[]:=by unfold Ud;rw[a9 (by omega)];rfl
   rw[this,eo (by omega),eo (by omega)];simp
theorem i9(f:Nat->Nat)(c:Nat):∀ m,Vj (λi=>f i*c) m=Vj f m*c
 |0=>by simp[Vj]
 |m+1=>by unfold Vj;rw[i9 f c m,TT]
theorem lT(N:Nat){s:UX}(v:VSt s):ZD N s<=s.1.2.flatten.length*(N+1):=by
 have a:ZD N s<=Vj (λi=>(Ud s.1.2 i).length*(N+1)) 12:=bM λi _=>xo _ _;have:=v.lev.len;rw[i9,dw,eo (by omega)]at a;exact a
theorem ae{L:Ub}(v:VLev L):L.2.flatten.length<=24:=by
 have h:=dw L.2 12;have:=v.len;rw[eo (by omega)]at h;rw[<- h];exact bM (f:=λ_=>2) λi _=>(v.own i).1
end
section
open Go Sv
abbrev fj:=(Int×(Int×(Int×ib)))
def bmp(a:ib)(k l:Nat):ib:=
 (UK (neq l 0) (So .i64 (O7 [a.1,a.2.1,a.2.2.1,a.2.2.2.1,a.2.2.2.2.1,a.2.2.2.2.2.1,a.2.2.2.2.2.2.1,a.2.2.2.2.2.2.2.1,a.2.2.2.2.2.2.2.2.1,a.2.2.2.2.2.2.2.2.2.1,a.2.2.2.2.2.2.2.2.2.2.1,a.2.2.2.2.2.2.2.2.2.2.2] k) 1) a.1,(UK (neq l 1) (So .i64 (O7 [a.1,a.2.1,a.2.2.1,a.2.2.2.1,a.2.2.2.2.1,a.2.2.2.2.2.1,a.2.2.2.2.2.2.1,a.2.2.2.2.2.2.2.1,a.2.2.2.2.2.2.2.2.1,a.2.2.2.2.2.2.2.2.2.1,a.2.2.2.2.2.2.2.2.2.2.1,a.2.2.2.2.2.2.2.2.2.2.2] k) 1) a.2.1,(UK (neq l 2) (So .i64 (O7 [a.1,a.2.1,a.2.2.1,a.2.2.2.1,a.2.2.2.2.1,a.2.2.2.2.2.1,a.2.2.2.2.2.2.1,a.2.2.2.2.2.2.2.1,a.2.2.2.2.2.2.2.2.1,a.2.2.2.2.2.2.2.2.2.1,a.2.2.2.2.2.2.2.2.2.2.1,a.2.2.2.2.2.2.2.2.2.2.2] k) 1) a.2.2.1,(UK (neq l 3) (So .i64 (O7 [a.1,a.2.1,a.2.2.1,a.2.2.2.1,a.2.2.2.2.1,a.2.2.2.2.2.1,a.2.2.2.2.2.2.1,a.2.2.2.2.2.2.2.1,a.2.2.2.2.2.2.2.2.1,a.2.2.2.2.2.2.2.2.2.1,a.2.2.2.2.2.2.2.2.2.2.1,a.2.2.2.2.2.2.2.2.2.2.2] k) 1) a.2.2.2.1,(UK (neq l 4) (So .i64 (O7 [a.1,a.2.1,a.2.2.1,a.2.2.2.1,a.2.2.2.2.1,a.2.2.2.2.2.1,a.2.2.2.2.2.2.1,a.2.2.2.2.2.2.2.1,a.2.2.2.2.2.2.2.2.1,a.2.2.2.2.2.2.2.2.2.1,a.2.2.2.2.2.2.2.2.2.2.1,a.2.2.2.2.2.2.2.2.2.2.2] k) 1) a.2.2.2.2.1,(UK (neq l 5) (So .i64 (O7 [a.1,a.2.1,a.2.2.1,a.2.2.2.1,a.2.2.2.2.1,a.2.2.2.2.2.1,a.2.2.2.2.2.2.1,a.2.2.2.2.2.2.2.1,a.2.2.2.2.2.2.2.2.1,a.2.2.2.2.2.2.2.2.2.1,a.2.2.2.2.2.2.2.2.2.2.1,a.2.2.2.2.2.2.2.2.2.2.2] k) 1) a.2.2.2.2.2.1,(UK (neq l 6) (So .i64 (O7 [a.1,a.2.1,a.2.2.1,a.2.2.2.1,a.2.2.2.2.1,a.2.2.2.2.2.1,a.2.2.2.2.2.2.1,a.2.2.2.2.2.2.2.1,a.2.2.2.2.2.2.2.2.1,a.2.2.2.2.2.2.2.2.2.1,a.2.2.2.2.2.2.2.2.2.2.1,a.2.2.2.2.2.2.2.2.2.2.2] k) 1) a.2.2.2.2.2.2.1,(UK (neq l 7) (So .i64 (O7 [a.1,a.2.1,a.2.2.1,a.2.2.2.1,a.2.2.2.2.1,a.2.2.2.2.2.1,a.2.2.2.2.2.2.1,a.2.2.2.2.2.2.2.1,a.2.2.2.2.2.2.2.2.1,a.2.2.2.2.2.2.2.2.2.1,a.2.2.2.2.2.2.2.2.2.2.1,a.2.2.2.2.2.2.2.2.2.2.2] k) 1) a.2.2.2.2.2.2.2.1,(UK (neq l 8) (So .i64 (O7 [a.1,a.2.1,a.2.2.1,a.2.2.2.1,a.2.2.2.2.1,a.2.2.2.2.2.1,a.2.2.2.2.2.2.1,a.2.2.2.2.2.2.2.1,a.2.2.2.2.2.2.2.2.1,a.2.2.2.2.2.2.2.2.2.1,a.2.2.2.2.2.2.2.2.2.2.1,a.2.2.2.2.2.2.2.2.2.2.2] k) 1) a.2.2.2.2.2.2.2.2.1,(UK (neq l 9) (So .i64 (O7 [a.1,a.2.1,a.2.2.1,a.2.2.2.1,a.2.2.2.2.1,a.2.2.2.2.2.1,a.2.2.2.2.2.2.1,a.2.2.2.2.2.2.2.1,a.2.2.2.2.2.2.2.2.1,a.2.2.2.2.2.2.2.2.2.1,a.2.2.2.2.2.2.2.2.2.2.1,a.2.2.2.2.2.2.2.2.2.2.2] k) 1) a.2.2.2.2.2.2.2.2.2.1,(UK (neq l 10) (So .i64 (O7 [a.1,a.2.1,a.2.2.1,a.2.2.2.1,a.2.2.2.2.1,a.2.2.2.2.2.1,a.2.2.2.2.2.2.1,a.2.2.2.2.2.2.2.1,a.2.2.2.2.2.2.2.2.1,a.2.2.2.2.2.2.2.2.2.1,a.2.2.2.2.2.2.2.2.2.2.1,a.2.2.2.2.2.2.2.2.2.2.2] k) 1) a.2.2.2.2.2.2.2.2.2.2.1,UK (neq l 11) (So .i64 (O7 [a.1,a.2.1,a.2.2.1,a.2.2.2.1,a.2.2.2.2.1,a.2.2.2.2.2.1,a.2.2.2.2.2.2.1,a.2.2.2.2.2.2.2.1,a.2.2.2.2.2.2.2.2.1,a.2.2.2.2.2.2.2.2.2.1,a.2.2.2.2.2.2.2.2.2.2.1,a.2.2.2.2.2.2.2.2.2.2.2] k) 1) a.2.2.2.2.2.2.2.2.2.2.2)))))))))))
def Yd(x:((List UZ)×(List UZ))):Option Bool:=
 br (SS (Kx (AR x.1)) (Kx (AR x.2))) (λ_=>zo zf) λ_=>bd (loop (λs0=>br (Tk s0.1 (Kx (AR x.1))) (λ_=>SW s0.1 λd=>ix x.1 d λa=>SW s0.1 λe=>ix x.2 e λb=>br (Hl (OG (seq a.1 b.1) (OG (seq a.2.1 b.2.1) (OG (beq a.2.2.1 b.2.2.1) (OG (O3 a.2.2.2 b.2.2.2) zt))))) (λ_=>zo (.dn ((0,((s0.1,zf),()))))) λ_=>zo (.nx (So .i64 s0.1 1,s0.2))) λ_=>zo (.dn ((1,(s0,()))))) (0,zf)) λc=>br (neq c.1 0) (λ_=>zo c.2.1.2) λ_=>zo zt
end
section
open Go Sv
def Vz(s:UX):Int:=if(Va s).2≠0 then(Va s).2 else(XB s (Va s).1).2.2
def ZC(s:UX):UX:=(XB s (Va s).1).1
def cm(s:UX):Int×Bool:=((Va s).1,(XB s (Va s).1).2.1)
def Vg:Nat->UX->UX×(List (Int×Bool)×Int)
 |0,s=>(s,([],0))
 |n+1,s=>if Vz s=4 then(s,([],0))else if Vz s≠0 then(s,([],Vz s))else((Vg n (ZC s)).1,(cm s::(Vg n (ZC s)).2.1,(Vg n (ZC s)).2.2))
theorem ZX{s:UX}:∀ {l:List Int} {d:Int},V0 s l=zo d -> ∃ p q,l=p++d::q/\(Wf zf (λs j=>(WH s.1 j,0)) s d).1=zt /\ ∀ x∈p,¬ (Wf zf (λs j=>(WH s.1 j,0)) s x).1=zt
 |[],_,h=>by cases h
 |x::l,d,h=>by
  unfold V0 at h;split at h
  ·rename_i a;cases h;exact⟨[],l,rfl,a,λ_ h=>by cases h⟩
  ·rename_i a;obtain⟨p,q,rfl,b,c⟩:=ZX h
   exact⟨x::p,q,rfl,b,λy hy=>by
    rcases ey.1 hy with rfl|hy
    ·exact a
    ·exact c y hy⟩
theorem aQ{s:UX}(v:VSt s):((Va s).2=4/\s.2.1=[])\/(Va s).2=9\/((Va s).2=0/\(Va s).1∈Uf 0 s.1.2):=by
 have a:(Ua s).2=0:=Ue.2 v;unfold Va;rw[zx (by simp[a])];by_cases h:Uf 0 s.1.2=[]
 ·rw[zy h];refine .inl ⟨rfl,?_⟩;have:=v.due;rw[h]at this;simpa using this
 ·rw[zx h];cases hc:V0 s (Uf 0 s.1.2)with
  |none=>exact .inr (.inl rfl)
  |some d=>
   obtain⟨p,q,e,_⟩:=ZX hc;exact .inr (.inr ⟨rfl,by rw[e];simp⟩)
theorem jh(s:UX)(j:Job):(YX s j).2.2≠4:=by
 unfold YX;split
 ·simp
 ·split
  ·simp
  ·unfold Zv;split
   ·simp
   ·split<;>simp
theorem lz{s:UX}(v:VSt s){d:Int}(h:d∈Uf 0 s.1.2):(XB s d).2.2≠4:=by
 have b:(Ua s).2=0:=Ue.2 v;obtain⟨j,n,a,_⟩:=v.atDue h;unfold XB;rw[zx (by simp[b]),a];exact jh s j
theorem bH{s0 s:UX}(g:Gd s0 s):Vp s=zo (Va s)/\Zb s=zo (Va s):=⟨qn g.1.sm,jV g.1.sm⟩
theorem fY{s0 s:UX}(g:Gd s0 s)(d:Int):Vd (s,d)=zo (XB s d)/\Zc (s,d)=zo (XB s d):=
 ⟨dM g.1.sm (Z8 g.2.2) d,jW g.1.sm (Z8 g.2.2) d⟩
theorem ej{s0 s:UX}(g:Gd s0 s)(e:Vz s=0):(Va s).2=0/\(Va s).1∈Uf 0 s.1.2/\(XB s (Va s).1).2.2=0:=by
 unfold Vz at e;rcases aQ g.1 with h|h|h
 ·rw[zy (by rw[h.1];decide),h.1]at e;cases e
 ·rw[zy (by rw[h];decide),h]at e;cases e
 ·rw[zx (by simp[h.1])]at e;exact⟨h.1,h.2,e⟩
theorem Ww{s0 s:UX}(g:Gd s0 s)(e:Vz s=0):∃ (n:Nat) (j:Job),(cm s).1=(n:Int)/\n<12/\JobAt s.1 n j/\WH s.1 j=zt/\StepF s n j (ZC s) (cm s).2/\Gd s0 (ZC s):=by
 obtain⟨_,a,b⟩:=ej g e;exact gU g a b
theorem eu{s0 s:UX}(g:Gd s0 s)(e:Vz s=4):(Va s).2=4/\s.2.1=[]:=by
 unfold Vz at e;rcases aQ g.1 with h|h|h
 ·exact h
 ·rw[zy (by rw[h];decide),h]at e;cases e
 ·rw[zx (by simp[h.1])]at e;exact absurd e (lz g.1 h.2)
theorem bc{s0 s:UX}{N:Nat}(g:Gd s0 s)(a:Uj s.1.2.flatten<=N)(e:Vz s=0):ZD N (ZC s)+1<=ZD N s/\Uj (ZC s).1.2.flatten<=N:=by
 obtain⟨n,j,_,d,c,_,F,_⟩:=Ww g e;refine⟨lU g.1 a d c F,?_⟩;by_cases b:0<Un s.1 j
 ·rw[(F.read b).2.1];exact a
 ·rw[(F.inst (by omega)).2.1];exact wl (eC g.1 (Z8 g.2.2) c b) a
theorem ZR{s0:UX}{N:Nat}:∀ {n:Nat} {s:UX},Gd s0 s->Uj s.1.2.flatten<=N->(Vg n s).2.1.length<=n/\(Vg n s).2.1.length+ZD N (Vg n s).1<=ZD N s/\Gd s0 (Vg n s).1/\Uj (Vg n s).1.1.2.flatten<=N/\((Vg n s).2.2=0->(Vg n s).2.1.length<n->(Vg n s).1.2.1=[])
 |0,s,g,hN=>⟨ed _,by simp[Vg],g,hN,λ_ h=>absurd h (by simp[Vg])⟩
 |n+1,s,g,hN=>by
  unfold Vg;by_cases b:Vz s=4
  ·rw[zy b];exact⟨by simp,by simp,g,hN,λ_ _=>(eu g b).2⟩
  ·rw[zx b];by_cases a:Vz s=0
   ·rw[zx (by simp[a])];obtain⟨_,_,_,_,_,_,_,d⟩:=Ww g a;obtain⟨m,f⟩:=bc g hN a;obtain⟨i,o,j,k,l⟩:=ZR (n:=n) d f;refine⟨by simpa using i,?_,j,k,λc e=>l c (by simpa using e)⟩;simp only[ci];omega
   ·rw[zy a];exact⟨by simp,by simp,g,hN,λc=>absurd c a⟩
def vn(u:fj)(x:Int×Bool):fj:=(So .i64 u.1 1,(u.2.1,(if x.2=zt then So .i64 u.2.2.1 1 else u.2.2.1,bmp u.2.2.2 x.1.toNat x.1.toNat)))
def ry(u:fj)(l:List (Int×Bool)):fj:=l.foldl vn u
end
section
open Go Sv
theorem qt{α β γ:Type}{f:α->Option (LR α β)}{K:β->Option γ}{R:Option γ}(Inv:α->Prop)(Q:β->Prop)(m:α->Nat){s:α}(hs:Inv s)(b:m s<18446744073709551616)
  (step:∀ s,Inv s->(∃ s',f s=zo (.nx s')/\Inv s'/\m s'<m s)\/(∃ x,f s=zo (.dn x)/\Q x)) (a:∀ x,Q x->K x=R):bd (loop f s) K=R:=by
 obtain⟨x,e,q⟩:=Sw Inv Q m hs b step;rw[e];exact a x q
theorem qu{β:Type}(n:Nat)(x y:Unit->Option β):br (neq n 0) x y=if n=0 then x ()else y ():=by
 rw[TX]
theorem xd{s0 s:UX}(g:Gd s0 s):Vz s=4/\(Va s).2=4\/Vz s≠4/\Vz s≠0/\(Va s).2≠4/\((Va s).2=Vz s\/(Va s).2=0/\(XB s (Va s).1).2.2=Vz s)\/Vz s=0/\(Va s).2=0/\(XB s (Va s).1).2.2=0:=by
 by_cases a:Vz s=4
 ·exact .inl ⟨a,(eu g a).1⟩
 ·by_cases b:Vz s=0
  ·have:=ej g b;exact .inr (.inr ⟨b,this.1,this.2.2⟩)
  ·refine .inr (.inl ⟨a,b,?_⟩);unfold Vz at a b ⊢;by_cases c:(Va s).2≠0
   ·rw[zy c]at a ⊢;exact⟨a,.inl rfl⟩
   ·have d:(Va s).2=0:=by simpa using c
    rw[zx c];rw[d];exact⟨by decide,.inr ⟨rfl,rfl⟩⟩
theorem ACJ{u:fj}{x:Int×Bool}(h:0<=u.1/\u.1<=1000000):(vn u x).1=u.1+1:=by
 show So .i64 u.1 1=_;exact TE (by omega)
def At(s0:UX)(g:Int)(T:UX×((List Int×fj)×Int))(k:Nat)(s:UX)(l:List Int)(u:fj):Prop:=Gd s0 s/\0<=u.1/\u.1+k=g/\g<=1000000/\(l.length:Int)=u.1/\T=((Vg k s).1,((l++(Vg k s).2.1.map (·.1),ry u (Vg k s).2.1),(Vg k s).2.2))
theorem At.step{s0 s:UX}{g:Int}{T:UX×((List Int×fj)×Int)}{k:Nat}{l:List Int}{u:fj}(a:At s0 g T (k+1) s l u)(e:Vz s=0):At s0 g T k (ZC s) (l++[(cm s).1]) (vn u (cm s)):=by
 obtain⟨c,h,i,d,j,f⟩:=a;obtain⟨_,_,_,_,_,_,_,b⟩:=Ww c e;have m:=ACJ (x:=cm s) (show 0<=u.1/\u.1<=1000000 by omega);refine⟨b,by omega,by omega,d,by simp;omega,?_⟩;rw[f];simp only[Vg,e,ne_eq,not_true_eq_false,if_false,nP,List.append_assoc,List.cons_append,ox];rfl
theorem At.none{s0 s:UX}{g:Int}{T:UX×((List Int×fj)×Int)}{k:Nat}{l:List Int}{u:fj}(a:At s0 g T k s l u)(e:Vz s=4):T=(s,((l,u),0)):=by
 rw[a.2.2.2.2.2];cases k<;>simp[Vg,e,ry]
theorem At.fail{s0 s:UX}{g:Int}{T:UX×((List Int×fj)×Int)}{k:Nat}{l:List Int}{u:fj}(a:At s0 g T (k+1) s l u)(c:Vz s≠4)(b:Vz s≠0):T=(s,((l,u),Vz s)):=by
 rw[a.2.2.2.2.2];simp[Vg,c,b,ry]
theorem At.last{s0 s:UX}{g:Int}{T:UX×((List Int×fj)×Int)}{l:List Int}{u:fj}(a:At s0 g T 0 s l u):T=(s,((l,u),0)):=by
 rw[a.2.2.2.2.2];simp[Vg,ry]
end
section
open Go Sv
def zC(s:UX):Int×(List (List Uy)×(List Job×Int)):=(s.1.1,(s.1.2,s.2))
end
end Go.Proofs.YtfceigpbgndbgaaGreatDoor.Pl
