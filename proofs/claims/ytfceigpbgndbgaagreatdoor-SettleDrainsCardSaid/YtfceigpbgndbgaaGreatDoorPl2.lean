/- Functions of the program and of the specification as plain functions, and laws about them. No condition. -/
import Derived.Test.YtfceigpbgndbgaaGreatDoorPl1
import Derived.KernelRfl
set_option linter.all false
open List renaming filter_cons->x6, find?_append->xn, find?_cons->hV, find?_some->ya, flatten_cons->li, foldl_cons->iz, getElem?_eq_getElem->cP, getElem?_eq_none->a9, getElem?_eq_some_iff->a8, getElem?_of_mem->eo, getElem?_take->q9, getElem_mem->sp, length->mR, length_append->gw, length_cons->ci, length_map->l6, length_nil->co, length_pos_iff->ee, length_take->tg, map_cons->ol, map_map->Ds, mem_append->ml, mem_append_right->sw, mem_cons->ey, mem_flatten->kd, mem_map->nb, mem_map_of_mem->l5, mem_of_find?_eq_some->vg, mem_of_getElem?->bo, mem_singleton->sa, nil_append->o3, nodup_cons->pg, take_add_one->gM, take_of_length_le->en
open Nat renaming add_comm->TT, add_mul->UW, le_refl->dc, le_trans->xb, mul_le_mul_right->xm, sub_le->xw, zero_add->eg
open Int renaming toNat_natCast->bl
open Option renaming filter->ns, getD_some->hI, none_or->tb, or_assoc->hM, toList_some->xl
open Option renaming some->zo, none->zn
open Bool renaming true->zt, false->zf
namespace Go.Proofs.YtfceigpbgndbgaaGreatDoor.Pl
section
open Go Sv
def zS:UX:=((0,[]),([],0))
def Vc(j:Job):List UZ:=j.2.2.2.1
def Zk(s:UX)(j:Job):Nat:=if Wo s.1 j=zt then j.1.toNat else j.1.toNat+1
def WT(s:UX)(j:Job):Ub:=if Vc j=[]then Va s.1 j.1.toNat []else Va (Va s.1 j.1.toNat []) (Zk s j) (Ud (Va s.1 j.1.toNat []).2 (Zk s j)++[(s.2.2,Vc j)])
def ZV(s:UX)(j:Job):Int:=if Vc j=[]then s.2.2 else s.2.2+1
def aU(s:UX)(j:Job):UX×Int:=
 if 0<Uo s.1 j\/W4 s.1 j=zf then(zS,9)else if s.2.2>1000000/\Vc j≠[]then(zS,5)else(ZG s (WT s j) (ZV s j) j.1,0)
theorem dN:∀ (ls:List (List Uy)) (i:Nat),(Ug i ls).Nodup /\ ∀ d∈Ug i ls,(i:Int)<=d
 |[],_=>⟨.nil,λ_ h=>by cases h⟩
 |rs::ls,i=>by
  obtain⟨b,a⟩:=dN ls (i+1);rw[Yz];by_cases h:rs.length=2
  ·rw[zy h];refine⟨pg.2 ⟨λc=> ?_,b⟩,λd hd=> ?_⟩
   ·have:=a _ c;omega
   ·rcases ey.1 hd with e|hd
    ·omega
    ·have:=a d hd;omega
  ·rw[zx h];exact⟨b,λd hd=>by have:=a d hd;omega⟩
theorem VSt.nodup{s:UX}(v:VSt s):(s.2.1.map (·.1)).Nodup:=by rw[v.due];exact(dN _ _).1
theorem JobAt.out{L:Ub}{n:Nat}{j:Job}(h:JobAt L n j)(v:VLev L)(hs:(∀ r∈Ud L.2 n,r.2.length<=2000)):VL (Vc j)/\((Vc j).length:Int)<=2*VD L.1 n/\j.1=(n:Int)/\n<12/\Ud L.2 n≠[]:=by
 obtain⟨a,b,d,k,e,rfl,i,_,v0,v1⟩:=h;have c:Ud L.2 n=[a,b]:=by unfold Ud;rw[e];rfl
 have p:=hs a (by rw[c];simp);have q:=hs b (by rw[c];simp);have s:=((v.own n).2 a (by rw[c];simp)).le;have t:=((v.own n).2 b (by rw[c];simp)).le;obtain⟨f,g⟩:=nM v1 v0 d i (by omega);have m:=(a8.1 e).1;have o:=v.len;refine⟨f,?_,rfl,by omega,by rw[c];simp⟩
 have l:((Vc ((n:Int),WO b.2 a.2 d k)).length:Int)<=(b.2.length:Int)+(a.2.length:Int):=by
  have:(Vc ((n:Int),WO b.2 a.2 d k)).length<=b.2.length+a.2.length:=g;omega
 omega
def mb(L:Ub):Prop:=∀ i,∀ r∈Ud L.2 i,r.2.length<=2000
structure InstF (s:UX) (n:Nat) (j:Job):Prop where
 l1:VLev (Va s.1 n [])
 to12:Vc j≠[]->Zk s j<12
 vr:Vc j≠[]->VR (VD s.1.1 (Zk s j)) (s.2.2,Vc j)
 id:∀ y∈(Va s.1 n []).2.flatten,y.1≠s.2.2
 room:Vc j≠[]->(Ud (Va s.1 n []).2 (Zk s j)).length<2
 lev:VLev (WT s j)
theorem ji{s:UX}(v:VSt s)(A:mb s.1){n:Nat}{j:Job}(z:JobAt s.1 n j)(G:¬ 0<Uo s.1 j)(hc:W4 s.1 j=zt)(x:Vc j≠[]->s.2.2<=1000000):InstF s n j:=by
 obtain⟨C,D,E,t,I⟩:=z.out v.lev (A n);have a:=v.lev.leave (n:=n) t;have e:j.1.toNat=n:=by rw[E];simp
 have b:Wo s.1 j≠zt->n+1<12/\(Ud s.1.2 (n+1)).length<2:=λhs=>by
  unfold W4 at hc;rw[show decide (0<Uo s.1 j)=zf by simp;omega,e]at hc;cases o:Wo s.1 j with
  |true=>exact absurd o hs
  |false=>
   rw[o]at hc;simpa[Zi,Ud]using hc
 have d:∀ y∈(Va s.1 n []).2.flatten,y.1≠s.2.2:=λy r=>by
  obtain⟨p,q,i,k⟩:=YJ s.1 n [];rw[k,o3]at r
  have B:y∈s.1.2.flatten:=by
   rw[i];rcases ml.1 r with h|h
   ·exact List.mem_append_left _ h
   ·exact sw _ (sw _ h)
  have:=Yv B;have:=v.n3;omega
 have m:Zk s j<12/\(Ud (Va s.1 n []).2 (Zk s j)).length<2/\((Vc j).length:Int)<=VD s.1.1 (Zk s j):=by
  unfold Zk;by_cases hs:Wo s.1 j=zt
  ·rw[zy hs,e];refine⟨t,by rw[XQ,zy rfl];simp,?_⟩;have c:=hs;unfold Wo at c;rw[e]at c;exact of_decide_eq_true c
  ·rw[zx hs,e];obtain⟨i,k⟩:=b hs;refine⟨i,by rw[XQ,zx (by omega)];exact k,?_⟩;rw[dh];exact D
 obtain⟨u,w,F⟩:=m;have g:Vc j≠[]->VR (VD s.1.1 (Zk s j)) (s.2.2,Vc j):=λf=>⟨v.n1,x f,C,f,F⟩;refine⟨a,λ_=>u,g,d,λ_=>w,?_⟩;unfold WT;rw[e];by_cases l:Vc j=[]
 ·rw[zy l];exact a
 ·rw[zx l];exact a.arrive u w (g l) d
theorem dO{s:UX}(v:VSt s)(u:mb s.1){n:Nat}{j:Job}(t:JobAt s.1 n j)(w:¬ 0<Uo s.1 j)(hc:W4 s.1 j=zt)(y:Vc j≠[]->s.2.2<=1000000)(l:Int) :
  (bd (Wb (s.1,(n:Int))) λd=>br (O3 d.2.2 0) (λ_=>br (Ti (Kx (AR j.2.2.2.1)) 0) (λ_=>bd (VF (s,(j,l))) λK=>br (Hl K) (λ_=>bd (U3 ((d.1,(So .i64 (n:Int) 1,(s.2.2,j.2.2.2.1))))) λm=>br (SS m.2 0) (λ_=>zo ((((0,[]),([],0)),m.2))) λ_=>bd (Uu ((s,(m.1,(So .i64 s.2.2 1,(n:Int)))))) λL=>zo L) λ_=>bd (U3 ((d.1,((n:Int),(s.2.2,j.2.2.2.1))))) λo=>br (SS o.2 0) (λ_=>zo ((((0,[]),([],0)),o.2))) λ_=>bd (Uu ((s,(o.1,(So .i64 s.2.2 1,(n:Int)))))) λM=>zo M) λ_=>br (SS d.2.2 0) (λ_=>zo ((((0,[]),([],0)),d.2.2))) λ_=>bd (Uu ((s,(d.1,(s.2.2,(n:Int)))))) λN=>zo N) λ_=>br (SS d.2.2 0) (λ_=>zo ((((0,[]),([],0)),d.2.2))) λ_=>bd (Uu ((s,(d.1,(s.2.2,(n:Int)))))) λk=>zo k)
  = zo (ZG s (WT s j) (ZV s j) j.1,0):=by
 have F:=ji v u t w hc y;obtain⟨G,O,g,I,J⟩:=t.out v.lev (u n);have i:j.1.toNat=n:=by rw[g];simp
 have D:=v.n2;have C:=v.n1;have A:=v.jsmall;have a:=F.lev;rw[gW v.lev J,TW];show(br (O3 0 0) _ _)=_;rw[UD,zy rfl,Uf,Uc,UF];by_cases b:Vc j=[]
 ·rw[zx (show ¬ ((j.2.2.2.1.length:Int)>0) by rw[show j.2.2.2.1=[]from b];simp),UI,zy rfl];unfold WT at a ⊢;rw[zy b,i]at a;rw[zy b,i,aA v.nodup (by omega) a,TW];unfold ZV;rw[zy b,g]
 ·rw[zy (show((j.2.2.2.1.length:Int)>0) by have:=ee.2 b;have h:(Vc j).length=j.2.2.2.1.length:=rfl;omega),dF v.lev g I,TW,U4];have E:(Vc j).length<=1048576:=by have:=G.len;omega
  have B:kR [] (VD (Va s.1 n []).1 (Zk s j)) (s.2.2,Vc j)=0:=jj.2 ⟨F.vr b,by simp⟩;have f:=bw F.l1 (F.to12 b) (x:=(s.2.2,Vc j)) E F.id (F.room b);rw[zx (by simp[B])]at f
  have z:WT s j=Va (Va s.1 n []) (Zk s j) (Ud (Va s.1 n []).2 (Zk s j)++[(s.2.2,Vc j)]):=by
   unfold WT;rw[zx b,i]
  have q:ZV s j=s.2.2+1:=by unfold ZV;rw[zx b]
  rw[<- z]at f;have p:So .i64 s.2.2 1=s.2.2+1:=TE (by omega);have r:=aA v.nodup (by omega) a (s.2.2+1) (n:Int);rw[UL];have c:Zk s j=if Wo s.1 j=zt then n else n+1:=by unfold Zk;rw[i]
  by_cases hs:Wo s.1 j=zt
  ·rw[zy hs]at c ⊢;rw[c]at f;have e:U3 (Va s.1 n [],((n:Int),(s.2.2,j.2.2.2.1)))=zo (WT s j,0):=f;rw[e,TW,UI,zy rfl,p,r,TW,q,g]
  ·rw[zx hs]at c ⊢;rw[c]at f;rw[Uh (by omega)];have e:U3 (Va s.1 n [],(((n+1:Nat):Int),(s.2.2,j.2.2.2.1)))=zo (WT s j,0):=f;rw[e,TW,UI,zy rfl,p,r,TW,q,g]
theorem gD{s:UX}(m:Sm s)(k:mb s.1)(a:Int):W5 (s,a)=zo (XS zS aU s a):=by
 unfold W5;rw[eW m,TW];unfold XS;by_cases b:(Ua s).2=0;rotate_left
 ·rw[zy b,UI,zx b,zy b];rfl
 rw[zx (show ¬ (Ua s).2≠0 by simp[b]),zx (show ¬ (Ua s).2≠0 by simp[b])];have v:=Ue.1 b;unfold cF;cases p:ap a 0 (Ug 0 s.1.2)with
 |none=>rfl
 |some i=>
  obtain⟨j,n,l,o,f,g,q⟩:=v.at p;have:=v.lev.len;subst o;simp only[l];unfold U0 aU;rw[UI,zy rfl,TW,UF];by_cases e:0<Uo s.1 j
  ·rw[zy (show((Uo s.1 j:Int))>0 by omega),zy (.inl e)];rfl
  rw[zx (show ¬ ((Uo s.1 j:Int))>0 by omega),du v.lev f (by omega) _ rfl,TW,U4,UL];by_cases hc:W4 s.1 j=zt;rotate_left
  ·rw[zx hc,zy (.inr (by simpa using hc))];rfl
  rw[zy hc,zx (show ¬ (0<Uo s.1 j\/W4 s.1 j=zf) by rw[hc];simp;omega),UF];by_cases d:s.2.2>1000000
  ·rw[zy d,Uf,Uc,UF];by_cases c:Vc j=[]
   ·rw[zx (show ¬ ((j.2.2.2.1.length:Int)>0) by rw[show j.2.2.2.1=[]from c];simp),zx (by simp[c])];exact dO v k g e hc (λh=>absurd c h) _
   ·rw[zy (show((j.2.2.2.1.length:Int)>0) by have:=ee.2 c;have h:(Vc j).length=j.2.2.2.1.length:=rfl;omega),zy ⟨d,c⟩];rfl
  ·rw[zx d,zx (by simp[d])];exact dO v k g e hc (λh=>by omega) _
end
section
open Go Sv
def Z0(L:Ub)(j:Job):Yh:=match Ud L.2 j.1.toNat with
 |[r0,r1]=>WO r1.2 r0.2 j.2.2.1.2.2 (j.2.2.2.2.toNat+1)
 |_=>j.2
def bI(s:UX)(j:Job):UX:=(s.1,(lset s.2.1 ((ap j.1 0 (Ug 0 s.1.2)).getD 0) (j.1,Z0 s.1 j),s.2.2))
theorem nX{s:UX}(m:Sm s)(v:VSt s){a:Int}{i:Nat}(h:ap a 0 (Ug 0 s.1.2)=zo i){j:Job}(e:s.2.1[i]?=zo j)(t:0<Uo s.1 j):ZL (s,(a,1))=zo (bI s j,(1,0)):=by
 obtain⟨j',n,f,y,u,q,B⟩:=v.at h;rw[e]at f;cases f;subst y;have r:(Ua s).2=0:=Ue.2 v
 have l:ZJ s (n:Int)=((i:Int),0):=by
  unfold ZJ;rw[zx (show ¬ (Ua s).2≠0 by simp[r]),h]
 have w:=v.jsmall;have hi:=(a8.1 e).1;unfold ZL;rw[uL m,TW,UI,zy r,UH,zx (show ¬ ((1:Int)<0) by omega),dy m,TW,l,UI,zy rfl,UY,Tq e,(JobAt.left q).1,TW,UD,zx (show ¬ ((Uo s.1 j:Int)=0) by omega),UY,Tq e];obtain⟨b,c,d,k,p,rfl,x,A,v0,v1⟩:=q;have z:Ud s.1.2 n=[b,c]:=by unfold Ud;rw[p];rfl
 have o:Uo s.1 ((n:Int),WO c.2 b.2 d k)=c.2.length+b.2.length-k:=by
  unfold Uo;simp only[bl,p];show c.2.length+b.2.length-((k:Int)).toNat=_;rw[bl]
 rw[o]at t;have g:=di v1 v0 d x (k:=1);rw[show min 1 (c.2.length+b.2.length-k)=1 by omega]at g;show(bd (Vf (WO c.2 b.2 d k,((1:Nat):Int))) λC=>_)=_;rw[g,TW];simp only;rw[UI,zy rfl];unfold VC;rw[VE (by simp only[AR];omega),TW,UY,Te,zy (by simp only[AR];exact hi),Tq e];unfold bI Z0;simp only[bl,z,h,hI];have e1:(WO c.2 b.2 d k).2.1.2.2=d:=cL _ _ _ _;have e2:(WO c.2 b.2 d k).2.2.2.toNat=k:=by show((k:Int)).toNat=k;rw[bl]
 rw[e1,e2];rfl
def ZQ(s:UX)(j:Job):UX×(Bool×Int):=if W4 s.1 j=zf then(zS,(zf,9))else if 0<Uo s.1 j then(bI s j,(zf,0))else((aU s j).1,(O3 (aU s j).2 0,(aU s j).2))
def XR(s:UX)(a:Int):UX×(Bool×Int):=if(Ua s).2≠0 then(zS,(zf,(Ua s).2))else match cF s a with
 |some j=>ZQ s j
 |none=>(zS,(zf,4))
theorem dm{s:UX}(m:Sm s)(g:mb s.1)(a:Int):Vh (s,a)=zo (XR s a):=by
 unfold Vh;rw[eW m,TW,gD m g];unfold XS XR;by_cases b:(Ua s).2=0;rotate_left
 ·rw[zy b,UI,zx b,zy b];rfl
 rw[zx (show ¬ (Ua s).2≠0 by simp[b]),zx (show ¬ (Ua s).2≠0 by simp[b]),zx (show ¬ (Ua s).2≠0 by simp[b])];have v:=Ue.1 b;unfold cF;cases f:ap a 0 (Ug 0 s.1.2)with
 |none=>rfl
 |some i=>
  obtain⟨j,n,e,k,d,h,l⟩:=v.at f;have:=v.lev.len;simp only[e];unfold ZQ U0;rw[UI,zy rfl,du v.lev d (by omega) _ rfl,TW,U4,UL];cases hc:W4 s.1 j with
  |false=>rw[zx (by simp),zy rfl];rfl
  |true=>
   rw[zy rfl,zx (by simp),TW,UF];by_cases c:0<Uo s.1 j
   ·rw[zy (show((Uo s.1 j:Int))>0 by omega),zy c,nX m v f e c];rfl
   ·rw[zx (show ¬ ((Uo s.1 j:Int))>0 by omega),zx c];rfl
end
section
open Go Sv
theorem eG{ls:List (List Uy)}{d:Int}(h:d∈Ug 0 ls):∃ (n:Nat) (a b:Uy),d=(n:Int)/\ls[n]?=zo [a,b]:=by
 obtain⟨k,f⟩:=eo h;obtain⟨n,c,a,b,e⟩:=Yw f;exact⟨n,a,b,by rw[c,eg],e⟩
theorem fF{l:List (List Uy)}{n:Int}(i:0<n)(h:∀ x∈l.flatten,x.1<n):XN l<n:=by
 have f:∀ (rs:List Uy) (m:Int),m<n->(∀ x∈rs,x.1<n)->rs.foldl (λm r=>UP m r.1) m<n:=by
  intro rs
  induction rs with
  |nil=>intro m b _;exact b
  |cons r rs e=>
   intro m b c;rw[iz];refine e _ ?_ λx d=>c x (by simp[d]);rw[YE];have:=c r (by simp);omega
 have two:∀ (ls:List (List Uy)) (m:Int),m<n->(∀ rs∈ls,∀ x∈rs,x.1<n)->ls.foldl (λm rs=>rs.foldl (λm r=>UP m r.1) m) m<n:=by
  intro ls
  induction ls with
  |nil=>intro m b _;exact b
  |cons rs ls e=>
   intro m b c;rw[iz];exact e _ (f rs m b (c rs (by simp))) λg a=>c g (by simp[a])
 exact two l 0 i λrs a x d=>h x (kd.2 ⟨rs,a,d⟩)
theorem jk{l:List (List Uy)}(e:l.getLast? ≠ zo []){n:Nat}(a:Ud l n≠[])(b:∀ i,n<i->Ud l i=[]):l.length=n+1:=by
 have f:n<l.length:=by
  by_cases h:n<l.length
  ·exact h
  ·unfold Ud at a;rw[a9 (by omega)]at a;exact absurd rfl a
 by_cases c:l.length=n+1
 ·exact c
 ·exfalso;have d:=b (l.length-1) (by omega);refine e ?_;rw[List.getLast?_eq_getElem?,WN (by omega),d]
theorem cZ{js:List Job}{d:Int}{j:Job}(h:VQ js d=zo j):j∈js/\j.1=d:=by
 unfold VQ at h;have a:=ya h;unfold d9 at a;rw[V7]at a;exact⟨vg h,(of_decide_eq_true a).symm⟩
theorem mg{L:Ub}(v:VLev L){n:Nat}{b c:Uy}(h:L.2[n]?=zo [b,c]):JobAt L n (XT L (n:Int)):=by
 have a:Ud L.2 n=[b,c]:=by unfold Ud;rw[h];rfl
 refine⟨b,c,decide ((n:Int)=(L.2.length:Int)-1),0,h,?_,Nat.zero_le _,λhd=> ?_,VR.vl' v (n:=n) (by rw[a];simp),VR.vl' v (n:=n) (by rw[a];simp)⟩
 ·unfold XT;rw[bl,a]
 ·have:=of_decide_eq_true hd;have:=(a8.1 h).1;omega
theorem gB{s:UX}(v:VSt s){L:Ub}(t:VLev L){next a:Int}(E:1<=next)(F:next<=1000001)(G:∀ x∈L.2.flatten,x.1<next)
  (I:∀ (n:Nat) (f g:Uy),s.1.2[n]?=zo [f,g]->(n:Int)≠a->(∃ p q,L.2[n]?=zo [p,q])->L.2[n]?=zo [f,g]/\(n+1=s.1.2.length->n+1=L.2.length)):VSt (ZG s L next a):=by
 have b:∀ d∈Ug 0 L.2,(Xb s L a d).1=d /\ ∃ n,JobAt L n (Xb s L a d):=λd hd=>by
  obtain⟨n,p,q,rfl,r⟩:=eG hd;unfold Xb;cases i:(if(n:Int)=a then zn else VQ s.2.1 (n:Int))with
  |none=>
   rw[Option.getD_none];have h:=mg t r;refine⟨?_,n,h⟩;obtain⟨_,_,_,_,_,e,_⟩:=h;rw[e]
  |some j=>
   rw[hI];by_cases l:(n:Int)=a
   ·rw[zy l]at i;cases i
   rw[zx l]at i;obtain⟨o,c⟩:=cZ i;refine⟨c,n,?_⟩;obtain⟨m,f,g,D,k,u,rfl,w,y,z,A⟩:=v.job j o;have J:m=n:=by have:(m:Int)=(n:Int):=c;omega
   subst J;obtain⟨B,C⟩:=I m f g u l ⟨p,q,r⟩;exact⟨f,g,D,k,B,rfl,w,λh=>C (y h),z,A⟩
 refine⟨t,E,F,fF (by show 0<next;omega) G,?_,λj o=> ?_⟩
 ·show((Ug 0 L.2).map (Xb s L a)).map (·.1)=Ug 0 L.2;rw[Ds]
  conv=>rhs;rw[<- List.map_id (Ug 0 L.2)]
  exact List.map_congr_left λd hd=>(b d hd).1
 ·obtain⟨d,hd,rfl⟩:=nb.1 o;exact(b d hd).2
theorem Yb{l:List (List Uy)}{n:Nat}{b c:Uy}:l[n]?=zo [b,c]<->Ud l n=[b,c]:=by
 unfold Ud;constructor
 ·intro h;rw[h];rfl
 ·intro h;cases a:l[n]? with
  |none=>rw[a]at h;cases h
  |some rs=>rw[a]at h;exact congrArg zo h
theorem Wu{s:UX}{j:Job}{n:Nat}(b:j.1.toNat=n)(i:Nat):Ud (WT s j).2 i=if Vc j≠[]/\i=Zk s j then(if i=n then[]else Ud s.1.2 i)++[(s.2.2,Vc j)]else if i=n then[]else Ud s.1.2 i:=by
 unfold WT;rw[b];by_cases a:Vc j=[]
 ·rw[zy a,zx (by simp[a]),XQ]
 ·rw[zx a,XQ];by_cases hi:i=Zk s j
  ·rw[zy hi,zy ⟨a,hi⟩,XQ,<- hi]
  ·rw[zx hi,zx (by simp[hi]),XQ]
theorem m7{s:UX}(v:VSt s)(u:mb s.1){n:Nat}{j:Job}(t:JobAt s.1 n j)(B:¬ 0<Uo s.1 j)(hc:W4 s.1 j=zt)(r:Vc j≠[]->s.2.2<=1000000):VSt (ZG s (WT s j) (ZV s j) j.1):=by
 have F:=ji v u t B hc r;obtain⟨O,P,w,S,q⟩:=t.out v.lev (u n);have l:j.1.toNat=n:=by rw[w];simp
 have E:=v.n1;have G:=v.n2
 have k:s.2.2<=ZV s j/\ZV s j<=1000001/\(Vc j≠[]->s.2.2<ZV s j):=by
  unfold ZV;by_cases d:Vc j=[]
  ·rw[zy d];exact⟨by omega,by omega,λh=>absurd d h⟩
  ·rw[zx d];have:=r d;exact⟨by omega,by omega,λ_=>by omega⟩
 refine gB v F.lev (by omega) k.2.1 (λx L=> ?_) (λm z A D C N=> ?_)
 ·obtain⟨i,hi⟩:=aE.1 L;rw[Wu l]at hi
  have b:∀ {y:Uy},y∈(if i=n then[]else Ud s.1.2 i)->y.1<ZV s j:=fun {y} o=>by
   by_cases a:i=n
   ·rw[zy a]at o;cases o
   ·rw[zx a]at o;have:=Yv (aE.2 ⟨i,o⟩);have:=v.n3;omega
  split at hi
  ·rename_i hh;rcases ml.1 hi with hi|hi
   ·exact b hi
   ·rw[sa.1 hi];exact k.2.2 hh.1
  ·exact b hi
 ·have f:m≠n:=λe=>C (by rw[w,e]);have g:Ud s.1.2 m=[z,A]:=Yb.1 D
  have p:¬ (Vc j≠[]/\m=Zk s j):=λ⟨d,J⟩=>by
   have:=F.room d;rw[XQ,<- J,zx f,g]at this;simp at this
  have c:Ud (WT s j).2 m=[z,A]:=by rw[Wu l,zx p,zx f,g]
  refine⟨Yb.2 c,λM=>(jk F.lev.last (by rw[c];simp) λi hi=> ?_).symm⟩;have a:Ud s.1.2 i=[]:=by unfold Ud;rw[a9 (by omega)];rfl
  have I:n<s.1.2.length:=by
   by_cases h:n<s.1.2.length
   ·exact h
   ·unfold Ud at q;rw[a9 (by omega)]at q;exact absurd rfl q
  have K:Zk s j<=n+1:=by unfold Zk;rw[l];split<;>omega
  rw[Wu l,zx (by rintro⟨_,h⟩;omega),a];split<;>rfl
theorem Job.steps{L:Ub}{n:Nat}{j:Job}(f:JobAt L n j)(h:0<Uo L j):JobAt L n (j.1,Z0 L j):=by
 obtain⟨a,b,c,k,d,rfl,l,g,v0,v1⟩:=f;have i:=Yb.1 d
 have e:Uo L ((n:Int),WO b.2 a.2 c k)=b.2.length+a.2.length-k:=by
  unfold Uo;simp only[bl,d];show b.2.length+a.2.length-((k:Int)).toNat=_;rw[bl]
 rw[e]at h;refine⟨a,b,c,k+1,d,?_,by omega,g,v0,v1⟩;unfold Z0;simp only[bl,i];have e1:(WO b.2 a.2 c k).2.1.2.2=c:=cL _ _ _ _;have e2:(WO b.2 a.2 c k).2.2.2.toNat=k:=by show((k:Int)).toNat=k;rw[bl]
 rw[e1,e2]
theorem nY{s:UX}(v:VSt s){j:Job}{i n:Nat}(e:ap j.1 0 (Ug 0 s.1.2)=zo i)(a:s.2.1[i]?=zo j)(d:JobAt s.1 n j)(c:0<Uo s.1 j):VSt (bI s j):=by
 unfold bI;rw[e,hI];refine⟨v.lev,v.n1,v.n2,v.n3,?_,λx hx=> ?_⟩
 ·show(s.2.1.set i (j.1,Z0 s.1 j)).map (·.1)=_;rw[<- v.due,List.map_set];refine List.ext_getElem? λk=> ?_;rw[List.getElem?_set];by_cases b:i=k
  ·subst b;have hi:=(a8.1 a).1;rw[zy rfl,l6,zy hi,List.getElem?_map,a];rfl
  ·rw[zx b]
 ·rcases List.mem_or_eq_of_mem_set hx with hx|hx
  ·exact v.job x hx
  ·rw[hx];exact⟨n,Job.steps d c⟩
end
section
open Go Sv
theorem uM{B:Int}{M:List (List Uy)}{f:(Int×List (List Uy))->Option (LR (Int×List (List Uy)) (Nat×((Int×List (List Uy))×Unit)))}(a:f (B,[])=zo (.dn (0,((B,[]),()))))(hs:∀ k,k<M.length->f (B,M.take (k+1))=if Ud M k=[]then zo (.nx (B,M.take k))else zo (.dn (0,((B,M.take (k+1)),())))):∀ k,k<=M.length->IX (k+1) f (B,M.take k)=zo (0,((B,M.take (Zn M k)),()))
 |0,_=>by rw[List.take_zero];exact U6 a
 |k+1,hk=>by
  have h:=hs k (by omega);unfold Zn;by_cases b:Ud M k=[]
  ·rw[zy b]at h ⊢;rw[U1 h];exact uM a hs k (by omega)
  ·rw[zx b]at h ⊢;exact U6 h
theorem sc{M:List (List Uy)}{k:Nat}(h:k<M.length):M.take (k+1)=M.take k++[Ud M k]:=by
 rw[gM,WN h];rfl
theorem cq{L:Ub}(s:L.2.length<=1000){n:Nat}(u:n<1000){r:List Uy}(l:r.length<=1048576)(o:∀ i,(Ud L.2 i).length<=1048576):VW (L,((n:Int),r))=zo (Va L n r):=by
 have t:(Xl L.2 n r).length=max L.2.length (n+1):=by unfold Xl;rw[List.length_set,aG]
 unfold VW;simp only[Uf,Uc];refine Ut (ZA (r:=(0,((((max L.2.length (n+1):Nat):Int),(L.1,Xl L.2 n r)),()))) (λk=>((k:Int),(L.1,(Xl L.2 n r).take k))) (max L.2.length (n+1)) (by simp) (by omega) (λk j=> ?_) ?_) ?_
 ·have c:((Xl L.2 n r).take k).length=k:=by rw[tg];omega
  simp only[c];rw[sc (by omega),fU,Uh (by omega),UH];by_cases g:k<L.2.length
  ·rw[zy (by omega),UE,zx (by omega),UY,Tq (WN g),UD];by_cases a:k=n
   ·rw[zy (by omega),zy a,VE l,VE (by simp only[BG,ci,co];omega)];rfl
   ·rw[zx (by omega),zx a,VE (o k),VE (by simp only[BG,ci,co];omega)];rfl
  ·rw[zx (by omega),UG,zy (by omega),UE,zy (by omega),UD];by_cases a:k=n
   ·rw[zy (by omega),zy a,VE l,VE (by simp only[BG,ci,co];omega)];rfl
   ·rw[zx (by omega),zx a,VE (by simp only[BG,ci,co];omega)];have:Ud L.2 k=[]:=by unfold Ud;rw[a9 (by omega)];rfl
    rw[this];rfl
 ·have c:(Xl L.2 n r).take (max L.2.length (n+1))=Xl L.2 n r:=en (by omega);simp only;rw[UH,zx (by omega),UG,zx (by omega),c]
 ·have d:=uM (B:=L.1) (M:=Xl L.2 n r) (f:=λb=>br (Ti (b.2.length:Int) 0) (λ_=>SW (Ss .i64 (b.2.length:Int) 1) λp=>ix b.2 p λq=>br (O3 (q.length:Int) 0) (λ_=>SW (Ss .i64 (b.2.length:Int) 1) λh=>gd (CI h b.2.length) λ_=>gd (CI 0 h) λ_=>zo (.nx (b.1,D6 b.2 0 h))) λ_=>zo (.dn ((0,(b,()))))) λ_=>zo (.dn ((0,(b,()))))) rfl (λk j=>by
   have c:((Xl L.2 n r).take (k+1)).length=k+1:=by rw[tg];omega
   have hi:Ss .i64 ((k+1:Nat):Int) 1=(k:Int):=by rw[TG (by omega)];omega
   have m:((Xl L.2 n r).take (k+1))[k]?=zo (Ud (Xl L.2 n r) k):=by rw[q9,zy (by omega),WN j]
   simp only[c,hi];rw[UF,zy (by omega),UY,Tq m,eA];by_cases e:Ud (Xl L.2 n r) k=[]
   ·rw[zy e,zy e,UY,VE (by omega),VE (by omega)]
    have:D6 ((Xl L.2 n r).take (k+1)) 0 k=(Xl L.2 n r).take k:=by
     unfold D6;rw[List.drop_zero,Nat.sub_zero,List.take_take];congr 1;omega
    rw[this]
   ·rw[zx e,zx e]) _ (dc _)
  rw[en (dc _)]at d;exact Ut (Vn (by omega) d) rfl
end
section
open Go Sv
theorem kY{s:UX}(m:Sm s)(v:VSt s){a:Int}{i:Nat}(h:ap a 0 (Ug 0 s.1.2)=zo i){j:Job}(e:s.2.1[i]?=zo j)(t:0<Uo s.1 j):X4 (s,(a,1))=zo (bI s j,(1,0)):=by
 obtain⟨j',n,f,z,w,u,C⟩:=v.at h;rw[e]at f;cases f;subst z;have l:(Ua s).2=0:=Ue.2 v
 have o:ZJ s (n:Int)=((i:Int),0):=by
  unfold ZJ;rw[zx (show ¬ (Ua s).2≠0 by simp[l]),h]
 have q:XS (0:Int) (λs j=>((Uo s.1 j:Int),0)) s (n:Int)=((Uo s.1 j:Int),0):=by
  unfold XS cF;rw[zx (show ¬ (Ua s).2≠0 by simp[l]),h];simp only[e]
 have x:=v.jsmall;have hi:=(a8.1 e).1;unfold X4;rw[kW m,TW,UD,zy l,UH,zx (show ¬ ((1:Int)<0) by omega),UI,zy l,Zh m,q,TW,UD,zy rfl,UD,zx (show ¬ ((Uo s.1 j:Int)=0) by omega),UI,zy rfl,aH m,o,TW,UY,Tq e];obtain⟨b,c,d,k,r,rfl,y,B,v0,v1⟩:=u;have A:Ud s.1.2 n=[b,c]:=by unfold Ud;rw[r];rfl
 have p:Uo s.1 ((n:Int),WO c.2 b.2 d k)=c.2.length+b.2.length-k:=by
  unfold Uo;simp only[bl,r];show c.2.length+b.2.length-((k:Int)).toNat=_;rw[bl]
 rw[p]at t;have g:=c0 v1 v0 d y (k:=1);rw[show min 1 (c.2.length+b.2.length-k)=1 by omega]at g;show(bd (Uz (WO c.2 b.2 d k,((1:Nat):Int))) λD=>_)=_;rw[g,TW];simp only;rw[VE (by simp only[AR];omega),UY,Te,zy (by simp only[AR];exact hi),Tq e];unfold bI Z0;simp only[bl,A,h,hI];have e1:(WO c.2 b.2 d k).2.1.2.2=d:=cL _ _ _ _;have e2:(WO c.2 b.2 d k).2.2.2.toNat=k:=by show((k:Int)).toNat=k;rw[bl]
 rw[e1,e2];rfl
theorem kV{L:Ub}(v:VLev L){n:Nat}(h:(Ud L.2 n).length=2):VS (L,(n:Int))=zo (XT L n,0):=by
 have d:n<L.2.length:=by
  by_cases e:n<L.2.length
  ·exact e
  ·unfold Ud at h;rw[a9 (by omega)]at h;cases h
 have i:=v.len;obtain⟨f,g⟩:=v.small;unfold VS;simp only[Uf,Uc];rw[gm _ f g,XO v,TW,UD,zy rfl,UH,zx (by omega),UE,zx (by omega),UD,zy rfl,UE,zx (by omega),UY,Tq (WN d),UH,zx (by omega),UI,zy rfl,cx v d,TW]
 obtain⟨b,c,a⟩:∃ b c,Ud L.2 n=[b,c]:=by
  match hq:Ud L.2 n with
  |[b,c]=>exact⟨b,c,rfl⟩
  |[]=>rw[hq]at h;cases h
  |[_]=>rw[hq]at h;cases h
  |_::_::_::_=>rw[hq]at h;simp at h
 rw[dZ _ (by rw[WN d,a]) (VR.vl' v (n:=n) (by rw[a];simp)) (VR.vl' v (n:=n) (by rw[a];simp)),TW];unfold XT;rw[bl,a]
theorem bK(l:List UZ)(c:l.length<=9223372036854775807):We (l,l)=zo zt:=by
 unfold We;simp only[Uf,Uc];refine Ut (ZA (r:=(1,(((l.length:Int),zf),()))) (λk=>((k:Int),zf)) l.length rfl (by omega) (λk a=> ?_) (by simp only;rw[re];rfl)) ?_
 ·have b:l[k]?=zo l[k]:=cP a;simp only;rw[rl a,TB,TB,UY,Tq b,UY,Tq b,cO,zy rfl,Uh (by omega)]
 ·rw[TX,zx (show ¬ (1=0) by omega)];unfold O3;simp
theorem fu(r:Uy)(a:r.2.length<=9223372036854775807):Xe (r,r)=zo zt:=by
 unfold Xe;rw[UD,zy rfl,bK _ a];rfl
theorem eM(l:List Uy)(c:l.length<=1048576)(h:∀ r∈l,r.2.length<=9223372036854775807):XL (l,l)=zo zt:=by
 unfold XL;simp only[Uf,Uc];rw[UI,zy rfl];refine Ut (ZA (r:=(1,(((l.length:Int),zf),()))) (λk=>((k:Int),zf)) l.length rfl (by omega) (λk a=> ?_) (by simp only;rw[re];rfl)) rfl;have b:l[k]?=zo l[k]:=cP a;simp only;rw[rl a,TB,UY,Tq b,UY,Tq b,fu _ (h _ (sp a)),TW,Zm,Sd,Uh (by omega)]
theorem ft(L:Ub)(e:L.2.length<=1048576)(d:∀ rs∈L.2,rs.length<=1048576 /\ ∀ r∈rs,r.2.length<=9223372036854775807):Yq (L,L)=zo zt:=by
 unfold Yq;simp only[Uf,Uc];rw[UI,zy rfl,UI,zy rfl];refine Ut (ZA (r:=(1,(((L.2.length:Int),zf),()))) (λk=>((k:Int),zf)) L.2.length rfl (by omega) (λk b=> ?_) (by simp only;rw[re];rfl)) rfl;have c:L.2[k]?=zo L.2[k]:=cP b;have a:=d _ (sp b);simp only;rw[rl b,TB,UY,Tq c,UY,Tq c,eM _ a.1 a.2,TW,Zm,Sd,Uh (by omega)]
theorem fq{L:Ub}{n:Nat}{j:Job}(h:JobAt L n j):Xf (j,j)=zo zt:=by
 obtain⟨g,i,a,k,_,rfl,b,_,v0,v1⟩:=h;obtain⟨s1,s2,c,d,e,f⟩:=bT v1 v0 a b;unfold Xf;rw[UD,zy rfl,cu _ _ s1 s2 c d e f];simp[TW]
theorem gu{t:UX}(v:VSt t):XM (t,t)=zo zt:=by
 have m:=v.sm;have d:=v.jsmall;unfold XM;simp only[Uf,Uc];rw[ft _ m.lv m.rs,TW,Zm,Sd,UI,zy rfl,UI,zy rfl];refine Ut (ZA (r:=(1,(((t.2.1.length:Int),zf),()))) (λk=>((k:Int),zf)) t.2.1.length rfl (by omega) (λk a=> ?_) (by simp only;rw[re];rfl)) rfl;have b:t.2.1[k]?=zo t.2.1[k]:=cP a;obtain⟨n,c⟩:=v.job _ (sp a);simp only;rw[rl a,TB,UY,Tq b,UY,Tq b,fq c,TW,Zm,Sd,Uh (by omega)]
theorem AAC:XM (zS,zS)=zo zt:=by decide +kernel
end
section
open Go Sv
abbrev mc:=(Int×qM)
def fC(j:Job):mc:=(j.1,(j.2.1.1,(j.2.1.2.1,(j.2.1.2.2.1,(j.2.1.2.2.2.1,(j.2.1.2.2.2.2,(j.2.2.1.1,(j.2.2.1.2.1,(j.2.2.1.2.2,(j.2.2.2.1,j.2.2.2.2))))))))))
theorem kI(p:List Job)(x:Job)(d:Int):VQ (p++[x]) d=(VQ p d).or (if x.1=d then zo x else zn):=by
 unfold VQ;rw[xn]
 congr 1
 rw[hV];unfold d9;rw[V7];by_cases h:x.1=d
 ·rw[zy h,show decide (d=x.1)=zt by simp[h]]
 ·rw[zx h,show decide (d=x.1)=zf by simp;exact λe=>h e.symm];rfl
theorem mi{s:UX}(w:(s.2.1.map (·.1)).Nodup)(C:s.2.1.length<=1000)(L:Ub)(a:Int){D:List Int}{i:Nat}{d:Int}(hi:D[i]?=zo d):(loop (λ(c:Int×mc)=>br (Tk c.1 (s.2.1.length:Int)) (λ_=>SW c.1 λm=>ix s.2.1 m λr=>SW (i:Int) λn=>ix D n λt=>br (O3 r.1 t) (λ_=>SW (i:Int) λo=>ix D o λu=>br (SS u a) (λ_=>SW c.1 λq=>ix s.2.1 q λb=>zo (.nx ((So .i64 c.1 1,(b.1,(b.2.1.1,(b.2.1.2.1,(b.2.1.2.2.1,(b.2.1.2.2.2.1,(b.2.1.2.2.2.2,(b.2.2.1.1,(b.2.2.1.2.1,(b.2.2.1.2.2,b.2.2.2))))))))))))) λ_=>zo (.nx (So .i64 c.1 1,c.2))) λ_=>zo (.nx (So .i64 c.1 1,c.2))) λ_=>zo (.dn (((0:Nat),(c,()))))) ((0:Int),fC (XT L d)))=zo (0,(((s.2.1.length:Int),fC (Xb s L a d)),())):=by
 refine Vo (l:=s.2.1) (σ:=Job) (s:=((0:Int),fC (XT L d))) (λk j=>((k:Int),fC j)) (λls k j=>∃ p,s.2.1=p++ls/\j=(if d=a then zn else VQ p d).getD (XT L d)) (λ_ _ _=>(0,(((s.2.1.length:Int),fC (Xb s L a d)),()))) (XT L d) rfl (by omega) ⟨[],rfl,by split<;>rfl⟩ (λj h=> ?_) (λk x ls j hd y z h=> ?_)
 ·obtain⟨p,e,rfl⟩:=h;rw[List.append_nil]at e;simp only;rw[re,Sd,<- e];rfl
 ·obtain⟨p,e,rfl⟩:=h
  have B:x.1 ∉ p.map (·.1):=λA=>by
   rw[e,List.map_append,List.nodup_append]at w;exact w.2.2 _ A x.1 (by simp) rfl
  refine⟨(if d=a then zn else VQ (p++[x]) d).getD (XT L d),?_,⟨p++[x],by rw[e];simp,rfl⟩,rfl⟩
  simp only;rw[rl z,TB,UY,Tq y,UY,Tq hi,UD,Uh (by omega),kI];by_cases f:x.1=d
  ·rw[zy f,UY,Tq hi,UI,UY,Tq y,zy f];by_cases g:d=a
   ·rw[zy g,zy g,zy g]
   ·rw[zx g,zx g,Zq (by rw[<- f];exact B)];rfl
  ·rw[zx f,zx f];have:(VQ p d).or zn=VQ p d:=by cases VQ p d<;>rfl
   rw[this]
theorem ab{s:UX}(B:(s.2.1.map (·.1)).Nodup)(D:s.2.1.length<=1000){L:Ub}(v:VLev L)(next b:Int):loop (λ(g:(Int×(Int×((List (List Uy))×((List Job)×Int)))))=>br (Tk g.1 ((Ug 0 L.2).length:Int)) (λ_=>SW g.1 λm=>ix (Ug 0 L.2) m λt=>bd (VS (((g.2.1,g.2.2.1),t))) λc=>bd (loop (λ(f:Int×mc)=>br (Tk f.1 (s.2.1.length:Int)) (λ_=>SW f.1 λo=>ix s.2.1 o λu=>SW g.1 λp=>ix (Ug 0 L.2) p λw=>br (O3 u.1 w) (λ_=>SW g.1 λq=>ix (Ug 0 L.2) q λx=>br (SS x b) (λ_=>SW f.1 λr=>ix s.2.1 r λe=>zo (.nx ((So .i64 f.1 1,(e.1,(e.2.1.1,(e.2.1.2.1,(e.2.1.2.2.1,(e.2.1.2.2.2.1,(e.2.1.2.2.2.2,(e.2.2.1.1,(e.2.2.1.2.1,(e.2.2.1.2.2,e.2.2.2))))))))))))) λ_=>zo (.nx (So .i64 f.1 1,f.2))) λ_=>zo (.nx (So .i64 f.1 1,f.2))) λ_=>zo (.dn (((0:Nat),(f,()))))) (((0:Int),(c.1.1,(c.1.2.1.1,(c.1.2.1.2.1,(c.1.2.1.2.2.1,(c.1.2.1.2.2.2.1,(c.1.2.1.2.2.2.2,(c.1.2.2.1.1,(c.1.2.2.1.2.1,(c.1.2.2.1.2.2,c.1.2.2.2)))))))))))) λa=>gd (CI (BG g.2.2.2.1.length [((a.2.1.2.1,((a.2.1.2.2.1,(a.2.1.2.2.2.1,(a.2.1.2.2.2.2.1,(a.2.1.2.2.2.2.2.1,a.2.1.2.2.2.2.2.2.1)))),((a.2.1.2.2.2.2.2.2.2.1,(a.2.1.2.2.2.2.2.2.2.2.1,a.2.1.2.2.2.2.2.2.2.2.2.1)),a.2.1.2.2.2.2.2.2.2.2.2.2))):Job)].length) 1048576) λ_=>zo (.nx ((So .i64 g.1 1,(g.2.1,(g.2.2.1,(Iy g.2.2.2.1 ([(a.2.1.2.1,((a.2.1.2.2.1,(a.2.1.2.2.2.1,(a.2.1.2.2.2.2.1,(a.2.1.2.2.2.2.2.1,a.2.1.2.2.2.2.2.2.1)))),((a.2.1.2.2.2.2.2.2.2.1,(a.2.1.2.2.2.2.2.2.2.2.1,a.2.1.2.2.2.2.2.2.2.2.2.1)),a.2.1.2.2.2.2.2.2.2.2.2.2)))]),g.2.2.2.2))))))) λ_=>zo (.dn (((0:Nat),(g,()))))) (((0:Int),(L.1,(L.2,(([]:List Job),next)))))=zo (0,((((Ug 0 L.2).length:Int),(L.1,(L.2,((Ug 0 L.2).map (Xb s L b),next)))),())):=by
 have G:=v.len;have hd:=Wa L.2 0;refine Vo (l:=Ug 0 L.2) (σ:=List Job) (λi js=>((i:Int),(L.1,(L.2,(js,next))))) (λls i js=>js++ls.map (Xb s L b)=(Ug 0 L.2).map (Xb s L b)) (λ_ _ _=>(0,((((Ug 0 L.2).length:Int),(L.1,(L.2,((Ug 0 L.2).map (Xb s L b),next)))),()))) [] rfl (by omega) rfl (λjs h=> ?_) (λi d ls js A hi C h=> ?_)
 ·simp only;rw[re,Sd,<- h];simp
 ·refine⟨js++[Xb s L b d],?_,by rw[<- h];simp,rfl⟩;obtain⟨n,I,J,k,E⟩:=eG (bo hi);have y:=kV v (n:=n) (by rw[Yb.1 E];rfl);rw[<- k]at y
  have F:js.length<=1000:=by
   have z:=congrArg mR h;rw[gw,l6,l6]at z;omega
  simp only;rw[rl C,TB,UY,Tq hi];have j:VS ((L.1,L.2),d)=zo (XT L d,0):=y;rw[j,TW];refine Ut (mi B D L b hi) ?_;rw[VE (by simp only[BG,ci,co];omega),Uh (by omega)];rfl
end
section
open Go Sv
theorem aD{α β σ S:Type}{l:List α}(c:Nat)(n:c<=1000)(mk:Nat->σ->S)(I:Nat->σ->Prop)(Q:β->Prop){f:S->Option (LR S β)}{s:S}(a:σ)(i:s=mk 0 a)(hi:I 0 a)
  (p:∀ k a,(k=l.length\/k=c)->k<=l.length->I k a -> ∃ r,f (mk k a)=zo (.dn r)/\Q r)
  (hc:∀ k x a,l[k]?=zo x->k<c->I k a->(∃ b,f (mk k a)=zo (.nx (mk (k+1) b))/\I (k+1) b) \/ ∃ r,f (mk k a)=zo (.dn r)/\Q r):∃ r,loop f s=zo r/\Q r:=by
 refine Xj (l:=l.take c) mk (λ_ k a=>I k a/\k<=(l.take c).length) Q a i (by simp;omega) ⟨hi,by omega⟩ (λa h=>p _ a (by simp;omega) (by simp;omega) h.1) (λk x m a hd e o h=> ?_);have d:k<c:=by simp at o;omega
 have g:l[k]?=zo x:=by rw[q9]at e;rw[zy d]at e;exact e
 rcases hc k x a g d h.1 with⟨b,h1,j⟩|h1
 ·exact .inl ⟨b,h1,j,by omega⟩
 ·exact .inr h1
theorem fH{k c:Nat}(h:k<c):Tk (k:Int) (c:Int)=zt:=by unfold Tk;simp;omega
theorem mv{α β:Type}{l:List α}{k c:Nat}(h:k=l.length\/k=c)(b:k<=l.length)(A B C:Option β)(e:B=C):br (Tk (k:Int) (l.length:Int)) (λ_=>br (Tk (k:Int) (c:Int)) (λ_=>A) λ_=>B) (λ_=>C)=C:=by
 rw[UH];by_cases a:(k:Int)<(l.length:Int)
 ·rw[zy a,UH,zx (by omega),e]
 ·rw[zx a]
end
section
open Go Sv
end
section
open Go Sv
theorem fh(L:Ub)(n:Nat):Vj (L,(n:Int))=zo (Ud L.2 n):=by
 unfold Vj;simp only[Uf,Uc];rw[UE];by_cases h:n<L.2.length
 ·rw[zx (by omega),UY,Tq (WN h)]
 ·rw[zy (by omega)];unfold Ud;rw[a9 (by omega)];rfl
theorem cw{s:UX}(v:VSt s)(hf:mb s.1){n:Nat}{j:Job}(ha:JobAt s.1 n j)(h0:¬ 0<Uo s.1 j)(hc:W4 s.1 j=zt)(h5:Vc j≠[]->s.2.2<=1000000){X:Int}(D:X=(Zk s j:Int)) :
  (bd (VW ((s.1,((n:Int),[])))) λp=>br (Ti (Kx (AR j.2.2.2.1)) 0) (λ_=>bd (Vj (p,X)) λw=>gd (CI (AR w) 1048576) λ_=>gd (CI (BG (AR w) (AR ([(s.2.2,j.2.2.2.1)]))) 1048576) λ_=>bd (VW ((p,(X,Iy w ([(s.2.2,j.2.2.2.1)]))))) λy=>bd (VM y) λq=>bd (loop (λ(c:(Int×qL))=>br (Tk c.1 (Kx (AR q))) (λ_=>SW c.1 λE=>ix q E λY=>bd (VS (((c.2.1,c.2.2.1),Y))) λe=>bd (loop (λ(l:(Int×(Int×qM)))=>br (Tk l.1 (Kx (AR s.2.1))) (λ_=>SW l.1 λG=>ix s.2.1 G λZ=>SW c.1 λI=>ix q I λx52=>br (O3 Z.1 x52) (λ_=>SW c.1 λJ=>ix q J λx54=>br (SS x54 (n:Int)) (λ_=>SW l.1 λK=>ix s.2.1 K λg=>zo (.nx ((So .i64 l.1 1,(g.1,(g.2.1.1,(g.2.1.2.1,(g.2.1.2.2.1,(g.2.1.2.2.2.1,(g.2.1.2.2.2.2,(g.2.2.1.1,(g.2.2.1.2.1,(g.2.2.1.2.2,g.2.2.2))))))))))))) λ_=>zo (.nx (So .i64 l.1 1,l.2))) λ_=>zo (.nx (So .i64 l.1 1,l.2))) λ_=>zo (.dn ((0,(l,()))))) ((0,(e.1.1,(e.1.2.1.1,(e.1.2.1.2.1,(e.1.2.1.2.2.1,(e.1.2.1.2.2.2.1,(e.1.2.1.2.2.2.2,(e.1.2.2.1.1,(e.1.2.2.1.2.1,(e.1.2.2.1.2.2,e.1.2.2.2)))))))))))) λa=>gd (CI (BG (AR c.2.2.2.1) (AR ([(a.2.1.2.1,((a.2.1.2.2.1,(a.2.1.2.2.2.1,(a.2.1.2.2.2.2.1,(a.2.1.2.2.2.2.2.1,a.2.1.2.2.2.2.2.2.1)))),((a.2.1.2.2.2.2.2.2.2.1,(a.2.1.2.2.2.2.2.2.2.2.1,a.2.1.2.2.2.2.2.2.2.2.2.1)),a.2.1.2.2.2.2.2.2.2.2.2.2)))]))) 1048576) λ_=>zo (.nx ((So .i64 c.1 1,(c.2.1,(c.2.2.1,(Iy c.2.2.2.1 ([(a.2.1.2.1,((a.2.1.2.2.1,(a.2.1.2.2.2.1,(a.2.1.2.2.2.2.1,(a.2.1.2.2.2.2.2.1,a.2.1.2.2.2.2.2.2.1)))),((a.2.1.2.2.2.2.2.2.2.1,(a.2.1.2.2.2.2.2.2.2.2.1,a.2.1.2.2.2.2.2.2.2.2.2.1)),a.2.1.2.2.2.2.2.2.2.2.2.2)))]),c.2.2.2.2))))))) λ_=>zo (.dn ((0,(c,()))))) ((0,(y.1,(y.2,([],So .i64 s.2.2 1)))))) λz=>zo ((((z.2.1.2.1,z.2.1.2.2.1),z.2.1.2.2.2),0))) λ_=>bd (VM p) λt=>bd (loop (λ(d:(Int×qL))=>br (Tk d.1 (Kx (AR t))) (λ_=>SW d.1 λN=>ix t N λx62=>bd (VS (((d.2.1,d.2.2.1),x62))) λf=>bd (loop (λ(m:(Int×(Int×qM)))=>br (Tk m.1 (Kx (AR s.2.1))) (λ_=>SW m.1 λO=>ix s.2.1 O λx66=>SW d.1 λP=>ix t P λx68=>br (O3 x66.1 x68) (λ_=>SW d.1 λS=>ix t S λx70=>br (SS x70 (n:Int)) (λ_=>SW m.1 λU=>ix s.2.1 U λk=>zo (.nx ((So .i64 m.1 1,(k.1,(k.2.1.1,(k.2.1.2.1,(k.2.1.2.2.1,(k.2.1.2.2.2.1,(k.2.1.2.2.2.2,(k.2.2.1.1,(k.2.2.1.2.1,(k.2.2.1.2.2,k.2.2.2))))))))))))) λ_=>zo (.nx (So .i64 m.1 1,m.2))) λ_=>zo (.nx (So .i64 m.1 1,m.2))) λ_=>zo (.dn ((0,(m,()))))) ((0,(f.1.1,(f.1.2.1.1,(f.1.2.1.2.1,(f.1.2.1.2.2.1,(f.1.2.1.2.2.2.1,(f.1.2.1.2.2.2.2,(f.1.2.2.1.1,(f.1.2.2.1.2.1,(f.1.2.2.1.2.2,f.1.2.2.2)))))))))))) λb=>gd (CI (BG (AR d.2.2.2.1) (AR ([(b.2.1.2.1,((b.2.1.2.2.1,(b.2.1.2.2.2.1,(b.2.1.2.2.2.2.1,(b.2.1.2.2.2.2.2.1,b.2.1.2.2.2.2.2.2.1)))),((b.2.1.2.2.2.2.2.2.2.1,(b.2.1.2.2.2.2.2.2.2.2.1,b.2.1.2.2.2.2.2.2.2.2.2.1)),b.2.1.2.2.2.2.2.2.2.2.2.2)))]))) 1048576) λ_=>zo (.nx ((So .i64 d.1 1,(d.2.1,(d.2.2.1,(Iy d.2.2.2.1 ([(b.2.1.2.1,((b.2.1.2.2.1,(b.2.1.2.2.2.1,(b.2.1.2.2.2.2.1,(b.2.1.2.2.2.2.2.1,b.2.1.2.2.2.2.2.2.1)))),((b.2.1.2.2.2.2.2.2.2.1,(b.2.1.2.2.2.2.2.2.2.2.1,b.2.1.2.2.2.2.2.2.2.2.2.1)),b.2.1.2.2.2.2.2.2.2.2.2.2)))]),d.2.2.2.2))))))) λ_=>zo (.dn ((0,(d,()))))) ((0,(p.1,(p.2,([],s.2.2)))))) λA=>zo ((((A.2.1.2.1,A.2.1.2.2.1),A.2.1.2.2.2),0)):Option (UX×Int))=zo (ZG s (WT s j) (ZV s j) j.1,0):=by
 have F:=ji v hf ha h0 hc h5;obtain⟨o1,o2,W,o4,o5⟩:=ha.out v.lev (hf n);have hj:j.1.toNat=n:=by rw[W];simp
 have hn2:=v.n2;have hn1:=v.n1;have hjs:=v.jsmall;have o:=F.lev;have hl:=v.lev.len;have hl1:=F.l1.len;have small:∀ {M:Ub},VLev M -> ∀ i,(Ud M.2 i).length<=1048576:=λvM i=>by have:=(vM.own i).1;omega
 rw[cq (by omega) (by omega) (by simp) (small v.lev),TW];simp only[Uf,Uc];rw[UF];by_cases u:Vc j=[]
 ·rw[zx (show ¬ ((j.2.2.2.1.length:Int)>0) by rw[show j.2.2.2.1=[]from u];simp)];have B:WT s j=Va s.1 n []:=by unfold WT;rw[zy u,hj]
  have C:ZV s j=s.2.2:=by unfold ZV;rw[zy u]
  rw[<- B,bH (by have:=o.len;omega),TW];refine Ut (ab v.nodup (by omega) o s.2.2 (n:Int)) ?_;rw[C,W];rfl
 ·rw[zy (show((j.2.2.2.1.length:Int)>0) by have:=ee.2 u;have h:(Vc j).length=j.2.2.2.1.length:=rfl;omega),D,fh,TW];have hro:=F.room u;have ht:=F.to12 u
  have B:WT s j=Va (Va s.1 n []) (Zk s j) (Ud (Va s.1 n []).2 (Zk s j)++[(s.2.2,Vc j)]):=by
   unfold WT;rw[zx u,hj]
  have C:ZV s j=s.2.2+1:=by unfold ZV;rw[zx u]
  rw[VE (by omega),VE (by simp only[BG,ci,co];omega)];have hW:=cq (L:=Va s.1 n []) (n:=Zk s j) (r:=Ud (Va s.1 n []).2 (Zk s j)++[(s.2.2,Vc j)]) (by omega) (by omega) (by simp;omega) (small F.l1);rw[<- B]at hW;refine Ut (x:=WT s j) hW ?_;rw[bH (by have:=o.len;omega),TW,TE (by omega)];refine Ut (ab v.nodup (by omega) o (s.2.2+1) (n:Int)) ?_;rw[C,W];rfl
theorem fS{s:UX}(m:Sm s)(l:mb s.1)(a:Int):Ws (s,a)=zo (XS zS aU s a):=by
 unfold Ws;rw[gh m,TW,aH m,eJ m];unfold XS;by_cases b:(Ua s).2=0;rotate_left
 ·rw[zy b,UI,zx b,zy b];rfl
 rw[zx (show ¬ (Ua s).2≠0 by simp[b]),zx (show ¬ (Ua s).2≠0 by simp[b]),zx (show ¬ (Ua s).2≠0 by simp[b])];have v:=Ue.1 b;unfold cF ZJ;rw[zx (show ¬ (Ua s).2≠0 by simp[b])];cases q:ap a 0 (Ug 0 s.1.2)with
 |none=>rfl
 |some i=>
  obtain⟨j,n,o,p,f,k,r⟩:=v.at q;have:=v.lev.len;subst p;simp only[o];unfold aU bO;by_cases c:0<Uo s.1 j
  ·rw[zy c,zy (.inl c)];rfl
  rw[zx c]
  have g:(if Wo s.1 j=zt then(j.1,(0:Int))else(j.1+1,0))=((Zk s j:Int),0):=by
   unfold Zk;split<;>rw[f]<;>simp
  rw[g,UI,zy rfl,TW,UY,Tq o,TW,U4,UL];by_cases hc:W4 s.1 j=zt;rotate_left
  ·rw[zx hc,zy (.inr (by simpa using hc))];rfl
  rw[zy hc,zx (show ¬ (0<Uo s.1 j\/W4 s.1 j=zf) by rw[hc];simp;omega),UF];by_cases e:s.2.2>1000000
  ·rw[zy e,UF];by_cases d:Vc j=[]
   ·rw[zx (show ¬ (Kx (AR j.2.2.2.1)>0) by rw[show j.2.2.2.1=[]from d];simp[Uf,Uc]),zx (by simp[d])];dsimp only;exact cw v l k c hc (λh=>absurd d h) rfl
   ·rw[zy (show Kx (AR j.2.2.2.1)>0 by have:=ee.2 d;have h:(Vc j).length=j.2.2.2.1.length:=rfl;rw[Uf,Uc];omega),zy ⟨e,d⟩];rfl
  ·rw[zx e,zx (by simp[e])];dsimp only;exact cw v l k c hc (λh=>by omega) rfl
theorem kU{s:UX}(m:Sm s)(f:mb s.1)(a:Int):WA (s,a)=zo (XR s a):=by
 unfold WA;rw[eJ m,TW,Zh m,fS m f];unfold XS XR;by_cases b:(Ua s).2=0;rotate_left
 ·rw[zy b,zy b,UD,zx b];rw[UI,zx b,zy b];rfl
 rw[zx (show ¬ (Ua s).2≠0 by simp[b]),zx (show ¬ (Ua s).2≠0 by simp[b]),zx (show ¬ (Ua s).2≠0 by simp[b]),zx (show ¬ (Ua s).2≠0 by simp[b])];have v:=Ue.1 b;unfold cF;cases e:ap a 0 (Ug 0 s.1.2)with
 |none=>
  simp only;rw[UD,zx (by omega),UI,zx (by omega)];rfl
 |some i=>
  obtain⟨j,n,d,k,g,h,l⟩:=v.at e;simp only[d];unfold ZQ;rw[UD,zy rfl,U4,UL];by_cases hc:W4 s.1 j=zt;rotate_left
  ·rw[zx hc,zy (by simpa using hc)];rfl
  rw[zy hc,zx (by simp[hc]),UI,zy rfl,TW,UF];by_cases c:0<Uo s.1 j
  ·rw[zy (show((Uo s.1 j:Int))>0 by omega),zy c,kY m v e d c];rfl
  ·rw[zx (show ¬ ((Uo s.1 j:Int))>0 by omega),zx c];rfl
end
section
open Go Sv
def VN(l:List UZ)(k:YH):Option UZ:=l.find? λx=>decide (x.1=k)
theorem VX(x:UZ)(l:List UZ)(k:YH):VN (x::l) k=if x.1=k then zo x else VN l k:=by
 unfold VN;rw[hV];by_cases h:x.1=k<;>simp[h]
theorem bC(l m:List UZ)(k:YH):VN (l++m) k=(VN l k).or (VN m k):=by
 unfold VN;rw[xn]
theorem Za(x:UZ)(k:YH):VN [x] k=if x.1=k then zo x else zn:=by rw[VX];rfl
theorem fD{l:List UZ}{k:YH}{x:UZ}(h:VN l k=zo x):x.1=k/\x∈l:=by
 unfold VN at h;exact⟨by simpa using ya h,vg h⟩
theorem ZZ{l:List UZ}{k:YH}(h:∀ x∈l,x.1≠k):VN l k=zn:=by
 unfold VN;rw[List.find?_eq_none];intro x a;simpa using h x a
theorem aZ:∀ {l:List UZ} {q:YH},Asc (zo q) l -> ∀ x∈l,S4 q x.1=zt
 |x::l,q,⟨a,b⟩,y,hy=>by
  rcases ey.1 hy with e|hy
  ·rw[e];exact a q rfl
  ·exact XP (a q rfl) (aZ b y hy)
theorem jW:∀ {l m:List UZ} {p q:Option YH},Asc p l->Asc q m->(∀ k,VN l k=VN m k)->l=m
 |[],[],_,_,_,_,_=>rfl
 |[],y::m,_,_,_,_,h=>by
  have:=h y.1;rw[VX,zy rfl]at this;cases this
 |x::l,[],_,_,_,_,h=>by
  have:=h x.1;rw[VX,zy rfl]at this;cases this
 |x::l,y::m,p,q,⟨t,f⟩,⟨s,d⟩,h=>by
  have e1:=h x.1;have e2:=h y.1;rw[VX,zy rfl,VX]at e1;rw[VX,VX,zy rfl]at e2
  have g:x.1=y.1:=by
   by_cases b:y.1=x.1
   ·exact b.symm
   ·rw[zx b]at e1;rw[zx (λe=>b e.symm)]at e2;have n:=aZ d x (fD e1.symm).2;have j:=aZ f y (fD e2).2;rw[V2 n]at j;cases j
  rw[zy g.symm]at e1;have c:x=y:=Option.some.inj e1;subst c;refine congrArg (x::·) (jW f d λk=> ?_);have b:=h k;rw[VX,VX]at b;by_cases a:x.1=k
  ·have o:VN l k=zn:=ZZ λz i=>by
    have:=aZ f z i;rw[a]at this;exact λe=>aI this e.symm
   have r:VN m k=zn:=ZZ λz i=>by
    have:=aZ d z i;rw[a]at this;exact λe=>aI this e.symm
   rw[o,r]
  ·rw[zx a,zx a]at b;exact b
theorem aY(P:UZ->Bool):∀ {l:List UZ} {p:Option YH},Asc p l->Asc p (l.filter P)
 |[],_,_=>trivial
 |x::l,p,⟨b,d⟩=>by
  have c:=aY P d;rw[x6];cases P x with
  |true=>exact⟨b,c⟩
  |false=>
   refine c.weak λe a=>⟨x.1,rfl,?_⟩;exact V2 (b e a)
theorem Z9(P:UZ->Bool)(k:YH):∀ {l:List UZ} {p:Option YH},Asc p l->VN (l.filter P) k=(VN l k).filter P
 |[],_,_=>rfl
 |x::l,p,⟨h,c⟩=>by
  have d:=Z9 P k c;rw[x6,VX];by_cases a:x.1=k
  ·rw[zy a]
   have f:VN (l.filter P) k=zn:=ZZ λz g=>by
    have:=aZ c z (List.mem_filter.1 g).1;rw[a]at this;exact λe=>aI this e.symm
   cases b:P x with
   |true=>rw[zy rfl,VX,zy a];simp[ns,b]
   |false=>rw[zx (by simp),f];simp[ns,b]
  ·rw[zx a];cases b:P x with
   |true=>rw[zy rfl,VX,zx a];exact d
   |false=>simpa using d
def cB:List UZ->UZ->List UZ
 |[],x=>[x]
 |y::l,x=>if S4 y.1 x.1=zt then y::cB l x else if y.1=x.1 then y::l else x::y::l
theorem eQ(x:UZ):∀ {l:List UZ} {p:Option YH},Asc p l->(∀ q,p=zo q->S4 q x.1=zt)->Asc p (cB l x)
 |[],p,_,hp=>⟨hp,trivial⟩
 |y::l,p,⟨d,a⟩,hp=>by
  unfold cB;by_cases h:S4 y.1 x.1=zt
  ·rw[zy h];exact⟨d,eQ x a λq c=>by cases c;exact h⟩
  ·rw[zx h];by_cases b:y.1=x.1
   ·rw[zy b];exact⟨d,a⟩
   ·rw[zx b];exact⟨hp,λq c=>by cases c;exact an (by simpa using h) b,a⟩
theorem eR(x:UZ)(k:YH):∀ {l:List UZ} {p:Option YH},Asc p l->VN (cB l x) k=(VN l k).or (if x.1=k then zo x else zn)
 |[],_,_=>by unfold cB;rw[Za];rfl
 |y::l,p,⟨f,d⟩=>by
  unfold cB;by_cases h:S4 y.1 x.1=zt
  ·rw[zy h,VX,VX,eR x k d];split<;>rfl
  ·rw[zx h];by_cases b:y.1=x.1
   ·rw[zy b,VX,<- b];by_cases a:y.1=k
    ·rw[zy a];rfl
    ·rw[zx a,zx a];cases VN l k<;>rfl
   ·rw[zx b,VX];have c:S4 x.1 y.1=zt:=an (by simpa using h) b;by_cases a:x.1=k
    ·rw[zy a]
     have:VN (y::l) k=zn:=ZZ λz hz=>by
      rw[<- a];rcases ey.1 hz with e|hz
      ·rw[e];exact b
      ·exact λe=>aI (XP c (aZ d z hz)) e.symm
     rw[this,zy a];rfl
    ·rw[zx a,zx a];cases VN (y::l) k<;>rfl
theorem jV(k:YH):∀ (r l:List UZ),Asc zn l->Asc zn (r.foldl cB l)/\VN (r.foldl cB l) k=(VN l k).or (VN r k)
 |[],l,h=>⟨h,by show VN l k=_;cases VN l k<;>rfl⟩
 |x::r,l,h=>by
  obtain⟨a,b⟩:=jV k r (cB l x) (eQ x h λ_ h=>by cases h);refine⟨a,?_⟩;rw[iz,b,eR x k h,VX,hM]
  congr 1
  split<;>rfl
def kA(rs:List Uy)(l:List UZ):List UZ:=rs.foldl (λout r=>r.2.foldl cB out) l
def WJ:List Uy->YH->Option UZ
 |[],_=>zn
 |r::rs,k=>(VN r.2 k).or (WJ rs k)
theorem dq(k:YH):∀ (rs:List Uy) (l:List UZ),Asc zn l->Asc zn (kA rs l)/\VN (kA rs l) k=(VN l k).or (WJ rs k)
 |[],l,h=>⟨h,by show VN l k=_;cases VN l k<;>rfl⟩
 |r::rs,l,h=>by
  obtain⟨a,b⟩:=jV k r.2 l h;obtain⟨c,d⟩:=dq k rs (r.2.foldl cB l) a;refine⟨c,?_⟩;show VN (kA rs (r.2.foldl cB l)) k=_;rw[d,b,hM];rfl
def Ya(x:UZ):Bool:=!x.2.2.1
def LW(L:Ub):List UZ:=(kA (U9 L.2) []).filter Ya
theorem nD{L M:Ub}(h:∀ k,(WJ (U9 L.2) k).filter Ya=(WJ (U9 M.2) k).filter Ya):LW L=LW M:=by
 have a:=λk=>dq k (U9 L.2) [] trivial;have b:=λk=>dq k (U9 M.2) [] trivial;refine jW (aY Ya (a []).1) (aY Ya (b []).1) λk=> ?_;show VN ((kA (U9 L.2) []).filter Ya) k=VN ((kA (U9 M.2) []).filter Ya) k;rw[Z9 Ya k (a []).1,Z9 Ya k (b []).1,(a k).2,(b k).2];exact h k
theorem fJ:∀ (a b:List Uy) (k:YH),WJ (a++b) k=(WJ a k).or (WJ b k)
 |[],b,k=>rfl
 |r::a,b,k=>by
  show(VN r.2 k).or (WJ (a++b) k)=((VN r.2 k).or (WJ a k)).or (WJ b k);rw[fJ a b k,hM]
theorem jt:∀ {l:List UZ} {s:VU} {k:YH},bR s l->s.1=zt->S4 k s.2.1=zt->VN l k=zn
 |[],_,_,_,_,_=>rfl
 |x::l,s,k,⟨_,c,d⟩,b,hk=>by
  have a:S4 k x.1=zt:=f8 hk (c b);rw[VX,zx (λe=>aI a e.symm)];exact jt d rfl a
theorem fA(k:YH):∀ {l:List UZ} {s:VU},bR s l->VN (W7 s l) k=if s.1=zt/\s.2.1=k then zn else(VN l k).filter λx=> !(s.2.2&&x.2.2.1)
 |[],s,_=>by unfold W7;split<;>rfl
 |x::l,s,⟨_,g,c⟩=>by
  have f:=fA k c;simp only[true_and]at f;unfold W7;rw[bC,f,VX];by_cases a:x.1=k
  ·rw[zy a,zy a];by_cases hs:s.1=zt/\s.2.1=k
   ·rw[zy hs];have:keep s x=zf:=by unfold keep;rw[hs.1,hs.2,a];simp
    rw[this];rfl
   ·rw[zx hs]
    have:keep s x = !(s.2.2&&x.2.2.1):=by
     unfold keep
     have:(s.1&&decide (x.1=s.2.1))=zf:=by
      cases b:s.1 with
      |false=>rfl
      |true=>
       simp only[Bool.true_and,decide_eq_false_iff_not];intro e;exact hs ⟨b,by rw[<- e];exact a⟩
     rw[this];rfl
    rw[this];cases d:(!(s.2.2&&x.2.2.1))with
    |true=>rw[zy rfl,Za,zy a];simp[ns,d]
    |false=>rw[zx (by simp)];simp[ns,d,VN]
  ·rw[zx a,zx a]
   have b:VN (if keep s x=zt then[x]else[]) k=zn:=by
    split
    ·rw[Za,zx a]
    ·rfl
   rw[b,tb];by_cases hs:s.1=zt/\s.2.1=k
   ·rw[zy hs]
    have h:S4 k x.1=zt:=by
     rw[<- hs.2];refine an (g hs.1) λe=>a ?_;rw[e];exact hs.2
    rw[jt c rfl h];rfl
   ·rw[zx hs]
theorem cj{a b:List UZ}(va:VL a)(l:VL b)(k:YH):∀ {n:Nat},n<=a.length+b.length->VN (Uq a b n) k=(VN (a.take (pos a b n).1) k).or (VN (b.take (pos a b n).2) k)
 |0,_=>rfl
 |n+1,h=>by
  have G:=cj va l k (n:=n) (by omega);obtain⟨q,hs⟩:=XG va l (n:=n) (by omega);obtain⟨x,c,_⟩:=Wh va l (n:=n) (by omega);rw[Xk va l c,bC,G,Za];unfold bx at c;rw[show pos a b (n+1)=if Yx a b (pos a b n).1 (pos a b n).2=zt then((pos a b n).1+1,(pos a b n).2)else((pos a b n).1,(pos a b n).2+1)from rfl]
  revert c q;generalize (pos a b n).1=i;generalize (pos a b n).2=j;intro q c;cases g:Yx a b i j with
  |true=>
   rw[zy g]at c;rw[zy rfl];simp only;rw[gM,c,xl,bC,Za,hM,hM]
   congr 1
   by_cases r:x.1=k
   ·rw[zy r]
    have:VN (b.take j) k=zn:=ZZ λy F=>by
     obtain⟨m,o⟩:=eo F;rw[q9]at o;split at o
     ·rename_i E;have D:=q.jb;have f:b[j-1]?=zo b[j-1]:=cP (by omega);have B:=q.pb (j-1) (by omega) _ x f c
      have C:S4 b[j-1].1 y.1=zf:=by
       by_cases s:m=j-1
       ·subst s;rw[f]at o;cases o;exact Xm _
       ·have A:=l.asc
        have:∀ d,m+d+1<=j-1 -> ∀ z,b[m+d+1]?=zo z->S4 y.1 z.1=zt:=by
         intro d
         induction d with
         |zero=>intro _ z t;exact l.lt o t
         |succ d u=>
          intro hd z t;have p:b[m+d+1]?=zo b[m+d+1]:=cP (by omega);exact XP (u (by omega) _ p) (l.lt p t)
        exact V2 (this (j-1-m-1) (by omega) _ (by rw[show m+(j-1-m-1)+1=j-1 by omega];exact f))
      intro e;have w:S4 y.1 x.1=zt:=dE C B;rw[e,r,Xm]at w;cases w
     ·cases o
    rw[this];rfl
   ·rw[zx r];cases VN (b.take j) k<;>rfl
  |false=>
   rw[zx (show ¬ Yx a b i j=zt by rw[g];decide)]at c;rw[zx (show ¬ (zf=zt) by decide)];simp only;rw[gM,c,xl,bC,Za,hM]
theorem th{a b:List UZ}(va:VL a)(e:VL b)(c:Bool)(k:YH):VN (WO a b c (a.length+b.length)).2.2.1 k=((VN a k).or (VN b k)).filter λx=> !(c&&x.2.2.1):=by
 have f:=YN va e c (dc (a.length+b.length));obtain⟨d,hs⟩:=XG va e (dc (a.length+b.length));show VN (W7 (s0 c) (Uq a b (a.length+b.length))) k=_;rw[fA k f,zx (by simp),cj va e k (dc _)];rw[en (by have:=d.ia;have:=d.jb;omega),en (by have:=d.ia;have:=d.jb;omega)]
end
section
open Go Sv
def bF(f:Nat->Option UZ):Nat->Nat->Option UZ
 |_,0=>zn
 |i,m+1=>(f i).or (bF f (i+1) m)
theorem jl(f:Nat->Option UZ):∀ (m i:Nat),bF f (i+1) m=bF (λj=>f (j+1)) i m
 |0,_=>rfl
 |m+1,i=>by
  show(f (i+1)).or (bF f (i+1+1) m)=(f (i+1)).or (bF (λj=>f (j+1)) (i+1) m);rw[jl f m (i+1)]
theorem Zb{f g:Nat->Option UZ}:∀ (m i:Nat),(∀ j,i<=j->j<i+m->f j=g j)->bF f i m=bF g i m
 |0,_,_=>rfl
 |m+1,i,h=>by
  show(f i).or (bF f (i+1) m)=(g i).or (bF g (i+1) m);rw[h i (by omega) (by omega),Zb m (i+1) λj a b=>h j (by omega) (by omega)]
theorem eC:∀ (m i:Nat),bF (λ_=>zn) i m=zn
 |0,_=>rfl
 |m+1,i=>by show(zn:Option UZ).or _=_;rw[tb];exact eC m (i+1)
theorem cc(f:Nat->Option UZ):∀ (p i q:Nat),bF f i (p+q)=(bF f i p).or (bF f (i+p) q)
 |0,i,q=>by rw[eg];rfl
 |p+1,i,q=>by
  rw[show p+1+q=(p+q)+1 by omega];show(f i).or (bF f (i+1) (p+q))=((f i).or (bF f (i+1) p)).or (bF f (i+(p+1)) q);rw[cc f p (i+1) q,hM,show i+1+p=i+(p+1) by omega]
theorem bf(k:YH):∀ (ls:List (List Uy)) (K:Nat),ls.length<=K->WJ (U9 ls) k=bF (λj=>WJ (Ud ls j).reverse k) 0 K
 |[],K,_=>by
  have:(λj=>WJ (Ud [] j).reverse k)=λ_=>zn:=by
   funext j;have:Ud [] j=[]:=rfl
   rw[this];rfl
  rw[this,eC];rfl
 |rs::ls,0,h=>by simp at h
 |rs::ls,K+1,h=>by
  have e:U9 (rs::ls)=rs.reverse++U9 ls:=rfl;rw[e,fJ,bf k ls K (by simpa using h)];show _=(WJ (Ud (rs::ls) 0).reverse k).or (bF (λj=>WJ (Ud (rs::ls) j).reverse k) (0+1) K);rw[jl];rfl
theorem kJ{s:UX}(v:VSt s)(C:mb s.1){n:Nat}{j:Job}(r:JobAt s.1 n j)(E:¬ 0<Uo s.1 j)(hc:W4 s.1 j=zt)(G:Vc j≠[]->s.2.2<=1000000):LW (WT s j)=LW s.1:=by
 have F:=ji v C r E hc G;obtain⟨P,S,K,U,W⟩:=r.out v.lev (C n);have d:j.1.toNat=n:=by rw[K];simp
 obtain⟨b,c,q,m,B,f,M,t,v0,v1⟩:=r;have J:=Yb.1 B
 have L:Uo s.1 j=c.2.length+b.2.length-m:=by
  rw[f];unfold Uo;simp only[bl,B];show c.2.length+b.2.length-((m:Int)).toNat=_;rw[bl]
 have u:m=c.2.length+b.2.length:=by omega
 subst u
 have p:∀ k,VN (Vc j) k=((VN c.2 k).or (VN b.2 k)).filter λx=> !(q&&x.2.2.1):=λk=>by
  rw[f];exact th v1 v0 q k
 refine nD λk=> ?_;have N:=F.lev.len;have O:=v.lev.len;rw[bf k _ 14 (by omega),bf k _ 14 (by omega)];rw[show 14=n+(1+(13-n)) by omega,cc,cc _ n 0];have w:Zk s j=n\/Zk s j=n+1:=by unfold Zk;rw[d];split<;>omega
 have l:bF (λi=>WJ (Ud (WT s j).2 i).reverse k) 0 n=bF (λi=>WJ (Ud s.1.2 i).reverse k) 0 n:=Zb _ _ λi _ hi=>by
  rw[Wu d,zx (by rintro⟨_,h⟩;omega),zx (by omega)]
 rw[l];generalize bF (λi=>WJ (Ud s.1.2 i).reverse k) 0 n=A
 have y:bF (λi=>WJ (Ud (WT s j).2 i).reverse k) (0+n) (1+(13-n))=(VN (Vc j) k).or (bF (λi=>WJ (Ud s.1.2 i).reverse k) (n+1) (13-n)):=by
  rw[eg,TT 1];show(WJ (Ud (WT s j).2 n).reverse k).or (bF (λi=>WJ (Ud (WT s j).2 i).reverse k) (n+1) (13-n))=_;by_cases a:Vc j=[]
  ·rw[Wu d,zx (by simp[a]),zy rfl,a];refine congrArg _ (Zb _ _ λi hi _=> ?_);rw[Wu d,zx (by simp[a]),zx (by omega)]
  ·rcases w with ht|ht
   ·rw[Wu d,zy ⟨a,ht.symm⟩,zy rfl]
    have e:WJ (([]:List Uy)++[(s.2.2,Vc j)]).reverse k=VN (Vc j) k:=by
     show(VN (Vc j) k).or zn=_;cases VN (Vc j) k<;>rfl
    rw[e];refine congrArg _ (Zb _ _ λi hi _=> ?_);rw[Wu d,zx (by rintro⟨_,h⟩;omega),zx (by omega)]
   ·rw[Wu d,zx (by rintro⟨_,h⟩;omega),zy rfl];have D:=F.to12 a;rw[show 13-n=(12-n)+1 by omega];show(zn:Option UZ).or ((WJ (Ud (WT s j).2 (n+1)).reverse k).or (bF _ (n+1+1) (12-n)))=(VN (Vc j) k).or ((WJ (Ud s.1.2 (n+1)).reverse k).or (bF _ (n+1+1) (12-n)));rw[Wu d,zy ⟨a,ht.symm⟩,zx (by omega),List.reverse_append,tb];have e:WJ ([(s.2.2,Vc j)].reverse++(Ud s.1.2 (n+1)).reverse) k=(VN (Vc j) k).or (WJ (Ud s.1.2 (n+1)).reverse k):=rfl;rw[e,hM];refine congrArg _ (congrArg _ (Zb _ _ λi hi _=> ?_));rw[Wu d,zx (by rintro⟨_,h⟩;omega),zx (by omega)]
 have o:bF (λi=>WJ (Ud s.1.2 i).reverse k) (0+n) (1+(13-n))=((VN c.2 k).or (VN b.2 k)).or (bF (λi=>WJ (Ud s.1.2 i).reverse k) (n+1) (13-n)):=by
  rw[eg,TT 1];show(WJ (Ud s.1.2 n).reverse k).or _=_;rw[J];refine congrArg (λz=>Option.or z _) ?_;show(VN c.2 k).or ((VN b.2 k).or zn)=_;cases VN b.2 k<;>rfl
 rw[y,o,p k];cases q with
 |false=>
  have:((VN c.2 k).or (VN b.2 k)).filter (λx=> !(zf&&x.2.2.1))=(VN c.2 k).or (VN b.2 k):=by
   cases(VN c.2 k).or (VN b.2 k)<;>simp[ns]
  rw[this]
 |true=>
  have I:bF (λi=>WJ (Ud s.1.2 i).reverse k) (n+1) (13-n)=zn:=by
   rw[Zb (g:=λ_=>zn) _ _ λi hi _=> ?_,eC];have:Ud s.1.2 i=[]:=by unfold Ud;rw[a9 (by have:=t rfl;omega)];rfl
   rw[this];rfl
  rw[I];cases A with
  |some x=>rfl
  |none=>
   cases(VN c.2 k).or (VN b.2 k)with
   |none=>rfl
   |some x=>
    cases hd:x.2.2.1<;>simp[ns,Ya,hd]
end
section
open Go Sv
theorem kc{t:UX}(h:t=zS\/VSt t):XM (t,t)=zo zt:=by
 rcases h with h|h
 ·rw[h];exact AAC
 ·exact gu h
end
section
open Go Sv
end
section
open Go Sv
def Uj(l:List Uy):Nat:=(l.map λr=>r.2.length).sum
theorem Vz(r:Uy)(l:List Uy):Uj (r::l)=r.2.length+Uj l:=by simp[Uj]
theorem VY(l m:List Uy):Uj (l++m)=Uj l+Uj m:=by simp[Uj]
theorem mu(l:List Uy):Uj l.reverse=Uj l:=by simp[Uj]
theorem dv{l:List Uy}(h:∀ r∈l,r.2.length<=5000):Uj l<=l.length*5000:=by
 induction l with
 |nil=>simp[Uj]
 |cons r l b=>
  rw[Vz,ci];have:=h r (by simp);have:=b λx a=>h x (by simp[a]);omega
theorem af:∀ ls:List (List Uy),Uj (U9 ls)=Uj ls.flatten/\(U9 ls).length=ls.flatten.length
 |[]=>⟨rfl,rfl⟩
 |rs::ls=>by
  obtain⟨a,b⟩:=af ls;have e:U9 (rs::ls)=rs.reverse++U9 ls:=rfl;rw[e,li,VY,VY,mu,a];simp[b]
theorem tW{S β:Type}{f:S->Option (LR S β)}{r:β}(mk:Int->Nat->S)(n:Nat){s:S}(b:s=mk ((n:Int)-1) n)(g:n<1000000000)(hs:∀ k,k<n->f (mk (k:Int) (k+1))=zo (.nx (mk ((k:Int)-1) k)))(c:f (mk (-1) 0)=zo (.dn r)):loop f s=zo r:=by
 subst b
 have a:∀ k,k<=n->IX (k+1) f (mk ((k:Int)-1) k)=zo r:=by
  intro k
  induction k with
  |zero=>intro _;exact U6 c
  |succ k d=>
   intro e;have:=hs k (by omega);rw[show((k+1:Nat):Int)-1=(k:Int) by omega,U1 this];exact d (by omega)
 exact Vn (by omega) (a n (dc _))
theorem Zo{L:Ub}(v:VLev L):L.2.flatten.length<=24/\Uj L.2.flatten<=24*5000:=by
 have b:L.2.flatten.length<=24:=by
  have h:=ZO L.2 v.two;have:=v.len;rw[(af L.2).2]at h;omega
 refine⟨b,?_⟩
 have:=dv (l:=L.2.flatten) λr a=>by
  obtain⟨rs,c,d⟩:=kd.1 a;obtain⟨i,hi⟩:=eo c;exact((v.lev i rs hi).2 r d).vl.len
 exact xb this (xm _ b)
def gI(L:Ub):Int×(Int×Int):=if(WM L).2.2≠0 then(0,(0,(WM L).2.2))else((Uj L.2.flatten:Int),((L.2.flatten.length:Int),0))
theorem mZ(L:Ub)(g:L.2.length<=1048576)(n:∀ rs∈L.2,rs.length<=1048576 /\ ∀ r∈rs,r.2.length<=9223372036854775807):Y8 L=zo (gI L):=by
 unfold Y8 gI;simp only[Uf,Uc];rw[Zr _ g n,TW,UI];by_cases b:(WM L).2.2=0;rotate_left
 ·rw[zx b,zy b]
 rw[zy b,zx (by simp[b])];have v:=Ye.1 b;have p:=v.len;obtain⟨s1,s2⟩:=Zo v
 rw[Vo (l:=L.2) (σ:=Nat×Nat) (s:=((0:Int),((0:Int),(0:Int)))) (λi a=>((i:Int),((a.1:Int),(a.2:Int)))) (λls i a=>a.1+Uj ls.flatten=Uj L.2.flatten/\a.2+ls.flatten.length=L.2.flatten.length) (λ_ _ _=>(0,(((L.2.length:Int),((Uj L.2.flatten:Int),(L.2.flatten.length:Int))),()))) (0,0) rfl (by omega) ⟨by simp,by simp⟩ (λa h=>by
  obtain⟨c,d⟩:=h;simp only;rw[re,Sd,<- c,<- d]
  simp[Uj]) (λi rs ls a hd hi e h=>by
   obtain⟨c,d⟩:=h;rw[li,VY]at c;rw[li,gw]at d;have o:=v.two rs (bo hi);refine⟨(a.1+Uj rs,a.2+rs.length),?_,⟨by simp only;omega,by simp only;omega⟩,rfl⟩;simp only;rw[rl e,TB,UY,Tq hi,TG (by omega)]
   rw[tW (λk m=>(k,(((a.1+Uj (rs.drop m):Nat):Int),((a.2+(rs.length-m):Nat):Int)))) rs.length (by simp[Uj]) (by omega) (λk f=>by
    have j:rs[k]?=zo rs[k]:=cP f;have hd:Uj (rs.drop k)=rs[k].2.length+Uj (rs.drop (k+1)):=by rw[List.drop_eq_getElem_cons f,Vz]
    have hc:Uj (rs.drop k)<=Uj rs:=by
     have:=VY (rs.take k) (rs.drop k);rw[List.take_append_drop]at this;omega
    simp only;rw[UE,zy (by omega),UY,Tq j,TG (by omega),TE (by omega),TE (by omega),hd]
    congr 4
    ·omega
    ·congr 1
     omega) (r:=(0,(((-1:Int),(((a.1+Uj rs:Nat):Int),((a.2+rs.length:Nat):Int))),()))) rfl,TW]
   rw[Uk hi (by omega)]),TW]
theorem kQ{L:Ub}(v:VLev L):YX L=zo ((Uj L.2.flatten:Int),((L.2.flatten.length:Int),0)):=by
 unfold YX;simp only[Uf,Uc];rw[ai v,TW];simp only;rw[UI,zy rfl];obtain⟨s1,s2⟩:=Zo v;obtain⟨n1,n2⟩:=af L.2
 rw[Vo (l:=U9 L.2) (σ:=Nat) (s:=((0:Int),(0:Int))) (λi a=>((a:Int),(i:Int))) (λls i a=>a+Uj ls=Uj L.2.flatten) (λ_ _ _=>(0,(((Uj L.2.flatten:Int),((U9 L.2).length:Int)),()))) 0 rfl (by omega) (by rw[n1];simp) (λa h=>by
  simp only
  rw[re,Sd,<- h];simp[Uj]) (λi r ls a hd hi b h=>by
   rw[Vz]at h;refine⟨a+r.2.length,?_,by omega,rfl⟩;simp only;rw[rl b,TB,UY,Tq hi,TE (by omega),Uk hi (by omega)]
   rfl),TW,n2]
theorem sy{s:UX}(m:Sm s)(a:Int):Z6 (s,a)=zo (XS 0 (λs j=>((Uo s.1 j:Int),0)) s a):=by
 unfold Z6;rw[dy m,TW];unfold XS cF ZJ;by_cases b:(Ua s).2=0;rotate_left
 ·rw[zy b,UI,zx b,zy b]
 rw[zx (show ¬ (Ua s).2≠0 by simp[b]),zx (show ¬ (Ua s).2≠0 by simp[b])];have v:=Ue.1 b;cases e:ap a 0 (Ug 0 s.1.2)with
 |none=>rfl
 |some i=>
  obtain⟨j,n,c,g,f,d,h⟩:=v.at e;simp only[c];rw[UI,zy rfl,UY,Tq c,(JobAt.left d).1,TW]
def bp(s:UX)(d:Int):Nat:=match cF s d with
 |some j=>Uo s.1 j+1
 |none=>0
def ay(s:UX):Nat:=((Ug 0 s.1.2).map (bp s)).sum
theorem VSt.debt{s:UX}(v:VSt s){d:Int}(h:d∈Ug 0 s.1.2)(m:Sm s):cW (s,d)=zo ((bp s d:Int),0)/\bq (s,d)=zo ((bp s d:Int),0)/\bp s d<=10001:=by
 obtain⟨j,n,b,f,g,c,k⟩:=v.atDue h;have e:(Ua s).2=0:=Ue.2 v;have hd:bp s d=Uo s.1 j+1:=by unfold bp;rw[b]
 have i:=(JobAt.left c).2.2
 have a:XS (0:Int) (λs j=>((Uo s.1 j:Int),0)) s d=((Uo s.1 j:Int),0):=by
  unfold XS;rw[zx (show ¬ (Ua s).2≠0 by simp[e]),b]
 unfold cW bq;rw[sy m,Zh m,a,hd,TW];simp only[TW];rw[UI,zy rfl,TE (by omega)];exact⟨rfl,rfl,by omega⟩
def Vg(b:Uy):Int×Int:=if b.1<1\/b.1>16 then(0,7)else if(b.2.length:Int)>b.1 then(0,3)else Z1 zn 0 b.2
theorem ac(b:Uy):WF b=zo (Vg b):=by
 unfold WF Vg;rw[UH,UF,UF];by_cases c:b.1<1
 ·rw[zy c,zy (.inl c)]
 rw[zx c];by_cases d:b.1>16
 ·rw[zy d,zy (.inr d)]
 rw[zx d,zx (show ¬ (b.1<1\/b.1>16) by omega),Uf,Uc];by_cases a:(b.2.length:Int)>b.1
 ·rw[zy a,zy a]
 rw[zx a,zx a];have e:=W9 b.2 (by omega);unfold U7 V4 at e;rw[UF,Uf,Uc,zx (show ¬ (b.2.length:Int)>5000 by omega),zx (show ¬ b.2.length>5000 by omega)]at e;exact e
theorem fV(b:Uy):YW b=zo (Vg b):=by
 rw[<- ac];unfold YW WF
 congr 1
 funext _
 congr 1
 funext _
 congr 1
 funext _
 congr 2
 funext s0
 by_cases h:0<=s0.2.2
 ·simp only[TI h];cases a:b.2[s0.2.2.toNat]? with
  |none=>unfold ix;simp only[a]
  |some x=>simp only[Tq a,Zs,XH,TW]
 ·have c:∀ {β:Type} (k:Nat->Option β),SW s0.2.2 k=zn:=λk=>by unfold SW;simp[h]
  simp only[c]
def Ui(f:VT):Int:=if(Vg f.1).2≠0 then(Vg f.1).2 else if(Ua f.2).2≠0 then(Ua f.2).2 else if f.1.1≠f.2.1.1 then 6 else 0
theorem cU{f:VT}(m:Sm f.2):Wc f=zo (Ui f):=by
 unfold Wc Ui;rw[ac,TW,UI];by_cases a:(Vg f.1).2=0;rotate_left
 ·rw[zx a,zy a]
 rw[zy a,zx (show ¬ (Vg f.1).2≠0 by simp[a]),uL m,TW,UI];by_cases b:(Ua f.2).2=0;rotate_left
 ·rw[zx b,zy b]
 rw[zy b,zx (show ¬ (Ua f.2).2≠0 by simp[b]),UI];by_cases c:f.1.1=f.2.1.1
 ·rw[zy c,zx (show ¬ f.1.1≠f.2.1.1 by simp[c])]
 ·rw[zx c,zy c]
theorem cA{f:VT}(m:Sm f.2):XZ f=zo (Ui f):=by
 unfold XZ Ui;rw[fV,TW,UD];by_cases a:(Vg f.1).2=0;rotate_left
 ·rw[zx a,UD,zx a,zy a]
 rw[zy a,zx (show ¬ (Vg f.1).2≠0 by simp[a]),kW m,TW,UD];by_cases b:(Ua f.2).2=0;rotate_left
 ·rw[zx b,zy b]
 rw[zy b,zx (show ¬ (Ua f.2).2≠0 by simp[b]),UI];by_cases c:f.1.1=f.2.1.1
 ·rw[zy c,zx (show ¬ f.1.1≠f.2.1.1 by simp[c]),b]
 ·rw[zx c,zy c]
end
section
open Go Sv
end
section
open Go Sv
def cC(s:UX)(l:List UZ):Ub:=Va s.1 0 (Ud s.1.2 0++[(s.2.2,l)])
def bU(s:UX)(l:List UZ):UX×Int:=
 if(Ua s).2≠0 then(zS,(Ua s).2)else if s.2.2>1000000\/2<=(Ud s.1.2 0).length then(zS,5)else if(V4 l).2≠0 then(zS,(V4 l).2)
 else if kR [] (VD s.1.1 0) (s.2.2,l)≠0 then(zS,kR [] (VD s.1.1 0) (s.2.2,l))else(ZG s (cC s l) (s.2.2+1) (-1),0)
theorem cV{s:UX}(v:VSt s):∀ y∈s.1.2.flatten,y.1≠s.2.2:=λy a=>by
 have:=Yv a;have:=v.n3;omega
theorem cE{s:UX}(v:VSt s){l:List UZ}(a:(Ud s.1.2 0).length<2)(b:kR [] (VD s.1.1 0) (s.2.2,l)=0):VLev (cC s l):=
 v.lev.arrive (by omega) a (jj.1 b).1 (cV v)
theorem dt(s:UX)(l:List UZ)(i:Nat):Ud (cC s l).2 i=if i=0 then Ud s.1.2 0++[(s.2.2,l)]else Ud s.1.2 i:=by
 unfold cC;rw[XQ]
theorem tD{s:UX}(v:VSt s){l:List UZ}(d:(Ud s.1.2 0).length<2)(h:kR [] (VD s.1.1 0) (s.2.2,l)=0)(t:s.2.2<=1000000):VSt (ZG s (cC s l) (s.2.2+1) (-1)):=by
 have m:=v.n1;refine gB v (cE v d h) (by omega) (by omega) (λx o=> ?_) (λn q r j _ _=> ?_)
 ·obtain⟨i,hi⟩:=aE.1 o
  have a:∀ {y:Uy} {k:Nat},y∈Ud s.1.2 k->y.1<s.2.2+1:=fun {y k} p=>by
   have:=Yv (aE.2 ⟨k,p⟩);have:=v.n3;omega
  rw[dt]at hi;by_cases g:i=0
  ·rw[zy g]at hi;rcases ml.1 hi with hi|hi
   ·exact a hi
   ·rw[sa.1 hi];show s.2.2<s.2.2+1;omega
  ·rw[zx g]at hi;exact a hi
 ·have c:=Yb.1 j;have f:n≠0:=λe=>by rw[e]at c;rw[c]at d;simp at d
  have b:Ud (cC s l).2 n=[q,r]:=by rw[dt,zx f,c]
  refine⟨Yb.2 b,λu=>(jk (cE v d h).last (by rw[b];simp) λi hi=> ?_).symm⟩;rw[dt,zx (by omega)];unfold Ud;rw[a9 (by omega)];rfl
theorem uO{s:UX}(v:VSt s)(h:s.2.2<=1000000)(l:List UZ):kR [] (VD s.1.1 0) (s.2.2,l)=if(V4 l).2≠0 then(V4 l).2 else if l.length=0 then 4 else if(l.length:Int)>VD s.1.1 0 then 3 else 0:=by
 have:=v.n1;unfold kR;rw[zx (by simp only;omega)];simp
theorem j0{s:UX}(m:Sm s){l:List UZ}(o:l.length<=1000):XI (s,l)=zo (bU s l):=by
 unfold XI bU;rw[uL m,TW,UI];by_cases b:(Ua s).2=0;rotate_left
 ·rw[zx b,zy b];rfl
 have v:=Ue.1 b;have j:=v.n1;have k:=ba v.lev (n:=0) (by omega);rw[zy b,zx (by simp[b])];show(bd (WB (s.1,((0:Nat):Int))) λp=>_)=_;rw[k,TW];simp only;rw[zx (show ¬ (0>=12) by omega),UI,zy rfl,UF];by_cases d:s.2.2>1000000
 ·rw[zy d,zy (.inl d)];rfl
 have e:Zi s.1 0=decide ((Ud s.1.2 0).length<2):=by unfold Zi Ud;simp
 rw[zx d,U4,e,V3];by_cases f:2<=(Ud s.1.2 0).length
 ·rw[zx (by omega),zy (.inr f)];rfl
 rw[zy (by omega),zx (show ¬ (s.2.2>1000000\/2<=(Ud s.1.2 0).length) by omega)];rw[VE (by simp only[AR];omega),bJ _ (by simp only;omega),TW,zx (show ¬ (s.2.2<1\/s.2.2>1000000) by omega),UI];by_cases c:(V4 l).2=0;rotate_left
 ·rw[zx c,zy c];rfl
 rw[zy c,zx (by simp[c])];have g:=bw v.lev (n:=0) (by omega) (x:=(s.2.2,l)) (by simp only;omega) (cV v) (by omega);show(bd (U3 (s.1,(((0:Nat):Int),(s.2.2,l)))) λq=>_)=_;rw[g,TW];by_cases a:kR [] (VD s.1.1 0) (s.2.2,l)=0;rotate_left
 ·rw[zy a,zy a,UI,zx a];rfl
 rw[zx (by simp[a]),zx (by simp[a]),UI,zy rfl];have i:=v.jsmall;have h:=aA v.nodup (by omega) (cE v (by omega) a) (s.2.2+1) (-1);rw[TE (by omega)];show(bd (Uu (s,(cC s l,(s.2.2+1,(-1))))) λr=>_)=_;rw[h];rfl
end
section
open Go Sv
theorem Zy{α β γ δ:Type}{f:α->Option (LR δ γ)}{s:α}{k:δ->Option β}{a:γ->Option β}{x:δ}(h:f s=zo (.nx x)):jn f s k a=k x:=by
 unfold jn;rw[h]
theorem tp{L:Ub}(v:VLev L){n:Nat}(B:n<12){x:Uy}(D:x.2.length<=1048576)(b:∀ y∈L.2.flatten,y.1≠x.1)(A:(Ud L.2 n).length<2) :
  X3 (L,((n:Int),x))=zo (if kR [] (VD L.1 n) x≠0 then((0,[]),kR [] (VD L.1 n) x)else(Va L n (Ud L.2 n++[x]),0)):=by
 have C:=v.len;have u:=ZO L.2 v.two;unfold X3;simp only[Uf,Uc];rw[nZ v,TW,zx (by omega),UI,zy rfl,ai v,TW];refine Ut (Vo (l:=U9 L.2) (σ:=List Int) (s:=(([]:List Int),(0:Int))) (λi m=>(m,(i:Int))) (λls i m=>m++ls.map jq=(U9 L.2).map jq) (λ_ _ _=>(0,(((U9 L.2).map jq,((U9 L.2).length:Int)),()))) [] rfl (by omega) rfl (λm h=> ?_) (λi r ls m hd hi c h=> ?_)) ?_
 ·simp only;rw[re,Sd,<- h];simp
 ·refine⟨m++[jq r],?_,by rw[<- h];simp,rfl⟩
  have g:m.length<=1000:=by
   have p:=congrArg mR h;rw[gw,l6,l6]at p;omega
  simp only;rw[rl c,TB,UY,Tq hi,VE (by simp only[BG,ci,co];omega),Uh (by omega)];rfl
 have d:x.1 ∉ (U9 L.2).map jq:=λg=>by
  obtain⟨y,w,e⟩:=nb.1 g;obtain⟨rs,j,k⟩:=List.mem_flatMap.1 w;exact b y (kd.2 ⟨rs,j,List.mem_reverse.1 k⟩) e
 have t:kR ((U9 L.2).map jq) (VD L.1 n) x=kR [] (VD L.1 n) x:=by
  rw[nC,zx d];split
  ·rename_i h;exact h.symm
  ·rfl
 have small:∀ i,(Ud L.2 i).length<=1048576:=λi=>by have:=(v.own i).1;omega
 have q:=cq (L:=L) (n:=n) (r:=Ud L.2 n++[x]) (by omega) (by omega) (by simp;omega) small;rw[cz v.B1 v.B2 (by omega),TW,fZ _ _ _ (by omega) (by simp;omega),t,TW,UD];by_cases a:kR [] (VD L.1 n) x=0;rotate_left
 ·rw[zx a,zy a,UI,zx a]
 rw[zy a,zx (by simp[a]),UE]
 have fin:(bd (Vj (L,(n:Int))) λf=>gd (CI f.length 1048576) λ_=>gd (CI (BG f.length [x].length) 1048576) λ_=>bd (VW (L,((n:Int),Iy f [x]))) λz=>zo (z,(0:Int)))=zo (Va L n (Ud L.2 n++[x]),0):=by
  rw[fh,TW,VE (by omega),VE (by simp only[BG,ci,co];omega)];exact Ut q rfl
 by_cases o:n<L.2.length
 ·rw[zx (by omega),UY,Tq (WN o),UD,zx (by omega),UI,zy a];exact fin
 ·rw[zy (by omega),UI,zy a];exact fin
theorem ga{s:UX}(m:Sm s){l:List UZ}(w:l.length<=1000):X5 (s,l)=zo (bU s l):=by
 unfold X5 bU;rw[kW m,TW];simp only[Uf,Uc];by_cases c:(Ua s).2=0;rotate_left
 ·rw[zy c];refine(Zy (x:=(Ua s).2) (Zy (x:=false) (by rw[UD,zx c]) |>.trans rfl)).trans ?_;rw[UI,zx c];rfl
 have v:=Ue.1 c;have t:=v.n1;have r:=v.lev.len;rw[zx (by simp[c])];have k:=(v.lev.own 0).1;by_cases i:s.2.2>1000000\/2<=(Ud s.1.2 0).length
 ·rw[zy i]
  refine(Zy (x:=(5:Int)) (Zy (x:=true) (by
   rw[UD,zy c,UF];by_cases j:s.2.2>1000000
   ·rw[zy j]
   ·rw[zx j];have a:2<=(Ud s.1.2 0).length:=by omega
    have f:0<s.1.2.length:=by
     by_cases h:0<s.1.2.length
     ·exact h
     ·unfold Ud at a;rw[a9 (by omega)]at a;simp at a
    rw[UE,zx (by omega),Tq (WN f)]
    rw[show O3 ((Ud s.1.2 0).length:Int) 2=zt by rw[V7];simp;omega]) |>.trans rfl)).trans ?_
  rfl
 rw[zx i]
 refine(Zy (x:=(Ua s).2) (Zy (x:=false) (by
   rw[UD,zy c,UF,zx (by omega),UE];by_cases f:0<s.1.2.length
   ·rw[zx (by omega),Tq (WN f)];rw[show O3 ((Ud s.1.2 0).length:Int) 2=zf by rw[V7];simp;omega]
   ·rw[zy (by omega)]) |>.trans rfl)).trans ?_
 rw[UI,zy c,jx _ (by simp only;omega),TW,zx (show ¬ (s.2.2<1\/s.2.2>1000000) by omega)];have b:=uO v (by omega:s.2.2<=1000000) l;by_cases a:(V4 l).2=0;rotate_left
 ·rw[zy a];refine(Zy (x:=(V4 l).2) (Zy (x:=false) (by rw[UD,zx a]) |>.trans rfl)).trans ?_;rw[UI,zx a];rfl
 rw[zx (by simp[a])];rw[zx (by simp[a])]at b;by_cases f:l.length=0
 ·rw[zy f]at b;rw[zy (by rw[b];decide),b]
  refine(Zy (x:=(4:Int)) (Zy (x:=true) (by
   rw[UD,zy a,show O3 (l.length:Int) 0=zt by rw[V7];simp;exact List.length_eq_zero_iff.1 f]) |>.trans rfl)).trans ?_
  rfl
 refine(Zy (x:=(V4 l).2) (Zy (x:=false) (by
   rw[UD,zy a,show O3 (l.length:Int) 0=zf by rw[V7];simp;exact λe=>f (by rw[e];rfl)]) |>.trans rfl)).trans ?_
 have o:=tp v.lev (n:=0) (by omega) (x:=(s.2.2,l)) (by simp only;omega) (cV v) (by omega);rw[UI,zy a];refine Ut o ?_;by_cases g:kR [] (VD s.1.1 0) (s.2.2,l)=0;rotate_left
 ·rw[zy g,zy g,UI,zx g];rfl
 rw[zx (by simp[g]),zx (by simp[g]),UI,zy rfl];have d:=cE v (by omega) g;have q:=v.jsmall;have p:=d.len;rw[TE (by omega)];show(bd (VM (cC s l)) λu=>_)=_;rw[bH (by omega),TW];exact Ut (ab v.nodup (by omega) d (s.2.2+1) (-1)) rfl
end
section
open Go Sv
end
section
open Go Sv
end
section
open Go Sv
def Gd(s0 s:UX):Prop:=VSt s/\LW s.1=LW s0.1/\Uj s.1.2.flatten<=2000
theorem tI{l:List Uy}{r:Uy}(h:r∈l):r.2.length<=Uj l:=by
 induction l with
 |nil=>cases h
 |cons x l a=>
  rw[Vz];rcases ey.1 h with e|h
  ·rw[e];omega
  ·have:=a h;omega
theorem az{L:Ub}(h:Uj L.2.flatten<=2000):mb L:=λi r a=>by
 have:=tI (aE.2 ⟨i,a⟩);omega
theorem ec{s:UX}(v:VSt s)(h:mb s.1){n:Nat}{j:Job}(g:JobAt s.1 n j)(C:¬ 0<Uo s.1 j):Uj (WT s j).2.flatten<=Uj s.1.2.flatten:=by
 obtain⟨E,F,y,G,I⟩:=g.out v.lev (h n);have w:j.1.toNat=n:=by rw[y];simp
 have a:=h n;obtain⟨d,e,m,k,u,c,x,D,v0,v1⟩:=g;have i:=Yb.1 u;rw[i]at a;have B:=a d (by simp);have f:=a e (by simp)
 have l:(Vc j).length<=e.2.length+d.2.length:=by
  rw[c];exact(nM v1 v0 m x (by omega)).2
 obtain⟨p,q,f,o⟩:=YJ s.1 n []
 have e1:Uj s.1.2.flatten=Uj p+((d.2.length+e.2.length)+Uj q):=by
  rw[f,i,VY,VY,Vz,Vz];simp[Uj]
 have e2:Uj (Va s.1 n []).2.flatten=Uj p+Uj q:=by rw[o,VY,VY];simp[Uj]
 unfold WT;rw[w];by_cases b:Vc j=[]
 ·rw[zy b];omega
 ·rw[zx b];obtain⟨z,A,r,t⟩:=YJ (Va s.1 n []) (Zk s j) (Ud (Va s.1 n []).2 (Zk s j)++[(s.2.2,Vc j)]);have e3:Uj (Va s.1 n []).2.flatten=Uj z+(Uj (Ud (Va s.1 n []).2 (Zk s j))+Uj A):=by rw[r,VY,VY]
  rw[t,VY,VY,VY,Vz];simp only[Uj,List.map_nil,List.sum_nil];simp only[Uj]at e3 e2 e1;omega
theorem je{s:UX}(v:VSt s){d:Int}(h:d∈Ug 0 s.1.2):∃ (i:Nat) (j:Job) (n:Nat),ap d 0 (Ug 0 s.1.2)=zo i/\s.2.1[i]?=zo j/\d=(n:Int)/\j.1=(n:Int)/\JobAt s.1 n j:=by
 obtain⟨i,hi⟩:=dz (k:=0) h;obtain⟨j,n,a,b,c,d,_⟩:=v.at hi;exact⟨i,j,n,hi,a,b,c,d⟩
theorem kH{s0 s:UX}(g:Gd s0 s){d:Int}(h:d∈Ug 0 s.1.2):∃ (c:Bool) (t:UX) (b:Bool) (e:Int),YO (s,d)=zo (c,0)/\Vh (s,d)=zo (t,(b,e))/\(s.2.2<=1000000->c=decide (e=0))/\(e=0->Gd s0 t):=by
 obtain⟨v,z,hc⟩:=g;have r:=az hc;have m:=v.sm;obtain⟨i,j,n,hi,y,hd,w,q⟩:=je v h;have A:(Ua s).2=0:=Ue.2 v;have o:cF s d=zo j:=by unfold cF;rw[hi];exact y
 have p:YO (s,d)=zo (W4 s.1 j,0):=by
  rw[wa m];unfold XS;rw[zx (by simp[A]),o]
 have k:Vh (s,d)=zo (ZQ s j):=by
  rw[dm m r];unfold XR;rw[zx (by simp[A]),o]
 refine⟨W4 s.1 j,(ZQ s j).1,(ZQ s j).2.1,(ZQ s j).2.2,p,k,?_⟩;unfold ZQ;by_cases l:W4 s.1 j=zf
 ·rw[zy l,l];exact⟨λ_=>by simp,λh=>by cases h⟩
 have a:W4 s.1 j=zt:=by simpa using l
 rw[zx l];by_cases f:0<Uo s.1 j
 ·rw[zy f];refine⟨λ_=>by simp[a],λ_=>⟨nY v (by rw[w,<- hd];exact hi) y q f,z,hc⟩⟩
 rw[zx f];unfold aU;rw[zx (λh=>h.elim f l)];by_cases u:s.2.2>1000000/\Vc j≠[]
 ·rw[zy u];exact⟨λh=>by omega,λh=>by cases h⟩
 rw[zx u]
 have x:Vc j≠[]->s.2.2<=1000000:=λC=>by
  by_cases B:s.2.2>1000000
  ·exact absurd ⟨B,C⟩ u
  ·omega
 refine⟨λ_=>by simp[a],λ_=>⟨m7 v r q f a x,?_,?_⟩⟩
 ·exact(kJ v r q f a x).trans z
 ·have:=ec v r q f;show Uj (WT s j).2.flatten<=2000;omega
theorem dx:∀ {ls:List (List Uy)} {i n:Nat},(Ud ls n).length=2->((i+n:Nat):Int)∈Ug i ls
 |[],i,n,h=>by simp[Ud]at h
 |rs::ls,i,0,h=>by
  have h':rs.length=2:=h;rw[Yz,zy h'];simp
 |rs::ls,i,n+1,h=>by
  rw[Yz];refine sw _ ?_;have:=dx (ls:=ls) (i:=i+1) (n:=n) h
  rwa [show i+1+n=i+(n+1) by omega]at this
end
section
open Go Sv
def Vm(f:Nat->Nat):Nat->Nat
 |0=>0
 |m+1=>Vm f m+f m
theorem bn{f g:Nat->Nat}:∀ {m:Nat},(∀ i,i<m->g i<=f i)->Vm g m<=Vm f m
 |0,_=>dc _
 |m+1,h=>Nat.add_le_add (bn λi hi=>h i (by omega)) (h m (by omega))
theorem dG{f g:Nat->Nat}{n:Nat}(a:g n+1<=f n):∀ {m:Nat},n<m->(∀ i,i<m->i≠n->g i<=f i)->Vm g m+1<=Vm f m
 |0,h,_=>absurd h (by omega)
 |m+1,h,ho=>by
  unfold Vm;by_cases e:n=m
  ·subst e;have:=bn (f:=f) (g:=g) (m:=n) λi hi=>ho i (by omega) (by omega);omega
  ·have:=dG a (m:=m) (by omega) λi hi=>ho i (by omega);have:=ho m (by omega) (λh=>e h.symm);omega
theorem dj{f g:Nat->Nat}{n:Nat}(a:g n+g (n+1)+1<=f n+f (n+1)):∀ {m:Nat},n+1<m->(∀ i,i<m->i≠n->i≠n+1->g i<=f i)->Vm g m+1<=Vm f m
 |0,h,_=>absurd h (by omega)
 |m+1,h,ho=>by
  unfold Vm;by_cases e:n+1=m
  ·subst e;have:=bn (f:=f) (g:=g) (m:=n) λi hi=>ho i (by omega) (by omega) (by omega);unfold Vm;omega
  ·have:=dj a (m:=m) (by omega) λi hi=>ho i (by omega);have:=ho m (by omega) (by omega) (by omega);omega
theorem aK:∀ {js:List Job} {j:Job},(js.map (·.1)).Nodup->j∈js->VQ js j.1=zo j
 |[],_,_,h=>by cases h
 |i::js,j,hn,h=>by
  rw[ol,pg]at hn;unfold VQ;rw[hV];unfold d9;rw[V7];rcases ey.1 h with e|h
  ·subst e;simp
  ·have a:¬ j.1=i.1:=λe=>hn.1 (by rw[<- e];exact l5 h);rw[decide_eq_false a];exact aK hn.2 h
theorem dQ:∀ {js:List Job} {i:Nat} {j:Job} (w:Yh) (d:Int),(js.map (·.1)).Nodup->js[i]?=zo j->VQ (js.set i (j.1,w)) d=if d=j.1 then zo (j.1,w)else VQ js d
 |[],i,j,w,d,_,h=>by simp at h
 |x::js,0,j,w,d,hn,h=>by
  have e:x=j:=by simpa using h
  subst e;unfold VQ;rw[List.set_cons_zero,hV,hV];unfold d9;rw[V7];by_cases e:d=x.1<;>simp[e]
 |x::js,i+1,j,w,d,hn,h=>by
  rw[ol,pg]at hn;have h':js[i]?=zo j:=by simpa using h
  have b:=dQ w d hn.2 h';unfold VQ at b ⊢;rw[List.set_cons_succ,hV,hV,b];have c:d9 d x=decide (d=x.1):=V7 _ _;rw[c];by_cases e:d=x.1
  ·have a:¬ d=j.1:=λe2=>hn.1 (by rw[<- e,e2];exact l5 (bo h'));rw[decide_eq_true e];simp only[a,if_false]
  ·rw[decide_eq_false e]
theorem VSt.noJob{s:UX}(v:VSt s){i:Nat}(h:(Ud s.1.2 i).length≠2):VQ s.2.1 (i:Int)=zn:=by
 refine Zq λa=>h ?_;rw[v.due]at a;obtain⟨n,c,d,e,b⟩:=eG a;have:i=n:=by omega
 rw[this,Yb.1 b];rfl
theorem VSt.hasJob{s:UX}(v:VSt s){i:Nat}(h:(Ud s.1.2 i).length=2):∃ j,VQ s.2.1 (i:Int)=zo j:=by
 have a:=dx (i:=0) h;rw[eg,<- v.due]at a;obtain⟨j,b,e⟩:=nb.1 a;exact⟨j,by rw[<- e];exact aK v.nodup b⟩
theorem VSt.jobAt{s:UX}(v:VSt s){i:Nat}{j:Job}(h:VQ s.2.1 (i:Int)=zo j):JobAt s.1 i j:=by
 obtain⟨b,e⟩:=cZ h;obtain⟨n,a⟩:=v.job j b
 have:n=i:=by
  obtain⟨_,_,_,_,_,rfl,_⟩:=a;have c:(n:Int)=(i:Int):=e;omega
 rwa [this]at a
theorem gH{s:UX}(v:VSt s)(d:Int):cF s d=VQ s.2.1 d:=by
 by_cases h:d∈Ug 0 s.1.2
 ·obtain⟨j,n,a,hd,b,_⟩:=v.atDue h;rw[a,hd,<- b];refine(aK v.nodup ?_).symm;unfold cF at a;split at a
  ·exact bo a
  ·cases a
 ·rw[Zq (by rw[v.due];exact h)];unfold cF;split
  ·rename_i i hi;have:=(gQ hi).2;exact absurd (bo this) h
  ·rfl
def sv(j:Job):Nat:=j.2.2.2.2.toNat
theorem JobAt.rd{L:Ub}{n:Nat}{j:Job}(h:JobAt L n j):∃ a b,Ud L.2 n=[a,b]/\sv j<=b.2.length+a.2.length/\Uo L j=b.2.length+a.2.length-sv j/\(0<Uo L j->sv (j.1,Z0 L j)=sv j+1):=by
 obtain⟨a,b,c,k,d,rfl,f,g,v0,v1⟩:=h;have e:=Yb.1 d;have e1:(WO b.2 a.2 c k).2.1.2.2=c:=cL _ _ _ _;have e2:(WO b.2 a.2 c k).2.2.2.toNat=k:=by show((k:Int)).toNat=k;rw[bl]
 refine⟨a,b,e,?_,?_,λ_=> ?_⟩
 ·show(WO b.2 a.2 c k).2.2.2.toNat<=_;rw[e2];exact f
 ·unfold Uo sv;simp only[bl,d]
 ·show(Z0 L ((n:Int),WO b.2 a.2 c k)).2.2.2.toNat=(WO b.2 a.2 c k).2.2.2.toNat+1;unfold Z0;simp only[bl,e];rw[e1,e2];show(((k+1:Nat):Int)).toNat=_;rw[bl]
structure StepF (s:UX) (n:Nat) (j:Job) (t:UX) (b:Bool):Prop where
 job:VQ s.2.1 (n:Int)=zo j
 read:0<Uo s.1 j->b=zf/\t.1=s.1/\t.2.2=s.2.2 /\ ∀ i:Nat,VQ t.2.1 (i:Int)=if i=n then zo (j.1,Z0 s.1 j)else VQ s.2.1 (i:Int)
 inst:Uo s.1 j=0->b=zt/\t.1=WT s j/\t.2.2=ZV s j/\(∀ i,(Ud t.1.2 i)=if Vc j≠[]/\i=Zk s j then(if i=n then[]else Ud s.1.2 i)++[(s.2.2,Vc j)]else if i=n then[]else Ud s.1.2 i)/\(Zk s j=n\/Zk s j=n+1/\n+1<12/\(Vc j≠[]->(Ud s.1.2 (n+1)).length<2)) /\
  ∀ i:Nat,VQ t.2.1 (i:Int)=if(Ud t.1.2 i).length=2 then zo ((if i=n then zn else VQ s.2.1 (i:Int)).getD (XT t.1 (i:Int)))else zn
theorem gz{s0 s:UX}(g:Gd s0 s){d:Int}(h:d∈Ug 0 s.1.2)(e:(XR s d).2.2=0):∃ (n:Nat) (j:Job),d=(n:Int)/\n<12/\JobAt s.1 n j/\W4 s.1 j=zt/\StepF s n j (XR s d).1 (XR s d).2.1/\Gd s0 (XR s d).1:=by
 obtain⟨v,Y,hc⟩:=g;have W:=az hc;have m:=v.sm;obtain⟨c,t,b,er,_,J,_,X⟩:=kH ⟨v,Y,hc⟩ h;rw[dm m W]at J;have w:=Option.some.inj J;obtain⟨i,j,n,hi,S,hd,u,P⟩:=je v h;have hz:(Ua s).2=0:=Ue.2 v;have C:cF s d=zo j:=by unfold cF;rw[hi];exact S
 have Z:n<12:=by
  have:=v.lev.len;obtain⟨_,_,_,_,U,_⟩:=P;have:=(a8.1 U).1;omega
 have E:VQ s.2.1 (n:Int)=zo j:=by rw[<- hd,<- gH v,C]
 have hS:XR s d=ZQ s j:=by unfold XR;rw[zx (by simp[hz]),C]
 have A:Gd s0 (XR s d).1:=by rw[w];exact X (by rw[<- e,w])
 have k:=A.1;rw[hS]at e k A ⊢;refine⟨n,j,hd,Z,P,?_,⟨E,λN=> ?_,λN=> ?_⟩,A⟩
 ·unfold ZQ at e;by_cases a:W4 s.1 j=zf
  ·rw[zy a]at e;cases e
  ·simpa using a
 ·unfold ZQ at e ⊢;have a:¬ W4 s.1 j=zf:=λa=>by rw[zy a]at e;cases e
  rw[zx a,zy N];refine⟨rfl,rfl,rfl,λo=> ?_⟩;show VQ (bI s j).2.1 _=_;unfold bI;rw[u,<- hd,hi,hI];show VQ (s.2.1.set i (d,Z0 s.1 j)) _=_;have:=dQ (Z0 s.1 j) (o:Int) v.nodup S;rw[u,<- hd]at this;rw[this,hd];by_cases p:o=n
  ·rw[zy (by rw[p]),zy p]
  ·rw[zx (by omega),zx p]
 ·unfold ZQ at e k ⊢;have a:¬ W4 s.1 j=zf:=λa=>by rw[zy a]at e;cases e
  have q:W4 s.1 j=zt:=by simpa using a
  have z:¬ 0<Uo s.1 j:=by omega
  rw[zx a,zx z]at e k ⊢;unfold aU at e k ⊢;rw[zx (λh=>h.elim z a)]at e k ⊢;by_cases O:s.2.2>1000000/\Vc j≠[]
  ·rw[zy O]at e;cases e
  rw[zx O]at e k ⊢;have B:j.1.toNat=n:=by rw[u];simp
  have G:∀ i,Ud (WT s j).2 i=_:=λi=>Wu (s:=s) (j:=j) B i;refine⟨rfl,rfl,rfl,G,?_,λo=> ?_⟩
  ·unfold Zk;rw[B];by_cases hs:Wo s.1 j=zt
   ·rw[zy hs];exact .inl rfl
   ·rw[zx hs]
    have hr:Zi s.1 (n+1)=zt:=by
     unfold W4 at q;rw[B]at q;simpa[hs,z]using q
    have I:=of_decide_eq_true hr;exact .inr ⟨rfl,I.1,λ_=>I.2⟩
  ·have r:VSt (ZG s (WT s j) (ZV s j) j.1):=k;show VQ (ZG s (WT s j) (ZV s j) j.1).2.1 (o:Int)=if(Ud (WT s j).2 o).length=2 then zo ((if o=n then zn else VQ s.2.1 (o:Int)).getD (XT (WT s j) (o:Int)))else zn
   have ho:(Ud (ZG s (WT s j) (ZV s j) j.1).1.2 o)=Ud (WT s j).2 o:=rfl;by_cases K:(Ud (WT s j).2 o).length=2
   ·rw[zy K];have M:=dx (i:=0) K;rw[eg]at M;have F:Xb s (WT s j) j.1 (o:Int)∈(ZG s (WT s j) (ZV s j) j.1).2.1:=l5 M
    have D:(Xb s (WT s j) j.1 (o:Int)).1=(o:Int):=by
     have L:(Ug 0 (WT s j).2).map (λd=>(Xb s (WT s j) j.1 d).1)=Ug 0 (WT s j).2:=by
      have:=r.due;simpa[ZG,Ds,Function.comp_def]using this
     have key:∀ {l:List Int} {f:Int->Int},l.map f=l -> ∀ x∈l,f x=x:=by
      intro l f
      induction l with
      |nil=>intro _ x hx;cases hx
      |cons y l ih=>
       intro h x hx;rw[ol]at h;obtain⟨k1,k2⟩:=List.cons.inj h;rcases ey.1 hx with rfl|hx
       ·exact k1
       ·exact ih k2 x hx
     exact key L _ M
    have:=aK r.nodup F;rw[D]at this;rw[this];unfold Xb;rw[u];by_cases p:o=n
    ·rw[zy (by omega),zy p]
    ·rw[zx (by omega),zx p]
   ·rw[zx K];exact r.noJob (by rw[ho];exact K)
end
section
open Go Sv
def nV(s:UX)(i:Nat):Nat:=match VQ s.2.1 (i:Int)with
 |some j=>sv j
 |none=>0
def eI(N:Nat)(s:UX)(i:Nat):Nat:=(Ud s.1.2 i).length*(N+1)-nV s i
def Yf(N:Nat)(s:UX):Nat:=Vm (eI N s) 12
theorem jc{L:Ub}{n:Nat}{a b:Uy}(h:Ud L.2 n=[a,b]):a.2.length+b.2.length<=Uj L.2.flatten:=by
 obtain⟨p,q,c,_⟩:=YJ L n [];rw[c,h,VY,VY,Vz,Vz];omega
theorem VSt.rd0{s:UX}(v:VSt s){i:Nat}(h:(Ud s.1.2 i).length≠2):nV s i=0:=by
 unfold nV;rw[v.noJob h]
theorem nO{N:Nat}{s t:UX}{n:Nat}{j:Job}{b:Bool}(v:VSt s)(B:Uj s.1.2.flatten<=N)(r:n<12)(y:JobAt s.1 n j)(F:StepF s n j t b):Yf N t+1<=Yf N s:=by
 obtain⟨E,G,l,C,D,z⟩:=y.rd;have hc:=jc l
 have hs:eI N s n=2*(N+1)-sv j:=by
  unfold eI nV;rw[F.job,l];rfl
 by_cases p:0<Uo s.1 j
 ·obtain⟨_,e1,_,e2⟩:=F.read p;refine dG (n:=n) ?_ r λi _ a=> ?_
  ·have m:eI N t n=2*(N+1)-(sv j+1):=by
    unfold eI nV;rw[e2,zy rfl,e1,l,<- z p];rfl
   omega
  ·unfold eI nV;rw[e2,zx a,e1];exact dc _
 ·obtain⟨_,e1,_,e2,e3,o⟩:=F.inst (by omega)
  have d:∀ i,i≠n -> ¬ (Vc j≠[]/\i=Zk s j)->eI N t i<=eI N s i:=λi a hit=>by
   have e:Ud t.1.2 i=Ud s.1.2 i:=by rw[e2,zx hit,zx a]
   have c:nV t i=nV s i:=by
    by_cases c:(Ud s.1.2 i).length=2
    ·obtain⟨j',k⟩:=v.hasJob c;unfold nV;rw[o,e,zy c,zx a,k];rfl
    ·rw[v.rd0 c];unfold nV;rw[o,e,zx c]
   unfold eI;rw[e,c];exact dc _
  by_cases m:Vc j≠[]/\Zk s j≠n
  ·obtain⟨q,u⟩:=m;rcases e3 with e3|⟨e3,f,c⟩
   ·exact absurd e3 u
   have c:=c q;refine dj (n:=n) ?_ f λi _ a g=>d i a (by rw[e3];exact λh=>g h.2)
   have w:eI N t n=0:=by
    unfold eI;rw[e2,zx (by rw[e3];omega),zy rfl];simp
   have x:eI N t (n+1)<=((Ud s.1.2 (n+1)).length+1)*(N+1):=by
    unfold eI;rw[e2,zy ⟨q,e3.symm⟩,zx (by omega),gw];exact xw _ _
   have A:eI N s (n+1)=(Ud s.1.2 (n+1)).length*(N+1):=by
    unfold eI;rw[v.rd0 (by omega)];rfl
   rw[UW]at x;omega
  ·refine dG (n:=n) ?_ r λi _ a=>d i a (λh=>m ⟨h.1,by rw[<- h.2];exact a⟩)
   have w:eI N t n<=1*(N+1):=by
    refine xb (xw _ _) (xm _ ?_);rw[e2,zy rfl];split<;>simp
   omega
theorem eP(L:List (List Uy)):∀ m,Vm (λi=>(Ud L i).length) m=(L.take m).flatten.length
 |0=>by simp[Vm]
 |m+1=>by
  unfold Vm;rw[eP L m];by_cases h:m<L.length
  ·have:L.take (m+1)=L.take m++[Ud L m]:=by
    rw[gM,WN h];rfl
   rw[this,List.flatten_append];simp
  ·have:Ud L m=[]:=by unfold Ud;rw[a9 (by omega)];rfl
   rw[this,en (by omega),en (by omega)];simp
theorem jy(f:Nat->Nat)(c:Nat):∀ m,Vm (λi=>f i*c) m=Vm f m*c
 |0=>by simp[Vm]
 |m+1=>by unfold Vm;rw[jy f c m,UW]
theorem gZ(N:Nat){s:UX}(v:VSt s):Yf N s<=s.1.2.flatten.length*(N+1):=by
 have a:Yf N s<=Vm (λi=>(Ud s.1.2 i).length*(N+1)) 12:=bn λi _=>xw _ _;have:=v.lev.len;rw[jy,eP,en (by omega)]at a;exact a
theorem bB{L:Ub}(v:VLev L):L.2.flatten.length<=24:=by
 have h:=eP L.2 12;have:=v.len;rw[en (by omega)]at h;rw[<- h];exact bn (f:=λ_=>2) λi _=>(v.own i).1
end
section
open Go Sv
abbrev gG:=(Int×(Int×(Int×jU)))
def bmp(a:jU)(k l:Nat):jU:=
 (UK (neq l 0) (So .i64 (O7 [a.1,a.2.1,a.2.2.1,a.2.2.2.1,a.2.2.2.2.1,a.2.2.2.2.2.1,a.2.2.2.2.2.2.1,a.2.2.2.2.2.2.2.1,a.2.2.2.2.2.2.2.2.1,a.2.2.2.2.2.2.2.2.2.1,a.2.2.2.2.2.2.2.2.2.2.1,a.2.2.2.2.2.2.2.2.2.2.2] k) 1) a.1,(UK (neq l 1) (So .i64 (O7 [a.1,a.2.1,a.2.2.1,a.2.2.2.1,a.2.2.2.2.1,a.2.2.2.2.2.1,a.2.2.2.2.2.2.1,a.2.2.2.2.2.2.2.1,a.2.2.2.2.2.2.2.2.1,a.2.2.2.2.2.2.2.2.2.1,a.2.2.2.2.2.2.2.2.2.2.1,a.2.2.2.2.2.2.2.2.2.2.2] k) 1) a.2.1,(UK (neq l 2) (So .i64 (O7 [a.1,a.2.1,a.2.2.1,a.2.2.2.1,a.2.2.2.2.1,a.2.2.2.2.2.1,a.2.2.2.2.2.2.1,a.2.2.2.2.2.2.2.1,a.2.2.2.2.2.2.2.2.1,a.2.2.2.2.2.2.2.2.2.1,a.2.2.2.2.2.2.2.2.2.2.1,a.2.2.2.2.2.2.2.2.2.2.2] k) 1) a.2.2.1,(UK (neq l 3) (So .i64 (O7 [a.1,a.2.1,a.2.2.1,a.2.2.2.1,a.2.2.2.2.1,a.2.2.2.2.2.1,a.2.2.2.2.2.2.1,a.2.2.2.2.2.2.2.1,a.2.2.2.2.2.2.2.2.1,a.2.2.2.2.2.2.2.2.2.1,a.2.2.2.2.2.2.2.2.2.2.1,a.2.2.2.2.2.2.2.2.2.2.2] k) 1) a.2.2.2.1,(UK (neq l 4) (So .i64 (O7 [a.1,a.2.1,a.2.2.1,a.2.2.2.1,a.2.2.2.2.1,a.2.2.2.2.2.1,a.2.2.2.2.2.2.1,a.2.2.2.2.2.2.2.1,a.2.2.2.2.2.2.2.2.1,a.2.2.2.2.2.2.2.2.2.1,a.2.2.2.2.2.2.2.2.2.2.1,a.2.2.2.2.2.2.2.2.2.2.2] k) 1) a.2.2.2.2.1,(UK (neq l 5) (So .i64 (O7 [a.1,a.2.1,a.2.2.1,a.2.2.2.1,a.2.2.2.2.1,a.2.2.2.2.2.1,a.2.2.2.2.2.2.1,a.2.2.2.2.2.2.2.1,a.2.2.2.2.2.2.2.2.1,a.2.2.2.2.2.2.2.2.2.1,a.2.2.2.2.2.2.2.2.2.2.1,a.2.2.2.2.2.2.2.2.2.2.2] k) 1) a.2.2.2.2.2.1,(UK (neq l 6) (So .i64 (O7 [a.1,a.2.1,a.2.2.1,a.2.2.2.1,a.2.2.2.2.1,a.2.2.2.2.2.1,a.2.2.2.2.2.2.1,a.2.2.2.2.2.2.2.1,a.2.2.2.2.2.2.2.2.1,a.2.2.2.2.2.2.2.2.2.1,a.2.2.2.2.2.2.2.2.2.2.1,a.2.2.2.2.2.2.2.2.2.2.2] k) 1) a.2.2.2.2.2.2.1,(UK (neq l 7) (So .i64 (O7 [a.1,a.2.1,a.2.2.1,a.2.2.2.1,a.2.2.2.2.1,a.2.2.2.2.2.1,a.2.2.2.2.2.2.1,a.2.2.2.2.2.2.2.1,a.2.2.2.2.2.2.2.2.1,a.2.2.2.2.2.2.2.2.2.1,a.2.2.2.2.2.2.2.2.2.2.1,a.2.2.2.2.2.2.2.2.2.2.2] k) 1) a.2.2.2.2.2.2.2.1,(UK (neq l 8) (So .i64 (O7 [a.1,a.2.1,a.2.2.1,a.2.2.2.1,a.2.2.2.2.1,a.2.2.2.2.2.1,a.2.2.2.2.2.2.1,a.2.2.2.2.2.2.2.1,a.2.2.2.2.2.2.2.2.1,a.2.2.2.2.2.2.2.2.2.1,a.2.2.2.2.2.2.2.2.2.2.1,a.2.2.2.2.2.2.2.2.2.2.2] k) 1) a.2.2.2.2.2.2.2.2.1,(UK (neq l 9) (So .i64 (O7 [a.1,a.2.1,a.2.2.1,a.2.2.2.1,a.2.2.2.2.1,a.2.2.2.2.2.1,a.2.2.2.2.2.2.1,a.2.2.2.2.2.2.2.1,a.2.2.2.2.2.2.2.2.1,a.2.2.2.2.2.2.2.2.2.1,a.2.2.2.2.2.2.2.2.2.2.1,a.2.2.2.2.2.2.2.2.2.2.2] k) 1) a.2.2.2.2.2.2.2.2.2.1,(UK (neq l 10) (So .i64 (O7 [a.1,a.2.1,a.2.2.1,a.2.2.2.1,a.2.2.2.2.1,a.2.2.2.2.2.1,a.2.2.2.2.2.2.1,a.2.2.2.2.2.2.2.1,a.2.2.2.2.2.2.2.2.1,a.2.2.2.2.2.2.2.2.2.1,a.2.2.2.2.2.2.2.2.2.2.1,a.2.2.2.2.2.2.2.2.2.2.2] k) 1) a.2.2.2.2.2.2.2.2.2.2.1,UK (neq l 11) (So .i64 (O7 [a.1,a.2.1,a.2.2.1,a.2.2.2.1,a.2.2.2.2.1,a.2.2.2.2.2.1,a.2.2.2.2.2.2.1,a.2.2.2.2.2.2.2.1,a.2.2.2.2.2.2.2.2.1,a.2.2.2.2.2.2.2.2.2.1,a.2.2.2.2.2.2.2.2.2.2.1,a.2.2.2.2.2.2.2.2.2.2.2] k) 1) a.2.2.2.2.2.2.2.2.2.2.2)))))))))))
end
section
open Go Sv
def WE(s:UX):Int:=if(Vq s).2≠0 then(Vq s).2 else(XR s (Vq s).1).2.2
def YL(s:UX):UX:=(XR s (Vq s).1).1
def cm(s:UX):Int×Bool:=((Vq s).1,(XR s (Vq s).1).2.1)
def VA:Nat->UX->UX×(List (Int×Bool)×Int)
 |0,s=>(s,([],0))
 |n+1,s=>if WE s=4 then(s,([],0))else if WE s≠0 then(s,([],WE s))else((VA n (YL s)).1,(cm s::(VA n (YL s)).2.1,(VA n (YL s)).2.2))
theorem bA{s:UX}:∀ {l:List Int} {d:Int},XB s l=zo d -> ∃ p q,l=p++d::q/\(XS zf (λs j=>(W4 s.1 j,0)) s d).1=zt /\ ∀ x∈p,¬ (XS zf (λs j=>(W4 s.1 j,0)) s x).1=zt
 |[],_,h=>by cases h
 |x::l,d,h=>by
  unfold XB at h;split at h
  ·rename_i a;cases h;exact⟨[],l,rfl,a,λ_ h=>by cases h⟩
  ·rename_i a;obtain⟨p,q,rfl,b,c⟩:=bA h
   exact⟨x::p,q,rfl,b,λy hy=>by
    rcases ey.1 hy with rfl|hy
    ·exact a
    ·exact c y hy⟩
theorem ck{s:UX}(v:VSt s):((Vq s).2=4/\s.2.1=[])\/(Vq s).2=9\/((Vq s).2=0/\(Vq s).1∈Ug 0 s.1.2):=by
 have a:(Ua s).2=0:=Ue.2 v;unfold Vq;rw[zx (by simp[a])];by_cases h:Ug 0 s.1.2=[]
 ·rw[zy h];refine .inl ⟨rfl,?_⟩;have:=v.due;rw[h]at this;simpa using this
 ·rw[zx h];cases hc:XB s (Ug 0 s.1.2)with
  |none=>exact .inr (.inl rfl)
  |some d=>
   obtain⟨p,q,e,_⟩:=bA hc;exact .inr (.inr ⟨rfl,by rw[e];simp⟩)
theorem kg(s:UX)(j:Job):(ZQ s j).2.2≠4:=by
 unfold ZQ;split
 ·simp
 ·split
  ·simp
  ·unfold aU;split
   ·simp
   ·split<;>simp
theorem nl{s:UX}(v:VSt s){d:Int}(h:d∈Ug 0 s.1.2):(XR s d).2.2≠4:=by
 have b:(Ua s).2=0:=Ue.2 v;obtain⟨j,n,a,_⟩:=v.atDue h;unfold XR;rw[zx (by simp[b]),a];exact kg s j
theorem Yy{s0 s:UX}(g:Gd s0 s):Vw s=zo (Vq s)/\Vu s=zo (Vq s):=⟨tB g.1.sm,kT g.1.sm⟩
theorem bN{s0 s:UX}(g:Gd s0 s)(d:Int):Vh (s,d)=zo (XR s d)/\WA (s,d)=zo (XR s d):=
 ⟨dm g.1.sm (az g.2.2) d,kU g.1.sm (az g.2.2) d⟩
theorem fM{s0 s:UX}(g:Gd s0 s)(e:WE s=0):(Vq s).2=0/\(Vq s).1∈Ug 0 s.1.2/\(XR s (Vq s).1).2.2=0:=by
 unfold WE at e;rcases ck g.1 with h|h|h
 ·rw[zy (by rw[h.1];decide),h.1]at e;cases e
 ·rw[zy (by rw[h];decide),h]at e;cases e
 ·rw[zx (by simp[h.1])]at e;exact⟨h.1,h.2,e⟩
theorem W3{s0 s:UX}(g:Gd s0 s)(e:WE s=0):∃ (n:Nat) (j:Job),(cm s).1=(n:Int)/\n<12/\JobAt s.1 n j/\W4 s.1 j=zt/\StepF s n j (YL s) (cm s).2/\Gd s0 (YL s):=by
 obtain⟨_,a,b⟩:=fM g e;exact gz g a b
theorem fN{s0 s:UX}(g:Gd s0 s)(e:WE s=4):(Vq s).2=4/\s.2.1=[]:=by
 unfold WE at e;rcases ck g.1 with h|h|h
 ·exact h
 ·rw[zy (by rw[h];decide),h]at e;cases e
 ·rw[zx (by simp[h.1])]at e;exact absurd e (nl g.1 h.2)
theorem cI{s0 s:UX}{N:Nat}(g:Gd s0 s)(a:Uj s.1.2.flatten<=N)(e:WE s=0):Yf N (YL s)+1<=Yf N s/\Uj (YL s).1.2.flatten<=N:=by
 obtain⟨n,j,_,d,c,_,F,_⟩:=W3 g e;refine⟨nO g.1 a d c F,?_⟩;by_cases b:0<Uo s.1 j
 ·rw[(F.read b).2.1];exact a
 ·rw[(F.inst (by omega)).2.1];exact xb (ec g.1 (az g.2.2) c b) a
theorem ZC{s0:UX}{N:Nat}:∀ {n:Nat} {s:UX},Gd s0 s->Uj s.1.2.flatten<=N->(VA n s).2.1.length<=n/\(VA n s).2.1.length+Yf N (VA n s).1<=Yf N s/\Gd s0 (VA n s).1/\Uj (VA n s).1.1.2.flatten<=N/\((VA n s).2.2=0->(VA n s).2.1.length<n->(VA n s).1.2.1=[])
 |0,s,g,hN=>⟨dc _,by simp[VA],g,hN,λ_ h=>absurd h (by simp[VA])⟩
 |n+1,s,g,hN=>by
  unfold VA;by_cases b:WE s=4
  ·rw[zy b];exact⟨by simp,by simp,g,hN,λ_ _=>(fN g b).2⟩
  ·rw[zx b];by_cases a:WE s=0
   ·rw[zx (by simp[a])];obtain⟨_,_,_,_,_,_,_,d⟩:=W3 g a;obtain⟨m,f⟩:=cI g hN a;obtain⟨i,o,j,k,l⟩:=ZC (n:=n) d f;refine⟨by simpa using i,?_,j,k,λc e=>l c (by simpa using e)⟩;simp only[ci];omega
   ·rw[zy a];exact⟨by simp,by simp,g,hN,λc=>absurd c a⟩
theorem fm:∀ (n m:Nat) (s:UX),VA (n+m) s=if(VA n s).2.2≠0 then VA n s else((VA m (VA n s).1).1,((VA n s).2.1++(VA m (VA n s).1).2.1,(VA m (VA n s).1).2.2))
 |0,m,s=>by rw[eg];simp[VA]
 |n+1,m,s=>by
  rw[show n+1+m=(n+m)+1 by omega];have d:=fm n m (YL s);simp only[VA];by_cases a:WE s=4
  ·simp only[a,if_true];cases m with
   |zero=>simp[VA]
   |succ m=>simp[VA,a]
  ·simp only[a,if_false];by_cases b:WE s=0
   ·simp only[b,ne_eq,not_true_eq_false,if_false];rw[d];by_cases c:(VA n (YL s)).2.2=0
    ·simp[c]
    ·simp[c]
   ·simp[b]
def xi(u:gG)(x:Int×Bool):gG:=(So .i64 u.1 1,(u.2.1,(if x.2=zt then So .i64 u.2.2.1 1 else u.2.2.1,bmp u.2.2.2 x.1.toNat x.1.toNat)))
def uI(u:gG)(l:List (Int×Bool)):gG:=l.foldl xi u
end
section
open Go Sv
theorem jX{α β γ:Type}{f:α->Option (LR α β)}{K:β->Option γ}{R:Option γ}(Inv:α->Prop)(Q:β->Prop)(m:α->Nat){s:α}(hs:Inv s)(b:m s<18446744073709551616)
  (step:∀ s,Inv s->(∃ s',f s=zo (.nx s')/\Inv s'/\m s'<m s)\/(∃ x,f s=zo (.dn x)/\Q x)) (a:∀ x,Q x->K x=R):bd (loop f s) K=R:=by
 obtain⟨x,e,q⟩:=Sw Inv Q m hs b step;rw[e];exact a x q
theorem jY{β:Type}(n:Nat)(x y:Unit->Option β):br (neq n 0) x y=if n=0 then x ()else y ():=by
 rw[TX]
def aa(s:UX)(g:Int):Int:=if(Ua s).2≠0 then(Ua s).2 else if g<0\/g>1000000 then 7 else 0
theorem uT{s0 s:UX}(g:Gd s0 s):WE s=4/\(Vq s).2=4\/WE s≠4/\WE s≠0/\(Vq s).2≠4/\((Vq s).2=WE s\/(Vq s).2=0/\(XR s (Vq s).1).2.2=WE s)\/WE s=0/\(Vq s).2=0/\(XR s (Vq s).1).2.2=0:=by
 by_cases a:WE s=4
 ·exact .inl ⟨a,(fN g a).1⟩
 ·by_cases b:WE s=0
  ·have:=fM g b;exact .inr (.inr ⟨b,this.1,this.2.2⟩)
  ·refine .inr (.inl ⟨a,b,?_⟩);unfold WE at a b ⊢;by_cases c:(Vq s).2≠0
   ·rw[zy c]at a ⊢;exact⟨a,.inl rfl⟩
   ·have d:(Vq s).2=0:=by simpa using c
    rw[zx c];rw[d];exact⟨by decide,.inr ⟨rfl,rfl⟩⟩
theorem ADy{u:gG}{x:Int×Bool}(h:0<=u.1/\u.1<=1000000):(xi u x).1=u.1+1:=by
 show So .i64 u.1 1=_;exact TE (by omega)
def At(s0:UX)(g:Int)(T:UX×((List Int×gG)×Int))(k:Nat)(s:UX)(l:List Int)(u:gG):Prop:=Gd s0 s/\0<=u.1/\u.1+k=g/\g<=1000000/\(l.length:Int)=u.1/\T=((VA k s).1,((l++(VA k s).2.1.map (·.1),uI u (VA k s).2.1),(VA k s).2.2))
theorem At.step{s0 s:UX}{g:Int}{T:UX×((List Int×gG)×Int)}{k:Nat}{l:List Int}{u:gG}(a:At s0 g T (k+1) s l u)(e:WE s=0):At s0 g T k (YL s) (l++[(cm s).1]) (xi u (cm s)):=by
 obtain⟨c,h,i,d,j,f⟩:=a;obtain⟨_,_,_,_,_,_,_,b⟩:=W3 c e;have m:=ADy (x:=cm s) (show 0<=u.1/\u.1<=1000000 by omega);refine⟨b,by omega,by omega,d,by simp;omega,?_⟩;rw[f];simp only[VA,e,ne_eq,not_true_eq_false,if_false,ol,List.append_assoc,List.cons_append,o3];rfl
theorem At.none{s0 s:UX}{g:Int}{T:UX×((List Int×gG)×Int)}{k:Nat}{l:List Int}{u:gG}(a:At s0 g T k s l u)(e:WE s=4):T=(s,((l,u),0)):=by
 rw[a.2.2.2.2.2];cases k<;>simp[VA,e,uI]
theorem At.fail{s0 s:UX}{g:Int}{T:UX×((List Int×gG)×Int)}{k:Nat}{l:List Int}{u:gG}(a:At s0 g T (k+1) s l u)(c:WE s≠4)(b:WE s≠0):T=(s,((l,u),WE s)):=by
 rw[a.2.2.2.2.2];simp[VA,c,b,uI]
theorem At.last{s0 s:UX}{g:Int}{T:UX×((List Int×gG)×Int)}{l:List Int}{u:gG}(a:At s0 g T 0 s l u):T=(s,((l,u),0)):=by
 rw[a.2.2.2.2.2];simp[VA,uI]
theorem mf{s:UX}{g:Int}(h:(Ua s).2≠0):aa s g=(Ua s).2:=zy h
theorem eY{s:UX}{g:Int}(a:(Ua s).2=0)(h:g<0\/g>1000000):aa s g=7:=by unfold aa;rw[zx (by simp[a]),zy h]
theorem eX{s:UX}{g:Int}(a:(Ua s).2=0)(h:¬ (g<0\/g>1000000)):aa s g=0:=by unfold aa;rw[zx (by simp[a]),zx h]
end
section
open Go Sv
def su(s:UX):Int×(List (List Uy)×(List Job×Int)):=(s.1.1,(s.1.2,s.2))
end
end Go.Proofs.YtfceigpbgndbgaaGreatDoor.Pl
