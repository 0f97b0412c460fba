/- A part of the evaluator of the model's code for any program, and of the proof that it is sound. No condition. -/
import Derived.Test.YtfceigpbgndbgaaGreatDoorPp0
import Derived.Laws.Append
import Derived.AtR
import Derived.Recover
import Derived.RangeFuncIn
set_option linter.all false
open List renaming all_eq_true->a8, eq_nil_of_length_eq_zero->bu, getElem?_append->aU, getElem?_cons_succ->bJ, getElem?_cons_zero->aW, getElem?_drop->aM, getElem?_eq_getElem->ae, getElem?_eq_some_iff->ab, getElem?_range->cJ, getElem?_take->aA, getElem?_toArray->bj, length_append->bH, length_drop->cc, length_nil->aI, length_pos_iff->aQ, length_take->aX, mem_iff_getElem?->bw, nil_append->cq, size_toArray->cR
open Nat renaming add_assoc->aH, add_mul->aG, beq_eq->bI, ble->ah, ble_eq->bQ, ble_eq_true_of_le->cG, blt_eq->bR, eq_zero_or_pos->cS, le_refl->ad, min->cZ, min_eq_left->ck, mul_le_mul_right->aC, zero_add->aN
open Array renaming getD_eq_getD_getElem?->aD, getElem?_append_left->ci, getElem?_eq_some_iff->bE, getElem?_toList->bm, length_toList->bO, toArray_toList->bL, toList_map->cO
open Option renaming bind_some->cM, getD_none->cN, getD_some->aE
open Bool renaming and_eq_true->ac, not_eq_false'->ay, or_eq_false_iff->ak
open Option renaming some->zo, none->zn
open Bool renaming true->zt, false->zf
namespace Go.Proofs.YtfceigpbgndbgaaGreatDoor.Pi
section
variable[Gl]
section
variable{P:Program}{M:Ak}{μ:Mu}{h:Hp}{w:World}
theorem H5(b o j:Nat):(⟨b,o,zn⟩:Addr).add j=⟨b,o+j,zn⟩:=by simp[Addr.add]
theorem KI{n k:Nat}{l:Nat}(a:0<n)(b:k<l*n):k / n<l/\k % n<n/\k / n*n+k % n=k:=
 ⟨(Nat.div_lt_iff_lt_mul a).2 b,Nat.mod_lt _ a,by rw[Nat.mul_comm];exact Nat.div_add_mod k n⟩
theorem GT(s:Sim M μ h w){p:PV}{x:Value}{es:List PV}{n:Nat}(N:Rep M μ p x)(e:BX h p=zo es)(S:∀ v∈es,v.cells.length=n)(B:0<n) :
  ∃ a cap,x=.slice a es.length cap/\(es≠[] -> ∃ (b:Addr) (m:List Value),a=zo b/\m.length=es.length*n/\(∀ j v,m[j]?=zo v->w.cell? (b.add j)=zo v)/\FlatRep M μ n es m.toArray):=by
 unfold BX at e;split at e
 ·cases e;cases N;exact⟨zn,0,rfl,λh=>absurd rfl h⟩
 ·rename_i full g;cases e;cases N with
  |lst0 _ _ a cap hf=>exact⟨zo a,cap,rfl,λh=>absurd rfl h⟩
  |lst _ _ _ b off esz cap x hf hc hs hm G hr=>
   refine⟨_,cap,rfl,λu=> ?_⟩
   have y:esz=n:=by
    cases es with
    |nil=>exact absurd rfl u
    |cons O es=>rw[<- hs 0 O rfl];exact S O (by simp)
   subst y;refine⟨_,(List.range (es.length*esz)).map λk=>x (k / esz) (k % esz),rfl,by simp,λj v t=> ?_,by simp,λi e f=>hs i e f,λi e j c f t=> ?_⟩
   ·have d:j<es.length*esz:=by
     have:=(ab.1 t).1;simpa using this
    simp only[List.getElem?_map,cJ d,Option.map_some,Option.some.injEq]at t;subst t;obtain⟨E,F,D⟩:=KI B d;have q:∃ c,(es[j / esz]).cells[j % esz]?=zo c:=⟨_,ae (by rw[hs (j / esz) _ (ae E)];exact F)⟩;obtain⟨c,hc⟩:=q;have:=(s.mem _ _ (hm (j / esz) _ (j % esz) c (ae E) hc)).2;rw[H5,<- D,<- aH];rw[D];exact this
   ·have K:j<esz:=by rw[<- hs i e f];exact(ab.1 t).1
    have J:i<es.length:=(ab.1 f).1
    have d:i*esz+j<es.length*esz:=by
     have:(i+1)*esz<=es.length*esz:=aC _ J;rw[aG]at this;omega
    refine⟨x i j,?_,G i e j c f t,(hr i e j c f t).mono (.refl _) (.mu0 _)⟩;obtain⟨E,F,D⟩:=KI B d;have:=F6 F K D;simp[cJ d,this.1,this.2]
 ·rename_i j off len;split at e
  ·rename_i g ex fz Z;replace e:=Aa e;obtain⟨L,e⟩:=e;simp at L;cases e;cases N with
   |own _ _ _ _ r hr hcap=>
    obtain⟨r',C,arr,U,G,X,h3,h4,h5,I,Y⟩:=s.blk j _ Z;rw[hr]at C;cases C;have l:((g.drop off).take len).length=len:=by simp;omega
    refine⟨_,_,by rw[l],λu=> ?_⟩
    have get:∀ (i:Nat) (e:PV),((g.drop off).take len)[i]?=zo e->g[off+i]?=zo e/\i<len:=by
     intro i e f;rw[aA]at f;split at f
     ·rw[aM]at f;exact⟨f,by assumption⟩
     ·cases f
    have y:r.esz=n:=by
     have h0:0<((g.drop off).take len).length:=aQ.2 u;have hg:=ae h0;rw[<- I _ _ (get 0 _ hg).1];exact S _ (List.getElem_mem h0)
    have z:∀ k,k<len*n->r.base+off*n+k<arr.size:=by
     intro k o;have:(off+len)*n<=r.cap*n:=aC _ (by omega);rw[aG]at this;rw[y]at X;omega
    refine⟨_,(arr.toList.drop (r.base+off*n)).take (len*n),rfl,?_,λk v o=> ?_,?_,λi e f=> ?_,λi e k c f o=> ?_⟩
    ·rw[l];simp only[aX,cc,bO];rcases cS (len*n)with h0|h0
     ·omega
     ·have:=z (len*n-1) (by omega);omega
    ·rw[aA]at o;split at o
     ·rw[aM]at o;rw[H5,y,cell?_eq (a:=⟨r.b,_,zn⟩) G rfl];simpa using o
     ·cases o
    ·simp only[cR];rw[l];simp only[aX,cc,bO];rcases cS (len*n)with h0|h0
     ·omega
     ·have:=z (len*n-1) (by omega);omega
    ·rw[<- y];exact I _ e (get i e f).1
    ·obtain⟨P,W⟩:=get i e f;have hk':k<n:=by rw[<- y,<- I _ e P];exact(ab.1 o).1
     have d:i*n+k<len*n:=by
      have:(i+1)*n<=len*n:=aC _ W;rw[aG]at this;omega
     have A:=z _ d;refine⟨arr[r.base+off*n+(i*n+k)],?_,?_⟩
     ·simp only[bj];rw[aA,zy d,aM];simp[A]
     ·refine Y (off+i) e k c _ P o ?_;rw[y,aG];rw[show r.base+(off*n+i*n)+k=r.base+off*n+(i*n+k) by omega];exact Array.getElem?_eq_getElem A
  ·cases e
 ·cases e
theorem HO(s:Sim M μ h w){j d n:Nat}{es new:List PV}{ex fz:Bool}{h':Hp}{r:Bk}{g:List Value}(S:μ j=zo r)(X:h.get j=zo (.row es ex fz))
  (E:FlatRep M μ n new g.toArray) (F:new≠[]->r.esz=n) (B:d<=es.length) (z:d+new.length<=r.cap) (Y:ex=zt->d+new.length<=es.length) (Z:fz=zt->d=es.length)
  (hs:h.set j (.row (BU es d new) ex fz)=zo h') :
  ∃ w',(storeCells ⟨r.b,r.base+d*r.esz,zn⟩ g 0).run P w=.ok () w'/\Sim M μ h' w'/\Grow M μ w M μ w':=by
 obtain⟨r',N,arr,u,h1,h2,h3,h4,h5,h6,h7⟩:=s.blk j _ X;rw[S]at N;cases N
 have K:g.length=new.length*r.esz:=by
  have:=E.1;simp at this;rw[this];by_cases l:new=[]
  ·subst l;simp
  ·rw[F l]
 have hin:r.base+d*r.esz+g.length<=arr.size:=by
  have:(d+new.length)*r.esz<=r.cap*r.esz:=aC _ z;rw[aG]at this;omega
 have L:∀ y∈g,y.oneCell'=zt:=by
  intro y hy;obtain⟨k,C⟩:=bw.1 hy;have J:k<new.length*r.esz:=by rw[<- K];exact(ab.1 C).1
  obtain⟨d1,d2,d3⟩:=KI h5 J;have l:new≠[]:=by intro e;subst e;simp at J
  have hg:=ae d1;have hcl:(new[k / r.esz]).cells.length=r.esz:=by rw[E.2.1 _ _ hg,F l]
  obtain⟨v,t,U,_⟩:=E.2.2 (k / r.esz) _ (k % r.esz) _ hg (ae (by omega));rw[<- F l,d3]at t;simp at t;rw[C]at t;cases t;exact U
 obtain⟨w',x,O,k1,k2,k3,k4,k5,k6,k7,k8,k9⟩:=Dp (P:=P) (ty:=u) g w arr (r.base+d*r.esz) 0 h1 (by omega) L;refine⟨w',O,?_,Grow.update S k4 k5 k6 k7 k8 (λarr ty f h=>by rw[k1]at h;cases h;rfl)⟩
 have A:∀ (i:Nat) (e:PV),(BU es d new)[i]?=zo e->(d<=i/\i<d+new.length/\new[i-d]?=zo e)\/(¬ (d<=i/\i<d+new.length)/\es[i]?=zo e):=by
  intro i e m;unfold BU at m;rw[aU]at m;simp only[aX,ck B]at m;by_cases hi:i<d
  ·rw[zy hi,aA,zy hi]at m;exact .inr ⟨by omega,m⟩
  ·rw[zx hi,aU]at m;by_cases I:i-d<new.length
   ·rw[zy I]at m;exact .inl ⟨by omega,by omega,m⟩
   ·rw[zx I,aM]at m;refine .inr ⟨by omega,?_⟩
    rwa [show d+new.length+(i-d-new.length)=i by omega]at m
 have p:(BU es d new).length=max es.length (d+new.length):=by
  unfold BU;simp only[bH,aX,cc,ck B];omega
 refine s.update X S trivial (Hp.get_set hs).1 k4 k5 ?_ ?_
 ·refine⟨x,u,k1,by omega,?_,?_,h5,?_,?_⟩
  ·rw[p];exact Nat.max_le.2 ⟨h3,z⟩
  ·intro hx;rw[p,<- h4 hx];exact Nat.max_eq_left (Y hx)
  ·intro i e m;rcases A i e m with⟨a1,a2,o⟩|⟨_,o⟩
   ·have l:new≠[]:=by intro e;subst e;simp at o
    rw[E.2.1 _ e o,F l]
   ·exact h6 i e o
  ·intro i e k c v m C D;rw[k3]at D;rcases A i e m with⟨a1,a2,o⟩|⟨a1,o⟩
   ·have l:new≠[]:=by intro e;subst e;simp at o
    have hkn:k<r.esz:=by rw[F l,<- E.2.1 _ e o];exact(ab.1 C).1
    obtain⟨y,t,U,c3⟩:=E.2.2 _ e k c o C;rw[<- F l]at t;simp at t;have e1:d*r.esz+(i-d)*r.esz=i*r.esz:=by rw[<- aG];congr 1;omega
    have hlt:(i-d)*r.esz+k<g.length:=(ab.1 t).1;rw[zy (by omega)]at D;rw[show r.base+i*r.esz+k-(r.base+d*r.esz+0)=(i-d)*r.esz+k by omega]at D;rw[t]at D;cases D;exact⟨U,c3⟩
   ·have hkn:k<r.esz:=by rw[<- h6 _ e o];exact(ab.1 C).1
    rw[zx ?_]at D
    ·exact h7 i e k c v o C D
    ·intro G;rw[K,Nat.add_zero]at G;by_cases hi:i<d
     ·have:(i+1)*r.esz<=d*r.esz:=aC _ hi;rw[aG]at this;omega
     ·have:(d+new.length)*r.esz<=i*r.esz:=aC _ (by omega);rw[aG]at this;omega
 ·intro a y hm W;obtain⟨q1,q2⟩:=s.sep j r _ a y X S trivial hm W;have hp:=Z q1;have q:=s.mem a y hm;refine⟨?_,q1,?_⟩
  ·rw[cell?_eq (arr:=x) (ty:=u) (f:=(0,0)) (by rw[W];exact k1) q.1,k3,zx (by subst hp;omega)];rw[<- cell?_eq (arr:=arr) (ty:=u) (f:=(0,0)) (by rw[W];exact h1) q.1];exact q.2
  ·rw[p];have:es.length*r.esz<=max es.length (d+new.length)*r.esz:=aC _ (Nat.le_max_left _ _);omega
theorem Sim.rename(s:Sim M μ h w){j id:Nat}{b:Blk}{r:Bk}{h':Hp}(z:h.get j=zo b)(p:μ j=zo r)(N:b.live)(U:h.get id=zn)
  (D:∀ k,h'.get k=if k=id then zo b else if k=j then zo .dead else h.get k):Sim M (DU μ id r) h' w/\Grow M μ w M (DU μ id r) w:=by
 have hμ:μ id=zn:=by
  cases X:μ id with
  |none=>rfl
  |some x=>exact absurd U (s.use id x X).1
 have m:=Dq (r:=r) hμ;have W:j≠id:=by intro e;subst e;rw[U]at z;cases z
 have g:∀ k x,DU μ id r k=zo x->(k=id/\x=r)\/(k≠id/\μ k=zo x):=by
  intro k x c;unfold DU at c;by_cases e:k=id
  ·rw[zy e]at c;exact .inl ⟨e,(Option.some.inj c).symm⟩
  ·rw[zx e]at c;exact .inr ⟨e,c⟩
 obtain⟨r',E,L⟩:=s.blk j b z;rw[p]at E;cases E;refine⟨⟨s.glb,s.mem,?_,?_,?_,?_⟩,⟨.refl _,m,λ_ _ h=>.inl h,?_,ad _,λ_ _ _=>rfl,rfl,rfl,rfl,λ_ arr _ _ h=>.inr ⟨arr,h⟩⟩⟩
 ·intro k l c;rw[D]at c;by_cases e:k=id
  ·rw[zy e]at c;cases c;exact⟨r,by simp[DU,e],L.mono (.refl _) m⟩
  ·rw[zx e]at c;by_cases e2:k=j
   ·rw[zy e2]at c;cases c;exact⟨r,m _ _ (e2 ▸ p),trivial⟩
   ·rw[zx e2]at c;obtain⟨d,P,C⟩:=s.blk k l c;exact⟨d,m _ _ P,C.mono (.refl _) m⟩
 ·intro k d c;rcases g k d c with⟨e,rfl⟩|⟨e,c⟩
  ·exact⟨by rw[D,zy e];simp,(s.use j _ p).2⟩
  ·have:=s.use k d c;refine⟨?_,this.2⟩;rw[D,zx e];split
   ·simp
   ·exact this.1
 ·intro k A d i l o f n B t u I K;rw[D]at B t
  have q:∀ (k:Nat) (d:Bk) (l:Blk),k≠id->(if k=id then zo b else if k=j then zo .dead else h.get k)=zo l->l.live->k≠j/\h.get k=zo l:=by
   intro k d l e c O;rw[zx e]at c;by_cases e2:k=j
   ·rw[zy e2]at c;cases c;exact O.elim
   ·rw[zx e2]at c;exact⟨e2,c⟩
  rcases g k d f with⟨e,F⟩|⟨e,f⟩
  ·rcases g A i n with⟨y,G⟩|⟨y,n⟩
   ·exact e.trans y.symm
   ·obtain⟨S,J⟩:=q A i o y t I;exact absurd (s.inj A j i r o b n p J z I N (by rw[<- K,F])) S
  ·obtain⟨S,J⟩:=q k d l e B u;rcases g A i n with⟨y,G⟩|⟨y,n⟩
   ·exact absurd (s.inj k j d r l b f p J z u N (by rw[K,G])) S
   ·obtain⟨Z,Y⟩:=q A i o y t I;exact s.inj k A d i l o f n J Y u I K
 ·intro k d l a v f n B t u;rw[D]at f;rcases g k d n with⟨e,F⟩|⟨e,n⟩
  ·rw[zy e]at f;cases f;subst F;exact s.sep j _ _ a v z p N t u
  ·rw[zx e]at f;by_cases e2:k=j
   ·rw[zy e2]at f;cases f;exact B.elim
   ·rw[zx e2]at f;exact s.sep k d l a v f n B t u
 ·intro k d c;rcases g k d c with⟨_,F⟩|⟨_,c⟩
  ·exact .inl ⟨j,r,p,by rw[F]⟩
  ·exact .inl ⟨k,d,c,rfl⟩
theorem Bi(s:Sim M μ h w){id n cap:Nat}{es:List PV}{fz:Bool}{arr rest:Array Value}{ty:TypeId}{h':Hp}{w':World}(t:0<n)(p:FlatRep M μ n es arr)(g:es.length<=cap)(f:rest.size=(cap-es.length)*n)
  (D:h.new id (.row es zf fz)=zo h') (y:w'.heap=w.heap.push (.cells (arr++rest) ty (0,0))) (e1:w'.os=w.os) (e2:w'.output=w.output) (e3:w'.tape=w.tape) :
  ∃ μ',Sim M μ' h' w'/\Grow M μ w M μ' w' /\ ∀ k,k<=es.length->Rep M μ' (.own id 0 k) (.slice (zo ⟨w.heap.size,0,zn⟩) k cap):=by
 obtain⟨d,l,_⟩:=Hp.get_new D
 have hμ:μ id=zn:=by
  cases C:μ id with
  |none=>rfl
  |some x=>exact absurd d (s.use id x C).1
 have E:(arr++rest).size=cap*n:=by
  rw[Array.size_append,p.1,f,<- aG];congr 1;omega
 have hS:=s.fresh (w':=w') (r:=⟨w.heap.size,0,n,cap⟩) (o:=.cells (arr++rest) ty (0,0)) d l y rfl
  ⟨_,ty,rfl,by simp only[aN];omega,g,(by intro h;cases h),t,λi e B=>p.2.1 i e B,λi e j c v a b u=>by
   obtain⟨G,m,z,A⟩:=p.2.2 i e j c a b;simp only[aN]at u;have q:i*n+j<arr.size:=(bE.1 m).1;rw[ci q]at u;rw[u]at m;cases m
   exact⟨z,A.mono (.refl _) (Dq hμ)⟩⟩
 refine⟨_,hS.1,Grow.newBlk hμ y rfl e1 e2 e3 (λ_ _ _ h=>by cases h;rfl),λk F=> ?_⟩;have:=Rep.own (M:=M) (DU μ id ⟨w.heap.size,0,n,cap⟩) id 0 k ⟨w.heap.size,0,n,cap⟩ (by simp[DU]) (by simp;omega);simpa using this
end
end
section
variable[Gl]
section
variable{P:Program}{M:Ak}{μ:Mu}{h:Hp}{w:World}
theorem CX{t ty e:TypeId}{n:Nat}(u:P.underlying t=zo (.slice e))(l:AU P e=zo n)(b:Addr)(a:Option Addr)(f sCap k c:Nat)(d:List Value)(g:f+k<=sCap)
  (s:k≠0 -> ∃ x,a=zo x/\d.length=k*n /\ ∀ j v,d[j]?=zo v->w.cell? (x.add j)=zo v) (m:k=0->d=[]) :
  (Builtin.append_ #[t,t] ty #[.slice (zo b) f sCap,.slice a k c]).run P w=match (storeCells (b.add (f*n)) d 0).run P w with
   |.ok _ w'=>.ok (.slice (zo b) (f+k) sCap) w'
   |.halt o w'=>.halt o w':=by
 have r:(Builtin.firstCells n k (.slice a k c)).run P w=.ok d.toArray w:=by
  by_cases i:k=0
  ·rw[m i];cases a with
   |none=>exact run_firstCells_none w n k k c
   |some x=>exact run_firstCells_some w n k x k c [] (by simp[i]) (by intro j v h;simp at h)
  ·obtain⟨x,rfl,p,q⟩:=s i;exact run_firstCells_some w n k x k c d p q
 simp only[Builtin.append_];simp only[Sem.run_bind,AF u,Result.andThen,Ac l,Sem.run_pure,bj,aW,bJ];simp[Builtin.lenOf,g,r];cases(storeCells (b.add (f*n)) d 0).run P w<;>rfl
theorem Ed{t ty e:TypeId}{n:Nat}(f:P.underlying t=zo (.slice e))(b:AU P e=zo n)(a:Option Addr)(c:Nat) :
  (Builtin.append_ #[t,t] ty #[.slice zn 0 0,.slice a 0 c]).run P w=.ok (.slice zn 0 0) w:=by
 have d:(Builtin.firstCells n 0 (.slice a 0 c)).run P w=.ok #[] w:=by
  cases a with
  |none=>exact run_firstCells_none w n 0 0 c
  |some x=>exact run_firstCells_some w n 0 x 0 c [] (by simp) (by intro j v h;simp at h)
 simp only[Builtin.append_];simp only[Sem.run_bind,AF f,Result.andThen,Ac b,Sem.run_pure,bj,aW,bJ];simp[Builtin.lenOf,d]
theorem FlatRep.append{n:Nat}{es es':List PV}{arr b:Array Value}(f:FlatRep M μ n es arr)(h:FlatRep M μ n es' b):FlatRep M μ n (es++es') (arr++b):=by
 refine⟨by simp[f.1,h.1,aG],λi e a=> ?_,λi e j c a k=> ?_⟩
 ·rw[aU]at a;split at a
  ·exact f.2.1 i e a
  ·exact h.2.1 _ e a
 ·rw[aU]at a;split at a
  ·obtain⟨v,d,g⟩:=f.2.2 i e j c a k;exact⟨v,by rw[ci (bE.1 d).1];exact d,g⟩
  ·rename_i hi;obtain⟨v,d,g⟩:=h.2.2 _ e j c a k;refine⟨v,?_,g⟩
   have:i*n+j=arr.size+((i-es.length)*n+j):=by
    rw[f.1,<- aH,<- aG];congr 2;omega
   rw[this,Array.getElem?_append_right (by omega)];rw[show arr.size+((i-es.length)*n+j)-arr.size=(i-es.length)*n+j by omega];exact d
theorem FlatRep.nil{n:Nat}:FlatRep M μ n [] #[]:=⟨by simp,λi e a=>by simp at a,λi e j c a=>by simp at a⟩
def GF(M:Ak)(μ:Mu)(w:World)(n:Nat)(es:List PV)(a:Option Addr):Prop:=
 es≠[] -> ∃ (b:Addr) (c:List Value),a=zo b/\c.length=es.length*n/\(∀ j v,c[j]?=zo v->w.cell? (b.add j)=zo v)/\FlatRep M μ n es c.toArray
theorem Hv{t ty e n:Nat}{g:TypeInfo}{z:Value}{olds new:List PV}{a0 a:Option Addr}{sCap c:Nat}(y:P.underlying t=zo (.slice e))(hi:P.info? e=zo g)(A:g.zero=zo z)(i:g.size=n)(q:z.cells.size=n)(_hn0:0<n)
  (F:GF M μ w n olds a0) (G:GF M μ w n new a) (r:a0=zn->sCap=0/\olds=[]) (x:sCap<olds.length+new.length) (l:new≠[]) (o:olds.length+new.length<=Ba) (p:g.bytes<=Ba) :
  ∃ w' arr rest cap,(Builtin.append_ #[t,t] ty #[.slice a0 olds.length sCap,.slice a new.length c]).run P w=.ok (.slice (zo ⟨w.heap.size,0,zn⟩) (olds.length+new.length) cap) w' /\
   FlatRep M μ n (olds++new) arr/\olds.length+new.length<=cap/\rest.size=(cap-(olds.length+new.length))*n/\w'.heap=w.heap.push (.cells (arr++rest) e (0,0))/\w'.os=w.os/\w'.output=w.output/\w'.tape=w.tape:=by
 obtain⟨b,d,rfl,B,C,D⟩:=G l;have m:0<new.length:=aQ.2 l
 have k:(olds.length+new.length)*g.bytes<=140737488355328:=by
  have:(olds.length+new.length)*g.bytes<=1048576*1048576:=Nat.mul_le_mul o p;omega
 simp only[Ba]at o p;cases a0 with
 |none=>
  obtain⟨rfl,rfl⟩:=r rfl;simp only[aI,aN,cq]at *;have:=run_append_nil (P:=P) w t ty e g z y hi A b new.length c d (by rw[B,i]) C m (by omega) (by omega);exact⟨_,d.toArray,_,_,this,D,grownCap_ge _ _ _ _,by simp[Builtin.zeroCells,q],rfl,rfl,rfl,rfl⟩
 |some b0=>
  have s:∃ f:List Value,f.length=olds.length*n/\(∀ j v,f[j]?=zo v->w.cell? (b0.add j)=zo v)/\FlatRep M μ n olds f.toArray:=by
   by_cases u:olds=[]
   ·subst u;exact⟨[],by simp,by intro j v h;simp at h,FlatRep.nil⟩
   ·obtain⟨b',f,E,L,N,O⟩:=F u;cases E;exact⟨f,L,N,O⟩
  obtain⟨f,I,J,K⟩:=s;have:=run_append_grow (P:=P) w t ty e g z y hi A b0 olds.length sCap f (by rw[I,i]) J b new.length c d (by rw[B,i]) C x (by omega) (growslice_fits x k);exact⟨_,f.toArray++d.toArray,_,_,this,K.append D,grownCap_ge _ _ _ _,by simp[Builtin.zeroCells,q],rfl,rfl,rfl,rfl⟩
theorem RB{full:Bool}{es:List PV}{x:Value}{n:Nat}(e:Rep M μ (.lst full es) x)(d:Ce n es=zt):∀ v∈es,v.cells.length=n:=by
 intro v a;obtain⟨i,hi⟩:=bw.1 a;cases e with
 |lst0=>simp at a
 |lst _ _ _ b off esz _ x hf hc hs hm h1 hr=>
  cases es with
  |nil=>simp at a
  |cons c es=>rw[hs i v hi,<- hs 0 c rfl];simpa[Ce]using d
theorem Rp(s:Sim M μ h w){id t ty:Nat}{p q:PV}{x y:Value}(hx:Rep M μ p x)(hy:Rep M μ q y){r:R}(e:Ef P h id t p q=zo r) :
  Bm P M μ w ((do pure (.value (<- Builtin.append_ #[t,t] ty #[x,y])):Sem Next).run P w) r:=by
 unfold Ef at e;split at e
 ·rename_i el U;split at e
  ·rename_i E ti new zc o D hnew hzc;replace e:=Bn e;obtain⟨hc,e⟩:=e;simp only[ak,ay,a8,bI,bQ,bR]at hc;obtain⟨⟨⟨hnl,W⟩,hzl⟩,g⟩:=hc;obtain⟨zv,i,hi,Y,hrun,hrz,h1z⟩:=B0 hzc M μ w;rw[D]at hi;cases hi;have Z:ti.size=E:=by simp[AU,D]at o;exact o
   have hzn:zv.cells.size=E:=by rw[<- hzl];simpa using hrz.1.symm
   obtain⟨a,c,rfl,hE⟩:=GT s hy hnew hnl g;have F:GF M μ w E new a:=hE;split at e
   ·cases hx;cases new with
    |nil=>
     simp at e;subst e;exact AC s (Ed U o a c) (.nils _)
    |cons e0 u=>
     have e:(bif ah (e0::u).length Ba then(h.new id (.row (e0::u) zf zf)).map (λh=>R.val (.own id 0 (e0::u).length) h)else zn)=zo r:=e
     replace e:=Aa e;obtain⟨A,e⟩:=e;obtain⟨h',n,rfl⟩:=AA e;obtain⟨w',arr,rest,cap,S,g2,g3,g4,g5,g6,g7,g8⟩:=Hv (ty:=ty) (olds:=[]) (a0:=none) (sCap:=0) (c:=c) U D Y Z hzn g (λh=>absurd rfl h) F (λ_=>⟨rfl,rfl⟩) (by simp) (by simp) (by simpa using A) W;simp only[aI,aN,cq]at S g2 g3 g4;obtain⟨μ',L,N,O⟩:=Bi s g g2 g3 g4 n g5 g6 g7 g8;exact⟨M,μ',w',_,by simp only[Sem.run_bind,S,Result.andThen,Sem.run_pure],L,N,O _ (ad _)⟩
   ·rename_i es
    have hlst:∃ a0,x=.slice a0 es.length es.length/\(a0=zn->es=[]):=by
     cases hx with
     |lst0 _ _ a cap hf=>have:=hf rfl;subst this;exact⟨zo a,rfl,λ_=>rfl⟩
     |lst _ _ _ b off esz cap x hf hc hs hm h1 hr=>have:=hf rfl;subst this;exact⟨_,rfl,by intro h;cases h⟩
    obtain⟨a0,rfl,ha0⟩:=hlst;cases new with
    |nil=>
     simp at e;subst e;cases a0 with
     |none=>
      have:=ha0 rfl;subst this;exact AC s (Ed U o a c) hx
     |some b0=>
      refine AC s (x:=.slice (zo b0) es.length es.length) ?_ hx;have:=CX (P:=P) (w:=w) (ty:=ty) U o b0 a es.length es.length 0 c [] (by omega) (λh=>absurd rfl h) (λ_=>rfl);simpa[storeCells]using this
    |cons e0 u=>
     have e:(bif ah (es.length+(e0::u).length) Ba&&Ce E es then(h.new id (.row (es++(e0::u)) zf zf)).map (λh=>R.val (.own id 0 (es.length+(e0::u).length)) h)else zn)=zo r:=e
     replace e:=Aa e;obtain⟨A,e⟩:=e;obtain⟨h',n,rfl⟩:=AA e;simp only[ac,bQ]at A
     have hO:GF M μ w E es a0:=by
      obtain⟨a',c',X,hE2⟩:=GT s hx (es:=es) rfl (RB hx A.2) g;cases X;exact hE2
     obtain⟨w',arr,rest,cap,S,g2,g3,g4,g5,g6,g7,g8⟩:=Hv (ty:=ty) (c:=c) (sCap:=es.length) U D Y Z hzn g hO F (λh=>by have:=ha0 h;subst this;exact⟨rfl,rfl⟩) (by simp) (by simp) A.1 W;obtain⟨μ',L,N,O⟩:=Bi s g g2 (by simpa using g3) (by simpa using g4) n g5 g6 g7 g8;exact⟨M,μ',w',_,by simp only[Sem.run_bind,S,Result.andThen,Sem.run_pure],L,N,O _ (by simp)⟩
   ·rename_i j off len;split at e
    ·rename_i es ex fz hb;replace e:=Bn e;obtain⟨hc,e⟩:=e;simp only[ak,ay,bQ]at hc;obtain⟨⟨A,J⟩,hel⟩:=hc;cases hx with
     |own _ _ _ _ rb hr hcap=>
     obtain⟨r',hr',arr0,ety,h1,h2,h3,h4,h5,h6,h7⟩:=s.blk j _ hb;rw[hr]at hr';cases hr'
     have B:es≠[]->rb.esz=E:=by
      intro z;cases es with
      |nil=>exact absurd rfl z
      |cons e1 es1=>rw[<- h6 0 e1 rfl];simpa[Ce]using hel
     have hall:∀ v∈(es.drop off).take len,v.cells.length=E:=by
      intro v hv;have hv:=List.mem_of_mem_drop (List.mem_of_mem_take hv);obtain⟨i,hi⟩:=bw.1 hv;rw[h6 i v hi,B (by intro h;subst h;simp at hv)]
     have C:((es.drop off).take len).length=len:=by simp;omega
     have hO:GF M μ w E ((es.drop off).take len) (zo ⟨rb.b,rb.base+off*rb.esz,zn⟩):=by
      obtain⟨a',c',X,hE2⟩:=GT s (.own (M:=M) μ j off len rb hr hcap) (es:=(es.drop off).take len) (by simp only[BX,hb,cG J,zb]) hall g;simp only[Value.slice.injEq]at X;obtain⟨rfl,_,_⟩:=X;exact hE2
     have fit:∀ d:List Value,(new≠[]->d.length=new.length*E /\ ∀ k v,d[k]?=zo v -> ∃ b,a=zo b/\w.cell? (b.add k)=zo v)->True:=λ_ _=>trivial
     have hnews:∃ d:List Value,FlatRep M μ E new d.toArray/\(new.length≠0 -> ∃ x,a=zo x/\d.length=new.length*E /\ ∀ j v,d[j]?=zo v->w.cell? (x.add j)=zo v)/\(new.length=0->d=[]):=by
      by_cases h0:new=[]
      ·subst h0;exact⟨[],FlatRep.nil,λh=>absurd rfl h,λ_=>rfl⟩
      ·obtain⟨b,d,x1,x2,x3,x4⟩:=F h0;exact⟨d,x4,λ_=>⟨b,x1,x2,x3⟩,λh=>absurd (bu h) h0⟩
     obtain⟨d,hf,hn1,hn2⟩:=hnews
     have G:(⟨rb.b,rb.base+off*rb.esz,zn⟩:Addr).add (len*E)=⟨rb.b,rb.base+(off+len)*rb.esz,zn⟩:=by
      rw[H5];by_cases h0:es=[]
      ·subst h0;simp at J;simp[J.1,J.2]
      ·rw[B h0,aG,aH]
     cases ex with
     |true=>
      have hlc:=h4 rfl;simp only[zb]at e;by_cases hnil:new=[]
      ·subst hnil;simp at e;subst e;refine AC s ?_ (.own (M:=M) μ j off len rb hr hcap);have:=CX (P:=P) (w:=w) (ty:=ty) U o ⟨rb.b,rb.base+off*rb.esz,zn⟩ a len (rb.cap-off) 0 c [] (by omega) (λh=>absurd rfl h) (λ_=>rfl);simpa[storeCells]using this
      rw[show new.isEmpty=zf by cases new with
       |nil=>exact absurd rfl hnil
       |cons _ _=>rfl,zj]at e
      cases f:ah (off+len+new.length) es.length with
      |true=>
       simp only[f,zb]at e;replace e:=Bn e;obtain⟨hfz,e⟩:=e;obtain⟨h',hset,rfl⟩:=AA e;subst hfz;simp only[bQ]at f;obtain⟨w',L,N,O⟩:=HO (P:=P) s hr hb hf (λz=>B (by intro h;subst h;exact z (bu (by simp only[aI]at f;omega)))) J (by omega) (λ_=>f) (by intro h;cases h) hset;refine⟨M,μ,w',_,?_,N,O,.own (M:=M) μ j off (len+new.length) rb hr (by omega)⟩;have:=CX (P:=P) (w:=w) (ty:=ty) U o ⟨rb.b,rb.base+off*rb.esz,zn⟩ a len (rb.cap-off) new.length c d (by omega) hn1 hn2;rw[G,L]at this;simp only[Sem.run_bind,this,Result.andThen,Sem.run_pure]
      |false=>
       simp only[f,zj]at e;obtain⟨h',n,rfl⟩:=AA e
       have hlt:es.length<off+len+new.length:=by
        rcases Nat.lt_or_ge es.length (off+len+new.length)with h|h
        ·exact h
        ·rw[cG h]at f;cases f
       have z:new≠[]:=by intro h;subst h;simp at hlt;omega
       obtain⟨w',arr,rest,cap,S,g2,g3,g4,g5,g6,g7,g8⟩:=Hv (ty:=ty) (c:=c) (sCap:=rb.cap-off) U D Y Z hzn g hO F (by intro h;cases h) (by rw[C];omega) z (by rw[C];exact A) W;obtain⟨μ',L,N,O⟩:=Bi s g g2 (by simpa using g3) (by simpa using g4) n g5 g6 g7 g8;rw[C]at S;exact⟨M,μ',w',_,by simp only[Sem.run_bind,S,Result.andThen,Sem.run_pure],L,N,O _ (by rw[bH,C];exact ad _)⟩
     |false=>
      simp only[zj]at e;replace e:=Aa e;obtain⟨hc,e⟩:=e;simp only[ac,bI,bR]at hc;obtain⟨⟨I,rfl⟩,hlp⟩:=hc;split at e
      ·rename_i h1' l;obtain⟨h',n,rfl⟩:=AA e;obtain⟨d1,d2⟩:=Hp.get_set l;obtain⟨n1,n2,n3⟩:=Hp.get_new n;have hid:id≠j:=by intro e;subst e;rw[d1,zy rfl]at n1;cases n1
       have hgid:h.get id=zn:=by rw[d1,zx hid]at n1;exact n1
       have hene:es≠[]:=by intro h;subst h;simp at I;omega
       by_cases K:len+new.length<=rb.cap
       ·have m:∃ h2,h.set j (.row (BU es len new) zf fz)=zo h2:=by
         unfold Hp.set at l ⊢;cases hj:Nat.blt j (j+1)with
         |true=>exact⟨_,rfl⟩
         |false=>rw[hj]at l;cases l
        obtain⟨h2,m⟩:=m;obtain⟨w',L,N,O⟩:=HO (P:=P) s hr hb hf (λ_=>B hene) (by omega) K (by intro h;cases h) (λ_=>I) m;obtain⟨t1,t2⟩:=Hp.get_set m
        have AG:BU es len new=es++new:=by
         unfold BU;rw[I];simp
        have hR:=N.rename (j:=j) (id:=id) (h':=h') (b:=.row (es++new) zf fz) (by rw[t1,zy rfl,AG]) hr trivial (by rw[t1,zx hid];exact hgid) (λk=>by
         rw[n2,d1,t1];by_cases e1:k=id
         ·rw[zy e1,zy e1]
         ·rw[zx e1,zx e1];split<;>rfl)
        refine⟨M,_,w',_,?_,hR.1,O.trans hR.2,.own (M:=M) _ id 0 (len+new.length) rb (by simp[DU]) (by omega)⟩;have:=CX (P:=P) (w:=w) (ty:=ty) U o ⟨rb.b,rb.base+0*rb.esz,zn⟩ a len (rb.cap-0) new.length c d (by omega) hn1 hn2;rw[G,aN,L]at this;simp only[Sem.run_bind,this,Result.andThen,Sem.run_pure]
       ·have sD:=s.update (w':=w) hb hr trivial d1 (λ_ _=>rfl) rfl trivial (λa v hm ha=>⟨(s.mem a v hm).2,trivial⟩);have z:new≠[]:=by intro h;subst h;simp at K;omega
        have htk:(es.drop 0).take len=es:=by rw[I];simp
        rw[htk]at hO;obtain⟨w',arr,rest,cap,S,g2,g3,g4,g5,g6,g7,g8⟩:=Hv (ty:=ty) (c:=c) (sCap:=rb.cap-0) U D Y Z hzn g hO F (by intro h;cases h) (by omega) z (by omega) W;obtain⟨μ',L,N,O⟩:=Bi sD g g2 (by simpa using g3) (by simpa using g4) n g5 g6 g7 g8;rw[<- I]at S;exact⟨M,μ',w',_,by simp only[Sem.run_bind,S,Result.andThen,Sem.run_pure],L,N,O _ (by rw[bH];omega)⟩
      ·cases e
    ·cases e
   ·cases e
  ·cases e
 ·cases e
end
end
section
variable[Gl]
section
variable{P:Program}{M:Ak}{μ:Mu}{h:Hp}{w:World}
theorem EG{g : Nat}{fn : Func}{vs : Array Value}(hg : P.funcs[g]? = some fn)(hc : (fn.body.isSome && !(fn.name == "runtime.NumGoroutine")) = true) :
  (callFunc g vs).run P w=.ok (.enter g vs) w /\ ∃ c,fn.body=zo c:=by
 simp only[ac,Bool.not_eq_true']at hc;obtain⟨c,hb⟩:=Option.isSome_iff_exists.1 hc.1;refine⟨?_,c,hb⟩;simp only[callFunc,Sem.run_bind,run_program,Result.andThen,hg,hc.2,hb];simp
theorem PB{g:Nat}{args:List PV}{r:R}(e:(match P.funcs[g]? with
  | some fn => bif fn.body.isSome && !(fn.name == "runtime.NumGoroutine") then some (R.call g args) else none
  | none => none) = some r) : r = .call g args ∧ ∃ fn, P.funcs[g]? = some fn ∧ (fn.body.isSome && !(fn.name == "runtime.NumGoroutine")) = true := by
 split at e
 ·rename_i fn hfn;replace e:=Aa e;obtain⟨hc,e⟩:=e;cases e;exact⟨rfl,fn,hfn,hc⟩
 ·cases e
theorem Hs{g : Nat}{args : List PV}{r : R}(e : (bif (match P.funcs[g]? with | some fn => fn.body.isSome && !(fn.name == "runtime.NumGoroutine") | none => false) then some (R.call g args) else none) = some r) :
  r = .call g args ∧ ∃ fn, P.funcs[g]? = some fn ∧ (fn.body.isSome && !(fn.name == "runtime.NumGoroutine")) = true := by
 replace e:=Aa e;obtain⟨hc,e⟩:=e;split at hc
 ·rename_i fn hfn;cases e;exact⟨rfl,fn,hfn,hc⟩
 ·cases hc
theorem FK{f:Fn}{first cap args:List PV}{vf vc va:List Value}(hf:RepL M μ first vf)(hc:RepL M μ cap vc)(ha:RepL M μ args va){r:R}(e:CB P f first cap args=zo r) :
  Bm P M μ w ((invoke (.fn f vc.toArray) (vf++va).toArray).run P w) r /\ ∃ g as,r=.call g as:=by
 unfold CB at e;split at e
 ·rename_i g;obtain⟨rfl,fn,hfn,hok⟩:=PB e;obtain⟨h1,c,h2⟩:=EG (w:=w) (vs:=((vf++va)++vc).toArray) hfn hok;refine⟨⟨(vf++va)++vc,?_,(hf.append ha).append hc,fn,c,hfn,h2⟩,_,_,rfl⟩;simpa[invoke]using h1
 ·rename_i name;split at e
  ·rename_i t v rest heq;have hall:=hf.append ha;rw[heq]at hall;obtain⟨x,ws,hws,hx,hrest⟩:=hall.cons_inv;cases hx with
   |ifc _ _ _ xv hxv=>
   split at e
   ·rename_i i hi;split at e
    ·rename_i m hm
     have meth : ∀ g pr, m.path.isEmpty = true → m.func = some (g, pr) → (receiverAt t (.val xv) pr (some ((name.splitOn ".").getLastD name))).run P w = .ok xv w →
       (invoke (.fn (.method name) vc.toArray) (vf++va).toArray).run P w=(callFunc g (xv::ws).toArray).run P w:=by
      intro g pr hpath hfun hrec;rw[hws];have hp2:m.path.toList=[]:=by simpa[Array.isEmpty_iff]using hpath
      have hm1:(method ((P.types.size+Made.depth)) t xv name).run P w=.ok (g,xv) w:=by
       have hpos:0<Made.depth:=by decide
       have hne:P.types.size+Made.depth=(P.types.size+Made.depth-1)+1:=by omega
       rw[hne];unfold method;simp only[Sem.run_bind,FH hi,Result.andThen,hm,hp2,follow,Sem.run_pure,hfun,hpath,if_true,hrec]
      simp[invoke,callMethod,hm1]
     split at e
     ·rename_i g el hpath hfun hu;obtain⟨rfl,fn,hfn,hok⟩:=Hs e;obtain⟨h1,c,h2⟩:=EG (w:=w) (vs:=(xv::ws).toArray) hfn hok;refine⟨⟨xv::ws,?_,RepL.cons hxv hrest,fn,c,hfn,h2⟩,_,_,rfl⟩;rw[meth g zt hpath hfun (by simp[receiverAt,AF hu,Place.get]),h1]
     ·cases e
     ·rename_i g d hnp hpath hfun hu;obtain⟨rfl,fn,hfn,hok⟩:=Hs e;obtain⟨h1,c,h2⟩:=EG (w:=w) (vs:=(xv::ws).toArray) hfn hok;refine⟨⟨xv::ws,?_,RepL.cons hxv hrest,fn,c,hfn,h2⟩,_,_,rfl⟩;rw[meth g zf hpath hfun ?_,h1]
      have:∀ el,d ≠ .pointer el:=by
       intro el hd;subst hd
       first|exact hnp _ _ hfun hu|exact hnp _ _ rfl rfl|(simp_all)
      cases d<;>first|exact absurd rfl (this _)|simp[receiverAt,AF hu,Place.get]
     ·cases e
    ·cases e
   ·cases e
  ·cases e
 ·cases e
end
end
section
variable[Gl]
section
variable{P:Program}{M:Ak}{μ:Mu}{h:Hp}{w:World}
theorem K2{a:List PV}{vs:List Value}{p:PV}(h:RepL M μ a vs)(e:a=[p]):∃ x,vs=[x]/\Rep M μ p x:=by
 subst e;obtain⟨x,d,rfl,c,b⟩:=h.cons_inv;exact⟨x,by rw[b.nil_inv],c⟩
theorem K3{b:List PV}{vs:List Value}{p q:PV}(h:RepL M μ b vs)(e:b=[p,q]):∃ x y,vs=[x,y]/\Rep M μ p x/\Rep M μ q y:=by
 subst e;obtain⟨x,i,rfl,d,c⟩:=h.cons_inv;obtain⟨y,g,rfl,f,a⟩:=c.cons_inv;exact⟨x,y,by rw[a.nil_inv],d,f⟩
theorem FlatRep.take{n:Nat}{es:List PV}{b:List Value}(d:FlatRep M μ n es b.toArray)(k:Nat):FlatRep M μ n (es.take k) (b.take ((es.take k).length*n)).toArray:=by
 have m:b.length=es.length*n:=by simpa using d.1
 refine⟨?_,λi e a=> ?_,λi e j c a g=> ?_⟩
 ·simp only[cR,aX,m];exact ck (aC _ (Nat.min_le_right _ _))
 ·rw[aA]at a;split at a
  ·exact d.2.1 i e a
  ·cases a
 ·have hi:i<(es.take k).length:=(ab.1 a).1;rw[aA]at a;split at a
  ·obtain⟨v,f,h⟩:=d.2.2 i e j c a g;refine⟨v,?_,h⟩;have l:j<n:=by rw[<- d.2.1 i e a];exact(ab.1 g).1
   simp only[bj]at f ⊢;rw[aA,zy ?_]
   ·exact f
   ·have:(i+1)*n<=(es.take k).length*n:=aC _ hi;rw[aG]at this;omega
  ·cases a
theorem Gh{d:TypeDesc}{k:PV}{r:Value}(p:Rep M μ k r):∀ {es es':List (PV×PV)} {a:List MapEntry} (n:Nat),EntsRep M μ es a->Ie d es k=zo es' ->
  (∃ i x,Instr.findNow d r a n=zo (zo (n+i,x))/\i<a.length/\EntsRep M μ es' (a.eraseIdx i)) \/
  (Instr.findNow d r a n=zo zn/\EntsRep M μ es' a)
 |[],es',a,n,hr,e=>by
  cases e;cases a with
  |nil=>exact .inr ⟨rfl,hr⟩
  |cons _ _=>simp[EntsRep]at hr
 |(k1,v1)::es,es',a,n,hr,e=>by
  cases a with
  |nil=>simp[EntsRep]at hr
  |cons b a=>
   obtain⟨c,q⟩:=hr.2 0 k1 v1 b rfl rfl;unfold Ie at e;split at e
   ·rename_i hc;cases e;have:=Cl hc p c;exact .inl ⟨0,b.val,by simp[Instr.findNow,this.1],by simp,by simpa using hr.tail⟩
   ·rename_i hc;have s:=(Cl hc p c).1;split at e
    ·rename_i l u;cases e
     have cons:∀ {l:List (PV×PV)} {j:List MapEntry},EntsRep M μ l j->EntsRep M μ ((k1,v1)::l) (b::j):=by
      intro l j f;refine⟨by simp[f.1],λi k v e m o=> ?_⟩;cases i with
      |zero=>simp at m o;obtain⟨rfl,rfl⟩:=m;subst o;exact⟨c,q⟩
      |succ i=>exact f.2 i k v e (by simpa using m) (by simpa using o)
     rcases Gh p (n+1) hr.tail u with⟨i,x,g,h,t⟩|⟨g,h⟩
     ·refine .inl ⟨i+1,x,?_,by simpa using h,by simpa using cons t⟩;simp[Instr.findNow,s,g];omega
     ·exact .inr ⟨by simp[Instr.findNow,s,g],cons h⟩
    ·cases e
   ·cases e
theorem NT{l:List PV}{vs:List Value}{k:IntKind}(f:Int->Int->Int)(g:Value->Value->Sem Value)(c:∀ k x b y w,(g (.int k x) (.int b y)).run P w=.ok (.int k (f x y)) w) :
  ∀ {m r:Int},RepL M μ l vs->B8 f m l k=zo r->(vs.foldlM g (.int k m)).run P w=.ok (.int k r) w:=by
 induction l generalizing vs with
 |nil=>intro m r a e;cases e;rw[a.nil_inv];simp
 |cons p l i=>
  intro m r a e;cases p with
  |int b y=>
   simp only[B8]at e;replace e:=Aa e;obtain⟨j,e⟩:=e;obtain⟨x,n,rfl,h,d⟩:=a.cons_inv;cases h;simp only[List.foldlM_cons,Sem.run_bind,c,Result.andThen];exact i d e
  |_=>simp[B8]at e
theorem IC(s:Sim M μ h w){id:Nat}{b:Builtin}{C:Array TypeId}{ty:TypeId}{cs:Array Bool}{args:List PV}{vs:List Value}(J:RepL M μ args vs){r:R}(e:AH P h id b C args=zo r) :
  Bm P M μ w ((builtin b C ty cs vs.toArray).run P w) r:=by
 unfold AH at e;split at e
 ·split at e
  ·rename_i x t D;obtain⟨v,rfl,K⟩:=K2 J rfl;have u:C[0]?=zo t:=D;split at e
   ·rename_i kt el j A;split at e
    ·rename_i es E;cases e;cases K with
     |mp _ _ rb hr=>
     obtain⟨r',z,o,g,G,Y,h3⟩:=s.blk j _ E;rw[hr]at z;cases z;refine AC s (x:=.int .i64 es.length) ?_ (.int _ _ _);simp[Builtin.len_,u,AF A,Br G,Y,goInt]
    ·cases e
   ·rename_i A;cases e;cases K;exact AC s (x:=.int .i64 0) (by simp[Builtin.len_,u,AF A,goInt]) (.int _ _ _)
   ·rename_i n el A;cases e;exact AC s (x:=.int .i64 n) (by simp[Builtin.len_,u,AF A,goInt]) (.int _ _ _)
   ·rename_i A;cases e;cases K;exact AC s (x:=.int .i64 0) (by simp[Builtin.len_,u,AF A,goInt]) (.int _ _ _)
   ·rename_i full es A;cases e;cases K<;>exact AC s (x:=.int .i64 _) (by simp[Builtin.len_,u,AF A,goInt]) (.int _ _ _)
   ·rename_i j off len A;cases e;cases K;exact AC s (x:=.int .i64 len) (by simp[Builtin.len_,u,AF A,goInt]) (.int _ _ _)
   ·rename_i l A;cases e;cases K;exact AC s (x:=.int .i64 _) (by simp[Builtin.len_,u,AF A,goInt]) (.int _ _ _)
   ·cases e
  ·cases e
 ·split at e
  ·rename_i x t D;obtain⟨v,rfl,K⟩:=K2 J rfl;have u:C[0]?=zo t:=D;split at e
   ·rename_i el j off len A;split at e
    ·rename_i es fz E;cases e;cases K with
     |own _ _ _ _ rb hr hcap=>
     obtain⟨r',z,arr0,ety,G,Y,h3,h4,h5,h6,h7⟩:=s.blk j _ E;rw[hr]at z;cases z;refine AC s (x:=.int .i64 (es.length-off:Nat)) ?_ (.int _ _ _);rw[h4 rfl];simp[Builtin.cap_,u,AF A,goInt]
    ·cases e
   ·rename_i A;cases e;cases K;exact AC s (x:=.int .i64 0) (by simp[Builtin.cap_,u,AF A,goInt]) (.int _ _ _)
   ·cases e
  ·cases e
 ·split at e
  ·rename_i p q t t' hats;replace e:=Aa e;obtain⟨X,e⟩:=e;have X:=Nat.eq_of_beq_eq_true X;subst X;obtain⟨x,y,rfl,F,N⟩:=K3 J rfl;have:C = #[t,t]:=by rw[<- bL (xs:=C),hats]
   subst this;exact Rp s F N e
  ·cases e
 ·split at e
  ·rename_i j off len q t D;obtain⟨x,y,rfl,F,N⟩:=K3 J rfl;have u:C[0]?=zo t:=D;split at e
   ·rename_i el es ex new A E hnew;split at e
    ·rename_i Z hsz;replace e:=Bn e;obtain⟨hc,e⟩:=e;simp only[ak,ay,a8,bI,bQ,bR]at hc;obtain⟨⟨⟨hnl,hol⟩,hn0⟩,hel⟩:=hc;obtain⟨h',B,rfl⟩:=AA e;obtain⟨a,c,rfl,hE⟩:=GT s N hnew hnl hn0;cases F with
     |own _ _ _ _ rb hr hcap=>
     obtain⟨r',z,arr0,ety,G,Y,h3,h4,h5,h6,h7⟩:=s.blk j _ E;rw[hr]at z;cases z
     have hesz:es≠[]->rb.esz=Z:=by
      intro U;cases es with
      |nil=>exact absurd rfl U
      |cons e1 es1=>rw[<- h6 0 e1 rfl];simpa[Ce]using hel
     have S:(new.take len).length=cZ new.length len:=by rw[aX,Nat.min_comm]
     have W:∃ I:List Value,FlatRep M μ Z (new.take len) I.toArray/\(Builtin.firstCells Z (cZ new.length len) (.slice a new.length c)).run P w=.ok I.toArray w:=by
      by_cases h0:new=[]
      ·subst h0;refine⟨[],by simpa using FlatRep.nil,?_⟩;have:cZ ([]:List PV).length len=0:=by simp
       rw[this];cases a with
       |none=>exact run_firstCells_none w Z 0 0 c
       |some x=>exact run_firstCells_some w Z 0 x 0 c [] (by simp) (by intro j v h;simp at h)
      ·obtain⟨b,I,rfl,x2,x3,x4⟩:=hE h0;refine⟨_,x4.take len,?_⟩;refine run_firstCells_some w Z _ b _ c _ ?_ ?_
       ·have:=(x4.take len).1;simpa[S]using this
       ·intro k v hk;rw[aA]at hk;split at hk
        ·exact x3 k v hk
        ·cases hk
     obtain⟨I,hf,hfc⟩:=W;have hlm:(new.take len).length<=len:=by simp;omega
     obtain⟨w',k1,k2,k3⟩:=HO (P:=P) s hr E hf (λU=>hesz (by
      intro h;subst h;have:(new.take len).length=0:=by simp only[aI]at hol;omega
      exact U (bu this))) (by omega) (by omega) (λ_=>by omega) (by intro h;cases h) B
     refine⟨M,μ,w',.int .i64 (cZ new.length len:Nat),?_,k2,k3,.int _ _ _⟩;simp[builtin,Builtin.copy_,u,AF A,Builtin.lenOf,Ac hsz,hfc,k1,goInt]
    ·cases e
   ·cases e
  ·cases e
 ·split at e
  ·rename_i j t D;obtain⟨v,rfl,K⟩:=K2 J rfl;have u:C[0]?=zo t:=D;split at e
   ·rename_i kt el es A E;obtain⟨h',B,rfl⟩:=AA e;cases K with
    |mp _ _ rb hr=>
    obtain⟨r',z,o,g,G,Y,h3⟩:=s.blk j _ E;rw[hr]at z;cases z;have hS:=s.object (o':=.map #[] g) E hr trivial B G (by intro a t f hc;cases hc) ⟨_,g,rfl,rfl,λi k v e p q=>by simp at p⟩;have so:=BZ (P:=P) (o':=.map #[] g) G (by intro a t f hc;cases hc);refine⟨M,μ,_,.tuple #[],?_,hS.1,hS.2,.tup _ _ _ rfl (λi c v hc=>by simp at hc)⟩;simp[builtin,Builtin.clear_,u,AF A,Br G,so]
   ·cases e
  ·cases e
 ·split at e
  ·rename_i j k t D;obtain⟨x,y,rfl,F,N⟩:=K3 J rfl;have u:C[0]?=zo t:=D;split at e
   ·rename_i kt el es A E;split at e
    ·rename_i d hd;replace e:=Bn e;obtain⟨L,e⟩:=e;have L:Cm d=zt:=by simpa using L
     split at e
     ·rename_i es' hdel;obtain⟨h',B,rfl⟩:=AA e;cases F with
      |mp _ _ rb hr=>
      obtain⟨r',z,o,g,G,Y,h3⟩:=s.blk j _ E;rw[hr]at z;cases z;have her:EntsRep M μ es o.toList:=⟨by simpa using Y,λi k v e a b=>h3 i k v e a (by simpa using b)⟩;rcases Gh N 0 her hdel with⟨i,xx,a1,a2,a3⟩|⟨a1,a2⟩
      ·have fk:(Instr.findKey kt y o.toList).run P w=.ok (zo (i,xx)) w:=by simp[Instr.findKey,AF hd,a1]
       have S:i<o.size:=by simpa using a2
       have O:(o.eraseIdxIfInBounds i).toList=o.toList.eraseIdx i:=by
        simp[Array.eraseIdxIfInBounds,S]
       have hS:=s.object (o':=.map (o.eraseIdxIfInBounds i) g) E hr trivial B G (by intro a t f hc;cases hc)
        ⟨_,g,rfl,by have:=a3.1;rw[<- O,bO]at this;exact this,λi k v e p q=>a3.2 i k v e p (by
         rw[<- O,bm];exact q)⟩
       have so:=BZ (P:=P) (o':=.map (o.eraseIdxIfInBounds i) g) G (by intro a t f hc;cases hc);refine⟨M,μ,_,.tuple #[],?_,hS.1,hS.2,.tup _ _ _ rfl (λi c v hc=>by simp at hc)⟩;simp[builtin,Builtin.delete_,u,AF A,Br G,Bp hd L,fk,so]
      ·have fk:(Instr.findKey kt y o.toList).run P w=.ok zn w:=by simp[Instr.findKey,AF hd,a1]
       have hS:=s.object (o':=.map o g) E hr trivial B G (by intro a t f hc;cases hc)
        ⟨_,g,rfl,by simpa using a2.1,λi k v e p q=>a2.2 i k v e p (by simpa using q)⟩
       have so:=BZ (P:=P) (o':=.map o g) G (by intro a t f hc;cases hc);refine⟨M,μ,_,.tuple #[],?_,hS.1,hS.2,.tup _ _ _ rfl (λi c v hc=>by simp at hc)⟩;simp[builtin,Builtin.delete_,u,AF A,Br G,Bp hd L,fk,so]
     ·cases e
    ·cases e
   ·cases e
  ·cases e
 ·split at e
  ·rename_i k a rest;obtain⟨m,hm,rfl⟩:=AA e;obtain⟨x,ws,rfl,F,X⟩:=J.cons_inv;cases F;refine AC s (x:=.int k m) ?_ (.int _ _ _);simp only[Builtin.max_];exact NT _ Builtin.max2 (λk x k' y w=>by simp[Builtin.max2]) X hm
  ·rename_i a c;cases e;obtain⟨x,y,rfl,F,N⟩:=K3 J rfl;cases F with
   |str _ s1=>cases N with
    |str _ s2=>
     refine AC s (x:=.string (if !Op.bytesLess s1.data.toList s2.data.toList then s1 else s2)) ?_ ?_
     ·simp[Builtin.max_,Builtin.max2,Op.stringOp,asBool,ByteArray.toList_eq]
     ·cases E:Op.bytesLess s1.data.toList s2.data.toList
      ·simpa[E]using Rep.str (M:=M) μ s1
      ·simpa[E]using Rep.str (M:=M) μ s2
  ·cases e
 ·split at e
  ·rename_i k a rest;obtain⟨m,hm,rfl⟩:=AA e;obtain⟨x,ws,rfl,F,X⟩:=J.cons_inv;cases F;refine AC s (x:=.int k m) ?_ (.int _ _ _);simp only[Builtin.min_];exact NT _ Builtin.min2 (λk x k' y w=>by simp[Builtin.min2]) X hm
  ·rename_i a c;cases e;obtain⟨x,y,rfl,F,N⟩:=K3 J rfl;cases F with
   |str _ s1=>cases N with
    |str _ s2=>
     refine AC s (x:=.string (if Op.bytesLess s1.data.toList s2.data.toList||s1.data.toList == s2.data.toList then s1 else s2)) ?_ ?_
     ·simp[Builtin.min_,Builtin.min2,Op.stringOp,asBool,ByteArray.toList_eq]
     ·cases E:(Op.bytesLess s1.data.toList s2.data.toList||s1.data.toList == s2.data.toList)
      ·simpa[E]using Rep.str (M:=M) μ s2
      ·simpa[E]using Rep.str (M:=M) μ s1
  ·cases e
 ·split at e
  ·rename_i t v;cases e;obtain⟨x,rfl,F⟩:=K2 J rfl;cases F with
   |ifc _ _ _ xv hxv=>
    refine⟨.iface t xv,?_,.ifc _ _ _ _ hxv⟩;simp[builtin,Instr.panic,goPanic]
  ·cases e
 ·cases e;simp[Bm,builtin]
 ·cases e
end
end
section
variable[Gl]
section
variable{P:Program}{M:Ak}{μ:Mu}{h:Hp}{w:World}{t:T PV}{nt:Nat}{a:Act}
theorem DI(b:GlOK M)(d:TmpsRep M μ t nt a.tmps){x:Operand}{k:PV->Option R}{r:R}(e:e1 t x k=zo r):∃ p,k p=zo r/\Rep M μ p (a.eval x):=by
 unfold e1 at e;split at e
 ·rename_i p c;exact⟨p,e,CP b d c⟩
 ·cases e
theorem JF(b:GlOK M)(c:TmpsRep M μ t nt a.tmps){x y:Operand}{k:PV->PV->Option R}{r:R}(e:e2 t x y k=zo r):∃ p q,k p q=zo r/\Rep M μ p (a.eval x)/\Rep M μ q (a.eval y):=by
 unfold e2 at e;split at e
 ·rename_i p q d f;exact⟨p,q,e,CP b c d,CP b c f⟩
 ·cases e
theorem PN(b:GlOK M)(c:TmpsRep M μ t nt a.tmps){x y z:Operand}{k:PV->PV->PV->Option R}{r:R}(e:e3 t x y z k=zo r):∃ p q s,k p q s=zo r/\Rep M μ p (a.eval x)/\Rep M μ q (a.eval y)/\Rep M μ s (a.eval z):=by
 unfold e3 at e;split at e
 ·rename_i p q s d f hs;exact⟨p,q,s,e,CP b c d,CP b c f,CP b c hs⟩
 ·cases e
theorem Js(s:Sim M μ h w){id:Nat}{b:TypeId}{p:PV}{x:Value}(j:Rep M μ p x){r:R}(e:Fa h id p=zo r) :
  Bm P M μ w ((do pure (.value (<- Instr.box b x)):Sem Next).run P w) r:=by
 unfold Fa at e;split at e
 ·cases e
 ·rename_i a;obtain⟨h',d,rfl⟩:=AA e;obtain⟨f,c⟩:=j.cells (λcs hc=>a cs hc);have:=JV (P:=P) s (ty:=b) f (λi v g=>c i v g) d;simpa[Instr.box,newVar]using this
theorem O9(s:Sim M μ h w){id:Nat}{b:TypeId}{r:R}(e:Cj P h id b=zo r) :
  Bm P M μ w ((do pure (.value (<- Instr.alloc b zt (.tuple #[]))):Sem Next).run P w) r:=by
 unfold Cj at e;split at e
 ·rename_i cs j;obtain⟨h',f,rfl⟩:=AA e;obtain⟨k,i,hi,d,a,g,c⟩:=B0 j M μ w;have:=JV (P:=P) s (ty:=b) g (Ka c) f;simpa[Instr.alloc,a,newVar]using this
 ·cases e
theorem Oh(s:Sim M μ h w){id:Nat}{ty:TypeId}{r:R}(e:(h.new id (.mp [])).map (λh=>R.val (.mp id) h)=zo r) :
  Bm P M μ w ((do pure (.value (<- Instr.makeMap ty zn)):Sem Next).run P w) r:=by
 obtain⟨h',f,rfl⟩:=AA e;obtain⟨a,b,_⟩:=Hp.get_new f
 have hμ:μ id=zn:=by
  cases d:μ id with
  |none=>rfl
  |some x=>exact absurd a (s.use id x d).1
 have hS:=s.fresh (w':=w.alloc (.map #[] 0)) (r:=⟨w.heap.size,0,0,0⟩) (o:=.map #[] 0) a b rfl rfl
  ⟨#[],0,rfl,rfl,λi k v e c=>by simp at c⟩
 refine⟨M,DU μ id ⟨w.heap.size,0,0,0⟩,w.alloc (.map #[] 0),.map (zo w.heap.size),?_,hS.1,Grow.newBlk hμ rfl rfl rfl rfl rfl (λ_ _ _ h=>by cases h),?_⟩
 ·simp[Instr.makeMap]
 ·exact .mp _ _ ⟨w.heap.size,0,0,0⟩ (by simp[DU])
theorem RM(s:Sim M μ h w){c p q:PV}{vc x y:Value}(hc:Rep M μ c vc)(a:Rep M μ p x)(b:Rep M μ q y){r:R}(e:Dk h c p q=zo r) :
  Bm P M μ w ((do pure (.value (if <- asBool vc then x else y)):Sem Next).run P w) r:=by
 unfold Dk at e;split at e
 ·cases e;cases hc;exact⟨M,μ,w,x,by simp[asBool],s,.refl _ _ _,a⟩
 ·cases e;cases hc;exact⟨M,μ,w,y,by simp[asBool],s,.refl _ _ _,b⟩
 ·cases e
theorem LZ(s:Sim M μ h w){f:Fn}{p q:List PV}{x y:Array Value}(g:RepL M μ p x.toList)(j:RepL M μ q y.toList){r:R}(e:BF h f p q=zo r) :
  Bm P M μ w ((do pure (.value (<- Instr.makeFunc f x y)):Sem Next).run P w) r:=by
 unfold BF at e;split at e
 ·cases e
 ·rename_i d;cases e;exact AC s (x:=.func f x y) (by simp[Instr.makeFunc]) (.fn _ _ _ _ _ _ (λl k=>d l k) (by simpa using g.1) (by simpa using j.1) (λi c v a b=>g.2 i c v a (by simpa using b)) (λi c v a b=>j.2 i c v a (by simpa using b)))
theorem P5{p:PV}{x:Value}(a:Rep M μ p x){r:R}(e:J0 p=zo r):Bm P M μ w ((do pure (.value (<- Instr.panic x)):Sem Next).run P w) r:=by
 unfold J0 at e;split at e
 ·cases e;cases a with
  |ifc _ _ _ xv hxv=>exact⟨.iface _ xv,by simp[Instr.panic,goPanic],.ifc _ _ _ _ hxv⟩
 ·cases e
theorem OT(s:Sim M μ h w)(n:TmpsRep M μ t nt a.tmps){id:Nat}{o:Oper}{r:R}(e:AQ P t h id o=zo r):Bm P M μ w ((execOp a.eval o).run P w) r:=by
 unfold AQ at e;unfold execOp;split at e
 ·rename_i x d;rw[d];obtain⟨v,O,rfl⟩:=Dh e;exact⟨M,μ,w,_,rfl,s,.refl _ _ _,CP s.glb n O⟩
 ·rename_i x d;rw[d];obtain⟨v,O,rfl⟩:=Dh e;exact⟨M,μ,w,_,rfl,s,.refl _ _ _,CP s.glb n O⟩
 ·rename_i c x y d;rw[d];obtain⟨p,q,u,e,j,B,F⟩:=PN s.glb n e;exact RM s j B F e
 ·rename_i W d;rw[d];exact O9 s e
 ·rename_i W x d;rw[d];obtain⟨p,e,j⟩:=DI s.glb n e;exact Js s j e
 ·rename_i ty J d;rw[d];split at e
  ·rename_i ps I;refine PA s ?_ e;simpa using F9 s.glb n I
  ·cases e
 ·rename_i ty len J d;rw[d];split at e
  ·rename_i ps I;refine Is s ?_ e;simpa using F9 s.glb n I
  ·cases e
 ·rename_i ty x d;rw[d];obtain⟨p,e,j⟩:=DI s.glb n e;exact Q9 s j e
 ·rename_i ty x y d;rw[d];obtain⟨p,q,e,j,B⟩:=JF s.glb n e;exact QX s j B e
 ·rename_i x d;rw[d];obtain⟨p,e,j⟩:=DI s.glb n e;exact R8 s j e
 ·rename_i op ty x y yt d;rw[d];obtain⟨p,q,e,j,B⟩:=JF s.glb n e;exact Ru s j B e
 ·rename_i op ty x d;rw[d];obtain⟨p,e,j⟩:=DI s.glb n e;exact S9 s j e
 ·rename_i src U x d;rw[d];obtain⟨p,e,j⟩:=DI s.glb n e;exact MS s j e
 ·rename_i ty x d;rw[d];obtain⟨p,e,j⟩:=DI s.glb n e;exact R1 s j e
 ·rename_i f first cap d
  rw[d];split at e
  ·rename_i p q Z hq;exact LZ s (by simpa using IL s.glb n Z) (by simpa using IL s.glb n hq) e
  ·cases e
 ·rename_i ty d;rw[d];exact Oh s e
 ·rename_i ty l c d;rw[d];obtain⟨p,q,e,j,B⟩:=JF s.glb n e;exact RD s j B e
 ·rename_i ty x lo hi mx d;rw[d];split at e
  ·rename_i l u m X hu Y;obtain⟨p,e,j⟩:=DI s.glb n e;exact QW s j (Mc s.glb n X) (Mc s.glb n hu) (Mc s.glb n Y) e
  ·cases e
 ·rename_i sty x f d;rw[d];obtain⟨p,e,j⟩:=DI s.glb n e;exact J5 s j e
 ·rename_i ty x f d;rw[d];obtain⟨p,e,j⟩:=DI s.glb n e;exact PW s j e
 ·rename_i ty x i d;rw[d];obtain⟨p,q,e,j,B⟩:=JF s.glb n e;exact KJ s j B e
 ·rename_i ty x i d;rw[d];obtain⟨p,q,e,j,B⟩:=JF s.glb n e;exact Pg s j B e
 ·rename_i ty x k ok d;rw[d];obtain⟨p,q,e,j,B⟩:=JF s.glb n e;exact Of s j B e
 ·rename_i ty x k v d;rw[d];obtain⟨p,q,u,e,j,B,F⟩:=PN s.glb n e;exact Gf s j B F e
 ·rename_i ty x k v d;rw[d];obtain⟨p,q,u,e,j,B,F⟩:=PN s.glb n e;exact Gf s j B F e
 ·rename_i x xt ty ok d;rw[d];obtain⟨p,e,j⟩:=DI s.glb n e;exact OF s j e
 ·rename_i x i d;rw[d];obtain⟨p,e,j⟩:=DI s.glb n e;exact Me s j e
 ·rename_i x d;rw[d];obtain⟨p,e,j⟩:=DI s.glb n e;exact P5 j e
 ·rename_i c d;rw[d];split at e
  ·rename_i args C;have G:RepL M μ args (c.args.toList.map a.eval):=IL s.glb n C;have A:c.args.map a.eval=(c.args.toList.map a.eval).toArray:=by rw[<- cO,bL]
   split at e
   ·rename_i b z;simp only[resolve,z,Sem.run_bind,Sem.run_pure,Result.andThen,invoke];rw[A];exact IC s G e
   ·rename_i f z;obtain⟨p,e,j⟩:=DI s.glb n e;unfold Hu at e;split at e
    ·rename_i fn x y;generalize D:a.eval f=v at j;cases j with
     |fn _ _ _ _ va vb hf hla hlb B F=>
      obtain⟨N,g,as,k2⟩:=FK (w:=w) (vf:=va.toList) (vc:=vb.toList) ⟨by simpa using hla,λi c v p q=>B i c v p (by simpa using q)⟩ ⟨by simpa using hlb,λi c v p q=>F i c v p (by simpa using q)⟩ G e;have K:(va.toList++c.args.toList.map a.eval).toArray=va++(c.args.toList.map a.eval).toArray:=by apply Array.ext';simp
      rw[K]at N;simpa[resolve,z,Deferred.ofValue,D,A]using N
    ·rename_i l;cases e;generalize D:a.eval f=v at j;cases j with
     |yl _ _ rb hr=>
      refine⟨c.args.toList.map a.eval,rb,hr,?_,G⟩;simp[resolve,z,Deferred.ofValue,D,invoke,A]
    ·cases e
   ·rename_i L S z;obtain⟨p,e,j⟩:=DI s.glb n e;obtain⟨N,_⟩:=FK (w:=w) (vf:=[a.eval L]) (vc:=[]) (RepL.cons j (RepL.nil _ _)) (RepL.nil _ _) G e;simpa[resolve,z,A]using N
  ·cases e
 ·rename_i c d;rw[d];split at e
  ·rename_i args C;have G:RepL M μ args (c.args.toList.map a.eval):=IL s.glb n C;have A:c.args.map a.eval=(c.args.toList.map a.eval).toArray:=by rw[<- cO,bL]
   split at e
   ·rename_i b z;cases e;have E:∃ cs,(resolve a.eval c o.type).run P w=.ok { target:=.builtin b c.argTypes o.type cs,args:=c.args.map a.eval } w:=⟨_,by simp only[resolve,z];rfl⟩;obtain⟨cs,E⟩:=E;exact⟨{ target:=.builtin b c.argTypes o.type cs,args:=c.args.map a.eval },by simp only[Sem.run_bind,E,Result.andThen,Sem.run_pure],cs,_,rfl,A,G⟩
   ·rename_i f z;obtain⟨p,e,j⟩:=DI s.glb n e;split at e
    ·rename_i g x y;cases e;generalize D:a.eval f=v at j;cases j with
     |fn _ _ _ _ va vb hf hla hlb B F=>
      exact⟨{ target:=.fn (.func g) vb,args:=va++c.args.map a.eval },by simp[resolve,z,Deferred.ofValue,D],_,_,_,va.toList,vb.toList,c.args.toList.map a.eval,rfl,hf,by simp,by simp[A],
       ⟨by simpa using hla,λi c v p q=>B i c v p (by simpa using q)⟩,⟨by simpa using hlb,λi c v p q=>F i c v p (by simpa using q)⟩,G⟩
    ·cases e
   ·cases e
  ·cases e
 ·cases e
end
end
section
variable[Gl]
section
variable{P:Program}{M:Ak}{μ:Mu}{h:Hp}{w:World}
mutual
theorem Dz:∀ {q:PV},flat q=zt -> ∀ {M0:Ak} {μ0:Mu} {v:Value} (M:Ak) (μ:Mu),Rep M0 μ0 q v->Rep M μ q v
 |.agg cs,hf,M0,μ0,v,M,μ,hr=>by
  cases hr with
  |agg _ _ vs hl h1 h=>
   have:=G8 (q:=cs) (by simpa[flat]using hf) M μ (M0:=M0) (μ0:=μ0);exact .agg _ _ _ hl h1 λi c v a b=>this i c v a (h i c v a b)
 |.tup cs,hf,M0,μ0,v,M,μ,hr=>by
  cases hr with
  |tup _ _ vs hl h=>
   have:=G8 (q:=cs) (by simpa[flat]using hf) M μ (M0:=M0) (μ0:=μ0);exact .tup _ _ _ hl λi c v a b=>this i c v a (h i c v a b)
 |.ifc t x,hf,M0,μ0,v,M,μ,hr=>by
  cases hr with
  |ifc _ _ _ y hy=>exact .ifc _ _ _ _ (Dz (by simpa[flat]using hf) M μ hy)
 |.lst full es,hf,M0,μ0,v,M,μ,hr=>by
  cases hr with
  |lst0 _ _ a cap hz=>exact .lst0 _ _ _ _ hz
  |lst _ _ _ b off esz cap x h1 h2 h3 h4 h5 h6=>
   have:es=[]:=by simpa[flat]using hf
   subst this;exact .lst _ _ _ _ _ esz _ x h1 h2 h3 (λi e j c d=>by simp at d) h5 (λi e j c d=>by simp at d)
 |.bool b,_,_,_,_,M,μ,hr=>by cases hr;constructor
 |.int k n,_,_,_,_,M,μ,hr=>by cases hr;constructor
 |.str l,_,_,_,_,M,μ,hr=>by cases hr;constructor
 |.nilp,_,_,_,_,M,μ,hr=>by cases hr;constructor
 |.nils,_,_,_,_,M,μ,hr=>by cases hr;constructor
 |.nilm,_,_,_,_,M,μ,hr=>by cases hr;constructor
 |.nilf,_,_,_,_,M,μ,hr=>by cases hr;constructor
 |.nili,_,_,_,_,M,μ,hr=>by cases hr;constructor
 |.own _ _ _,hf,_,_,_,_,_,_=>by simp[flat]at hf
 |.ptr _ _,hf,_,_,_,_,_,_=>by simp[flat]at hf
 |.ept _ _ _,hf,_,_,_,_,_,_=>by simp[flat]at hf
 |.view _,hf,_,_,_,_,_,_=>by simp[flat]at hf
 |.fn _ _ _,hf,_,_,_,_,_,_=>by simp[flat]at hf
 |.yl _,hf,_,_,_,_,_,_=>by simp[flat]at hf
 |.mp _,hf,_,_,_,_,_,_=>by simp[flat]at hf
 |.gk _,hf,_,_,_,_,_,_=>by simp[flat]at hf
 |.adr _ _,_,_,_,_,M,μ,hr=>by cases hr;constructor
theorem G8:∀ {q:List PV},BP q=zt -> ∀ {M0:Ak} {μ0:Mu} (M:Ak) (μ:Mu) (i:Nat) (c:PV) (v:Value),q[i]?=zo c->Rep M0 μ0 c v->Rep M μ c v
 |[],_,_,_,_,_,i,c,v,hc,_=>by simp at hc
 |p::ps,hf,M0,μ0,M,μ,i,c,v,hc,hr=>by
  simp[BP]at hf;cases i with
  |zero=>simp at hc;subst hc;exact Dz hf.1 M μ hr
  |succ i=>exact G8 hf.2 M μ i c v (by simpa using hc) hr
end
theorem Hp.get_lf(nx id:Nat):Hp.get { m:=.lf,nx:=nx } id=zn:=rfl
theorem Sim.empty(s:Sim M μ h w)(L:List Nat):Sim (HZ M h μ w L) mu0 { m:=.lf,nx:=0 } w where
 glb:=s.glb.mono (C2 L)
 mem a v hm:=J8 s hm
 blk id b hb:=by rw[Hp.get_lf]at hb;cases hb
 use id r hr:=by simp[mu0]at hr
 inj id id' r r' b b' hr:=by simp[mu0]at hr
 sep id r b a v hb:=by rw[Hp.get_lf]at hb;cases hb
theorem Sim.world{e:World}(s:Sim M μ h w)(hs:w.heap.size<=e.heap.size)(f:∀ b,b<w.heap.size->e.heap[b]?=w.heap[b]?):Sim M μ h e where
 glb:=s.glb
 mem a v hm:=⟨(s.mem a v hm).1,by rw[cell?_congr (f _ (s.mem_lt hm))];exact(s.mem a v hm).2⟩
 blk id b hb:=by
  obtain⟨r,c,d⟩:=s.blk id b hb;exact⟨r,c,by rw[f _ (s.use id r c).2];exact d⟩
 use id r c:=⟨(s.use id r c).1,Nat.lt_of_lt_of_le (s.use id r c).2 hs⟩
 inj:=s.inj
 sep:=s.sep
section
variable{L:List Nat}{M2:Ak}{μ2:Mu}{h2:Hp}{w2:World}
theorem Grow.keeps{M0:Ak}(g:Grow M0 mu0 w M2 μ2 w2):∀ b,b<w.heap.size->w2.heap[b]?=w.heap[b]?:=λb a=>g.keep b a λid r c=>by simp[mu0]at c
theorem HC(s:Sim M μ h w){M0:Ak}(g:Grow M0 mu0 w M2 μ2 w2):Sim M μ h w2/\Grow M μ w M μ w2:=
 ⟨s.world g.size g.keeps,⟨.refl _,.refl _,λ_ _ h=>.inl h,λid r h=>.inl ⟨id,r,h,rfl⟩,g.size,λb a _=>g.keeps b a,g.os,g.output,g.tape,g.nf⟩⟩
theorem LP(s:Sim M μ h w)(s2:Sim M2 μ2 h2 w2)(g:Grow (HZ M h μ w L) mu0 w M2 μ2 w2){n:Hp}(F:freeze h L=zo n)(l:List Nat) :
  ∃ f,Sim f μ n w2/\Grow M μ w f μ w2/\MLe (HZ M2 h2 μ2 w2 l) f/\(∀ a v,f a=zo v->w.heap.size<=a.block->HZ M2 h2 μ2 w2 l a=zo v):=by
 obtain⟨i,y,z,I,_⟩:=BQ L s F;have d:Sim i μ n w2:=z.world g.size g.keeps
 let j:=HZ M2 h2 μ2 w2 l
 let f:Ak:=λa=>if a.block<w.heap.size then i a else j a
 have u:∀ a v,j a=zo v->a.block<w.heap.size->i a=zo v:=by
  intro a v c e;rcases De c with c|⟨⟨id,_,r,b,m,_,E,_⟩,_⟩
  ·rcases g.only a v c with c|⟨id,r,m,_⟩|hge
   ·exact y a v c
   ·simp[mu0]at m
   ·omega
  ·rcases g.fresh id r m with⟨G,J,q,_⟩|hge
   ·simp[mu0]at q
   ·omega
 have t:MLe j f:=by
  intro a v c;show(if a.block<w.heap.size then i a else j a)=zo v
  split
  ·exact u a v c (by assumption)
  ·exact c
 have k:MLe i f:=by
  intro a v c;show(if a.block<w.heap.size then i a else j a)=zo v
  rw[zy (z.mem_lt c)];exact c
 have inv:∀ a v,f a=zo v->(a.block<w.heap.size/\i a=zo v)\/(w.heap.size<=a.block/\j a=zo v):=by
  intro a v c;have c:(if a.block<w.heap.size then i a else j a)=zo v:=c
  by_cases e:a.block<w.heap.size
  ·rw[zy e]at c;exact .inl ⟨e,c⟩
  ·rw[zx e]at c;exact .inr ⟨by omega,c⟩
 refine⟨f,⟨d.glb.mono k,?_,?_,d.use,d.inj,?_⟩,⟨(C2 L).trans (y.trans k),.refl _,?_,λid r h=>.inl ⟨id,r,h,rfl⟩,g.size,λb p _=>g.keeps b p,g.os,g.output,g.tape,g.nf⟩,t,?_⟩
 ·intro a v c;rcases inv a v c with⟨_,c⟩|⟨_,c⟩
  ·exact d.mem a v c
  ·exact J8 s2 c
 ·intro id b p;obtain⟨r,m,o⟩:=d.blk id b p;exact⟨r,m,o.mono k (.refl _)⟩
 ·intro id r b a v A x B C D;rcases inv a v C with⟨_,c⟩|⟨hge,c⟩
  ·exact d.sep id r b a v A x B c D
  ·have:=(s.use id r x).2;omega
 ·intro a v c;rcases inv a v c with⟨_,c⟩|⟨hge,c⟩
  ·rcases I a v c with h|h
   ·exact .inl h
   ·exact .inr (.inl h)
  ·exact .inr (.inr hge)
 ·intro a v c hge;rcases inv a v c with⟨e,_⟩|⟨_,c⟩
  ·omega
  ·exact c
theorem Ob(s:Sim M μ h w)(s2:Sim M2 μ2 h2 w2)(g:Grow (HZ M h μ w L) mu0 w M2 μ2 w2){f:Hp}(i:freeze h L=zo f){n:Nat}{p q:PV}{l:List Nat}{v:Value}(e:AV h2 n p=zo (q,l))(j:Rep M2 μ2 p v) :
  ∃ d,Sim d μ f w2/\Grow M μ w d μ w2/\Rep d μ q v:=by
 obtain⟨d,a,b,c,_⟩:=LP s s2 g i l;exact⟨d,a,b,(E1 s2 l n p q l v e j (λ_ h=>h)).mono c (.mu0 _)⟩
theorem Sim.adopt{id:Nat}{b:Blk}{r:Bk}{h':Hp}(s:Sim M μ h w)(K:h.get id=zn)(q:∀ k,h'.get k=if k=id then zo b else h.get k)(E:r.b<w.heap.size)
  (u:∀ k d,μ k=zo d->d.b≠r.b) (F:∀ a v,M a=zo v->a.block≠r.b) (D:BlkAt M (DU μ id r) r w.heap[r.b]? b):Sim M (DU μ id r) h' w/\μ id=zn:=by
 have hμ:μ id=zn:=by
  cases F:μ id with
  |none=>rfl
  |some x=>exact absurd K (s.use id x F).1
 have t:=Dq (r:=r) hμ
 have f:∀ k x,DU μ id r k=zo x->(k=id/\x=r)\/(k≠id/\μ k=zo x):=by
  intro k x c;unfold DU at c;by_cases e:k=id
  ·rw[zy e]at c;exact .inl ⟨e,(Option.some.inj c).symm⟩
  ·rw[zx e]at c;exact .inr ⟨e,c⟩
 refine⟨⟨s.glb,s.mem,?_,?_,?_,?_⟩,hμ⟩
 ·intro k n c;rw[q]at c;by_cases e:k=id
  ·rw[zy e]at c;cases c;exact⟨r,by simp[DU,e],D⟩
  ·rw[zx e]at c;obtain⟨d,G,p⟩:=s.blk k n c;exact⟨d,t _ _ G,p.mono (.refl _) t⟩
 ·intro k d c;rcases f k d c with⟨e,rfl⟩|⟨e,c⟩
  ·exact⟨by rw[q,zy e];simp,E⟩
  ·have:=s.use k d c;exact⟨by rw[q,zx e];exact this.1,this.2⟩
 ·intro k A d i n C j g m l z J B;rw[q]at m l;rcases f k d j with⟨e,I⟩|⟨e,j⟩
  ·rcases f A i g with⟨o,y⟩|⟨o,g⟩
   ·exact e.trans o.symm
   ·exact absurd (by rw[<- B,I]) (u A i g)
  ·rcases f A i g with⟨o,y⟩|⟨o,g⟩
   ·exact absurd (by rw[B,y]) (u k d j)
   ·rw[zx e]at m;rw[zx o]at l;exact s.inj k A d i n C j g m l z J B
 ·intro k d n a v j g m l z;rw[q]at j;rcases f k d g with⟨e,I⟩|⟨e,g⟩
  ·exact absurd (by rw[z,I]) (F a v l)
  ·rw[zx e]at j;exact s.sep k d n a v j g m l z
theorem G7:∀ {a:List PV},BP a=zt -> ∀ (i:Nat) (p:PV),a[i]?=zo p->flat p=zt
 |[],_,i,p,hp=>by simp at hp
 |q::a,hf,i,p,hp=>by
  simp[BP]at hf;cases i with
  |zero=>simp at hp;subst hp;exact hf.1
  |succ i=>exact G7 hf.2 i p (by simpa using hp)
theorem Mg{p:PV}(a:flat p=zt):∀ (j:Nat) (c:PV),p.cells[j]?=zo c->flat c=zt:=by
 intro j c hc;cases p with
 |agg cs=>exact G7 (show BP cs=zt by simpa[flat]using a) j c hc
 |tup cs=>simp[PV.cells]at hc
 |_=>
  simp only[PV.cells]at hc;cases j with
  |zero=>simp only[aW,Option.some.injEq]at hc;subst hc;exact a
  |succ j=>simp at hc
theorem CH(s:Sim M μ h w)(s2:Sim M2 μ2 h2 w2)(g:Grow (HZ M h μ w L) mu0 w M2 μ2 w2){id:Nat}{r q:PV}{x:Value}{h':Hp}(hx:Rep M2 μ2 r x)(e:Ag id L h h2 r=zo (q,h')) :
  ∃ d μ',Sim d μ' h' w2/\Grow M μ w d μ' w2/\Rep d μ' q x:=by
 unfold Ag at e;split at e
 ·rename_i len qs ex n;split at n
  ·rename_i j len';split at n
   ·rename_i es ex' hb;split at n
    ·rename_i qs' N hp;replace n:=Bn n;obtain⟨hj,n⟩:=n;cases n;split at e
     ·rename_i hh I J;obtain⟨h3,X,e⟩:=AA e;cases e;obtain⟨B,C,_⟩:=Hp.get_new X;cases hx with
      |own _ _ _ _ rj hr hcap=>
      obtain⟨r',Y,arr,ety,b1,b2,b3,b4,b5,b6,b7⟩:=s2.blk j _ hb;rw[hr]at Y;cases Y
      have hge:w.heap.size<=rj.b:=by
       rcases g.fresh j rj hr with⟨E,r0,D,_⟩|hge
       ·simp[mu0]at D
       ·exact hge
      have hlt:rj.b<w2.heap.size:=(s2.use j rj hr).2;obtain⟨k1,k2⟩:=Gp hp
      have u:∀ (a:Addr) (v:Value),HZ M2 h2 μ2 w2 N a=zo v->a.block≠rj.b:=by
       intro a v t o;rcases De t with t|⟨⟨E,hid,r0,b0,D,hb0,U,_,hfc⟩,_⟩
       ·have:=s2.sep j rj _ a v hb hr trivial t o;simp[K0]at this
       ·have:=s2.inj E j r0 rj b0 _ D hr hb0 hb (by cases b0<;>first|trivial|exact hfc.elim) trivial (by rw[<- U,o])
        subst this;rw[List.any_eq_false]at hj;exact hj E hid (by simp)
      have cellsOf:∀ (i:Nat) (f:PV) (m:Nat) (c:PV) (v:Value),qs[i]?=zo f->f.cells[m]?=zo c->arr[rj.base+i*rj.esz+m]?=zo v->v.oneCell'=zt/\Rep (HZ M2 h2 μ2 w2 N) mu0 c v:=by
       intro i f m c v hi n t;have p:i<es.length:=by rw[<- k1];exact(ab.1 hi).1
       obtain⟨q',l',a1,P,a3⟩:=k2 i _ (ae p);rw[hi]at P;cases P;obtain⟨c1,c2⟩:=CK a1;have W:m<(es[i]).cells.length:=by rw[<- c1];exact(ab.1 n).1
       obtain⟨n',c',l'',d1,d2,d3,d4⟩:=c2 m _ (ae W);rw[n]at d3;cases d3;obtain⟨o1,o2⟩:=b7 i _ m _ v (ae p) (ae W) t;exact⟨o1,E1 s2 N n' _ _ l'' v d2 o2 λy hy=>a3 y (d4 y hy)⟩
      have lens:∀ (i:Nat) (f:PV),qs[i]?=zo f->f.cells.length=rj.esz:=by
       intro i f hi;have p:i<es.length:=by rw[<- k1];exact(ab.1 hi).1
       obtain⟨q',l',a1,P,a3⟩:=k2 i _ (ae p);rw[hi]at P;cases P;rw[(CK a1).1];exact b6 i _ (ae p)
      have S:∀ {d:Ak} {I:Hp},Sim d μ I w2->Grow M μ w d μ w2->I.get id=zn->(∀ k,h'.get k=if k=id then zo (.row qs ex zf)else I.get k)->(∀ a v,d a=zo v->a.block≠rj.b) ->
        (∀ (i:Nat) (f:PV) (m:Nat) (c:PV) (v:Value),qs[i]?=zo f->f.cells[m]?=zo c->arr[rj.base+i*rj.esz+m]?=zo v->Rep d mu0 c v) ->
        ∃ d μ',Sim d μ' h' w2/\Grow M μ w d μ' w2/\Rep d μ' (.own id 0 len) (.slice (zo ⟨rj.b,rj.base+0*rj.esz,zn⟩) len (rj.cap-0)):=by
       intro d I sM A hn he hno Z;have hne:∀ k O,μ k=zo O->O.b≠rj.b:=λk O K=>by have:=(s.use k O K).2;omega
       obtain⟨sA,hμ⟩:=sM.adopt (r:=rj) hn he hlt hne hno ⟨arr,ety,b1,b2,by rw[k1];exact b3,(λhx=>by rw[k1];exact b4 hx),b5,lens,λi f m c v x y z=>⟨(cellsOf i f m c v x y z).1,(Z i f m c v x y z).mono (.refl _) (.mu0 _)⟩⟩;refine⟨d,DU μ id rj,sA,⟨A.m,Dq hμ,A.only,?_,A.size,A.keep,A.os,A.output,A.tape,A.nf⟩,?_⟩
       ·intro k O K;unfold DU at K;split at K
        ·cases K;exact .inr hge
        ·exact .inl ⟨k,O,K,rfl⟩
       ·exact .own (M:=d) (DU μ id rj) id 0 len rj (by simp[DU]) hcap
      cases l:BP qs with
      |true=>
       simp only[l,zb]at J;cases J;obtain⟨F,G⟩:=HC s g;refine S F G B C (λa v t o=> ?_) λi f m c v x y z=> ?_
       ·have:=s.mem_lt t;omega
       ·exact Dz (Mg (G7 l i f x) m c y) _ _ (cellsOf i f m c v x y z).2
      |false=>
       simp only[l,zj]at J;obtain⟨d,F,G,j3,j4⟩:=LP s s2 g J N;refine S F G B C (λa v t o=> ?_) λi f m c v x y z=>(cellsOf i f m c v x y z).2.mono j3 (.refl _);exact u a v (j4 a v t (by omega)) o
     ·cases e
    ·cases n
   ·cases n
  ·cases n
 ·split at e
  ·rename_i q' N hq;cases l:flat q' with
   |true=>
    simp only[l,zb]at e;cases e;obtain⟨F,G⟩:=HC s g;exact⟨M,μ,F,G,Dz l M μ (E1 s2 N _ _ _ _ _ hq hx (λ_ h=>h))⟩
   |false=>
    simp only[l,zj]at e;obtain⟨I,J,e⟩:=AA e;cases e;obtain⟨d,F,G,j3⟩:=Ob s s2 g J hq hx;exact⟨d,μ,F,G,j3⟩
  ·cases e
end
end
end
section
variable[Gl]
section
variable{P:Program}{b:Frame}{a:Act}{k:List Item}{cs:List Frame}{w w':World}{ops:Array Oper}{i:Nat}{rest:List Nat}{o:Oper}
theorem EJ(c:ops[i]?=zo o)(v:Value):(b.atR a (.inRegion ops (i::rest)::k)).finish v=b.atR (a.put o.dst v) (.inRegion ops rest::k):=by
 rw[Frame.finish_atR,c];rfl
theorem L9(c:ops[i]?=zo o)(e:Region.wanted o (yielded ops a.tmps)=zt){v:Value}(d:(o.semAt b.roundOf a.eval).run P w=.ok (.value v) w') :
  step P (lone (b.atR a (.inRegion ops (i::rest)::k)) cs w)=.next (lone (b.atR (a.put o.dst v) (.inRegion ops rest::k)) cs w'):=
 step_lone_go (by rw[stepGR_op c e,<- EJ c];simp[stepG.apply,d])
theorem NC(c:ops[i]?=zo o)(e:Region.wanted o (yielded ops a.tmps)=zt)(d:(o.semAt b.roundOf a.eval).run P w=.ok .skip w') :
  step P (lone (b.atR a (.inRegion ops (i::rest)::k)) cs w)=.next (lone (b.atR (a.put o.dst undef) (.inRegion ops rest::k)) cs w'):=
 step_lone_go (by rw[stepGR_op c e,<- EJ c];simp[stepG.apply,d])
theorem L4(c:ops[i]?=zo o)(f:Region.wanted o (yielded ops a.tmps)=zt){d:Deferred}(e:(o.semAt b.roundOf a.eval).run P w=.ok (.defer d) w') :
  step P (lone (b.atR a (.inRegion ops (i::rest)::k)) cs w)=.next (lone (b.atR ({ a with defers:=d::a.defers }.put o.dst undef) (.inRegion ops rest::k)) cs w'):=by
 refine step_lone_go ?_;have:=EJ (b:=b) (a:={ a with defers:=d::a.defers }) (k:=k) (rest:=rest) c undef
 rw[stepGR_op c f];simp only[stepG.apply,Sem.runT_eq,e,GStep.bare_after];exact congrArg (λfr=>GStep.go { frame:=fr,callers:=cs,status:=.running,dying:=zn } w') this
theorem L5(c:ops[i]?=zo o)(e:Region.wanted o (yielded ops a.tmps)=zt){f:FuncId}{args:Array Value}(d:(o.semAt b.roundOf a.eval).run P w=.ok (.enter f args) w') :
  step P (lone (b.atR a (.inRegion ops (i::rest)::k)) cs w)=.next (lone (Frame.enter P f args .normal) (b.atR a (.inRegion ops (i::rest)::k)::cs) w'):=
 step_lone_go (by rw[stepGR_op c e];simp[stepG.apply,d,Frame.atR])
theorem L7(g:ops[i]?=zo o)(j:Region.wanted o (yielded ops a.tmps)=zt){l:Nat}{f:FuncId}{d:Array Value}{e c:Code}(h:(o.semAt b.roundOf a.eval).run P w=.ok (.round l f d e c) w') :
  step P (lone (b.atR a (.inRegion ops (i::rest)::k)) cs w)=.next (lone (Frame.round l f d e c .normal) (b.atR a (.inRegion ops (i::rest)::k)::cs) w'):=
 step_lone_go (by rw[stepGR_op g j];simp[stepG.apply,h,Frame.atR])
theorem L6(c:ops[i]?=zo o)(e:Region.wanted o (yielded ops a.tmps)=zt){v:Value}(d:(o.semAt b.roundOf a.eval).run P w=.halt (.panic v) w') :
  step P (lone (b.atR a (.inRegion ops (i::rest)::k)) cs w)=.next (lone { b.atR a (.inRegion ops (i::rest)::k)with mode:=.panicking [{ v,recovered:=zf }] } cs w'):=
 step_lone_go (by rw[stepGR_op c e,<- Frame.raise_atR];simp[stepG.apply,d])
theorem I6(f:ops[i]?=zo o)(j:Region.wanted o (yielded ops a.tmps)=zt)(e:b.roundOf=zn)(g:(o.semAt b.roundOf a.eval).run P w=.ok .recover w') :
  step P (lone (b.atR a (.inRegion ops (i::rest)::k)) cs w)=match tryRecover (b.atR a (.inRegion ops (i::rest)::k)) cs with
   |some (v,d)=>.next (lone (b.atR (a.put o.dst v) (.inRegion ops rest::k)) d w')
   |none=>.next (lone (b.atR (a.put o.dst .nilIface) (.inRegion ops rest::k)) cs w'):=by
 cases h:tryRecover (b.atR a (.inRegion ops (i::rest)::k)) cs with
 |some x=>
  obtain⟨v,d⟩:=x;refine step_lone_go ?_;have c:(b.atR a (.inRegion ops (i::rest)::k)).roundOf=zn:=e;rw[stepGR_op f j,<- EJ f];simp[stepG.apply,g,c,h]
 |none=>
  refine step_lone_go ?_;have c:(b.atR a (.inRegion ops (i::rest)::k)).roundOf=zn:=e;rw[stepGR_op f j,<- EJ f];simp[stepG.apply,g,c,h]
theorem L8{c:Code}:step P (lone (b.atR a (.code (.scope c)::k)) cs w)=.next (lone (b.atR a (.code c :: .inScope c::k)) cs w):=
 step_lone_go (by simp[stepG,stepG.exec,Frame.atR])
theorem I5{c:Code}:step P (lone (b.atR a (.inScope c::k)) cs w)=.next (lone (b.atR a k) cs w):=
 step_lone_go (by simp[stepG,stepG.exec,Frame.atR])
end
section
variable{P:Program}
theorem Kt{fr:Frame}{cs:List Frame}{w w':World}{d:Nat}{e b:List Deferred}{h:Array Value}(i:fr.mode ≠ .run)(f:fr.defers={ target:=.collected d,args:=h }::e)
  (g:(Instr.takeDeferred d).run P w=.ok b w'):step P (lone fr cs w)=.next (lone { fr with defers:=b++e } cs w'):=by
 refine step_lone_go ?_;cases a:fr.mode with
 |run=>exact absurd a i
 |returning=>simp[stepG,unwind,a,f,Sem.runT_eq,g]
 |panicking c=>simp[stepG,unwind,a,f,Sem.runT_eq,g]
theorem Gu{fr:Frame}{cs:List Frame}{w w':World}{e:Builtin}{c:Array TypeId}{ty:TypeId}{a:Array Bool}{g:List Deferred}{d:Array Value}{v:Value}(i:fr.mode ≠ .run)
  (h:fr.defers={ target:=.builtin e c ty a,args:=d }::g) (j:(builtin e c ty a d).run P w=.ok (.value v) w') :
  step P (lone fr cs w)=.next (lone { fr with defers:=g } cs w'):=by
 refine step_lone_go ?_;have hi:(invoke (.builtin e c ty a) d).run P w=.ok (.value v) w':=j;cases b:fr.mode with
 |run=>exact absurd b i
 |returning=>simp[stepG,unwind,callDeferred,b,h,Sem.runT_eq,hi]
 |panicking f=>simp[stepG,unwind,callDeferred,b,h,Sem.runT_eq,hi]
end
end
section
variable[Gl]
section
variable{P:Program}{M:Ak}{μ:Mu}{h:Hp}{w:World}
def ChRep(M:Ak)(μ:Mu):List PE->List PanicEntry->Prop
 |[],[]=>True
 |e::l,p::m=>Rep M μ e.v p.v/\e.recovered=p.recovered/\p.goexit=zf/\ChRep M μ l m
 |_,_=>False
theorem ChRep.mono{e:Ak}{μ':Mu}(f:MLe M e)(hμ:MuLe μ μ'):∀ {l:List PE} {m:List PanicEntry},ChRep M μ l m->ChRep e μ' l m
 |[],[],_=>trivial
 |_::_,_::_,⟨a,b,c,d⟩=>⟨a.mono f hμ,b,c,d.mono f hμ⟩
def UMRep(M:Ak)(μ:Mu):UM->FrameMode->Prop
 |.ret,m=>m=.returning
 |.pan ch,m=>∃ a,m=.panicking a/\ChRep M μ ch a
theorem UMRep.mono{b:Ak}{μ':Mu}(f:MLe M b)(hμ:MuLe μ μ'){u:UM}{m:FrameMode}(c:UMRep M μ u m):UMRep b μ' u m:=by
 cases u with
 |ret=>exact c
 |pan g=>obtain⟨a,d,e⟩:=c;exact⟨a,d,e.mono f hμ⟩
def NJ(M:Ak)(μ:Mu)(a:CallKind)(cs:List Frame):Option UM->Prop
 |none=>a=.normal
 |some u=>a=.deferred /\ ∃ c b,cs=c::b/\UMRep M μ u c.mode
def I7(μ:Mu)(c:Option Nat)(r:Option Nat):Prop:=match c with
 |none=>r=zn
 |some l=>∃ a,μ l=zo a/\r=zo a.b
structure FrRep (M:Ak) (μ:Mu) (fr:Fr) (b:Frame) (a:Act) (cs:List Frame):Prop where
 t:TmpsRep M μ fr.t fr.nt a.tmps
 d:DefsRep M μ fr.ds a.defers
 u:NJ M μ b.kind cs fr.up
 r:I7 μ fr.ro b.roundOf
def Tail(d:CallKind)(cs a:List Frame):Prop:=a=cs\/(d=.deferred /\ ∃ c b m,cs=c::b/\a={ c with mode:=m }::b)
theorem Tail.refl{a:CallKind}(cs:List Frame):Tail a cs cs:=.inl rfl
theorem Tail.trans{d:CallKind}{a b c:List Frame}(h:Tail d a b)(k:Tail d b c):Tail d a c:=by
 rcases h with rfl|⟨e,x,f,m,rfl,rfl⟩
 ·exact k
 ·rcases k with rfl|⟨_,y,j,i,g,rfl⟩
  ·exact .inr ⟨e,x,f,m,rfl,rfl⟩
  ·cases g;exact .inr ⟨e,x,f,i,rfl,rfl⟩
theorem FrRep.mono{k:Ak}{μ':Mu}{fr:Fr}{b:Frame}{a:Act}{cs:List Frame}(f:FrRep M μ fr b a cs)(j:MLe M k)(hμ:MuLe μ μ'):FrRep k μ' fr b a cs where
 t:=f.t.mono j hμ
 d:=f.d.mono j hμ
 u:=by
  have:=f.u;cases e:fr.up with
  |none=>rw[e]at this;exact this
  |some u=>rw[e]at this;obtain⟨g,c,o,i,m⟩:=this;exact⟨g,c,o,i,m.mono j hμ⟩
 r:=by
  have:=f.r;unfold I7 at this ⊢;cases e:fr.ro with
  |none=>rw[e]at this;exact this
  |some l=>rw[e]at this;obtain⟨n,g,i⟩:=this;exact⟨n,hμ _ _ g,i⟩
def Arr(P:Program)(m:Machine)(b:Frame)(k:List Item)(cs:List Frame)(a:Act)(w:World)(M:Ak)(μ:Mu):Ex->Prop
 |.normal=>Steps P m (lone (b.atR a k) cs w)
 |.exit id=>∃ c,exitTo id c=exitTo id k/\Steps P m (lone (b.atR a (.code (.exit id)::c)) cs w)
 |.goto l=>∃ c,gotoIn l c=gotoIn l k/\Steps P m (lone (b.atR a (.code (.goto l)::c)) cs w)
 |.ret=>∃ c,Steps P m (lone (b.atR a (.code .ret::c)) cs w)
 |.panic v=>∃ d x,Rep M μ v x/\Steps P m (lone { b.atR a d with mode:=.panicking [{ v:=x,recovered:=zf }] } cs w)
theorem Arr.of_steps{m h:Machine}{b:Frame}{k:List Item}{cs:List Frame}{a:Act}{e:Ex}(hs:Steps P m h)(g:Arr P h b k cs a w M μ e):Arr P m b k cs a w M μ e:=by
 cases e with
 |normal=>exact hs.trans g
 |exit id=>obtain⟨d,f,c⟩:=g;exact⟨d,f,hs.trans c⟩
 |goto id=>obtain⟨d,f,c⟩:=g;exact⟨d,f,hs.trans c⟩
 |ret=>obtain⟨d,c⟩:=g;exact⟨d,hs.trans c⟩
 |panic v=>obtain⟨d,x,f,c⟩:=g;exact⟨d,x,f,hs.trans c⟩
def Ran(P:Program)(M:Ak)(μ:Mu)(w:World)(m:Machine)(b:Frame)(k:List Item)(cs:List Frame)(e:Ex)(c:Fr)(h':Hp):Prop:=
 ∃ a μ' w' a' cs',Sim a μ' h' w'/\Grow M μ w a μ' w'/\FrRep a μ' c b a' cs'/\Tail b.kind cs cs'/\Arr P m b k cs' a' w' a μ' e
def SY(P:Program)(M:Ak)(μ:Mu)(fr:Frame)(w:World):Out->Prop
 |.ret v=>∃ x,Rep M μ v x/\fr.leaving P w (.returned x)
 |.pan b=>∃ a,ChRep M μ b a/\fr.leaving P w (.panicked a)
def Qm(P:Program)(M:Ak)(μ:Mu)(fr:Frame)(w:World):Out->Prop
 |.ret v=>∃ x,Rep M μ v x/\fr.going P w (.returned x)
 |.pan b=>∃ a,ChRep M μ b a/\fr.going P w (.panicked a)
structure RecOK (P:Program) (rec:GE):Prop where
 nrm:∀ {f args h o up' h'},rec (.fn f) zn args h=zo (o,up',h') -> ∀ {M μ w vs},Sim M μ h w->RepL M μ args vs -> ∀ cs,∃ M' μ' w' fr,
  Sim M' μ' h' w'/\Grow M μ w M' μ' w'/\Steps P (lone (Frame.enter P f vs.toArray .normal) cs w) (lone fr cs w')/\fr.fn=f/\SY P M' μ' fr w' o
 dfr:∀ {f u args h o up' h'},rec (.fn f) (zo u) args h=zo (o,up',h') -> ∀ {M μ w vs},Sim M μ h w->RepL M μ args vs -> ∀ c cs,UMRep M μ u c.mode -> ∃ M' μ' w' fr m' u',
  Sim M' μ' h' w'/\Grow M μ w M' μ' w'/\Steps P (lone (Frame.enter P f vs.toArray .deferred) (c::cs) w) (lone fr ({ c with mode:=m' }::cs) w')/\up'=zo u'/\UMRep M' μ' u' m'/\fr.kind=.deferred/\Qm P M' μ' fr w' o
 yld:∀ {l args h o up' h'},rec (.yl l) zn args h=zo (o,up',h') -> ∀ {M μ w vs r},Sim M μ h w->RepL M μ args vs->μ l=zo r -> ∀ c cs,∃ M' μ' w' x v fn tmps asg body,
  o=.ret v/\(Instr.yield r.b vs.toArray).run P w=.ok (.round r.b fn tmps asg body) w/\Sim M' μ' h' w'/\Grow M μ w M' μ' w'/\Rep M' μ' v x /\
  Steps P (lone (Frame.round r.b fn tmps asg body .normal) (c::cs) w) (lone (c.finish x) cs w')
def Eg(P:Program):Prop:=∀ (f:FuncId) (p:Pr),Gl.pr f=zo p -> ∀ (args:List PV) (h:Hp) (v:PV) (h':Hp),On P p args h=zo (v,h') ->
 ∀ (M:Ak) (μ:Mu) (w:World) (vs:List Value),Sim M μ h w->RepL M μ args vs -> ∀ cs,∃ a μ' w' fr x,Sim a μ' h' w'/\Grow M μ w a μ' w' /\
  Steps P (lone (Frame.enter P f vs.toArray .normal) cs w) (lone fr cs w')/\fr.fn=f/\Rep a μ' v x/\fr.leaving P w' (.returned x)
def GlW(w:World):Prop:=∃ M0:Ak,GlOK M0 /\ ∀ (a:Addr) (v:Value),M0 a=zo v->a.spot=zn/\w.cell? a=zo v
theorem GlW.none(h:∀ g,Gl.g g=zn)(w:World):GlW w:=⟨λ_=>Option.none,(λg cs e=>by rw[h]at e;cases e),λa v e=>by cases e⟩
theorem GlW.sim{w:World}(h:GlW w):∃ M0:Ak,Sim M0 mu0 { m:=.lf,nx:=0 } w:=by
 obtain⟨M0,e,f⟩:=h;refine⟨M0,e,f,λid b c=> ?_,λid r d=> ?_,λid g r i b b' d=> ?_,λid r b a v c=> ?_⟩
 ·cases c
 ·simp[mu0]at d
 ·simp[mu0]at d
 ·cases c
theorem MC{t:T PV}{nt d:Nat}{tmps:Array Value}{v:PV}{x:Value}(ht:TmpsRep M μ t nt tmps)(hd:d < nt)(hr:Rep M μ v x):TmpsRep M μ (T.put 20 t d v) nt (tmps.setIfInBounds d x):=by
  obtain⟨h1,h2,h3⟩:=ht;refine⟨h1,by simp[h2],fun k=> ?_⟩
  rw [T.get_put 20 t d v k (by have : (2 : Nat) ^ 20 - 1 = 1048575 := by decide
                               omega)]
  by_cases hk:k=d
  · subst hk
    rw[zy rfl];have:(tmps.setIfInBounds k x).getD k undef=x:=by simp[aD,h2,hd]
    rw[this];exact hr
  · rw[zx hk]
    have:(tmps.setIfInBounds d x).getD k undef=tmps.getD k undef:=by
      simp only[aD,Array.getElem?_setIfInBounds,zx (Ne.symm hk)]
    rw[this];exact h3 k
theorem FrRep.put{fr f:Fr}{b:Frame}{a:Act}{cs:List Frame}{c:Option Nat}{v:PV}{x:Value}(g:FrRep M μ fr b a cs)(i:Rep M μ v x)(e:fr.put c v=zo f):FrRep M μ f b (a.put c x) cs:=by
 unfold Fr.put at e;split at e
 ·cases e;exact g
 ·replace e:=Aa e;obtain⟨h,e⟩:=e;cases e;exact⟨MC g.t (by simpa using h) i,g.d,g.u,g.r⟩
theorem FS(M:Ak)(μ:Mu):Rep M μ (.tup []) undef:=.tup _ _ _ rfl λi c v hc=>by simp at hc
theorem Jm{ops:Array Oper}{t:T PV}{nt:Nat}{b:Array Value}(h:TmpsRep M μ t nt b)(o:Oper):Region.wanted o (yielded ops b)=A6 ops.toList t o.guard:=by
 unfold Region.wanted A6;cases l:o.guard with
 |none=>rfl
 |some g=>
  obtain⟨j,f⟩:=g;simp only[yielded,AN,bm];cases m:ops[j]? with
  |none=>simp
  |some i=>
   simp only[cM];cases k:i.dst with
   |none=>simp
   |some d=>
    simp only[cM];have a:=h.2.2 d;rw[aD]at a;cases e:b[d]? with
    |none=>
     rw[e]at a;simp only[cN]at a;cases c:t.get d with
     |none=>simp
     |some p=>
      rw[c]at a;simp only[aE]at a;cases a;simp
    |some x=>
     rw[e]at a;simp only[aE]at a;cases c:t.get d with
     |none=>
      rw[c]at a;simp only[cN]at a;cases a;simp
     |some p=>
      rw[c]at a;simp only[aE]at a;cases a<;>simp
end
end
section
variable[Gl]
section
variable{P:Program}{M:Ak}{μ:Mu}{h:Hp}{w:World}{sh:FuncId->Bool}{rec:GE}
theorem JD(R:RecOK P rec){f:FuncId}{args:List PV}{o:Out}{h':Hp}{id:Nat}(e:A8 sh rec id f args h=zo (o,h'))(s:Sim M μ h w){vs:List Value}(z:RepL M μ args vs)(cs:List Frame) :
  ∃ c μ' w' fr,Sim c μ' h' w'/\Grow M μ w c μ' w'/\Steps P (lone (Frame.enter P f vs.toArray .normal) cs w) (lone fr cs w')/\fr.fn=f/\SY P c μ' fr w' o:=by
 unfold A8 at e;cases hs:sh f with
 |true=>
  simp only[hs,zb]at e;split at e
  ·rename_i X B W g;cases e;exact R.nrm g s z cs
  ·cases e
 |false=>
  simp only[hs,zj]at e;split at e
  ·rename_i S l K;have d:=Nu s l K z (λ_ h=>h);split at e
   ·rename_i r B I g;obtain⟨C,μ2,y,fr,s2,j,u,b,x,i,m⟩:=R.nrm g (s.empty l) d cs;obtain⟨⟨q,A⟩,J,e⟩:=AA e;cases e;obtain⟨c,μ',n,t,L⟩:=CH s s2 j i J;exact⟨c,μ',y,fr,n,t,u,b,x,L,m⟩
   ·rename_i U Y B I g;obtain⟨C,μ2,y,fr,s2,j,u,b,a,i,m⟩:=R.nrm g (s.empty l) d cs;split at e
    ·rename_i q N A;replace e:=Aa e;obtain⟨k,e⟩:=e;cases e;obtain⟨n,t⟩:=HC s j;refine⟨M,μ,y,fr,n,t,u,b,a,?_,m⟩;cases a with
     |nil=>exact i
     |cons p O=>
      obtain⟨D,E,F,G⟩:=i;cases O with
      |cons _ _=>exact G.elim
      |nil=>exact⟨Dz k M μ (E1 s2 N _ _ _ _ _ A D (λ_ h=>h)),E,F,trivial⟩
    ·cases e
   ·cases e
  ·cases e
theorem Hi{a:Option Nat}{ρ:Operand->Value}{o:Oper}(h:a=zn \/ ∀ c,o.op ≠ .defer c):o.semAt a ρ=execOp ρ o:=by
 rcases h with rfl|h
 ·rfl
 ·exact Oper.semAt_eq a ρ o h
theorem MZ{t:T PV}{id:Nat}{o:Oper}{c:Call}{r:R}(a:o.op=.defer c)(e:AQ P t h id o=zo r):∃ d,r=.dfr d:=by
 unfold AQ at e;rw[a]at e;simp only at e;split at e
 ·split at e
  ·cases e;exact⟨_,rfl⟩
  ·unfold e1 at e;split at e
   ·dsimp only at e;split at e
    ·cases e;exact⟨_,rfl⟩
    ·cases e
   ·cases e
  ·cases e
 ·cases e
theorem HP(R:RecOK P rec){ops:Array Oper}{base:Nat}:∀ (L:List (Nat×Oper)) {fr C:Fr} {h h':Hp} {ex:Ex},AZ P sh rec base ops.toList L fr h=zo (ex,C,h')->(∀ x∈L,ops[x.1]?=zo x.2) ->
  ∀ {M:Ak} {μ:Mu} {w:World} {b:Frame} {a:Act} {cs:List Frame} (k:List Item),Sim M μ h w->FrRep M μ fr b a cs->Ran P M μ w (lone (b.atR a (.inRegion ops (L.map (·.1))::k)) cs w) b k cs ex C h'
 |[],fr,C,h,h',ex,e,hL,M,μ,w,b,a,cs,k,s,hf=>by
  simp only[AZ]at e;cases e;exact⟨M,μ,w,a,cs,s,.refl _ _ _,hf,.refl _,.one stepR_region_end⟩
 |(i,o)::L,fr,C,h,h',ex,e,hL,M,μ,w,b,a,cs,k,s,hf=>by
  have K:ops[i]?=zo o:=hL (i,o) (by simp);have hL2:∀ x∈L,ops[x.1]?=zo x.2:=λx S=>hL x (by simp[S]);unfold AZ at e
  have go:∀ {fr1:Fr} {h1:Hp} {O:Ak} {μ1:Mu} {U:World} {a1:Act} {W:List Frame},AZ P sh rec base ops.toList L fr1 h1=zo (ex,C,h')->Sim O μ1 h1 U->Grow M μ w O μ1 U->FrRep O μ1 fr1 b a1 W->Tail b.kind cs W ->
    Steps P (lone (b.atR a (.inRegion ops (i::L.map (·.1))::k)) cs w) (lone (b.atR a1 (.inRegion ops (L.map (·.1))::k)) W U) ->
    Ran P M μ w (lone (b.atR a (.inRegion ops (((i,o)::L).map (·.1))::k)) cs w) b k cs ex C h':=by
   intro fr1 h1 O μ1 U a1 W e1 s1 y f1 t1 st;obtain⟨M',μ',w',a',cs',q1,q2,q3,q4,q5⟩:=HP R L e1 hL2 k s1 f1;exact⟨M',μ',w',a',cs',q1,y.trans q2,q3,t1.trans q4,.of_steps st q5⟩
  cases hw:A6 ops.toList fr.t o.guard with
  |false=>
   simp only[hw,zj]at e;split at e
   ·rename_i fr1 AG;refine go e s (.refl _ _ _) (hf.put (FS M μ) AG) (.refl _) (.one ?_);have:=stepR_op_skip (P:=P) (b:=b) (a:=a) (k:=k) (cs:=cs) (w:=w) (ops:=ops) (i:=i) (rest:=L.map (·.1)) (by rw[K];simp[Jm hf.t o,hw])
    rwa [K]at this
   ·cases e
  |true=>
   have E:Region.wanted o (yielded ops a.tmps)=zt:=by rw[Jm hf.t o,hw]
   simp only[hw,zb]at e;cases Y:AQ P fr.t h (base+i) o with
   |none=>rw[Y]at e;cases e
   |some r=>
    have q:=OT s hf.t Y;rw[Y]at e;have z:(∀ d,r ≠ .dfr d)->o.semAt b.roundOf a.eval=execOp a.eval o:=λhr=>Hi (.inr λc hc=>let ⟨d,hd⟩:=MZ hc Y;hr d hd);cases r with
    |val v h1=>
     obtain⟨O,μ1,U,x,g,s1,y,hv⟩:=q;simp only at e;split at e
     ·rename_i fr1 AG;exact go e s1 y ((hf.mono y.m y.u).put hv AG) (.refl _) (.one (L9 K E (by rw[z (by intro d h;cases h)];exact g)))
     ·cases e
    |skip h1=>
     obtain⟨O,μ1,U,g,s1,y⟩:=q;simp only at e;split at e
     ·rename_i fr1 AG;exact go e s1 y ((hf.mono y.m y.u).put (FS _ _) AG) (.refl _) (.one (NC K E (by rw[z (by intro d h;cases h)];exact g)))
     ·cases e
    |dfr d=>
     obtain⟨D,g,hd⟩:=q;simp only at e;split at e
     ·rename_i hro;split at e
      ·rename_i fr1 AG;have hbr:b.roundOf=zn:=by have:=hf.r;unfold I7 at this;rw[hro]at this;exact this
       have hf2:FrRep M μ { fr with ds:=d::fr.ds } b { a with defers:=D::a.defers } cs:=⟨hf.t,⟨hd,hf.d⟩,hf.u,hf.r⟩
       exact go e s (.refl _ _ _) (hf2.put (FS _ _) AG) (.refl _) (.one (L4 K E (by rw[Hi (.inl hbr)];exact g)))
      ·cases e
     ·cases e
    |call f args=>
     obtain⟨vs,g,A,fn,c,hfn,hbody⟩:=q;have G:=L5 (b:=b) (a:=a) (k:=k) (cs:=cs) (rest:=L.map (·.1)) K E (by rw[z (by intro d h;cases h)];exact g);simp only at e;split at e
     ·rename_i v h1 n;obtain⟨O,μ1,U,fr0,s1,y,st,hfn0,x,S,hl⟩:=JD R n s A (b.atR a (.inRegion ops (i::L.map (·.1))::k)::cs);split at e
      ·rename_i fr1 AG;refine go e s1 y ((hf.mono y.m y.u).put S AG) (.refl _) (.head G (st.trans (.one ?_)));rw[<- EJ K];exact step_leave_returned hl
      ·cases e
     ·rename_i e0 h1 n;obtain⟨O,μ1,U,fr0,s1,y,st,hfn0,j,S,hl⟩:=JD R n s A (b.atR a (.inRegion ops (i::L.map (·.1))::k)::cs);cases e;cases j with
      |nil=>exact S.elim
      |cons p ps=>
       obtain⟨c1,Z,c3,c4⟩:=S;cases ps with
       |cons _ _=>exact c4.elim
       |nil=>
        obtain⟨pv,prc,pge⟩:=p;simp only at c1 Z c3;subst Z;subst c3;refine⟨O,μ1,U,a,cs,s1,y,hf.mono y.m y.u,.refl _,.inRegion ops (i::L.map (·.1))::k,pv,c1,.head G (st.trans (.one ?_))⟩;rw[<- Frame.raise_atR];exact step_leave_panicked hl
     ·cases e
    |yield l args=>
     obtain⟨vs,rb,hrb,g,A⟩:=q;simp only at e;split at e
     ·rename_i v u1 h1 n;obtain⟨O,μ1,U,x,v',fn,tmps,asg,body,hout,hy,s1,y,S,st⟩:=R.yld n s A hrb (b.atR a (.inRegion ops (i::L.map (·.1))::k)) cs;cases hout;split at e
      ·rename_i fr1 AG;refine go e s1 y ((hf.mono y.m y.u).put S AG) (.refl _) (.head (L7 K E (by rw[z (by intro d h;cases h),g];exact hy)) ?_);rw[<- EJ K];exact st
      ·cases e
     ·cases e
    |pan v=>
     obtain⟨x,g,S⟩:=q;simp only at e;cases e;exact⟨M,μ,w,a,cs,s,.refl _ _ _,hf,.refl _,_,x,S,.one (L6 K E (by rw[z (by intro d h;cases h)];exact g))⟩
    |rcv=>
     have g:(execOp a.eval o).run P w=.ok .recover w:=q;simp only at e;split at e
     ·cases e
     ·rename_i hro;have hbr:b.roundOf=zn:=by have:=hf.r;unfold I7 at this;rw[hro]at this;exact this
      have B:=I6 (b:=b) (a:=a) (k:=k) (cs:=cs) (rest:=L.map (·.1)) K E hbr (by rw[z (by intro d h;cases h)];exact g)
      have hnone:tryRecover (b.atR a (.inRegion ops (i::L.map (·.1))::k)) cs=zn -> ∀ {fr1:Fr},fr.put o.dst .nili=zo fr1->AZ P sh rec base ops.toList L fr1 h=zo (ex,C,h') ->
        Ran P M μ w (lone (b.atR a (.inRegion ops (((i,o)::L).map (·.1))::k)) cs w) b k cs ex C h':=by
       intro ht fr1 AG e;rw[ht]at B;exact go e s (.refl _ _ _) (hf.put (.nili _) AG) (.refl _) (.one B)
      split at e
      ·rename_i v F N;split at e
       ·rename_i fr1 AG;have hu:=hf.u;rw[N]at hu;obtain⟨J,c,tl,rfl,j,X,I⟩:=hu;cases j with
        |nil=>exact I.elim
        |cons p ps=>
         obtain⟨c1,Z,c3,c4⟩:=I;obtain⟨pv,prc,pge⟩:=p;simp only at c1 Z c3;subst Z;subst c3
         have ht:tryRecover (b.atR a (.inRegion ops (i::L.map (·.1))::k)) (c::tl)=zo (pv,{ c with mode:=.panicking ({ v:=pv,recovered:=zt }::ps) }::tl):=by
          rw[tryRecover_deferred (show(b.atR a (.inRegion ops (i::L.map (·.1))::k)).kind=.deferred from J)];simp only[recoverD,X]
         rw[ht]at B
         have hf2:FrRep M μ { fr with up:=zo (.pan ({ v,recovered:=zt }::F)) } b a ({ c with mode:=.panicking ({ v:=pv,recovered:=zt }::ps) }::tl):=
          ⟨hf.t,hf.d,⟨J,_,tl,rfl,_,rfl,c1,rfl,rfl,c4⟩,hf.r⟩
         exact go e s (.refl _ _ _) (hf2.put c1 AG) (.inr ⟨J,c,tl,_,rfl,rfl⟩) (.one B)
       ·cases e
      ·rename_i hnup;split at e
       ·rename_i fr1 AG;refine hnone ?_ AG e;have hu:=hf.u;cases N:fr.up with
        |none=>
         rw[N]at hu;have hkn:b.kind=.normal:=hu;unfold tryRecover;simp only[Frame.atR,hkn]
        |some u=>
         rw[N]at hu;obtain⟨J,c,tl,rfl,X⟩:=hu;rw[tryRecover_deferred (show(b.atR a (.inRegion ops (i::L.map (·.1))::k)).kind=.deferred from J)];cases u with
         |ret=>have X:c.mode=.returning:=X;simp only[recoverD,X]
         |pan ch=>
          obtain⟨j,X,I⟩:=X;cases ch with
          |nil=>cases j with
           |nil=>simp only[recoverD,X]
           |cons _ _=>exact I.elim
          |cons e0 F=>
           cases j with
           |nil=>exact I.elim
           |cons p ps=>
            obtain⟨c1,Z,c3,c4⟩:=I;obtain⟨ev,erc⟩:=e0;cases erc with
            |false=>exact absurd N (hnup ev F)
            |true=>
             obtain⟨pv,prc,pge⟩:=p;simp only at Z;subst Z;simp only[recoverD,X]
       ·cases e
end
end
end Go.Proofs.YtfceigpbgndbgaaGreatDoor.Pi
