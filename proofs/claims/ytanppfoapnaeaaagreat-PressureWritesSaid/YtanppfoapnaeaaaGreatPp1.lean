/- A part of the evaluator of the model's code for any program, and of the proof that it is sound. No condition. -/
import Derived.Test.YtanppfoapnaeaaaGreatPp0
import Derived.Laws.Append
import Derived.AtR
import Derived.Recover
import Derived.RangeFuncIn
set_option linter.all false
open List renaming all_eq_true->bj, eq_nil_of_length_eq_zero->aS, getElem?_append->aW, getElem?_cons_succ->bM, getElem?_cons_zero->aZ, getElem?_drop->aK, getElem?_eq_getElem->ad, getElem?_eq_some_iff->ab, getElem?_range->cN, getElem?_take->aB, getElem?_toArray->bn, length_append->bm, length_drop->bN, length_nil->aJ, length_pos_iff->aN, length_take->bg, mem_iff_getElem?->bz, nil_append->bT, size_toArray->cX
open Nat renaming add_assoc->aI, add_mul->aF, beq_eq->bJ, ble->af, ble_eq->bV, ble_eq_true_of_le->cK, blt_eq->bW, eq_zero_or_pos->cY, le_refl->ac, min->db, min_eq_left->cm, mul_le_mul_right->aD, zero_add->aQ
open Array renaming getD_eq_getD_getElem?->aE, getElem?_append_left->ck, getElem?_eq_some_iff->bG, getElem?_toList->bp, length_toList->bU, toArray_toList->bQ, toList_map->cU
open Option renaming bind_some->cR, getD_none->cS, getD_some->aC
open Bool renaming and_eq_true->ai, not_eq_false'->az, or_eq_false_iff->am
namespace Go.Proofs.YtanppfoapnaeaaaGreat.Pi
section
variable[Gl]
section
variable{P:Program}{M:Ap}{μ:Mu}{h:Hp}{w:World}
theorem Hw(b o j:Nat):(⟨b,o,none⟩:Addr).add j=⟨b,o+j,none⟩:=by simp[Addr.add]
theorem J2{n k:Nat}{l:Nat}(a:0<n)(b:k<l*n):k / n<l/\k % n<n/\k / n*n+k % n=k:=
 ⟨(Nat.div_lt_iff_lt_mul a).2 b,Nat.mod_lt _ a,by rw[Nat.mul_comm];exact Nat.div_add_mod k n⟩
theorem GN(s:Sim M μ h w){p:PV}{x:Value}{es:List PV}{n:Nat}(N:Rep M μ p x)(e:BW h p=some es)(S:∀ v∈es,v.cells.length=n)(B:0<n) :
  ∃ a cap,x=.slice a es.length cap/\(es≠[] -> ∃ (b:Addr) (m:List Value),a=some b/\m.length=es.length*n/\(∀ j v,m[j]?=some v->w.cell? (b.add j)=some v)/\FlatRep M μ n es m.toArray):=by
 unfold BW at e;split at e
 ·cases e;cases N;exact⟨none,0,rfl,λh=>absurd rfl h⟩
 ·rename_i full g;cases e;cases N with
  |lst0 _ _ a cap hf=>exact⟨some a,cap,rfl,λh=>absurd rfl h⟩
  |lst _ _ _ b off esz cap x hf hc hs hm G hr=>
   refine⟨_,cap,rfl,λu=> ?_⟩
   have y:esz=n:=by
    cases es with
    |nil=>exact absurd rfl u
    |cons O es=>rw[<- hs 0 O rfl];exact S O (by simp)
   subst y;refine⟨_,(List.range (es.length*esz)).map λk=>x (k / esz) (k % esz),rfl,by simp,λj v t=> ?_,by simp,λi e f=>hs i e f,λi e j c f t=> ?_⟩
   ·have d:j<es.length*esz:=by
     have:=(ab.1 t).1;simpa using this
    simp only[List.getElem?_map,cN d,Option.map_some,Option.some.injEq]at t;subst t;obtain⟨E,F,D⟩:=J2 B d;have q:∃ c,(es[j / esz]).cells[j % esz]?=some c:=⟨_,ad (by rw[hs (j / esz) _ (ad E)];exact F)⟩;obtain⟨c,hc⟩:=q;have:=(s.mem _ _ (hm (j / esz) _ (j % esz) c (ad E) hc)).2;rw[Hw,<- D,<- aI];rw[D];exact this
   ·have K:j<esz:=by rw[<- hs i e f];exact(ab.1 t).1
    have J:i<es.length:=(ab.1 f).1
    have d:i*esz+j<es.length*esz:=by
     have:(i+1)*esz<=es.length*esz:=aD _ J;rw[aF]at this;omega
    refine⟨x i j,?_,G i e j c f t,(hr i e j c f t).mono (.refl _) (.mu0 _)⟩;obtain⟨E,F,D⟩:=J2 B d;have:=Fz F K D;simp[cN d,this.1,this.2]
 ·rename_i j off len;split at e
  ·rename_i g ex fz Z;replace e:=Ac e;obtain⟨L,e⟩:=e;simp at L;cases e;cases N with
   |own _ _ _ _ r hr hcap=>
    obtain⟨r',C,arr,U,G,X,h3,h4,h5,I,Y⟩:=s.blk j _ Z;rw[hr]at C;cases C;have l:((g.drop off).take len).length=len:=by simp;omega
    refine⟨_,_,by rw[l],λu=> ?_⟩
    have get:∀ (i:Nat) (e:PV),((g.drop off).take len)[i]?=some e->g[off+i]?=some e/\i<len:=by
     intro i e f;rw[aB]at f;split at f
     ·rw[aK]at f;exact⟨f,by assumption⟩
     ·cases f
    have y:r.esz=n:=by
     have h0:0<((g.drop off).take len).length:=aN.2 u;have hg:=ad h0;rw[<- I _ _ (get 0 _ hg).1];exact S _ (List.getElem_mem h0)
    have z:∀ k,k<len*n->r.base+off*n+k<arr.size:=by
     intro k o;have:(off+len)*n<=r.cap*n:=aD _ (by omega);rw[aF]at this;rw[y]at X;omega
    refine⟨_,(arr.toList.drop (r.base+off*n)).take (len*n),rfl,?_,λk v o=> ?_,?_,λi e f=> ?_,λi e k c f o=> ?_⟩
    ·rw[l];simp only[bg,bN,bU];rcases cY (len*n)with h0|h0
     ·omega
     ·have:=z (len*n-1) (by omega);omega
    ·rw[aB]at o;split at o
     ·rw[aK]at o;rw[Hw,y,cell?_eq (a:=⟨r.b,_,none⟩) G rfl];simpa using o
     ·cases o
    ·simp only[cX];rw[l];simp only[bg,bN,bU];rcases cY (len*n)with h0|h0
     ·omega
     ·have:=z (len*n-1) (by omega);omega
    ·rw[<- y];exact I _ e (get i e f).1
    ·obtain⟨P,W⟩:=get i e f;have hk':k<n:=by rw[<- y,<- I _ e P];exact(ab.1 o).1
     have d:i*n+k<len*n:=by
      have:(i+1)*n<=len*n:=aD _ W;rw[aF]at this;omega
     have A:=z _ d;refine⟨arr[r.base+off*n+(i*n+k)],?_,?_⟩
     ·simp only[bn];rw[aB,if_pos d,aK];simp[A]
     ·refine Y (off+i) e k c _ P o ?_;rw[y,aF];rw[show r.base+(off*n+i*n)+k=r.base+off*n+(i*n+k) by omega];exact Array.getElem?_eq_getElem A
  ·cases e
 ·cases e
theorem HI(s:Sim M μ h w){j d n:Nat}{es new:List PV}{ex fz:Bool}{h':Hp}{r:Bk}{g:List Value}(S:μ j=some r)(X:h.get j=some (.row es ex fz))
  (E:FlatRep M μ n new g.toArray) (F:new≠[]->r.esz=n) (B:d<=es.length) (z:d+new.length<=r.cap) (Y:ex=true->d+new.length<=es.length) (Z:fz=true->d=es.length)
  (hs:h.set j (.row (BT es d new) ex fz)=some h') :
  ∃ w',(storeCells ⟨r.b,r.base+d*r.esz,none⟩ g 0).run P w=.ok () w'/\Sim M μ h' w'/\Grow M μ w M μ w':=by
 obtain⟨r',N,arr,u,h1,h2,h3,h4,h5,h6,h7⟩:=s.blk j _ X;rw[S]at N;cases N
 have K:g.length=new.length*r.esz:=by
  have:=E.1;simp at this;rw[this];by_cases l:new=[]
  ·subst l;simp
  ·rw[F l]
 have hin:r.base+d*r.esz+g.length<=arr.size:=by
  have:(d+new.length)*r.esz<=r.cap*r.esz:=aD _ z;rw[aF]at this;omega
 have L:∀ y∈g,y.oneCell'=true:=by
  intro y hy;obtain⟨k,C⟩:=bz.1 hy;have J:k<new.length*r.esz:=by rw[<- K];exact(ab.1 C).1
  obtain⟨d1,d2,d3⟩:=J2 h5 J;have l:new≠[]:=by intro e;subst e;simp at J
  have hg:=ad d1;have hcl:(new[k / r.esz]).cells.length=r.esz:=by rw[E.2.1 _ _ hg,F l]
  obtain⟨v,t,U,_⟩:=E.2.2 (k / r.esz) _ (k % r.esz) _ hg (ad (by omega));rw[<- F l,d3]at t;simp at t;rw[C]at t;cases t;exact U
 obtain⟨w',x,O,k1,k2,k3,k4,k5,k6,k7,k8,k9⟩:=Dm (P:=P) (ty:=u) g w arr (r.base+d*r.esz) 0 h1 (by omega) L;refine⟨w',O,?_,Grow.update S k4 k5 k6 k7 k8 (λarr ty f h=>by rw[k1]at h;cases h;rfl)⟩
 have A:∀ (i:Nat) (e:PV),(BT es d new)[i]?=some e->(d<=i/\i<d+new.length/\new[i-d]?=some e)\/(¬ (d<=i/\i<d+new.length)/\es[i]?=some e):=by
  intro i e m;unfold BT at m;rw[aW]at m;simp only[bg,cm B]at m;by_cases hi:i<d
  ·rw[if_pos hi,aB,if_pos hi]at m;exact .inr ⟨by omega,m⟩
  ·rw[if_neg hi,aW]at m;by_cases I:i-d<new.length
   ·rw[if_pos I]at m;exact .inl ⟨by omega,by omega,m⟩
   ·rw[if_neg I,aK]at m;refine .inr ⟨by omega,?_⟩
    rwa [show d+new.length+(i-d-new.length)=i by omega]at m
 have p:(BT es d new).length=max es.length (d+new.length):=by
  unfold BT;simp only[bm,bg,bN,cm B];omega
 refine s.update X S trivial (Hp.get_set hs).1 k4 k5 ?_ ?_
 ·refine⟨x,u,k1,by omega,?_,?_,h5,?_,?_⟩
  ·rw[p];exact Nat.max_le.2 ⟨h3,z⟩
  ·intro hx;rw[p,<- h4 hx];exact Nat.max_eq_left (Y hx)
  ·intro i e m;rcases A i e m with⟨a1,a2,o⟩|⟨_,o⟩
   ·have l:new≠[]:=by intro e;subst e;simp at o
    rw[E.2.1 _ e o,F l]
   ·exact h6 i e o
  ·intro i e k c v m C D;rw[k3]at D;rcases A i e m with⟨a1,a2,o⟩|⟨a1,o⟩
   ·have l:new≠[]:=by intro e;subst e;simp at o
    have hkn:k<r.esz:=by rw[F l,<- E.2.1 _ e o];exact(ab.1 C).1
    obtain⟨y,t,U,c3⟩:=E.2.2 _ e k c o C;rw[<- F l]at t;simp at t;have e1:d*r.esz+(i-d)*r.esz=i*r.esz:=by rw[<- aF];congr 1;omega
    have hlt:(i-d)*r.esz+k<g.length:=(ab.1 t).1;rw[if_pos (by omega)]at D;rw[show r.base+i*r.esz+k-(r.base+d*r.esz+0)=(i-d)*r.esz+k by omega]at D;rw[t]at D;cases D;exact⟨U,c3⟩
   ·have hkn:k<r.esz:=by rw[<- h6 _ e o];exact(ab.1 C).1
    rw[if_neg ?_]at D
    ·exact h7 i e k c v o C D
    ·intro G;rw[K,Nat.add_zero]at G;by_cases hi:i<d
     ·have:(i+1)*r.esz<=d*r.esz:=aD _ hi;rw[aF]at this;omega
     ·have:(d+new.length)*r.esz<=i*r.esz:=aD _ (by omega);rw[aF]at this;omega
 ·intro a y hm W;obtain⟨q1,q2⟩:=s.sep j r _ a y X S trivial hm W;have hp:=Z q1;have q:=s.mem a y hm;refine⟨?_,q1,?_⟩
  ·rw[cell?_eq (arr:=x) (ty:=u) (f:=(0,0)) (by rw[W];exact k1) q.1,k3,if_neg (by subst hp;omega)];rw[<- cell?_eq (arr:=arr) (ty:=u) (f:=(0,0)) (by rw[W];exact h1) q.1];exact q.2
  ·rw[p];have:es.length*r.esz<=max es.length (d+new.length)*r.esz:=aD _ (Nat.le_max_left _ _);omega
theorem Sim.rename(s:Sim M μ h w){j id:Nat}{b:Blk}{r:Bk}{h':Hp}(z:h.get j=some b)(p:μ j=some r)(N:b.live)(U:h.get id=none)
  (D:∀ k,h'.get k=if k=id then some b else if k=j then some .dead else h.get k):Sim M (DO μ id r) h' w/\Grow M μ w M (DO μ id r) w:=by
 have hμ:μ id=none:=by
  cases X:μ id with
  |none=>rfl
  |some x=>exact absurd U (s.use id x X).1
 have m:=Dn (r:=r) hμ;have W:j≠id:=by intro e;subst e;rw[U]at z;cases z
 have g:∀ k x,DO μ id r k=some x->(k=id/\x=r)\/(k≠id/\μ k=some x):=by
  intro k x c;unfold DO at c;by_cases e:k=id
  ·rw[if_pos e]at c;exact .inl ⟨e,(Option.some.inj c).symm⟩
  ·rw[if_neg e]at c;exact .inr ⟨e,c⟩
 obtain⟨r',E,L⟩:=s.blk j b z;rw[p]at E;cases E;refine⟨⟨s.glb,s.mem,?_,?_,?_,?_⟩,⟨.refl _,m,λ_ _ h=>.inl h,?_,ac _,λ_ _ _=>rfl,rfl,rfl,rfl,λ_ arr _ _ h=>.inr ⟨arr,h⟩⟩⟩
 ·intro k l c;rw[D]at c;by_cases e:k=id
  ·rw[if_pos e]at c;cases c;exact⟨r,by simp[DO,e],L.mono (.refl _) m⟩
  ·rw[if_neg e]at c;by_cases e2:k=j
   ·rw[if_pos e2]at c;cases c;exact⟨r,m _ _ (e2 ▸ p),trivial⟩
   ·rw[if_neg e2]at c;obtain⟨d,P,C⟩:=s.blk k l c;exact⟨d,m _ _ P,C.mono (.refl _) m⟩
 ·intro k d c;rcases g k d c with⟨e,rfl⟩|⟨e,c⟩
  ·exact⟨by rw[D,if_pos e];simp,(s.use j _ p).2⟩
  ·have:=s.use k d c;refine⟨?_,this.2⟩;rw[D,if_neg e];split
   ·simp
   ·exact this.1
 ·intro k A d i l o f n B t u I K;rw[D]at B t
  have q:∀ (k:Nat) (d:Bk) (l:Blk),k≠id->(if k=id then some b else if k=j then some .dead else h.get k)=some l->l.live->k≠j/\h.get k=some l:=by
   intro k d l e c O;rw[if_neg e]at c;by_cases e2:k=j
   ·rw[if_pos e2]at c;cases c;exact O.elim
   ·rw[if_neg e2]at c;exact⟨e2,c⟩
  rcases g k d f with⟨e,F⟩|⟨e,f⟩
  ·rcases g A i n with⟨y,G⟩|⟨y,n⟩
   ·exact e.trans y.symm
   ·obtain⟨S,J⟩:=q A i o y t I;exact absurd (s.inj A j i r o b n p J z I N (by rw[<- K,F])) S
  ·obtain⟨S,J⟩:=q k d l e B u;rcases g A i n with⟨y,G⟩|⟨y,n⟩
   ·exact absurd (s.inj k j d r l b f p J z u N (by rw[K,G])) S
   ·obtain⟨Z,Y⟩:=q A i o y t I;exact s.inj k A d i l o f n J Y u I K
 ·intro k d l a v f n B t u;rw[D]at f;rcases g k d n with⟨e,F⟩|⟨e,n⟩
  ·rw[if_pos e]at f;cases f;subst F;exact s.sep j _ _ a v z p N t u
  ·rw[if_neg e]at f;by_cases e2:k=j
   ·rw[if_pos e2]at f;cases f;exact B.elim
   ·rw[if_neg e2]at f;exact s.sep k d l a v f n B t u
 ·intro k d c;rcases g k d c with⟨_,F⟩|⟨_,c⟩
  ·exact .inl ⟨j,r,p,by rw[F]⟩
  ·exact .inl ⟨k,d,c,rfl⟩
theorem BY(s:Sim M μ h w){id n cap:Nat}{es:List PV}{fz:Bool}{arr rest:Array Value}{ty:TypeId}{h':Hp}{w':World}(t:0<n)(p:FlatRep M μ n es arr)(g:es.length<=cap)(f:rest.size=(cap-es.length)*n)
  (D:h.new id (.row es false fz)=some h') (y:w'.heap=w.heap.push (.cells (arr++rest) ty (0,0))) (e1:w'.os=w.os) (e2:w'.output=w.output) (e3:w'.tape=w.tape) :
  ∃ μ',Sim M μ' h' w'/\Grow M μ w M μ' w' /\ ∀ k,k<=es.length->Rep M μ' (.own id 0 k) (.slice (some ⟨w.heap.size,0,none⟩) k cap):=by
 obtain⟨d,l,_⟩:=Hp.get_new D
 have hμ:μ id=none:=by
  cases C:μ id with
  |none=>rfl
  |some x=>exact absurd d (s.use id x C).1
 have E:(arr++rest).size=cap*n:=by
  rw[Array.size_append,p.1,f,<- aF];congr 1;omega
 have hS:=s.fresh (w':=w') (r:=⟨w.heap.size,0,n,cap⟩) (o:=.cells (arr++rest) ty (0,0)) d l y rfl
  ⟨_,ty,rfl,by simp only[aQ];omega,g,(by intro h;cases h),t,λi e B=>p.2.1 i e B,λi e j c v a b u=>by
   obtain⟨G,m,z,A⟩:=p.2.2 i e j c a b;simp only[aQ]at u;have q:i*n+j<arr.size:=(bG.1 m).1;rw[ck q]at u;rw[u]at m;cases m
   exact⟨z,A.mono (.refl _) (Dn hμ)⟩⟩
 refine⟨_,hS.1,Grow.newBlk hμ y rfl e1 e2 e3 (λ_ _ _ h=>by cases h;rfl),λk F=> ?_⟩;have:=Rep.own (M:=M) (DO μ id ⟨w.heap.size,0,n,cap⟩) id 0 k ⟨w.heap.size,0,n,cap⟩ (by simp[DO]) (by simp;omega);simpa using this
end
end
section
variable[Gl]
section
variable{P:Program}{M:Ap}{μ:Mu}{h:Hp}{w:World}
theorem CW{t ty e:TypeId}{n:Nat}(u:P.underlying t=some (.slice e))(l:AV P e=some n)(b:Addr)(a:Option Addr)(f sCap k c:Nat)(d:List Value)(g:f+k<=sCap)
  (s:k≠0 -> ∃ x,a=some x/\d.length=k*n /\ ∀ j v,d[j]?=some v->w.cell? (x.add j)=some v) (m:k=0->d=[]) :
  (Builtin.append_ #[t,t] ty #[.slice (some b) f sCap,.slice a k c]).run P w=match (storeCells (b.add (f*n)) d 0).run P w with
   |.ok _ w'=>.ok (.slice (some b) (f+k) sCap) w'
   |.halt o w'=>.halt o w':=by
 have r:(Builtin.firstCells n k (.slice a k c)).run P w=.ok d.toArray w:=by
  by_cases i:k=0
  ·rw[m i];cases a with
   |none=>exact run_firstCells_none w n k k c
   |some x=>exact run_firstCells_some w n k x k c [] (by simp[i]) (by intro j v h;simp at h)
  ·obtain⟨x,rfl,p,q⟩:=s i;exact run_firstCells_some w n k x k c d p q
 simp only[Builtin.append_];simp only[Sem.run_bind,AF u,Result.andThen,Af l,Sem.run_pure,bn,aZ,bM];simp[Builtin.lenOf,g,r];cases(storeCells (b.add (f*n)) d 0).run P w<;>rfl
theorem EZ{t ty e:TypeId}{n:Nat}(f:P.underlying t=some (.slice e))(b:AV P e=some n)(a:Option Addr)(c:Nat) :
  (Builtin.append_ #[t,t] ty #[.slice none 0 0,.slice a 0 c]).run P w=.ok (.slice none 0 0) w:=by
 have d:(Builtin.firstCells n 0 (.slice a 0 c)).run P w=.ok #[] w:=by
  cases a with
  |none=>exact run_firstCells_none w n 0 0 c
  |some x=>exact run_firstCells_some w n 0 x 0 c [] (by simp) (by intro j v h;simp at h)
 simp only[Builtin.append_];simp only[Sem.run_bind,AF f,Result.andThen,Af b,Sem.run_pure,bn,aZ,bM];simp[Builtin.lenOf,d]
theorem FlatRep.append{n:Nat}{es es':List PV}{arr b:Array Value}(f:FlatRep M μ n es arr)(h:FlatRep M μ n es' b):FlatRep M μ n (es++es') (arr++b):=by
 refine⟨by simp[f.1,h.1,aF],λi e a=> ?_,λi e j c a k=> ?_⟩
 ·rw[aW]at a;split at a
  ·exact f.2.1 i e a
  ·exact h.2.1 _ e a
 ·rw[aW]at a;split at a
  ·obtain⟨v,d,g⟩:=f.2.2 i e j c a k;exact⟨v,by rw[ck (bG.1 d).1];exact d,g⟩
  ·rename_i hi;obtain⟨v,d,g⟩:=h.2.2 _ e j c a k;refine⟨v,?_,g⟩
   have:i*n+j=arr.size+((i-es.length)*n+j):=by
    rw[f.1,<- aI,<- aF];congr 2;omega
   rw[this,Array.getElem?_append_right (by omega)];rw[show arr.size+((i-es.length)*n+j)-arr.size=(i-es.length)*n+j by omega];exact d
theorem FlatRep.nil{n:Nat}:FlatRep M μ n [] #[]:=⟨by simp,λi e a=>by simp at a,λi e j c a=>by simp at a⟩
def GA(M:Ap)(μ:Mu)(w:World)(n:Nat)(es:List PV)(a:Option Addr):Prop:=
 es≠[] -> ∃ (b:Addr) (c:List Value),a=some b/\c.length=es.length*n/\(∀ j v,c[j]?=some v->w.cell? (b.add j)=some v)/\FlatRep M μ n es c.toArray
theorem Hn{t ty e n:Nat}{g:TypeInfo}{z:Value}{olds new:List PV}{a0 a:Option Addr}{sCap c:Nat}(y:P.underlying t=some (.slice e))(hi:P.info? e=some g)(A:g.zero=some z)(i:g.size=n)(q:z.cells.size=n)(_hn0:0<n)
  (F:GA M μ w n olds a0) (G:GA M μ w n new a) (r:a0=none->sCap=0/\olds=[]) (x:sCap<olds.length+new.length) (l:new≠[]) (o:olds.length+new.length<=Ba) (p:g.bytes<=Ba) :
  ∃ w' arr rest cap,(Builtin.append_ #[t,t] ty #[.slice a0 olds.length sCap,.slice a new.length c]).run P w=.ok (.slice (some ⟨w.heap.size,0,none⟩) (olds.length+new.length) cap) w' /\
   FlatRep M μ n (olds++new) arr/\olds.length+new.length<=cap/\rest.size=(cap-(olds.length+new.length))*n/\w'.heap=w.heap.push (.cells (arr++rest) e (0,0))/\w'.os=w.os/\w'.output=w.output/\w'.tape=w.tape:=by
 obtain⟨b,d,rfl,B,C,D⟩:=G l;have m:0<new.length:=aN.2 l
 have k:(olds.length+new.length)*g.bytes<=140737488355328:=by
  have:(olds.length+new.length)*g.bytes<=1048576*1048576:=Nat.mul_le_mul o p;omega
 simp only[Ba]at o p;cases a0 with
 |none=>
  obtain⟨rfl,rfl⟩:=r rfl;simp only[aJ,aQ,bT]at *;have:=run_append_nil (P:=P) w t ty e g z y hi A b new.length c d (by rw[B,i]) C m (by omega) (by omega);exact⟨_,d.toArray,_,_,this,D,grownCap_ge _ _ _ _,by simp[Builtin.zeroCells,q],rfl,rfl,rfl,rfl⟩
 |some b0=>
  have s:∃ f:List Value,f.length=olds.length*n/\(∀ j v,f[j]?=some v->w.cell? (b0.add j)=some v)/\FlatRep M μ n olds f.toArray:=by
   by_cases u:olds=[]
   ·subst u;exact⟨[],by simp,by intro j v h;simp at h,FlatRep.nil⟩
   ·obtain⟨b',f,E,L,N,O⟩:=F u;cases E;exact⟨f,L,N,O⟩
  obtain⟨f,I,J,K⟩:=s;have:=run_append_grow (P:=P) w t ty e g z y hi A b0 olds.length sCap f (by rw[I,i]) J b new.length c d (by rw[B,i]) C x (by omega) (growslice_fits x k);exact⟨_,f.toArray++d.toArray,_,_,this,K.append D,grownCap_ge _ _ _ _,by simp[Builtin.zeroCells,q],rfl,rfl,rfl,rfl⟩
theorem Qg{full:Bool}{es:List PV}{x:Value}{n:Nat}(e:Rep M μ (.lst full es) x)(d:Cd n es=true):∀ v∈es,v.cells.length=n:=by
 intro v a;obtain⟨i,hi⟩:=bz.1 a;cases e with
 |lst0=>simp at a
 |lst _ _ _ b off esz _ x hf hc hs hm h1 hr=>
  cases es with
  |nil=>simp at a
  |cons c es=>rw[hs i v hi,<- hs 0 c rfl];simpa[Cd]using d
theorem RN(s:Sim M μ h w){id t ty:Nat}{p q:PV}{x y:Value}(hx:Rep M μ p x)(hy:Rep M μ q y){r:R}(e:Ea P h id t p q=some r) :
  Bm P M μ w ((do pure (.value (<- Builtin.append_ #[t,t] ty #[x,y])):Sem Next).run P w) r:=by
 unfold Ea at e;split at e
 ·rename_i el U;split at e
  ·rename_i E ti new zc o D hnew hzc;replace e:=Bo e;obtain⟨hc,e⟩:=e;simp only[am,az,bj,bJ,bV,bW]at hc;obtain⟨⟨⟨hnl,W⟩,hzl⟩,g⟩:=hc;obtain⟨zv,i,hi,Y,hrun,hrz,h1z⟩:=B0 hzc M μ w;rw[D]at hi;cases hi;have Z:ti.size=E:=by simp[AV,D]at o;exact o
   have hzn:zv.cells.size=E:=by rw[<- hzl];simpa using hrz.1.symm
   obtain⟨a,c,rfl,hE⟩:=GN s hy hnew hnl g;have F:GA M μ w E new a:=hE;split at e
   ·cases hx;cases new with
    |nil=>
     simp at e;subst e;exact AC s (EZ U o a c) (.nils _)
    |cons e0 u=>
     have e:(bif af (e0::u).length Ba then(h.new id (.row (e0::u) false false)).map (λh=>R.val (.own id 0 (e0::u).length) h)else none)=some r:=e
     replace e:=Ac e;obtain⟨A,e⟩:=e;obtain⟨h',n,rfl⟩:=AA e;obtain⟨w',arr,rest,cap,S,g2,g3,g4,g5,g6,g7,g8⟩:=Hn (ty:=ty) (olds:=[]) (a0:=none) (sCap:=0) (c:=c) U D Y Z hzn g (λh=>absurd rfl h) F (λ_=>⟨rfl,rfl⟩) (by simp) (by simp) (by simpa using A) W;simp only[aJ,aQ,bT]at S g2 g3 g4;obtain⟨μ',L,N,O⟩:=BY s g g2 g3 g4 n g5 g6 g7 g8;exact⟨M,μ',w',_,by simp only[Sem.run_bind,S,Result.andThen,Sem.run_pure],L,N,O _ (ac _)⟩
   ·rename_i es
    have hlst:∃ a0,x=.slice a0 es.length es.length/\(a0=none->es=[]):=by
     cases hx with
     |lst0 _ _ a cap hf=>have:=hf rfl;subst this;exact⟨some a,rfl,λ_=>rfl⟩
     |lst _ _ _ b off esz cap x hf hc hs hm h1 hr=>have:=hf rfl;subst this;exact⟨_,rfl,by intro h;cases h⟩
    obtain⟨a0,rfl,ha0⟩:=hlst;cases new with
    |nil=>
     simp at e;subst e;cases a0 with
     |none=>
      have:=ha0 rfl;subst this;exact AC s (EZ U o a c) hx
     |some b0=>
      refine AC s (x:=.slice (some b0) es.length es.length) ?_ hx;have:=CW (P:=P) (w:=w) (ty:=ty) U o b0 a es.length es.length 0 c [] (by omega) (λh=>absurd rfl h) (λ_=>rfl);simpa[storeCells]using this
    |cons e0 u=>
     have e:(bif af (es.length+(e0::u).length) Ba&&Cd E es then(h.new id (.row (es++(e0::u)) false false)).map (λh=>R.val (.own id 0 (es.length+(e0::u).length)) h)else none)=some r:=e
     replace e:=Ac e;obtain⟨A,e⟩:=e;obtain⟨h',n,rfl⟩:=AA e;simp only[ai,bV]at A
     have hO:GA M μ w E es a0:=by
      obtain⟨a',c',X,hE2⟩:=GN s hx (es:=es) rfl (Qg hx A.2) g;cases X;exact hE2
     obtain⟨w',arr,rest,cap,S,g2,g3,g4,g5,g6,g7,g8⟩:=Hn (ty:=ty) (c:=c) (sCap:=es.length) U D Y Z hzn g hO F (λh=>by have:=ha0 h;subst this;exact⟨rfl,rfl⟩) (by simp) (by simp) A.1 W;obtain⟨μ',L,N,O⟩:=BY s g g2 (by simpa using g3) (by simpa using g4) n g5 g6 g7 g8;exact⟨M,μ',w',_,by simp only[Sem.run_bind,S,Result.andThen,Sem.run_pure],L,N,O _ (by simp)⟩
   ·rename_i j off len;split at e
    ·rename_i es ex fz hb;replace e:=Bo e;obtain⟨hc,e⟩:=e;simp only[am,az,bV]at hc;obtain⟨⟨A,J⟩,hel⟩:=hc;cases hx with
     |own _ _ _ _ rb hr hcap=>
     obtain⟨r',hr',arr0,ety,h1,h2,h3,h4,h5,h6,h7⟩:=s.blk j _ hb;rw[hr]at hr';cases hr'
     have B:es≠[]->rb.esz=E:=by
      intro z;cases es with
      |nil=>exact absurd rfl z
      |cons e1 es1=>rw[<- h6 0 e1 rfl];simpa[Cd]using hel
     have hall:∀ v∈(es.drop off).take len,v.cells.length=E:=by
      intro v hv;have hv:=List.mem_of_mem_drop (List.mem_of_mem_take hv);obtain⟨i,hi⟩:=bz.1 hv;rw[h6 i v hi,B (by intro h;subst h;simp at hv)]
     have C:((es.drop off).take len).length=len:=by simp;omega
     have hO:GA M μ w E ((es.drop off).take len) (some ⟨rb.b,rb.base+off*rb.esz,none⟩):=by
      obtain⟨a',c',X,hE2⟩:=GN s (.own (M:=M) μ j off len rb hr hcap) (es:=(es.drop off).take len) (by simp only[BW,hb,cK J,cond_true]) hall g;simp only[Value.slice.injEq]at X;obtain⟨rfl,_,_⟩:=X;exact hE2
     have fit:∀ d:List Value,(new≠[]->d.length=new.length*E /\ ∀ k v,d[k]?=some v -> ∃ b,a=some b/\w.cell? (b.add k)=some v)->True:=λ_ _=>trivial
     have hnews:∃ d:List Value,FlatRep M μ E new d.toArray/\(new.length≠0 -> ∃ x,a=some x/\d.length=new.length*E /\ ∀ j v,d[j]?=some v->w.cell? (x.add j)=some v)/\(new.length=0->d=[]):=by
      by_cases h0:new=[]
      ·subst h0;exact⟨[],FlatRep.nil,λh=>absurd rfl h,λ_=>rfl⟩
      ·obtain⟨b,d,x1,x2,x3,x4⟩:=F h0;exact⟨d,x4,λ_=>⟨b,x1,x2,x3⟩,λh=>absurd (aS h) h0⟩
     obtain⟨d,hf,hn1,hn2⟩:=hnews
     have G:(⟨rb.b,rb.base+off*rb.esz,none⟩:Addr).add (len*E)=⟨rb.b,rb.base+(off+len)*rb.esz,none⟩:=by
      rw[Hw];by_cases h0:es=[]
      ·subst h0;simp at J;simp[J.1,J.2]
      ·rw[B h0,aF,aI]
     cases ex with
     |true=>
      have hlc:=h4 rfl;simp only[cond_true]at e;by_cases hnil:new=[]
      ·subst hnil;simp at e;subst e;refine AC s ?_ (.own (M:=M) μ j off len rb hr hcap);have:=CW (P:=P) (w:=w) (ty:=ty) U o ⟨rb.b,rb.base+off*rb.esz,none⟩ a len (rb.cap-off) 0 c [] (by omega) (λh=>absurd rfl h) (λ_=>rfl);simpa[storeCells]using this
      rw[show new.isEmpty=false by cases new with
       |nil=>exact absurd rfl hnil
       |cons _ _=>rfl,cond_false]at e
      cases f:af (off+len+new.length) es.length with
      |true=>
       simp only[f,cond_true]at e;replace e:=Bo e;obtain⟨hfz,e⟩:=e;obtain⟨h',hset,rfl⟩:=AA e;subst hfz;simp only[bV]at f;obtain⟨w',L,N,O⟩:=HI (P:=P) s hr hb hf (λz=>B (by intro h;subst h;exact z (aS (by simp only[aJ]at f;omega)))) J (by omega) (λ_=>f) (by intro h;cases h) hset;refine⟨M,μ,w',_,?_,N,O,.own (M:=M) μ j off (len+new.length) rb hr (by omega)⟩;have:=CW (P:=P) (w:=w) (ty:=ty) U o ⟨rb.b,rb.base+off*rb.esz,none⟩ a len (rb.cap-off) new.length c d (by omega) hn1 hn2;rw[G,L]at this;simp only[Sem.run_bind,this,Result.andThen,Sem.run_pure]
      |false=>
       simp only[f,cond_false]at e;obtain⟨h',n,rfl⟩:=AA e
       have hlt:es.length<off+len+new.length:=by
        rcases Nat.lt_or_ge es.length (off+len+new.length)with h|h
        ·exact h
        ·rw[cK h]at f;cases f
       have z:new≠[]:=by intro h;subst h;simp at hlt;omega
       obtain⟨w',arr,rest,cap,S,g2,g3,g4,g5,g6,g7,g8⟩:=Hn (ty:=ty) (c:=c) (sCap:=rb.cap-off) U D Y Z hzn g hO F (by intro h;cases h) (by rw[C];omega) z (by rw[C];exact A) W;obtain⟨μ',L,N,O⟩:=BY s g g2 (by simpa using g3) (by simpa using g4) n g5 g6 g7 g8;rw[C]at S;exact⟨M,μ',w',_,by simp only[Sem.run_bind,S,Result.andThen,Sem.run_pure],L,N,O _ (by rw[bm,C];exact ac _)⟩
     |false=>
      simp only[cond_false]at e;replace e:=Ac e;obtain⟨hc,e⟩:=e;simp only[ai,bJ,bW]at hc;obtain⟨⟨I,rfl⟩,hlp⟩:=hc;split at e
      ·rename_i h1' l;obtain⟨h',n,rfl⟩:=AA e;obtain⟨d1,d2⟩:=Hp.get_set l;obtain⟨n1,n2,n3⟩:=Hp.get_new n;have hid:id≠j:=by intro e;subst e;rw[d1,if_pos rfl]at n1;cases n1
       have hgid:h.get id=none:=by rw[d1,if_neg hid]at n1;exact n1
       have hene:es≠[]:=by intro h;subst h;simp at I;omega
       by_cases K:len+new.length<=rb.cap
       ·have m:∃ h2,h.set j (.row (BT es len new) false fz)=some h2:=by
         unfold Hp.set at l ⊢;cases hj:Nat.blt j (j+1)with
         |true=>exact⟨_,rfl⟩
         |false=>rw[hj]at l;cases l
        obtain⟨h2,m⟩:=m;obtain⟨w',L,N,O⟩:=HI (P:=P) s hr hb hf (λ_=>B hene) (by omega) K (by intro h;cases h) (λ_=>I) m;obtain⟨t1,t2⟩:=Hp.get_set m
        have AG:BT es len new=es++new:=by
         unfold BT;rw[I];simp
        have hR:=N.rename (j:=j) (id:=id) (h':=h') (b:=.row (es++new) false fz) (by rw[t1,if_pos rfl,AG]) hr trivial (by rw[t1,if_neg hid];exact hgid) (λk=>by
         rw[n2,d1,t1];by_cases e1:k=id
         ·rw[if_pos e1,if_pos e1]
         ·rw[if_neg e1,if_neg e1];split<;>rfl)
        refine⟨M,_,w',_,?_,hR.1,O.trans hR.2,.own (M:=M) _ id 0 (len+new.length) rb (by simp[DO]) (by omega)⟩;have:=CW (P:=P) (w:=w) (ty:=ty) U o ⟨rb.b,rb.base+0*rb.esz,none⟩ a len (rb.cap-0) new.length c d (by omega) hn1 hn2;rw[G,aQ,L]at this;simp only[Sem.run_bind,this,Result.andThen,Sem.run_pure]
       ·have sD:=s.update (w':=w) hb hr trivial d1 (λ_ _=>rfl) rfl trivial (λa v hm ha=>⟨(s.mem a v hm).2,trivial⟩);have z:new≠[]:=by intro h;subst h;simp at K;omega
        have htk:(es.drop 0).take len=es:=by rw[I];simp
        rw[htk]at hO;obtain⟨w',arr,rest,cap,S,g2,g3,g4,g5,g6,g7,g8⟩:=Hn (ty:=ty) (c:=c) (sCap:=rb.cap-0) U D Y Z hzn g hO F (by intro h;cases h) (by omega) z (by omega) W;obtain⟨μ',L,N,O⟩:=BY sD g g2 (by simpa using g3) (by simpa using g4) n g5 g6 g7 g8;rw[<- I]at S;exact⟨M,μ',w',_,by simp only[Sem.run_bind,S,Result.andThen,Sem.run_pure],L,N,O _ (by rw[bm];omega)⟩
      ·cases e
    ·cases e
   ·cases e
  ·cases e
 ·cases e
end
end
section
variable[Gl]
section
variable{P:Program}{M:Ap}{μ:Mu}{h:Hp}{w:World}
theorem D9{g : Nat}{fn : Func}{vs : Array Value}(hg : P.funcs[g]? = some fn)(hc : (fn.body.isSome && !(fn.name == "runtime.NumGoroutine")) = true) :
  (callFunc g vs).run P w=.ok (.enter g vs) w /\ ∃ c,fn.body=some c:=by
 simp only[ai,Bool.not_eq_true']at hc;obtain⟨c,hb⟩:=Option.isSome_iff_exists.1 hc.1;refine⟨?_,c,hb⟩;simp only[callFunc,Sem.run_bind,run_program,Result.andThen,hg,hc.2,hb];simp
theorem Og{g:Nat}{args:List PV}{r:R}(e:(match P.funcs[g]? with
  | some fn => bif fn.body.isSome && !(fn.name == "runtime.NumGoroutine") then some (R.call g args) else none
  | none => none) = some r) : r = .call g args ∧ ∃ fn, P.funcs[g]? = some fn ∧ (fn.body.isSome && !(fn.name == "runtime.NumGoroutine")) = true := by
 split at e
 ·rename_i fn hfn;replace e:=Ac e;obtain⟨hc,e⟩:=e;cases e;exact⟨rfl,fn,hfn,hc⟩
 ·cases e
theorem Hk{g : Nat}{args : List PV}{r : R}(e : (bif (match P.funcs[g]? with | some fn => fn.body.isSome && !(fn.name == "runtime.NumGoroutine") | none => false) then some (R.call g args) else none) = some r) :
  r = .call g args ∧ ∃ fn, P.funcs[g]? = some fn ∧ (fn.body.isSome && !(fn.name == "runtime.NumGoroutine")) = true := by
 replace e:=Ac e;obtain⟨hc,e⟩:=e;split at hc
 ·rename_i fn hfn;cases e;exact⟨rfl,fn,hfn,hc⟩
 ·cases hc
theorem FD{f:Fn}{first cap args:List PV}{vf vc va:List Value}(hf:RepL M μ first vf)(hc:RepL M μ cap vc)(ha:RepL M μ args va){r:R}(e:CA P f first cap args=some r) :
  Bm P M μ w ((invoke (.fn f vc.toArray) (vf++va).toArray).run P w) r /\ ∃ g as,r=.call g as:=by
 unfold CA at e;split at e
 ·rename_i g;obtain⟨rfl,fn,hfn,hok⟩:=Og e;obtain⟨h1,c,h2⟩:=D9 (w:=w) (vs:=((vf++va)++vc).toArray) hfn hok;refine⟨⟨(vf++va)++vc,?_,(hf.append ha).append hc,fn,c,hfn,h2⟩,_,_,rfl⟩;simpa[invoke]using h1
 ·rename_i name;split at e
  ·rename_i t v rest heq;have hall:=hf.append ha;rw[heq]at hall;obtain⟨x,ws,hws,hx,hrest⟩:=hall.cons_inv;cases hx with
   |ifc _ _ _ xv hxv=>
   split at e
   ·rename_i i hi;split at e
    ·rename_i m hm
     have meth : ∀ g pr, m.path.isEmpty = true → m.func = some (g, pr) → (receiverAt t (.val xv) pr (some ((name.splitOn ".").getLastD name))).run P w = .ok xv w →
       (invoke (.fn (.method name) vc.toArray) (vf++va).toArray).run P w=(callFunc g (xv::ws).toArray).run P w:=by
      intro g pr hpath hfun hrec;rw[hws];have hp2:m.path.toList=[]:=by simpa[Array.isEmpty_iff]using hpath
      have hm1:(method ((P.types.size+Made.depth)) t xv name).run P w=.ok (g,xv) w:=by
       have hpos:0<Made.depth:=by decide
       have hne:P.types.size+Made.depth=(P.types.size+Made.depth-1)+1:=by omega
       rw[hne];unfold method;simp only[Sem.run_bind,FB hi,Result.andThen,hm,hp2,follow,Sem.run_pure,hfun,hpath,if_true,hrec]
      simp[invoke,callMethod,hm1]
     split at e
     ·rename_i g el hpath hfun hu;obtain⟨rfl,fn,hfn,hok⟩:=Hk e;obtain⟨h1,c,h2⟩:=D9 (w:=w) (vs:=(xv::ws).toArray) hfn hok;refine⟨⟨xv::ws,?_,RepL.cons hxv hrest,fn,c,hfn,h2⟩,_,_,rfl⟩;rw[meth g true hpath hfun (by simp[receiverAt,AF hu,Place.get]),h1]
     ·cases e
     ·rename_i g d hnp hpath hfun hu;obtain⟨rfl,fn,hfn,hok⟩:=Hk e;obtain⟨h1,c,h2⟩:=D9 (w:=w) (vs:=(xv::ws).toArray) hfn hok;refine⟨⟨xv::ws,?_,RepL.cons hxv hrest,fn,c,hfn,h2⟩,_,_,rfl⟩;rw[meth g false hpath hfun ?_,h1]
      have:∀ el,d ≠ .pointer el:=by
       intro el hd;subst hd
       first|exact hnp _ _ hfun hu|exact hnp _ _ rfl rfl|(simp_all)
      cases d<;>first|exact absurd rfl (this _)|simp[receiverAt,AF hu,Place.get]
     ·cases e
    ·cases e
   ·cases e
  ·cases e
 ·cases e
end
end
section
variable[Gl]
section
variable{P:Program}{M:Ap}{μ:Mu}{h:Hp}{w:World}
theorem Kl{a:List PV}{vs:List Value}{p:PV}(h:RepL M μ a vs)(e:a=[p]):∃ x,vs=[x]/\Rep M μ p x:=by
 subst e;obtain⟨x,d,rfl,c,b⟩:=h.cons_inv;exact⟨x,by rw[b.nil_inv],c⟩
theorem Km{b:List PV}{vs:List Value}{p q:PV}(h:RepL M μ b vs)(e:b=[p,q]):∃ x y,vs=[x,y]/\Rep M μ p x/\Rep M μ q y:=by
 subst e;obtain⟨x,i,rfl,d,c⟩:=h.cons_inv;obtain⟨y,g,rfl,f,a⟩:=c.cons_inv;exact⟨x,y,by rw[a.nil_inv],d,f⟩
theorem FlatRep.take{n:Nat}{es:List PV}{b:List Value}(d:FlatRep M μ n es b.toArray)(k:Nat):FlatRep M μ n (es.take k) (b.take ((es.take k).length*n)).toArray:=by
 have m:b.length=es.length*n:=by simpa using d.1
 refine⟨?_,λi e a=> ?_,λi e j c a g=> ?_⟩
 ·simp only[cX,bg,m];exact cm (aD _ (Nat.min_le_right _ _))
 ·rw[aB]at a;split at a
  ·exact d.2.1 i e a
  ·cases a
 ·have hi:i<(es.take k).length:=(ab.1 a).1;rw[aB]at a;split at a
  ·obtain⟨v,f,h⟩:=d.2.2 i e j c a g;refine⟨v,?_,h⟩;have l:j<n:=by rw[<- d.2.1 i e a];exact(ab.1 g).1
   simp only[bn]at f ⊢;rw[aB,if_pos ?_]
   ·exact f
   ·have:(i+1)*n<=(es.take k).length*n:=aD _ hi;rw[aF]at this;omega
  ·cases a
theorem Ga{d:TypeDesc}{k:PV}{r:Value}(p:Rep M μ k r):∀ {es es':List (PV×PV)} {a:List MapEntry} (n:Nat),EntsRep M μ es a->IQ d es k=some es' ->
  (∃ i x,Instr.findNow d r a n=some (some (n+i,x))/\i<a.length/\EntsRep M μ es' (a.eraseIdx i)) \/
  (Instr.findNow d r a n=some none/\EntsRep M μ es' a)
 |[],es',a,n,hr,e=>by
  cases e;cases a with
  |nil=>exact .inr ⟨rfl,hr⟩
  |cons _ _=>simp[EntsRep]at hr
 |(k1,v1)::es,es',a,n,hr,e=>by
  cases a with
  |nil=>simp[EntsRep]at hr
  |cons b a=>
   obtain⟨c,q⟩:=hr.2 0 k1 v1 b rfl rfl;unfold IQ at e;split at e
   ·rename_i hc;cases e;have:=Ck hc p c;exact .inl ⟨0,b.val,by simp[Instr.findNow,this.1],by simp,by simpa using hr.tail⟩
   ·rename_i hc;have s:=(Ck hc p c).1;split at e
    ·rename_i l u;cases e
     have cons:∀ {l:List (PV×PV)} {j:List MapEntry},EntsRep M μ l j->EntsRep M μ ((k1,v1)::l) (b::j):=by
      intro l j f;refine⟨by simp[f.1],λi k v e m o=> ?_⟩;cases i with
      |zero=>simp at m o;obtain⟨rfl,rfl⟩:=m;subst o;exact⟨c,q⟩
      |succ i=>exact f.2 i k v e (by simpa using m) (by simpa using o)
     rcases Ga p (n+1) hr.tail u with⟨i,x,g,h,t⟩|⟨g,h⟩
     ·refine .inl ⟨i+1,x,?_,by simpa using h,by simpa using cons t⟩;simp[Instr.findNow,s,g];omega
     ·exact .inr ⟨by simp[Instr.findNow,s,g],cons h⟩
    ·cases e
   ·cases e
theorem M8{l:List PV}{vs:List Value}{k:IntKind}(f:Int->Int->Int)(g:Value->Value->Sem Value)(c:∀ k x b y w,(g (.int k x) (.int b y)).run P w=.ok (.int k (f x y)) w) :
  ∀ {m r:Int},RepL M μ l vs->B7 f m l k=some r->(vs.foldlM g (.int k m)).run P w=.ok (.int k r) w:=by
 induction l generalizing vs with
 |nil=>intro m r a e;cases e;rw[a.nil_inv];simp
 |cons p l i=>
  intro m r a e;cases p with
  |int b y=>
   simp only[B7]at e;replace e:=Ac e;obtain⟨j,e⟩:=e;obtain⟨x,n,rfl,h,d⟩:=a.cons_inv;cases h;simp only[List.foldlM_cons,Sem.run_bind,c,Result.andThen];exact i d e
  |_=>simp[B7]at e
theorem H3(s:Sim M μ h w){id:Nat}{b:Builtin}{C:Array TypeId}{ty:TypeId}{cs:Array Bool}{args:List PV}{vs:List Value}(J:RepL M μ args vs){r:R}(e:AH P h id b C args=some r) :
  Bm P M μ w ((builtin b C ty cs vs.toArray).run P w) r:=by
 unfold AH at e;split at e
 ·split at e
  ·rename_i x t D;obtain⟨v,rfl,K⟩:=Kl J rfl;have u:C[0]?=some t:=D;split at e
   ·rename_i kt el j A;split at e
    ·rename_i es E;cases e;cases K with
     |mp _ _ rb hr=>
     obtain⟨r',z,o,g,G,Y,h3⟩:=s.blk j _ E;rw[hr]at z;cases z;refine AC s (x:=.int .i64 es.length) ?_ (.int _ _ _);simp[Builtin.len_,u,AF A,Br G,Y,goInt]
    ·cases e
   ·rename_i A;cases e;cases K;exact AC s (x:=.int .i64 0) (by simp[Builtin.len_,u,AF A,goInt]) (.int _ _ _)
   ·rename_i n el A;cases e;exact AC s (x:=.int .i64 n) (by simp[Builtin.len_,u,AF A,goInt]) (.int _ _ _)
   ·rename_i A;cases e;cases K;exact AC s (x:=.int .i64 0) (by simp[Builtin.len_,u,AF A,goInt]) (.int _ _ _)
   ·rename_i full es A;cases e;cases K<;>exact AC s (x:=.int .i64 _) (by simp[Builtin.len_,u,AF A,goInt]) (.int _ _ _)
   ·rename_i j off len A;cases e;cases K;exact AC s (x:=.int .i64 len) (by simp[Builtin.len_,u,AF A,goInt]) (.int _ _ _)
   ·rename_i l A;cases e;cases K;exact AC s (x:=.int .i64 _) (by simp[Builtin.len_,u,AF A,goInt]) (.int _ _ _)
   ·cases e
  ·cases e
 ·split at e
  ·rename_i x t D;obtain⟨v,rfl,K⟩:=Kl J rfl;have u:C[0]?=some t:=D;split at e
   ·rename_i el j off len A;split at e
    ·rename_i es fz E;cases e;cases K with
     |own _ _ _ _ rb hr hcap=>
     obtain⟨r',z,arr0,ety,G,Y,h3,h4,h5,h6,h7⟩:=s.blk j _ E;rw[hr]at z;cases z;refine AC s (x:=.int .i64 (es.length-off:Nat)) ?_ (.int _ _ _);rw[h4 rfl];simp[Builtin.cap_,u,AF A,goInt]
    ·cases e
   ·rename_i A;cases e;cases K;exact AC s (x:=.int .i64 0) (by simp[Builtin.cap_,u,AF A,goInt]) (.int _ _ _)
   ·cases e
  ·cases e
 ·split at e
  ·rename_i p q t t' hats;replace e:=Ac e;obtain⟨X,e⟩:=e;have X:=Nat.eq_of_beq_eq_true X;subst X;obtain⟨x,y,rfl,F,N⟩:=Km J rfl;have:C = #[t,t]:=by rw[<- bQ (xs:=C),hats]
   subst this;exact RN s F N e
  ·cases e
 ·split at e
  ·rename_i j off len q t D;obtain⟨x,y,rfl,F,N⟩:=Km J rfl;have u:C[0]?=some t:=D;split at e
   ·rename_i el es ex new A E hnew;split at e
    ·rename_i Z hsz;replace e:=Bo e;obtain⟨hc,e⟩:=e;simp only[am,az,bj,bJ,bV,bW]at hc;obtain⟨⟨⟨hnl,hol⟩,hn0⟩,hel⟩:=hc;obtain⟨h',B,rfl⟩:=AA e;obtain⟨a,c,rfl,hE⟩:=GN s N hnew hnl hn0;cases F with
     |own _ _ _ _ rb hr hcap=>
     obtain⟨r',z,arr0,ety,G,Y,h3,h4,h5,h6,h7⟩:=s.blk j _ E;rw[hr]at z;cases z
     have hesz:es≠[]->rb.esz=Z:=by
      intro U;cases es with
      |nil=>exact absurd rfl U
      |cons e1 es1=>rw[<- h6 0 e1 rfl];simpa[Cd]using hel
     have S:(new.take len).length=db new.length len:=by rw[bg,Nat.min_comm]
     have W:∃ I:List Value,FlatRep M μ Z (new.take len) I.toArray/\(Builtin.firstCells Z (db new.length len) (.slice a new.length c)).run P w=.ok I.toArray w:=by
      by_cases h0:new=[]
      ·subst h0;refine⟨[],by simpa using FlatRep.nil,?_⟩;have:db ([]:List PV).length len=0:=by simp
       rw[this];cases a with
       |none=>exact run_firstCells_none w Z 0 0 c
       |some x=>exact run_firstCells_some w Z 0 x 0 c [] (by simp) (by intro j v h;simp at h)
      ·obtain⟨b,I,rfl,x2,x3,x4⟩:=hE h0;refine⟨_,x4.take len,?_⟩;refine run_firstCells_some w Z _ b _ c _ ?_ ?_
       ·have:=(x4.take len).1;simpa[S]using this
       ·intro k v hk;rw[aB]at hk;split at hk
        ·exact x3 k v hk
        ·cases hk
     obtain⟨I,hf,hfc⟩:=W;have hlm:(new.take len).length<=len:=by simp;omega
     obtain⟨w',k1,k2,k3⟩:=HI (P:=P) s hr E hf (λU=>hesz (by
      intro h;subst h;have:(new.take len).length=0:=by simp only[aJ]at hol;omega
      exact U (aS this))) (by omega) (by omega) (λ_=>by omega) (by intro h;cases h) B
     refine⟨M,μ,w',.int .i64 (db new.length len:Nat),?_,k2,k3,.int _ _ _⟩;simp[builtin,Builtin.copy_,u,AF A,Builtin.lenOf,Af hsz,hfc,k1,goInt]
    ·cases e
   ·cases e
  ·cases e
 ·split at e
  ·rename_i j t D;obtain⟨v,rfl,K⟩:=Kl J rfl;have u:C[0]?=some t:=D;split at e
   ·rename_i kt el es A E;obtain⟨h',B,rfl⟩:=AA e;cases K with
    |mp _ _ rb hr=>
    obtain⟨r',z,o,g,G,Y,h3⟩:=s.blk j _ E;rw[hr]at z;cases z;have hS:=s.object (o':=.map #[] g) E hr trivial B G (by intro a t f hc;cases hc) ⟨_,g,rfl,rfl,λi k v e p q=>by simp at p⟩;have so:=BZ (P:=P) (o':=.map #[] g) G (by intro a t f hc;cases hc);refine⟨M,μ,_,.tuple #[],?_,hS.1,hS.2,.tup _ _ _ rfl (λi c v hc=>by simp at hc)⟩;simp[builtin,Builtin.clear_,u,AF A,Br G,so]
   ·cases e
  ·cases e
 ·split at e
  ·rename_i j k t D;obtain⟨x,y,rfl,F,N⟩:=Km J rfl;have u:C[0]?=some t:=D;split at e
   ·rename_i kt el es A E;split at e
    ·rename_i d hd;replace e:=Bo e;obtain⟨L,e⟩:=e;have L:Cl d=true:=by simpa using L
     split at e
     ·rename_i es' hdel;obtain⟨h',B,rfl⟩:=AA e;cases F with
      |mp _ _ rb hr=>
      obtain⟨r',z,o,g,G,Y,h3⟩:=s.blk j _ E;rw[hr]at z;cases z;have her:EntsRep M μ es o.toList:=⟨by simpa using Y,λi k v e a b=>h3 i k v e a (by simpa using b)⟩;rcases Ga N 0 her hdel with⟨i,xx,a1,a2,a3⟩|⟨a1,a2⟩
      ·have fk:(Instr.findKey kt y o.toList).run P w=.ok (some (i,xx)) w:=by simp[Instr.findKey,AF hd,a1]
       have S:i<o.size:=by simpa using a2
       have O:(o.eraseIdxIfInBounds i).toList=o.toList.eraseIdx i:=by
        simp[Array.eraseIdxIfInBounds,S]
       have hS:=s.object (o':=.map (o.eraseIdxIfInBounds i) g) E hr trivial B G (by intro a t f hc;cases hc)
        ⟨_,g,rfl,by have:=a3.1;rw[<- O,bU]at this;exact this,λi k v e p q=>a3.2 i k v e p (by
         rw[<- O,bp];exact q)⟩
       have so:=BZ (P:=P) (o':=.map (o.eraseIdxIfInBounds i) g) G (by intro a t f hc;cases hc);refine⟨M,μ,_,.tuple #[],?_,hS.1,hS.2,.tup _ _ _ rfl (λi c v hc=>by simp at hc)⟩;simp[builtin,Builtin.delete_,u,AF A,Br G,Bp hd L,fk,so]
      ·have fk:(Instr.findKey kt y o.toList).run P w=.ok none w:=by simp[Instr.findKey,AF hd,a1]
       have hS:=s.object (o':=.map o g) E hr trivial B G (by intro a t f hc;cases hc)
        ⟨_,g,rfl,by simpa using a2.1,λi k v e p q=>a2.2 i k v e p (by simpa using q)⟩
       have so:=BZ (P:=P) (o':=.map o g) G (by intro a t f hc;cases hc);refine⟨M,μ,_,.tuple #[],?_,hS.1,hS.2,.tup _ _ _ rfl (λi c v hc=>by simp at hc)⟩;simp[builtin,Builtin.delete_,u,AF A,Br G,Bp hd L,fk,so]
     ·cases e
    ·cases e
   ·cases e
  ·cases e
 ·split at e
  ·rename_i k a rest;obtain⟨m,hm,rfl⟩:=AA e;obtain⟨x,ws,rfl,F,X⟩:=J.cons_inv;cases F;refine AC s (x:=.int k m) ?_ (.int _ _ _);simp only[Builtin.max_];exact M8 _ Builtin.max2 (λk x k' y w=>by simp[Builtin.max2]) X hm
  ·rename_i a c;cases e;obtain⟨x,y,rfl,F,N⟩:=Km J rfl;cases F with
   |str _ s1=>cases N with
    |str _ s2=>
     refine AC s (x:=.string (if !Op.bytesLess s1.data.toList s2.data.toList then s1 else s2)) ?_ ?_
     ·simp[Builtin.max_,Builtin.max2,Op.stringOp,asBool,ByteArray.toList_eq]
     ·cases E:Op.bytesLess s1.data.toList s2.data.toList
      ·simpa[E]using Rep.str (M:=M) μ s1
      ·simpa[E]using Rep.str (M:=M) μ s2
  ·cases e
 ·split at e
  ·rename_i k a rest;obtain⟨m,hm,rfl⟩:=AA e;obtain⟨x,ws,rfl,F,X⟩:=J.cons_inv;cases F;refine AC s (x:=.int k m) ?_ (.int _ _ _);simp only[Builtin.min_];exact M8 _ Builtin.min2 (λk x k' y w=>by simp[Builtin.min2]) X hm
  ·rename_i a c;cases e;obtain⟨x,y,rfl,F,N⟩:=Km J rfl;cases F with
   |str _ s1=>cases N with
    |str _ s2=>
     refine AC s (x:=.string (if Op.bytesLess s1.data.toList s2.data.toList||s1.data.toList == s2.data.toList then s1 else s2)) ?_ ?_
     ·simp[Builtin.min_,Builtin.min2,Op.stringOp,asBool,ByteArray.toList_eq]
     ·cases E:(Op.bytesLess s1.data.toList s2.data.toList||s1.data.toList == s2.data.toList)
      ·simpa[E]using Rep.str (M:=M) μ s2
      ·simpa[E]using Rep.str (M:=M) μ s1
  ·cases e
 ·split at e
  ·rename_i t v;cases e;obtain⟨x,rfl,F⟩:=Kl J rfl;cases F with
   |ifc _ _ _ xv hxv=>
    refine⟨.iface t xv,?_,.ifc _ _ _ _ hxv⟩;simp[builtin,Instr.panic,goPanic]
  ·cases e
 ·cases e;simp[Bm,builtin]
 ·cases e
end
end
section
variable[Gl]
section
variable{P:Program}{M:Ap}{μ:Mu}{h:Hp}{w:World}{t:T PV}{nt:Nat}{a:Act}
theorem DE(b:GlOK M)(d:TmpsRep M μ t nt a.tmps){x:Operand}{k:PV->Option R}{r:R}(e:e1 t x k=some r):∃ p,k p=some r/\Rep M μ p (a.eval x):=by
 unfold e1 at e;split at e
 ·rename_i p c;exact⟨p,e,CN b d c⟩
 ·cases e
theorem I3(b:GlOK M)(c:TmpsRep M μ t nt a.tmps){x y:Operand}{k:PV->PV->Option R}{r:R}(e:e2 t x y k=some r):∃ p q,k p q=some r/\Rep M μ p (a.eval x)/\Rep M μ q (a.eval y):=by
 unfold e2 at e;split at e
 ·rename_i p q d f;exact⟨p,q,e,CN b c d,CN b c f⟩
 ·cases e
theorem Ot(b:GlOK M)(c:TmpsRep M μ t nt a.tmps){x y z:Operand}{k:PV->PV->PV->Option R}{r:R}(e:e3 t x y z k=some r):∃ p q s,k p q s=some r/\Rep M μ p (a.eval x)/\Rep M μ q (a.eval y)/\Rep M μ s (a.eval z):=by
 unfold e3 at e;split at e
 ·rename_i p q s d f hs;exact⟨p,q,s,e,CN b c d,CN b c f,CN b c hs⟩
 ·cases e
theorem Jf(s:Sim M μ h w){id:Nat}{b:TypeId}{p:PV}{x:Value}(j:Rep M μ p x){r:R}(e:FU h id p=some r) :
  Bm P M μ w ((do pure (.value (<- Instr.box b x)):Sem Next).run P w) r:=by
 unfold FU at e;split at e
 ·cases e
 ·rename_i a;obtain⟨h',d,rfl⟩:=AA e;obtain⟨f,c⟩:=j.cells (λcs hc=>a cs hc);have:=JJ (P:=P) s (ty:=b) f (λi v g=>c i v g) d;simpa[Instr.box,newVar]using this
theorem Oe(s:Sim M μ h w){id:Nat}{b:TypeId}{r:R}(e:Ci P h id b=some r) :
  Bm P M μ w ((do pure (.value (<- Instr.alloc b true (.tuple #[]))):Sem Next).run P w) r:=by
 unfold Ci at e;split at e
 ·rename_i cs j;obtain⟨h',f,rfl⟩:=AA e;obtain⟨k,i,hi,d,a,g,c⟩:=B0 j M μ w;have:=JJ (P:=P) s (ty:=b) g (KM c) f;simpa[Instr.alloc,a,newVar]using this
 ·cases e
theorem OH(s:Sim M μ h w){id:Nat}{ty:TypeId}{r:R}(e:(h.new id (.mp [])).map (λh=>R.val (.mp id) h)=some r) :
  Bm P M μ w ((do pure (.value (<- Instr.makeMap ty none)):Sem Next).run P w) r:=by
 obtain⟨h',f,rfl⟩:=AA e;obtain⟨a,b,_⟩:=Hp.get_new f
 have hμ:μ id=none:=by
  cases d:μ id with
  |none=>rfl
  |some x=>exact absurd a (s.use id x d).1
 have hS:=s.fresh (w':=w.alloc (.map #[] 0)) (r:=⟨w.heap.size,0,0,0⟩) (o:=.map #[] 0) a b rfl rfl
  ⟨#[],0,rfl,rfl,λi k v e c=>by simp at c⟩
 refine⟨M,DO μ id ⟨w.heap.size,0,0,0⟩,w.alloc (.map #[] 0),.map (some w.heap.size),?_,hS.1,Grow.newBlk hμ rfl rfl rfl rfl rfl (λ_ _ _ h=>by cases h),?_⟩
 ·simp[Instr.makeMap]
 ·exact .mp _ _ ⟨w.heap.size,0,0,0⟩ (by simp[DO])
theorem Qp(s:Sim M μ h w){c p q:PV}{vc x y:Value}(hc:Rep M μ c vc)(a:Rep M μ p x)(b:Rep M μ q y){r:R}(e:Dg h c p q=some r) :
  Bm P M μ w ((do pure (.value (if <- asBool vc then x else y)):Sem Next).run P w) r:=by
 unfold Dg at e;split at e
 ·cases e;cases hc;exact⟨M,μ,w,x,by simp[asBool],s,.refl _ _ _,a⟩
 ·cases e;cases hc;exact⟨M,μ,w,y,by simp[asBool],s,.refl _ _ _,b⟩
 ·cases e
theorem LI(s:Sim M μ h w){f:Fn}{p q:List PV}{x y:Array Value}(g:RepL M μ p x.toList)(j:RepL M μ q y.toList){r:R}(e:BD h f p q=some r) :
  Bm P M μ w ((do pure (.value (<- Instr.makeFunc f x y)):Sem Next).run P w) r:=by
 unfold BD at e;split at e
 ·cases e
 ·rename_i d;cases e;exact AC s (x:=.func f x y) (by simp[Instr.makeFunc]) (.fn _ _ _ _ _ _ (λl k=>d l k) (by simpa using g.1) (by simpa using j.1) (λi c v a b=>g.2 i c v a (by simpa using b)) (λi c v a b=>j.2 i c v a (by simpa using b)))
theorem Pb{p:PV}{x:Value}(a:Rep M μ p x){r:R}(e:Jm p=some r):Bm P M μ w ((do pure (.value (<- Instr.panic x)):Sem Next).run P w) r:=by
 unfold Jm at e;split at e
 ·cases e;cases a with
  |ifc _ _ _ xv hxv=>exact⟨.iface _ xv,by simp[Instr.panic,goPanic],.ifc _ _ _ _ hxv⟩
 ·cases e
theorem Nx(s:Sim M μ h w)(n:TmpsRep M μ t nt a.tmps){id:Nat}{o:Oper}{r:R}(e:AQ P t h id o=some r):Bm P M μ w ((execOp a.eval o).run P w) r:=by
 unfold AQ at e;unfold execOp;split at e
 ·rename_i x d;rw[d];obtain⟨v,O,rfl⟩:=De e;exact⟨M,μ,w,_,rfl,s,.refl _ _ _,CN s.glb n O⟩
 ·rename_i x d;rw[d];obtain⟨v,O,rfl⟩:=De e;exact⟨M,μ,w,_,rfl,s,.refl _ _ _,CN s.glb n O⟩
 ·rename_i c x y d;rw[d];obtain⟨p,q,u,e,j,B,F⟩:=Ot s.glb n e;exact Qp s j B F e
 ·rename_i W d;rw[d];exact Oe s e
 ·rename_i W x d;rw[d];obtain⟨p,e,j⟩:=DE s.glb n e;exact Jf s j e
 ·rename_i ty J d;rw[d];split at e
  ·rename_i ps I;refine Of s ?_ e;simpa using F4 s.glb n I
  ·cases e
 ·rename_i ty len J d;rw[d];split at e
  ·rename_i ps I;refine Ie s ?_ e;simpa using F4 s.glb n I
  ·cases e
 ·rename_i ty x d;rw[d];obtain⟨p,e,j⟩:=DE s.glb n e;exact Qf s j e
 ·rename_i ty x y d;rw[d];obtain⟨p,q,e,j,B⟩:=I3 s.glb n e;exact P5 s j B e
 ·rename_i x d;rw[d];obtain⟨p,e,j⟩:=DE s.glb n e;exact Rd s j e
 ·rename_i op ty x y yt d;rw[d];obtain⟨p,q,e,j,B⟩:=I3 s.glb n e;exact RR s j B e
 ·rename_i op ty x d;rw[d];obtain⟨p,e,j⟩:=DE s.glb n e;exact SW s j e
 ·rename_i src U x d;rw[d];obtain⟨p,e,j⟩:=DE s.glb n e;exact L9 s j e
 ·rename_i ty x d;rw[d];obtain⟨p,e,j⟩:=DE s.glb n e;exact RX s j e
 ·rename_i f first cap d
  rw[d];split at e
  ·rename_i p q Z hq;exact LI s (by simpa using IB s.glb n Z) (by simpa using IB s.glb n hq) e
  ·cases e
 ·rename_i ty d;rw[d];exact OH s e
 ·rename_i ty l c d;rw[d];obtain⟨p,q,e,j,B⟩:=I3 s.glb n e;exact Qi s j B e
 ·rename_i ty x lo hi mx d;rw[d];split at e
  ·rename_i l u m X hu Y;obtain⟨p,e,j⟩:=DE s.glb n e;exact P4 s j (MH s.glb n X) (MH s.glb n hu) (MH s.glb n Y) e
  ·cases e
 ·rename_i sty x f d;rw[d];obtain⟨p,e,j⟩:=DE s.glb n e;exact Js s j e
 ·rename_i ty x f d;rw[d];obtain⟨p,e,j⟩:=DE s.glb n e;exact O0 s j e
 ·rename_i ty x i d;rw[d];obtain⟨p,q,e,j,B⟩:=I3 s.glb n e;exact J3 s j B e
 ·rename_i ty x i d;rw[d];obtain⟨p,q,e,j,B⟩:=I3 s.glb n e;exact O9 s j B e
 ·rename_i ty x k ok d;rw[d];obtain⟨p,q,e,j,B⟩:=I3 s.glb n e;exact OF s j B e
 ·rename_i ty x k v d;rw[d];obtain⟨p,q,u,e,j,B,F⟩:=Ot s.glb n e;exact GY s j B F e
 ·rename_i ty x k v d;rw[d];obtain⟨p,q,u,e,j,B,F⟩:=Ot s.glb n e;exact GY s j B F e
 ·rename_i x xt ty ok d;rw[d];obtain⟨p,e,j⟩:=DE s.glb n e;exact Nj s j e
 ·rename_i x i d;rw[d];obtain⟨p,e,j⟩:=DE s.glb n e;exact MJ s j e
 ·rename_i x d;rw[d];obtain⟨p,e,j⟩:=DE s.glb n e;exact Pb j e
 ·rename_i c d;rw[d];split at e
  ·rename_i args C;have G:RepL M μ args (c.args.toList.map a.eval):=IB s.glb n C;have A:c.args.map a.eval=(c.args.toList.map a.eval).toArray:=by rw[<- cU,bQ]
   split at e
   ·rename_i b z;simp only[resolve,z,Sem.run_bind,Sem.run_pure,Result.andThen,invoke];rw[A];exact H3 s G e
   ·rename_i f z;obtain⟨p,e,j⟩:=DE s.glb n e;unfold Hl at e;split at e
    ·rename_i fn x y;generalize D:a.eval f=v at j;cases j with
     |fn _ _ _ _ va vb hf hla hlb B F=>
      obtain⟨N,g,as,k2⟩:=FD (w:=w) (vf:=va.toList) (vc:=vb.toList) ⟨by simpa using hla,λi c v p q=>B i c v p (by simpa using q)⟩ ⟨by simpa using hlb,λi c v p q=>F i c v p (by simpa using q)⟩ G e;have K:(va.toList++c.args.toList.map a.eval).toArray=va++(c.args.toList.map a.eval).toArray:=by apply Array.ext';simp
      rw[K]at N;simpa[resolve,z,Deferred.ofValue,D,A]using N
    ·rename_i l;cases e;generalize D:a.eval f=v at j;cases j with
     |yl _ _ rb hr=>
      refine⟨c.args.toList.map a.eval,rb,hr,?_,G⟩;simp[resolve,z,Deferred.ofValue,D,invoke,A]
    ·cases e
   ·rename_i L S z;obtain⟨p,e,j⟩:=DE s.glb n e;obtain⟨N,_⟩:=FD (w:=w) (vf:=[a.eval L]) (vc:=[]) (RepL.cons j (RepL.nil _ _)) (RepL.nil _ _) G e;simpa[resolve,z,A]using N
  ·cases e
 ·rename_i c d;rw[d];split at e
  ·rename_i args C;have G:RepL M μ args (c.args.toList.map a.eval):=IB s.glb n C;have A:c.args.map a.eval=(c.args.toList.map a.eval).toArray:=by rw[<- cU,bQ]
   split at e
   ·rename_i b z;cases e;have E:∃ cs,(resolve a.eval c o.type).run P w=.ok { target:=.builtin b c.argTypes o.type cs,args:=c.args.map a.eval } w:=⟨_,by simp only[resolve,z];rfl⟩;obtain⟨cs,E⟩:=E;exact⟨{ target:=.builtin b c.argTypes o.type cs,args:=c.args.map a.eval },by simp only[Sem.run_bind,E,Result.andThen,Sem.run_pure],cs,_,rfl,A,G⟩
   ·rename_i f z;obtain⟨p,e,j⟩:=DE s.glb n e;split at e
    ·rename_i g x y;cases e;generalize D:a.eval f=v at j;cases j with
     |fn _ _ _ _ va vb hf hla hlb B F=>
      exact⟨{ target:=.fn (.func g) vb,args:=va++c.args.map a.eval },by simp[resolve,z,Deferred.ofValue,D],_,_,_,va.toList,vb.toList,c.args.toList.map a.eval,rfl,hf,by simp,by simp[A],
       ⟨by simpa using hla,λi c v p q=>B i c v p (by simpa using q)⟩,⟨by simpa using hlb,λi c v p q=>F i c v p (by simpa using q)⟩,G⟩
    ·cases e
   ·cases e
  ·cases e
 ·cases e
end
end
section
variable[Gl]
section
variable{P:Program}{M:Ap}{μ:Mu}{h:Hp}{w:World}
mutual
theorem En:∀ {q:PV},flat q=true -> ∀ {M0:Ap} {μ0:Mu} {v:Value} (M:Ap) (μ:Mu),Rep M0 μ0 q v->Rep M μ q v
 |.agg cs,hf,M0,μ0,v,M,μ,hr=>by
  cases hr with
  |agg _ _ vs hl h1 h=>
   have:=G2 (q:=cs) (by simpa[flat]using hf) M μ (M0:=M0) (μ0:=μ0);exact .agg _ _ _ hl h1 λi c v a b=>this i c v a (h i c v a b)
 |.tup cs,hf,M0,μ0,v,M,μ,hr=>by
  cases hr with
  |tup _ _ vs hl h=>
   have:=G2 (q:=cs) (by simpa[flat]using hf) M μ (M0:=M0) (μ0:=μ0);exact .tup _ _ _ hl λi c v a b=>this i c v a (h i c v a b)
 |.ifc t x,hf,M0,μ0,v,M,μ,hr=>by
  cases hr with
  |ifc _ _ _ y hy=>exact .ifc _ _ _ _ (En (by simpa[flat]using hf) M μ hy)
 |.lst full es,hf,M0,μ0,v,M,μ,hr=>by
  cases hr with
  |lst0 _ _ a cap hz=>exact .lst0 _ _ _ _ hz
  |lst _ _ _ b off esz cap x h1 h2 h3 h4 h5 h6=>
   have:es=[]:=by simpa[flat]using hf
   subst this;exact .lst _ _ _ _ _ esz _ x h1 h2 h3 (λi e j c d=>by simp at d) h5 (λi e j c d=>by simp at d)
 |.bool b,_,_,_,_,M,μ,hr=>by cases hr;constructor
 |.int k n,_,_,_,_,M,μ,hr=>by cases hr;constructor
 |.str l,_,_,_,_,M,μ,hr=>by cases hr;constructor
 |.nilp,_,_,_,_,M,μ,hr=>by cases hr;constructor
 |.nils,_,_,_,_,M,μ,hr=>by cases hr;constructor
 |.nilm,_,_,_,_,M,μ,hr=>by cases hr;constructor
 |.nilf,_,_,_,_,M,μ,hr=>by cases hr;constructor
 |.nili,_,_,_,_,M,μ,hr=>by cases hr;constructor
 |.own _ _ _,hf,_,_,_,_,_,_=>by simp[flat]at hf
 |.ptr _ _,hf,_,_,_,_,_,_=>by simp[flat]at hf
 |.ept _ _ _,hf,_,_,_,_,_,_=>by simp[flat]at hf
 |.view _,hf,_,_,_,_,_,_=>by simp[flat]at hf
 |.fn _ _ _,hf,_,_,_,_,_,_=>by simp[flat]at hf
 |.yl _,hf,_,_,_,_,_,_=>by simp[flat]at hf
 |.mp _,hf,_,_,_,_,_,_=>by simp[flat]at hf
 |.gk _,hf,_,_,_,_,_,_=>by simp[flat]at hf
 |.adr _ _,_,_,_,_,M,μ,hr=>by cases hr;constructor
theorem G2:∀ {q:List PV},BJ q=true -> ∀ {M0:Ap} {μ0:Mu} (M:Ap) (μ:Mu) (i:Nat) (c:PV) (v:Value),q[i]?=some c->Rep M0 μ0 c v->Rep M μ c v
 |[],_,_,_,_,_,i,c,v,hc,_=>by simp at hc
 |p::ps,hf,M0,μ0,M,μ,i,c,v,hc,hr=>by
  simp[BJ]at hf;cases i with
  |zero=>simp at hc;subst hc;exact En hf.1 M μ hr
  |succ i=>exact G2 hf.2 M μ i c v (by simpa using hc) hr
end
theorem Hp.get_lf(nx id:Nat):Hp.get { m:=.lf,nx:=nx } id=none:=rfl
theorem Sim.empty(s:Sim M μ h w)(L:List Nat):Sim (Hm M h μ w L) mu0 { m:=.lf,nx:=0 } w where
 glb:=s.glb.mono (Cz L)
 mem a v hm:=Jv s hm
 blk id b hb:=by rw[Hp.get_lf]at hb;cases hb
 use id r hr:=by simp[mu0]at hr
 inj id id' r r' b b' hr:=by simp[mu0]at hr
 sep id r b a v hb:=by rw[Hp.get_lf]at hb;cases hb
theorem Sim.world{e:World}(s:Sim M μ h w)(hs:w.heap.size<=e.heap.size)(f:∀ b,b<w.heap.size->e.heap[b]?=w.heap[b]?):Sim M μ h e where
 glb:=s.glb
 mem a v hm:=⟨(s.mem a v hm).1,by rw[cell?_congr (f _ (s.mem_lt hm))];exact(s.mem a v hm).2⟩
 blk id b hb:=by
  obtain⟨r,c,d⟩:=s.blk id b hb;exact⟨r,c,by rw[f _ (s.use id r c).2];exact d⟩
 use id r c:=⟨(s.use id r c).1,Nat.lt_of_lt_of_le (s.use id r c).2 hs⟩
 inj:=s.inj
 sep:=s.sep
section
variable{L:List Nat}{M2:Ap}{μ2:Mu}{h2:Hp}{w2:World}
theorem Grow.keeps{M0:Ap}(g:Grow M0 mu0 w M2 μ2 w2):∀ b,b<w.heap.size->w2.heap[b]?=w.heap[b]?:=λb a=>g.keep b a λid r c=>by simp[mu0]at c
theorem G6(s:Sim M μ h w){M0:Ap}(g:Grow M0 mu0 w M2 μ2 w2):Sim M μ h w2/\Grow M μ w M μ w2:=
 ⟨s.world g.size g.keeps,⟨.refl _,.refl _,λ_ _ h=>.inl h,λid r h=>.inl ⟨id,r,h,rfl⟩,g.size,λb a _=>g.keeps b a,g.os,g.output,g.tape,g.nf⟩⟩
theorem K8(s:Sim M μ h w)(s2:Sim M2 μ2 h2 w2)(g:Grow (Hm M h μ w L) mu0 w M2 μ2 w2){n:Hp}(F:freeze h L=some n)(l:List Nat) :
  ∃ f,Sim f μ n w2/\Grow M μ w f μ w2/\MLe (Hm M2 h2 μ2 w2 l) f/\(∀ a v,f a=some v->w.heap.size<=a.block->Hm M2 h2 μ2 w2 l a=some v):=by
 obtain⟨i,y,z,I,_⟩:=Bg L s F;have d:Sim i μ n w2:=z.world g.size g.keeps
 let j:=Hm M2 h2 μ2 w2 l
 let f:Ap:=λa=>if a.block<w.heap.size then i a else j a
 have u:∀ a v,j a=some v->a.block<w.heap.size->i a=some v:=by
  intro a v c e;rcases DZ c with c|⟨⟨id,_,r,b,m,_,E,_⟩,_⟩
  ·rcases g.only a v c with c|⟨id,r,m,_⟩|hge
   ·exact y a v c
   ·simp[mu0]at m
   ·omega
  ·rcases g.fresh id r m with⟨G,J,q,_⟩|hge
   ·simp[mu0]at q
   ·omega
 have t:MLe j f:=by
  intro a v c;show(if a.block<w.heap.size then i a else j a)=some v
  split
  ·exact u a v c (by assumption)
  ·exact c
 have k:MLe i f:=by
  intro a v c;show(if a.block<w.heap.size then i a else j a)=some v
  rw[if_pos (z.mem_lt c)];exact c
 have inv:∀ a v,f a=some v->(a.block<w.heap.size/\i a=some v)\/(w.heap.size<=a.block/\j a=some v):=by
  intro a v c;have c:(if a.block<w.heap.size then i a else j a)=some v:=c
  by_cases e:a.block<w.heap.size
  ·rw[if_pos e]at c;exact .inl ⟨e,c⟩
  ·rw[if_neg e]at c;exact .inr ⟨by omega,c⟩
 refine⟨f,⟨d.glb.mono k,?_,?_,d.use,d.inj,?_⟩,⟨(Cz L).trans (y.trans k),.refl _,?_,λid r h=>.inl ⟨id,r,h,rfl⟩,g.size,λb p _=>g.keeps b p,g.os,g.output,g.tape,g.nf⟩,t,?_⟩
 ·intro a v c;rcases inv a v c with⟨_,c⟩|⟨_,c⟩
  ·exact d.mem a v c
  ·exact Jv s2 c
 ·intro id b p;obtain⟨r,m,o⟩:=d.blk id b p;exact⟨r,m,o.mono k (.refl _)⟩
 ·intro id r b a v A x B C D;rcases inv a v C with⟨_,c⟩|⟨hge,c⟩
  ·exact d.sep id r b a v A x B c D
  ·have:=(s.use id r x).2;omega
 ·intro a v c;rcases inv a v c with⟨_,c⟩|⟨hge,c⟩
  ·rcases I a v c with h|h
   ·exact .inl h
   ·exact .inr (.inl h)
  ·exact .inr (.inr hge)
 ·intro a v c hge;rcases inv a v c with⟨e,_⟩|⟨_,c⟩
  ·omega
  ·exact c
theorem OB(s:Sim M μ h w)(s2:Sim M2 μ2 h2 w2)(g:Grow (Hm M h μ w L) mu0 w M2 μ2 w2){f:Hp}(i:freeze h L=some f){n:Nat}{p q:PV}{l:List Nat}{v:Value}(e:AX h2 n p=some (q,l))(j:Rep M2 μ2 p v) :
  ∃ d,Sim d μ f w2/\Grow M μ w d μ w2/\Rep d μ q v:=by
 obtain⟨d,a,b,c,_⟩:=K8 s s2 g i l;exact⟨d,a,b,(F7 s2 l n p q l v e j (λ_ h=>h)).mono c (.mu0 _)⟩
theorem Sim.adopt{id:Nat}{b:Blk}{r:Bk}{h':Hp}(s:Sim M μ h w)(K:h.get id=none)(q:∀ k,h'.get k=if k=id then some b else h.get k)(E:r.b<w.heap.size)
  (u:∀ k d,μ k=some d->d.b≠r.b) (F:∀ a v,M a=some v->a.block≠r.b) (D:BlkAt M (DO μ id r) r w.heap[r.b]? b):Sim M (DO μ id r) h' w/\μ id=none:=by
 have hμ:μ id=none:=by
  cases F:μ id with
  |none=>rfl
  |some x=>exact absurd K (s.use id x F).1
 have t:=Dn (r:=r) hμ
 have f:∀ k x,DO μ id r k=some x->(k=id/\x=r)\/(k≠id/\μ k=some x):=by
  intro k x c;unfold DO at c;by_cases e:k=id
  ·rw[if_pos e]at c;exact .inl ⟨e,(Option.some.inj c).symm⟩
  ·rw[if_neg e]at c;exact .inr ⟨e,c⟩
 refine⟨⟨s.glb,s.mem,?_,?_,?_,?_⟩,hμ⟩
 ·intro k n c;rw[q]at c;by_cases e:k=id
  ·rw[if_pos e]at c;cases c;exact⟨r,by simp[DO,e],D⟩
  ·rw[if_neg e]at c;obtain⟨d,G,p⟩:=s.blk k n c;exact⟨d,t _ _ G,p.mono (.refl _) t⟩
 ·intro k d c;rcases f k d c with⟨e,rfl⟩|⟨e,c⟩
  ·exact⟨by rw[q,if_pos e];simp,E⟩
  ·have:=s.use k d c;exact⟨by rw[q,if_neg e];exact this.1,this.2⟩
 ·intro k A d i n C j g m l z J B;rw[q]at m l;rcases f k d j with⟨e,I⟩|⟨e,j⟩
  ·rcases f A i g with⟨o,y⟩|⟨o,g⟩
   ·exact e.trans o.symm
   ·exact absurd (by rw[<- B,I]) (u A i g)
  ·rcases f A i g with⟨o,y⟩|⟨o,g⟩
   ·exact absurd (by rw[B,y]) (u k d j)
   ·rw[if_neg e]at m;rw[if_neg o]at l;exact s.inj k A d i n C j g m l z J B
 ·intro k d n a v j g m l z;rw[q]at j;rcases f k d g with⟨e,I⟩|⟨e,g⟩
  ·exact absurd (by rw[z,I]) (F a v l)
  ·rw[if_neg e]at j;exact s.sep k d n a v j g m l z
theorem G1:∀ {a:List PV},BJ a=true -> ∀ (i:Nat) (p:PV),a[i]?=some p->flat p=true
 |[],_,i,p,hp=>by simp at hp
 |q::a,hf,i,p,hp=>by
  simp[BJ]at hf;cases i with
  |zero=>simp at hp;subst hp;exact hf.1
  |succ i=>exact G1 hf.2 i p (by simpa using hp)
theorem ML{p:PV}(a:flat p=true):∀ (j:Nat) (c:PV),p.cells[j]?=some c->flat c=true:=by
 intro j c hc;cases p with
 |agg cs=>exact G1 (show BJ cs=true by simpa[flat]using a) j c hc
 |tup cs=>simp[PV.cells]at hc
 |_=>
  simp only[PV.cells]at hc;cases j with
  |zero=>simp only[aZ,Option.some.injEq]at hc;subst hc;exact a
  |succ j=>simp at hc
theorem Db(s:Sim M μ h w)(s2:Sim M2 μ2 h2 w2)(g:Grow (Hm M h μ w L) mu0 w M2 μ2 w2){id:Nat}{r q:PV}{x:Value}{h':Hp}(hx:Rep M2 μ2 r x)(e:Al id L h h2 r=some (q,h')) :
  ∃ d μ',Sim d μ' h' w2/\Grow M μ w d μ' w2/\Rep d μ' q x:=by
 unfold Al at e;split at e
 ·rename_i len qs ex n;split at n
  ·rename_i j len';split at n
   ·rename_i es ex' hb;split at n
    ·rename_i qs' N hp;replace n:=Bo n;obtain⟨hj,n⟩:=n;cases n;split at e
     ·rename_i hh I J;obtain⟨h3,X,e⟩:=AA e;cases e;obtain⟨B,C,_⟩:=Hp.get_new X;cases hx with
      |own _ _ _ _ rj hr hcap=>
      obtain⟨r',Y,arr,ety,b1,b2,b3,b4,b5,b6,b7⟩:=s2.blk j _ hb;rw[hr]at Y;cases Y
      have hge:w.heap.size<=rj.b:=by
       rcases g.fresh j rj hr with⟨E,r0,D,_⟩|hge
       ·simp[mu0]at D
       ·exact hge
      have hlt:rj.b<w2.heap.size:=(s2.use j rj hr).2;obtain⟨k1,k2⟩:=Gh hp
      have u:∀ (a:Addr) (v:Value),Hm M2 h2 μ2 w2 N a=some v->a.block≠rj.b:=by
       intro a v t o;rcases DZ t with t|⟨⟨E,hid,r0,b0,D,hb0,U,_,hfc⟩,_⟩
       ·have:=s2.sep j rj _ a v hb hr trivial t o;simp[Kk]at this
       ·have:=s2.inj E j r0 rj b0 _ D hr hb0 hb (by cases b0<;>first|trivial|exact hfc.elim) trivial (by rw[<- U,o])
        subst this;rw[List.any_eq_false]at hj;exact hj E hid (by simp)
      have cellsOf:∀ (i:Nat) (f:PV) (m:Nat) (c:PV) (v:Value),qs[i]?=some f->f.cells[m]?=some c->arr[rj.base+i*rj.esz+m]?=some v->v.oneCell'=true/\Rep (Hm M2 h2 μ2 w2 N) mu0 c v:=by
       intro i f m c v hi n t;have p:i<es.length:=by rw[<- k1];exact(ab.1 hi).1
       obtain⟨q',l',a1,P,a3⟩:=k2 i _ (ad p);rw[hi]at P;cases P;obtain⟨c1,c2⟩:=CH a1;have W:m<(es[i]).cells.length:=by rw[<- c1];exact(ab.1 n).1
       obtain⟨n',c',l'',d1,d2,d3,d4⟩:=c2 m _ (ad W);rw[n]at d3;cases d3;obtain⟨o1,o2⟩:=b7 i _ m _ v (ad p) (ad W) t;exact⟨o1,F7 s2 N n' _ _ l'' v d2 o2 λy hy=>a3 y (d4 y hy)⟩
      have lens:∀ (i:Nat) (f:PV),qs[i]?=some f->f.cells.length=rj.esz:=by
       intro i f hi;have p:i<es.length:=by rw[<- k1];exact(ab.1 hi).1
       obtain⟨q',l',a1,P,a3⟩:=k2 i _ (ad p);rw[hi]at P;cases P;rw[(CH a1).1];exact b6 i _ (ad p)
      have S:∀ {d:Ap} {I:Hp},Sim d μ I w2->Grow M μ w d μ w2->I.get id=none->(∀ k,h'.get k=if k=id then some (.row qs ex false)else I.get k)->(∀ a v,d a=some v->a.block≠rj.b) ->
        (∀ (i:Nat) (f:PV) (m:Nat) (c:PV) (v:Value),qs[i]?=some f->f.cells[m]?=some c->arr[rj.base+i*rj.esz+m]?=some v->Rep d mu0 c v) ->
        ∃ d μ',Sim d μ' h' w2/\Grow M μ w d μ' w2/\Rep d μ' (.own id 0 len) (.slice (some ⟨rj.b,rj.base+0*rj.esz,none⟩) len (rj.cap-0)):=by
       intro d I sM A hn he hno Z;have hne:∀ k O,μ k=some O->O.b≠rj.b:=λk O K=>by have:=(s.use k O K).2;omega
       obtain⟨sA,hμ⟩:=sM.adopt (r:=rj) hn he hlt hne hno ⟨arr,ety,b1,b2,by rw[k1];exact b3,(λhx=>by rw[k1];exact b4 hx),b5,lens,λi f m c v x y z=>⟨(cellsOf i f m c v x y z).1,(Z i f m c v x y z).mono (.refl _) (.mu0 _)⟩⟩;refine⟨d,DO μ id rj,sA,⟨A.m,Dn hμ,A.only,?_,A.size,A.keep,A.os,A.output,A.tape,A.nf⟩,?_⟩
       ·intro k O K;unfold DO at K;split at K
        ·cases K;exact .inr hge
        ·exact .inl ⟨k,O,K,rfl⟩
       ·exact .own (M:=d) (DO μ id rj) id 0 len rj (by simp[DO]) hcap
      cases l:BJ qs with
      |true=>
       simp only[l,cond_true]at J;cases J;obtain⟨F,G⟩:=G6 s g;refine S F G B C (λa v t o=> ?_) λi f m c v x y z=> ?_
       ·have:=s.mem_lt t;omega
       ·exact En (ML (G1 l i f x) m c y) _ _ (cellsOf i f m c v x y z).2
      |false=>
       simp only[l,cond_false]at J;obtain⟨d,F,G,j3,j4⟩:=K8 s s2 g J N;refine S F G B C (λa v t o=> ?_) λi f m c v x y z=>(cellsOf i f m c v x y z).2.mono j3 (.refl _);exact u a v (j4 a v t (by omega)) o
     ·cases e
    ·cases n
   ·cases n
  ·cases n
 ·split at e
  ·rename_i q' N hq;cases l:flat q' with
   |true=>
    simp only[l,cond_true]at e;cases e;obtain⟨F,G⟩:=G6 s g;exact⟨M,μ,F,G,En l M μ (F7 s2 N _ _ _ _ _ hq hx (λ_ h=>h))⟩
   |false=>
    simp only[l,cond_false]at e;obtain⟨I,J,e⟩:=AA e;cases e;obtain⟨d,F,G,j3⟩:=OB s s2 g J hq hx;exact⟨d,μ,F,G,j3⟩
  ·cases e
end
end
end
section
variable[Gl]
section
variable{P:Program}{b:Frame}{a:Act}{k:List Item}{cs:List Frame}{w w':World}{ops:Array Oper}{i:Nat}{rest:List Nat}{o:Oper}
theorem EC(c:ops[i]?=some o)(v:Value):(b.atR a (.inRegion ops (i::rest)::k)).finish v=b.atR (a.put o.dst v) (.inRegion ops rest::k):=by
 rw[Frame.finish_atR,c];rfl
theorem Lr(c:ops[i]?=some o)(e:Region.wanted o (yielded ops a.tmps)=true){v:Value}(d:(o.semAt b.roundOf a.eval).run P w=.ok (.value v) w') :
  step P (lone (b.atR a (.inRegion ops (i::rest)::k)) cs w)=.next (lone (b.atR (a.put o.dst v) (.inRegion ops rest::k)) cs w'):=
 step_lone_go (by rw[stepGR_op c e,<- EC c];simp[stepG.apply,d])
theorem Ml(c:ops[i]?=some o)(e:Region.wanted o (yielded ops a.tmps)=true)(d:(o.semAt b.roundOf a.eval).run P w=.ok .skip w') :
  step P (lone (b.atR a (.inRegion ops (i::rest)::k)) cs w)=.next (lone (b.atR (a.put o.dst undef) (.inRegion ops rest::k)) cs w'):=
 step_lone_go (by rw[stepGR_op c e,<- EC c];simp[stepG.apply,d])
theorem Ll(c:ops[i]?=some o)(f:Region.wanted o (yielded ops a.tmps)=true){d:Deferred}(e:(o.semAt b.roundOf a.eval).run P w=.ok (.defer d) w') :
  step P (lone (b.atR a (.inRegion ops (i::rest)::k)) cs w)=.next (lone (b.atR ({ a with defers:=d::a.defers }.put o.dst undef) (.inRegion ops rest::k)) cs w'):=by
 refine step_lone_go ?_;have:=EC (b:=b) (a:={ a with defers:=d::a.defers }) (k:=k) (rest:=rest) c undef
 rw[stepGR_op c f];simp only[stepG.apply,Sem.runT_eq,e,GStep.bare_after];exact congrArg (λfr=>GStep.go { frame:=fr,callers:=cs,status:=.running,dying:=none } w') this
theorem Lm(c:ops[i]?=some o)(e:Region.wanted o (yielded ops a.tmps)=true){f:FuncId}{args:Array Value}(d:(o.semAt b.roundOf a.eval).run P w=.ok (.enter f args) w') :
  step P (lone (b.atR a (.inRegion ops (i::rest)::k)) cs w)=.next (lone (Frame.enter P f args .normal) (b.atR a (.inRegion ops (i::rest)::k)::cs) w'):=
 step_lone_go (by rw[stepGR_op c e];simp[stepG.apply,d,Frame.atR])
theorem Lp(g:ops[i]?=some o)(j:Region.wanted o (yielded ops a.tmps)=true){l:Nat}{f:FuncId}{d:Array Value}{e c:Code}(h:(o.semAt b.roundOf a.eval).run P w=.ok (.round l f d e c) w') :
  step P (lone (b.atR a (.inRegion ops (i::rest)::k)) cs w)=.next (lone (Frame.round l f d e c .normal) (b.atR a (.inRegion ops (i::rest)::k)::cs) w'):=
 step_lone_go (by rw[stepGR_op g j];simp[stepG.apply,h,Frame.atR])
theorem Ln(c:ops[i]?=some o)(e:Region.wanted o (yielded ops a.tmps)=true){v:Value}(d:(o.semAt b.roundOf a.eval).run P w=.halt (.panic v) w') :
  step P (lone (b.atR a (.inRegion ops (i::rest)::k)) cs w)=.next (lone { b.atR a (.inRegion ops (i::rest)::k)with mode:=.panicking [{ v,recovered:=false }] } cs w'):=
 step_lone_go (by rw[stepGR_op c e,<- Frame.raise_atR];simp[stepG.apply,d])
theorem Iu(f:ops[i]?=some o)(j:Region.wanted o (yielded ops a.tmps)=true)(e:b.roundOf=none)(g:(o.semAt b.roundOf a.eval).run P w=.ok .recover w') :
  step P (lone (b.atR a (.inRegion ops (i::rest)::k)) cs w)=match tryRecover (b.atR a (.inRegion ops (i::rest)::k)) cs with
   |some (v,d)=>.next (lone (b.atR (a.put o.dst v) (.inRegion ops rest::k)) d w')
   |none=>.next (lone (b.atR (a.put o.dst .nilIface) (.inRegion ops rest::k)) cs w'):=by
 cases h:tryRecover (b.atR a (.inRegion ops (i::rest)::k)) cs with
 |some x=>
  obtain⟨v,d⟩:=x;refine step_lone_go ?_;have c:(b.atR a (.inRegion ops (i::rest)::k)).roundOf=none:=e;rw[stepGR_op f j,<- EC f];simp[stepG.apply,g,c,h]
 |none=>
  refine step_lone_go ?_;have c:(b.atR a (.inRegion ops (i::rest)::k)).roundOf=none:=e;rw[stepGR_op f j,<- EC f];simp[stepG.apply,g,c,h]
theorem Lq{c:Code}:step P (lone (b.atR a (.code (.scope c)::k)) cs w)=.next (lone (b.atR a (.code c :: .inScope c::k)) cs w):=
 step_lone_go (by simp[stepG,stepG.exec,Frame.atR])
theorem Is{c:Code}:step P (lone (b.atR a (.inScope c::k)) cs w)=.next (lone (b.atR a k) cs w):=
 step_lone_go (by simp[stepG,stepG.exec,Frame.atR])
end
section
variable{P:Program}
theorem Kd{fr:Frame}{cs:List Frame}{w w':World}{d:Nat}{e b:List Deferred}{h:Array Value}(i:fr.mode ≠ .run)(f:fr.defers={ target:=.collected d,args:=h }::e)
  (g:(Instr.takeDeferred d).run P w=.ok b w'):step P (lone fr cs w)=.next (lone { fr with defers:=b++e } cs w'):=by
 refine step_lone_go ?_;cases a:fr.mode with
 |run=>exact absurd a i
 |returning=>simp[stepG,unwind,a,f,Sem.runT_eq,g]
 |panicking c=>simp[stepG,unwind,a,f,Sem.runT_eq,g]
theorem Gn{fr:Frame}{cs:List Frame}{w w':World}{e:Builtin}{c:Array TypeId}{ty:TypeId}{a:Array Bool}{g:List Deferred}{d:Array Value}{v:Value}(i:fr.mode ≠ .run)
  (h:fr.defers={ target:=.builtin e c ty a,args:=d }::g) (j:(builtin e c ty a d).run P w=.ok (.value v) w') :
  step P (lone fr cs w)=.next (lone { fr with defers:=g } cs w'):=by
 refine step_lone_go ?_;have hi:(invoke (.builtin e c ty a) d).run P w=.ok (.value v) w':=j;cases b:fr.mode with
 |run=>exact absurd b i
 |returning=>simp[stepG,unwind,callDeferred,b,h,Sem.runT_eq,hi]
 |panicking f=>simp[stepG,unwind,callDeferred,b,h,Sem.runT_eq,hi]
end
end
section
variable[Gl]
section
variable{P:Program}{M:Ap}{μ:Mu}{h:Hp}{w:World}
def ChRep(M:Ap)(μ:Mu):List PE->List PanicEntry->Prop
 |[],[]=>True
 |e::l,p::m=>Rep M μ e.v p.v/\e.recovered=p.recovered/\p.goexit=false/\ChRep M μ l m
 |_,_=>False
theorem ChRep.mono{e:Ap}{μ':Mu}(f:MLe M e)(hμ:MuLe μ μ'):∀ {l:List PE} {m:List PanicEntry},ChRep M μ l m->ChRep e μ' l m
 |[],[],_=>trivial
 |_::_,_::_,⟨a,b,c,d⟩=>⟨a.mono f hμ,b,c,d.mono f hμ⟩
def UMRep(M:Ap)(μ:Mu):UM->FrameMode->Prop
 |.ret,m=>m=.returning
 |.pan ch,m=>∃ a,m=.panicking a/\ChRep M μ ch a
theorem UMRep.mono{b:Ap}{μ':Mu}(f:MLe M b)(hμ:MuLe μ μ'){u:UM}{m:FrameMode}(c:UMRep M μ u m):UMRep b μ' u m:=by
 cases u with
 |ret=>exact c
 |pan g=>obtain⟨a,d,e⟩:=c;exact⟨a,d,e.mono f hμ⟩
def Mv(M:Ap)(μ:Mu)(a:CallKind)(cs:List Frame):Option UM->Prop
 |none=>a=.normal
 |some u=>a=.deferred /\ ∃ c b,cs=c::b/\UMRep M μ u c.mode
def Iv(μ:Mu)(c:Option Nat)(r:Option Nat):Prop:=match c with
 |none=>r=none
 |some l=>∃ a,μ l=some a/\r=some a.b
structure FrRep (M:Ap) (μ:Mu) (fr:Fr) (b:Frame) (a:Act) (cs:List Frame):Prop where
 t:TmpsRep M μ fr.t fr.nt a.tmps
 d:DefsRep M μ fr.ds a.defers
 u:Mv M μ b.kind cs fr.up
 r:Iv μ fr.ro b.roundOf
def Tail(d:CallKind)(cs a:List Frame):Prop:=a=cs\/(d=.deferred /\ ∃ c b m,cs=c::b/\a={ c with mode:=m }::b)
theorem Tail.refl{a:CallKind}(cs:List Frame):Tail a cs cs:=.inl rfl
theorem Tail.trans{d:CallKind}{a b c:List Frame}(h:Tail d a b)(k:Tail d b c):Tail d a c:=by
 rcases h with rfl|⟨e,x,f,m,rfl,rfl⟩
 ·exact k
 ·rcases k with rfl|⟨_,y,j,i,g,rfl⟩
  ·exact .inr ⟨e,x,f,m,rfl,rfl⟩
  ·cases g;exact .inr ⟨e,x,f,i,rfl,rfl⟩
theorem FrRep.mono{k:Ap}{μ':Mu}{fr:Fr}{b:Frame}{a:Act}{cs:List Frame}(f:FrRep M μ fr b a cs)(j:MLe M k)(hμ:MuLe μ μ'):FrRep k μ' fr b a cs where
 t:=f.t.mono j hμ
 d:=f.d.mono j hμ
 u:=by
  have:=f.u;cases e:fr.up with
  |none=>rw[e]at this;exact this
  |some u=>rw[e]at this;obtain⟨g,c,o,i,m⟩:=this;exact⟨g,c,o,i,m.mono j hμ⟩
 r:=by
  have:=f.r;unfold Iv at this ⊢;cases e:fr.ro with
  |none=>rw[e]at this;exact this
  |some l=>rw[e]at this;obtain⟨n,g,i⟩:=this;exact⟨n,hμ _ _ g,i⟩
def Arr(P:Program)(m:Machine)(b:Frame)(k:List Item)(cs:List Frame)(a:Act)(w:World)(M:Ap)(μ:Mu):Ex->Prop
 |.normal=>Steps P m (lone (b.atR a k) cs w)
 |.exit id=>∃ c,exitTo id c=exitTo id k/\Steps P m (lone (b.atR a (.code (.exit id)::c)) cs w)
 |.goto l=>∃ c,gotoIn l c=gotoIn l k/\Steps P m (lone (b.atR a (.code (.goto l)::c)) cs w)
 |.ret=>∃ c,Steps P m (lone (b.atR a (.code .ret::c)) cs w)
 |.panic v=>∃ d x,Rep M μ v x/\Steps P m (lone { b.atR a d with mode:=.panicking [{ v:=x,recovered:=false }] } cs w)
theorem Arr.of_steps{m h:Machine}{b:Frame}{k:List Item}{cs:List Frame}{a:Act}{e:Ex}(hs:Steps P m h)(g:Arr P h b k cs a w M μ e):Arr P m b k cs a w M μ e:=by
 cases e with
 |normal=>exact hs.trans g
 |exit id=>obtain⟨d,f,c⟩:=g;exact⟨d,f,hs.trans c⟩
 |goto id=>obtain⟨d,f,c⟩:=g;exact⟨d,f,hs.trans c⟩
 |ret=>obtain⟨d,c⟩:=g;exact⟨d,hs.trans c⟩
 |panic v=>obtain⟨d,x,f,c⟩:=g;exact⟨d,x,f,hs.trans c⟩
def Ran(P:Program)(M:Ap)(μ:Mu)(w:World)(m:Machine)(b:Frame)(k:List Item)(cs:List Frame)(e:Ex)(c:Fr)(h':Hp):Prop:=
 ∃ a μ' w' a' cs',Sim a μ' h' w'/\Grow M μ w a μ' w'/\FrRep a μ' c b a' cs'/\Tail b.kind cs cs'/\Arr P m b k cs' a' w' a μ' e
def R2(P:Program)(M:Ap)(μ:Mu)(fr:Frame)(w:World):Out->Prop
 |.ret v=>∃ x,Rep M μ v x/\fr.leaving P w (.returned x)
 |.pan b=>∃ a,ChRep M μ b a/\fr.leaving P w (.panicked a)
def QK(P:Program)(M:Ap)(μ:Mu)(fr:Frame)(w:World):Out->Prop
 |.ret v=>∃ x,Rep M μ v x/\fr.going P w (.returned x)
 |.pan b=>∃ a,ChRep M μ b a/\fr.going P w (.panicked a)
structure RecOK (P:Program) (rec:HM):Prop where
 nrm:∀ {f args h o up' h'},rec (.fn f) none args h=some (o,up',h') -> ∀ {M μ w vs},Sim M μ h w->RepL M μ args vs -> ∀ cs,∃ M' μ' w' fr,
  Sim M' μ' h' w'/\Grow M μ w M' μ' w'/\Steps P (lone (Frame.enter P f vs.toArray .normal) cs w) (lone fr cs w')/\fr.fn=f/\R2 P M' μ' fr w' o
 dfr:∀ {f u args h o up' h'},rec (.fn f) (some u) args h=some (o,up',h') -> ∀ {M μ w vs},Sim M μ h w->RepL M μ args vs -> ∀ c cs,UMRep M μ u c.mode -> ∃ M' μ' w' fr m' u',
  Sim M' μ' h' w'/\Grow M μ w M' μ' w'/\Steps P (lone (Frame.enter P f vs.toArray .deferred) (c::cs) w) (lone fr ({ c with mode:=m' }::cs) w')/\up'=some u'/\UMRep M' μ' u' m'/\fr.kind=.deferred/\QK P M' μ' fr w' o
 yld:∀ {l args h o up' h'},rec (.yl l) none args h=some (o,up',h') -> ∀ {M μ w vs r},Sim M μ h w->RepL M μ args vs->μ l=some r -> ∀ c cs,∃ M' μ' w' x v fn tmps asg body,
  o=.ret v/\(Instr.yield r.b vs.toArray).run P w=.ok (.round r.b fn tmps asg body) w/\Sim M' μ' h' w'/\Grow M μ w M' μ' w'/\Rep M' μ' v x /\
  Steps P (lone (Frame.round r.b fn tmps asg body .normal) (c::cs) w) (lone (c.finish x) cs w')
def Jd(P:Program):Prop:=∀ (f:FuncId) (p:Pr),Gl.pr f=some p -> ∀ (args:List PV) (h:Hp) (v:PV) (h':Hp),ON P p args h=some (v,h') ->
 ∀ (M:Ap) (μ:Mu) (w:World) (vs:List Value),Sim M μ h w->RepL M μ args vs -> ∀ cs,∃ a μ' w' fr x,Sim a μ' h' w'/\Grow M μ w a μ' w' /\
  Steps P (lone (Frame.enter P f vs.toArray .normal) cs w) (lone fr cs w')/\fr.fn=f/\Rep a μ' v x/\fr.leaving P w' (.returned x)
theorem RI(P:Program)(h:∀ f,Gl.pr f=none):Jd P:=λf p e=>by rw[h]at e;cases e
def GlW(w:World):Prop:=∃ M0:Ap,GlOK M0 /\ ∀ (a:Addr) (v:Value),M0 a=some v->a.spot=none/\w.cell? a=some v
theorem GlW.none(h:∀ g,Gl.g g=none)(w:World):GlW w:=⟨λ_=>Option.none,(λg cs e=>by rw[h]at e;cases e),λa v e=>by cases e⟩
theorem Lu{t:T PV}{nt d:Nat}{tmps:Array Value}{v:PV}{x:Value}(ht:TmpsRep M μ t nt tmps)(hd:d < nt)(hr:Rep M μ v x):TmpsRep M μ (T.put 20 t d v) nt (tmps.setIfInBounds d x):=by
  obtain⟨h1,h2,h3⟩:=ht;refine⟨h1,by simp[h2],fun k=> ?_⟩
  rw [T.get_put 20 t d v k (by have : (2 : Nat) ^ 20 - 1 = 1048575 := by decide
                               omega)]
  by_cases hk:k=d
  · subst hk
    rw[if_pos rfl];have:(tmps.setIfInBounds k x).getD k undef=x:=by simp[aE,h2,hd]
    rw[this];exact hr
  · rw[if_neg hk]
    have:(tmps.setIfInBounds d x).getD k undef=tmps.getD k undef:=by
      simp only[aE,Array.getElem?_setIfInBounds,if_neg (Ne.symm hk)]
    rw[this];exact h3 k
theorem FrRep.put{fr f:Fr}{b:Frame}{a:Act}{cs:List Frame}{c:Option Nat}{v:PV}{x:Value}(g:FrRep M μ fr b a cs)(i:Rep M μ v x)(e:fr.put c v=some f):FrRep M μ f b (a.put c x) cs:=by
 unfold Fr.put at e;split at e
 ·cases e;exact g
 ·replace e:=Ac e;obtain⟨h,e⟩:=e;cases e;exact⟨Lu g.t (by simpa using h) i,g.d,g.u,g.r⟩
theorem FM(M:Ap)(μ:Mu):Rep M μ (.tup []) undef:=.tup _ _ _ rfl λi c v hc=>by simp at hc
theorem JZ{ops:Array Oper}{t:T PV}{nt:Nat}{b:Array Value}(h:TmpsRep M μ t nt b)(o:Oper):Region.wanted o (yielded ops b)=A4 ops.toList t o.guard:=by
 unfold Region.wanted A4;cases l:o.guard with
 |none=>rfl
 |some g=>
  obtain⟨j,f⟩:=g;simp only[yielded,AN,bp];cases m:ops[j]? with
  |none=>simp
  |some i=>
   simp only[cR];cases k:i.dst with
   |none=>simp
   |some d=>
    simp only[cR];have a:=h.2.2 d;rw[aE]at a;cases e:b[d]? with
    |none=>
     rw[e]at a;simp only[cS]at a;cases c:t.get d with
     |none=>simp
     |some p=>
      rw[c]at a;simp only[aC]at a;cases a;simp
    |some x=>
     rw[e]at a;simp only[aC]at a;cases c:t.get d with
     |none=>
      rw[c]at a;simp only[cS]at a;cases a;simp
     |some p=>
      rw[c]at a;simp only[aC]at a;cases a<;>simp
end
end
section
variable[Gl]
section
variable{P:Program}{M:Ap}{μ:Mu}{h:Hp}{w:World}{sh:FuncId->Bool}{rec:HM}
theorem I1(R:RecOK P rec){f:FuncId}{args:List PV}{o:Out}{h':Hp}{id:Nat}(e:A6 sh rec id f args h=some (o,h'))(s:Sim M μ h w){vs:List Value}(z:RepL M μ args vs)(cs:List Frame) :
  ∃ c μ' w' fr,Sim c μ' h' w'/\Grow M μ w c μ' w'/\Steps P (lone (Frame.enter P f vs.toArray .normal) cs w) (lone fr cs w')/\fr.fn=f/\R2 P c μ' fr w' o:=by
 unfold A6 at e;cases hs:sh f with
 |true=>
  simp only[hs,cond_true]at e;split at e
  ·rename_i X B W g;cases e;exact R.nrm g s z cs
  ·cases e
 |false=>
  simp only[hs,cond_false]at e;split at e
  ·rename_i S l K;have d:=NS s l K z (λ_ h=>h);split at e
   ·rename_i r B I g;obtain⟨C,μ2,y,fr,s2,j,u,b,x,i,m⟩:=R.nrm g (s.empty l) d cs;obtain⟨⟨q,A⟩,J,e⟩:=AA e;cases e;obtain⟨c,μ',n,t,L⟩:=Db s s2 j i J;exact⟨c,μ',y,fr,n,t,u,b,x,L,m⟩
   ·rename_i U Y B I g;obtain⟨C,μ2,y,fr,s2,j,u,b,a,i,m⟩:=R.nrm g (s.empty l) d cs;split at e
    ·rename_i q N A;replace e:=Ac e;obtain⟨k,e⟩:=e;cases e;obtain⟨n,t⟩:=G6 s j;refine⟨M,μ,y,fr,n,t,u,b,a,?_,m⟩;cases a with
     |nil=>exact i
     |cons p O=>
      obtain⟨D,E,F,G⟩:=i;cases O with
      |cons _ _=>exact G.elim
      |nil=>exact⟨En k M μ (F7 s2 N _ _ _ _ _ A D (λ_ h=>h)),E,F,trivial⟩
    ·cases e
   ·cases e
  ·cases e
theorem Hd{a:Option Nat}{ρ:Operand->Value}{o:Oper}(h:a=none \/ ∀ c,o.op ≠ .defer c):o.semAt a ρ=execOp ρ o:=by
 rcases h with rfl|h
 ·rfl
 ·exact Oper.semAt_eq a ρ o h
theorem MF{t:T PV}{id:Nat}{o:Oper}{c:Call}{r:R}(a:o.op=.defer c)(e:AQ P t h id o=some r):∃ d,r=.dfr d:=by
 unfold AQ at e;rw[a]at e;simp only at e;split at e
 ·split at e
  ·cases e;exact⟨_,rfl⟩
  ·unfold e1 at e;split at e
   ·dsimp only at e;split at e
    ·cases e;exact⟨_,rfl⟩
    ·cases e
   ·cases e
  ·cases e
 ·cases e
theorem HJ(R:RecOK P rec){ops:Array Oper}{base:Nat}:∀ (L:List (Nat×Oper)) {fr C:Fr} {h h':Hp} {ex:Ex},AZ P sh rec base ops.toList L fr h=some (ex,C,h')->(∀ x∈L,ops[x.1]?=some x.2) ->
  ∀ {M:Ap} {μ:Mu} {w:World} {b:Frame} {a:Act} {cs:List Frame} (k:List Item),Sim M μ h w->FrRep M μ fr b a cs->Ran P M μ w (lone (b.atR a (.inRegion ops (L.map (·.1))::k)) cs w) b k cs ex C h'
 |[],fr,C,h,h',ex,e,hL,M,μ,w,b,a,cs,k,s,hf=>by
  simp only[AZ]at e;cases e;exact⟨M,μ,w,a,cs,s,.refl _ _ _,hf,.refl _,.one stepR_region_end⟩
 |(i,o)::L,fr,C,h,h',ex,e,hL,M,μ,w,b,a,cs,k,s,hf=>by
  have K:ops[i]?=some o:=hL (i,o) (by simp);have hL2:∀ x∈L,ops[x.1]?=some x.2:=λx S=>hL x (by simp[S]);unfold AZ at e
  have go:∀ {fr1:Fr} {h1:Hp} {O:Ap} {μ1:Mu} {U:World} {a1:Act} {W:List Frame},AZ P sh rec base ops.toList L fr1 h1=some (ex,C,h')->Sim O μ1 h1 U->Grow M μ w O μ1 U->FrRep O μ1 fr1 b a1 W->Tail b.kind cs W ->
    Steps P (lone (b.atR a (.inRegion ops (i::L.map (·.1))::k)) cs w) (lone (b.atR a1 (.inRegion ops (L.map (·.1))::k)) W U) ->
    Ran P M μ w (lone (b.atR a (.inRegion ops (((i,o)::L).map (·.1))::k)) cs w) b k cs ex C h':=by
   intro fr1 h1 O μ1 U a1 W e1 s1 y f1 t1 st;obtain⟨M',μ',w',a',cs',q1,q2,q3,q4,q5⟩:=HJ R L e1 hL2 k s1 f1;exact⟨M',μ',w',a',cs',q1,y.trans q2,q3,t1.trans q4,.of_steps st q5⟩
  cases hw:A4 ops.toList fr.t o.guard with
  |false=>
   simp only[hw,cond_false]at e;split at e
   ·rename_i fr1 AG;refine go e s (.refl _ _ _) (hf.put (FM M μ) AG) (.refl _) (.one ?_);have:=stepR_op_skip (P:=P) (b:=b) (a:=a) (k:=k) (cs:=cs) (w:=w) (ops:=ops) (i:=i) (rest:=L.map (·.1)) (by rw[K];simp[JZ hf.t o,hw])
    rwa [K]at this
   ·cases e
  |true=>
   have E:Region.wanted o (yielded ops a.tmps)=true:=by rw[JZ hf.t o,hw]
   simp only[hw,cond_true]at e;cases Y:AQ P fr.t h (base+i) o with
   |none=>rw[Y]at e;cases e
   |some r=>
    have q:=Nx s hf.t Y;rw[Y]at e;have z:(∀ d,r ≠ .dfr d)->o.semAt b.roundOf a.eval=execOp a.eval o:=λhr=>Hd (.inr λc hc=>let ⟨d,hd⟩:=MF hc Y;hr d hd);cases r with
    |val v h1=>
     obtain⟨O,μ1,U,x,g,s1,y,hv⟩:=q;simp only at e;split at e
     ·rename_i fr1 AG;exact go e s1 y ((hf.mono y.m y.u).put hv AG) (.refl _) (.one (Lr K E (by rw[z (by intro d h;cases h)];exact g)))
     ·cases e
    |skip h1=>
     obtain⟨O,μ1,U,g,s1,y⟩:=q;simp only at e;split at e
     ·rename_i fr1 AG;exact go e s1 y ((hf.mono y.m y.u).put (FM _ _) AG) (.refl _) (.one (Ml K E (by rw[z (by intro d h;cases h)];exact g)))
     ·cases e
    |dfr d=>
     obtain⟨D,g,hd⟩:=q;simp only at e;split at e
     ·rename_i hro;split at e
      ·rename_i fr1 AG;have hbr:b.roundOf=none:=by have:=hf.r;unfold Iv at this;rw[hro]at this;exact this
       have hf2:FrRep M μ { fr with ds:=d::fr.ds } b { a with defers:=D::a.defers } cs:=⟨hf.t,⟨hd,hf.d⟩,hf.u,hf.r⟩
       exact go e s (.refl _ _ _) (hf2.put (FM _ _) AG) (.refl _) (.one (Ll K E (by rw[Hd (.inl hbr)];exact g)))
      ·cases e
     ·cases e
    |call f args=>
     obtain⟨vs,g,A,fn,c,hfn,hbody⟩:=q;have G:=Lm (b:=b) (a:=a) (k:=k) (cs:=cs) (rest:=L.map (·.1)) K E (by rw[z (by intro d h;cases h)];exact g);simp only at e;split at e
     ·rename_i v h1 n;obtain⟨O,μ1,U,fr0,s1,y,st,hfn0,x,S,hl⟩:=I1 R n s A (b.atR a (.inRegion ops (i::L.map (·.1))::k)::cs);split at e
      ·rename_i fr1 AG;refine go e s1 y ((hf.mono y.m y.u).put S AG) (.refl _) (.head G (st.trans (.one ?_)));rw[<- EC K];exact step_leave_returned hl
      ·cases e
     ·rename_i e0 h1 n;obtain⟨O,μ1,U,fr0,s1,y,st,hfn0,j,S,hl⟩:=I1 R n s A (b.atR a (.inRegion ops (i::L.map (·.1))::k)::cs);cases e;cases j with
      |nil=>exact S.elim
      |cons p ps=>
       obtain⟨c1,Z,c3,c4⟩:=S;cases ps with
       |cons _ _=>exact c4.elim
       |nil=>
        obtain⟨pv,prc,pge⟩:=p;simp only at c1 Z c3;subst Z;subst c3;refine⟨O,μ1,U,a,cs,s1,y,hf.mono y.m y.u,.refl _,.inRegion ops (i::L.map (·.1))::k,pv,c1,.head G (st.trans (.one ?_))⟩;rw[<- Frame.raise_atR];exact step_leave_panicked hl
     ·cases e
    |yield l args=>
     obtain⟨vs,rb,hrb,g,A⟩:=q;simp only at e;split at e
     ·rename_i v u1 h1 n;obtain⟨O,μ1,U,x,v',fn,tmps,asg,body,hout,hy,s1,y,S,st⟩:=R.yld n s A hrb (b.atR a (.inRegion ops (i::L.map (·.1))::k)) cs;cases hout;split at e
      ·rename_i fr1 AG;refine go e s1 y ((hf.mono y.m y.u).put S AG) (.refl _) (.head (Lp K E (by rw[z (by intro d h;cases h),g];exact hy)) ?_);rw[<- EC K];exact st
      ·cases e
     ·cases e
    |pan v=>
     obtain⟨x,g,S⟩:=q;simp only at e;cases e;exact⟨M,μ,w,a,cs,s,.refl _ _ _,hf,.refl _,_,x,S,.one (Ln K E (by rw[z (by intro d h;cases h)];exact g))⟩
    |rcv=>
     have g:(execOp a.eval o).run P w=.ok .recover w:=q;simp only at e;split at e
     ·cases e
     ·rename_i hro;have hbr:b.roundOf=none:=by have:=hf.r;unfold Iv at this;rw[hro]at this;exact this
      have B:=Iu (b:=b) (a:=a) (k:=k) (cs:=cs) (rest:=L.map (·.1)) K E hbr (by rw[z (by intro d h;cases h)];exact g)
      have hnone:tryRecover (b.atR a (.inRegion ops (i::L.map (·.1))::k)) cs=none -> ∀ {fr1:Fr},fr.put o.dst .nili=some fr1->AZ P sh rec base ops.toList L fr1 h=some (ex,C,h') ->
        Ran P M μ w (lone (b.atR a (.inRegion ops (((i,o)::L).map (·.1))::k)) cs w) b k cs ex C h':=by
       intro ht fr1 AG e;rw[ht]at B;exact go e s (.refl _ _ _) (hf.put (.nili _) AG) (.refl _) (.one B)
      split at e
      ·rename_i v F N;split at e
       ·rename_i fr1 AG;have hu:=hf.u;rw[N]at hu;obtain⟨J,c,tl,rfl,j,X,I⟩:=hu;cases j with
        |nil=>exact I.elim
        |cons p ps=>
         obtain⟨c1,Z,c3,c4⟩:=I;obtain⟨pv,prc,pge⟩:=p;simp only at c1 Z c3;subst Z;subst c3
         have ht:tryRecover (b.atR a (.inRegion ops (i::L.map (·.1))::k)) (c::tl)=some (pv,{ c with mode:=.panicking ({ v:=pv,recovered:=true }::ps) }::tl):=by
          rw[tryRecover_deferred (show(b.atR a (.inRegion ops (i::L.map (·.1))::k)).kind=.deferred from J)];simp only[recoverD,X]
         rw[ht]at B
         have hf2:FrRep M μ { fr with up:=some (.pan ({ v,recovered:=true }::F)) } b a ({ c with mode:=.panicking ({ v:=pv,recovered:=true }::ps) }::tl):=
          ⟨hf.t,hf.d,⟨J,_,tl,rfl,_,rfl,c1,rfl,rfl,c4⟩,hf.r⟩
         exact go e s (.refl _ _ _) (hf2.put c1 AG) (.inr ⟨J,c,tl,_,rfl,rfl⟩) (.one B)
       ·cases e
      ·rename_i hnup;split at e
       ·rename_i fr1 AG;refine hnone ?_ AG e;have hu:=hf.u;cases N:fr.up with
        |none=>
         rw[N]at hu;have hkn:b.kind=.normal:=hu;unfold tryRecover;simp only[Frame.atR,hkn]
        |some u=>
         rw[N]at hu;obtain⟨J,c,tl,rfl,X⟩:=hu;rw[tryRecover_deferred (show(b.atR a (.inRegion ops (i::L.map (·.1))::k)).kind=.deferred from J)];cases u with
         |ret=>have X:c.mode=.returning:=X;simp only[recoverD,X]
         |pan ch=>
          obtain⟨j,X,I⟩:=X;cases ch with
          |nil=>cases j with
           |nil=>simp only[recoverD,X]
           |cons _ _=>exact I.elim
          |cons e0 F=>
           cases j with
           |nil=>exact I.elim
           |cons p ps=>
            obtain⟨c1,Z,c3,c4⟩:=I;obtain⟨ev,erc⟩:=e0;cases erc with
            |false=>exact absurd N (hnup ev F)
            |true=>
             obtain⟨pv,prc,pge⟩:=p;simp only at Z;subst Z;simp only[recoverD,X]
       ·cases e
end
end
end Go.Proofs.YtanppfoapnaeaaaGreat.Pi
