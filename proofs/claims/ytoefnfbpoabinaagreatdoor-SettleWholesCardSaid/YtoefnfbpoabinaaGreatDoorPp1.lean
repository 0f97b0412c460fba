/- A part of the evaluator of the model's code for any program, and of the proof that it is sound. No condition. -/
import Derived.Test.YtoefnfbpoabinaaGreatDoorPp0
import Derived.Laws.Append
import Derived.AtR
import Derived.Recover
import Derived.RangeFuncIn
set_option linter.all false
open List renaming all_eq_true->aW, getElem?_append->aV, getElem?_cons_succ->cc, getElem?_cons_zero->a8, getElem?_drop->aJ, getElem?_eq_getElem->ah, getElem?_eq_some_iff->an, getElem?_take->aG, getElem?_toArray->aQ, getElem_mem->cD, length_append->bS, length_drop->bg, length_nil->aI, length_pos_iff->aF, length_take->aT, mem_iff_getElem?->bn, mem_of_getElem?->bK, nil_append->bY, replicate->aE, size_toArray->cA
open Nat renaming add_assoc->bw, add_mul->aX, add_zero->aZ, beq_eq->bq, ble->ad, ble_eq->bF, ble_eq_true_of_le->cq, blt_eq->bG, eq_zero_or_pos->cB, le_refl->ab, le_succ->bN, min->cJ, min_eq_left->cS, mul_le_mul_right->aA, zero_add->aO
open Array renaming getD_eq_getD_getElem?->aH, getElem?_eq_getElem->ak, length_toList->bp
open Option renaming bind_some->cw, getD_none->cx, getD_some->aD
open Bool renaming and_eq_true->ac, not_eq_false'->aq, or_eq_false_iff->af
open Option renaming some->zo, none->zn
open Bool renaming true->zt, false->zf
namespace Go.Proofs.YtoefnfbpoabinaaGreatDoor.Pi
section
variable[Gl]
section
variable{P:Program}{M:Al}{μ:Mu}{h:Hp}{w:World}
theorem GK(b o j:Nat):(⟨b,o,zn⟩:Addr).add j=⟨b,o+j,zn⟩:=by simp[Addr.add]
theorem KP{n k:Nat}{l:Nat}(a:0<n)(b:k<l*n):k / n<l/\k % n<n/\k / n*n+k % n=k:=
 ⟨(Nat.div_lt_iff_lt_mul a).2 b,Nat.mod_lt _ a,by rw[Nat.mul_comm];exact Nat.div_add_mod k n⟩
theorem KS{c:PV}(h:KR c=zt):c.cells=[c]:=by
 cases c<;>first|rfl|cases h
theorem GW(s:Sim M μ h w){p:PV}{x:Value}{es:List PV}{n:Nat}(G:Rep M μ p x)(e:A2 h p=zo es)(hn:∀ v∈es,v.cells.length=n)(F:0<n) :
  ∃ a cap,x=.slice a es.length cap/\(es≠[] -> ∃ (b:Addr) (news:List Value),a=zo b/\news.length=es.length*n/\(∀ j v,news[j]?=zo v->w.cell? (b.add j)=zo v)/\FlatRep M μ n es news.toArray):=by
 unfold A2 at e;split at e
 ·cases e;cases G;simp_all
 ·rename_i full u;cases e;cases G with
  |lst0 _ _ a cap hf=>simp_all
  |lst _ _ _ b off esz cap x hf hc hs hm D hr=>
   refine⟨_,cap,rfl,λz=> ?_⟩
   have C:esz=n:=by
    cases es with
    |nil=>simp_all
    |cons e0 es=>rw[<- hs 0 e0 rfl];simp_all
   subst C;refine⟨_,(List.range (es.length*esz)).map λk=>x (k / esz) (k % esz),rfl,by simp,λj v E=> ?_,by simp,λi e f=>hs i e f,λi e j c f E=> ?_⟩
   ·have o:j<es.length*esz:=by
     grind
    simp only[List.getElem?_map,List.getElem?_range o,Option.map_some,Option.some.injEq]at E;subst E;obtain⟨S,U,W⟩:=KP F o;have l:∃ c,(es[j / esz]).cells[j % esz]?=zo c:=⟨_,ah (by simp_all)⟩;obtain⟨c,hc⟩:=l;have:=(s.mem _ _ (hm (j / esz) _ (j % esz) c (ah S) hc)).2
    simp_all[GK,bw]
   ·have O:j<esz:=by grind
    have N:i<es.length:=(an.1 f).1
    have o:i*esz+j<es.length*esz:=by
     have:(i+1)*esz<=es.length*esz:=aA _ N
     grind
    refine⟨x i j,?_,D i e j c f E,(hr i e j c f E).mono (.refl _) (.mu0 _)⟩;obtain⟨S,U,W⟩:=KP F o;have:=F8 U O W
    simp_all
 ·rename_i j off len;split at e
  ·rename_i u ex fz L;replace e:=Ad e;obtain⟨m,e⟩:=e;simp at m;cases e;cases G with
   |own _ _ _ _ r hr hcap=>
    obtain⟨r',y,arr,I,D,h2,X,Y,h5,h6,h7⟩:=s.blk j _ L;rw[hr]at y;cases y;have d:((u.drop off).take len).length=len:=by simp;omega
    refine⟨_,_,by rw[d],λz=> ?_⟩
    have get:∀ (i:Nat) (e:PV),((u.drop off).take len)[i]?=zo e->u[off+i]?=zo e/\i<len:=by
     grind
    have C:r.esz=n:=by
     have h0:0<((u.drop off).take len).length:=aF.2 z;have hg:=ah h0
     grind
    have A:∀ k,k<len*n->r.base+off*n+k<arr.size:=by
     intro k g;have:(off+len)*n<=r.cap*n:=aA _ (by omega)
     grind
    refine⟨_,(arr.toList.drop (r.base+off*n)).take (len*n),rfl,?_,λk v g=> ?_,?_,λi e f=> ?_,λi e k c f g=> ?_⟩
    ·rw[d];simp only[aT,bg,bp];rcases cB (len*n)with h0|h0
     ·omega
     ·have:=A (len*n-1) (by omega);omega
    ·rw[aG]at g;split at g
     ·rw[aJ]at g;rw[GK,C,cell?_eq (a:=⟨r.b,_,zn⟩) D rfl]
      grind
     ·cases g
    ·simp only[cA];rw[d];simp only[aT,bg,bp];rcases cB (len*n)with h0|h0
     ·omega
     ·have:=A (len*n-1) (by omega);omega
    ·grind
    ·obtain⟨J,K⟩:=get i e f;have hk':k<n:=by grind
     have o:i*n+k<len*n:=by
      have:(i+1)*n<=len*n:=aA _ K;rw[aX]at this;omega
     have q:=A _ o;refine⟨arr[r.base+off*n+(i*n+k)],?_,?_⟩
     ·simp only[aQ];rw[aG,zy o,aJ];simp[q]
     ·refine h7 (off+i) e k c _ J g ?_;rw[C,aX];rw[show r.base+(off*n+i*n)+k=r.base+off*n+(i*n+k) by omega];exact ak q
  ·rename_i t fz L;replace e:=Ad e;obtain⟨m,e⟩:=e;simp only[ac]at m;obtain⟨m,l⟩:=m;have m:=Nat.le_of_ble_eq_true m;cases e;cases G with
   |own _ _ _ _ r hr hcap=>
    obtain⟨r',y,h0,arr,I,D,h2,X,Y⟩:=s.blk j _ L;rw[hr]at y;cases y;obtain⟨b0,Z,b2⟩:=h0;have d:((t.drop off).take len).length=len:=by simp;omega
    refine⟨_,_,by rw[d],λz=> ?_⟩;have B:∀ e∈(t.drop off).take len,e.cells=[e]:=λe f=>KS (aW.1 l e f)
    have C:1=n:=by
     have h0:0<((t.drop off).take len).length:=aF.2 z;have:=hn _ (cD h0);rw[B _ (cD h0)]at this;exact this
    subst C
    have get:∀ (i:Nat) (e:PV),((t.drop off).take len)[i]?=zo e->t[off+i]?=zo e/\i<len:=by
     intro i e f;rw[aG]at f;split at f
     ·rw[aJ]at f;exact⟨f,by assumption⟩
     ·cases f
    refine⟨_,(arr.toList.drop off).take len,rfl,?_,λk v g=> ?_,?_,λi e f=> ?_,λi e k c f g=> ?_⟩
    ·rw[d];simp only[aT,bg,bp];omega
    ·rw[aG]at g;split at g
     ·rw[aJ]at g;rw[GK,b0,Z,cell?_eq (a:=⟨r.b,_,zn⟩) D rfl];simpa using g
     ·cases g
    ·simp only[cA];rw[d];simp only[aT,bg,bp];omega
    ·rw[B e (bK f)];rfl
    ·obtain⟨J,K⟩:=get i e f;rw[B e (bK f)]at g
     have P:k=0:=by
      cases k with
      |zero=>rfl
      |succ k=>simp at g
     subst P;simp at g;subst g;have q:off+i<arr.size:=by omega
     refine⟨arr[off+i],?_,?_,Y (off+i) _ _ J (ak q)⟩
     ·simp only[aQ,Nat.mul_one,aZ];rw[aG,zy K,aJ];simp[q]
     ·exact X _ _ (ak q)
  ·cases e
 ·cases e
theorem FW(s:Sim M μ h w){j pos n:Nat}{es new:List PV}{ex fz:Bool}{h':Hp}{r:Bk}{news:List Value}(I:μ j=zo r)(K:h.get j=zo (.row es ex fz))
  (u:FlatRep M μ n new news.toArray) (J:new≠[]->r.esz=n) (D:pos<=es.length) (z:pos+new.length<=r.cap) (hex:ex=zt->pos+new.length<=es.length) (L:fz=zt->pos=es.length)
  (hs:h.set j (.row (BH es pos new) ex fz)=zo h') :
  ∃ w',(storeCells ⟨r.b,r.base+pos*r.esz,zn⟩ news 0).run P w=.ok () w'/\Sim M μ h' w'/\Grow M μ w M μ w':=by
 obtain⟨r',E,arr,m,X,h2,h3,h4,Y,Z,h7⟩:=s.blk j _ K;rw[I]at E;cases E
 have S:news.length=new.length*r.esz:=by
  have:=u.1;simp at this;rw[this];by_cases d:new=[]<;>simp_all
 have hin:r.base+pos*r.esz+news.length<=arr.size:=by
  have:(pos+new.length)*r.esz<=r.cap*r.esz:=aA _ z
  grind
 have C:∀ y∈news,y.oneCell'=zt:=by
  intro y hy;obtain⟨k,G⟩:=bn.1 hy;have N:k<new.length*r.esz:=by grind
  obtain⟨d1,d2,d3⟩:=KP Y N;have d:new≠[]:=by grind
  have hg:=ah d1;have hcl:(new[k / r.esz]).cells.length=r.esz:=by rw[u.2.1 _ _ hg,J d]
  obtain⟨v,x,W,_⟩:=u.2.2 (k / r.esz) _ (k % r.esz) _ hg (ah (by omega))
  grind
 obtain⟨w',o,F,k1,k2,k3,k4,k5,k6,k7,k8,k9⟩:=Dp (P:=P) (ty:=m) news w arr (r.base+pos*r.esz) 0 X (by omega) C;refine⟨w',F,?_,Grow.update I k4 k5 k6 k7 ⟨k8,Nat.le_of_eq k9.symm⟩⟩
 have q:∀ (i:Nat) (e:PV),(BH es pos new)[i]?=zo e->(pos<=i/\i<pos+new.length/\new[i-pos]?=zo e)\/(¬ (pos<=i/\i<pos+new.length)/\es[i]?=zo e):=by
  intro i e p;unfold BH at p;rw[aV]at p;simp only[aT,cS D]at p;by_cases hi:i<pos
  ·grind
  ·rw[zx hi,aV]at p
   grind
 have B:(BH es pos new).length=max es.length (pos+new.length):=by
  grind [BH,bS,aT,bg,cS]
 refine s.update K I trivial (Hp.get_set hs).1 k4 k5 ?_ ?_
 ·refine⟨o,m,k1,by omega,?_,?_,Y,?_,?_⟩
  ·omega
  ·grind
  ·intro i e p;rcases q i e p with⟨U,a2,g⟩|⟨_,g⟩
   ·have d:new≠[]:=by intro e;subst e;simp at g
    rw[u.2.1 _ e g,J d]
   ·exact Z i e g
  ·intro i e k c v p G t;rw[k3]at t;rcases q i e p with⟨U,a2,g⟩|⟨U,g⟩
   ·have d:new≠[]:=by intro e;subst e;simp at g
    have O:k<r.esz:=by rw[J d,<- u.2.1 _ e g];grind
    obtain⟨y,x,W,c3⟩:=u.2.2 _ e k c g G;rw[<- J d]at x;simp at x;have e1:pos*r.esz+(i-pos)*r.esz=i*r.esz:=by rw[<- aX];grind
    have hlt:(i-pos)*r.esz+k<news.length:=(an.1 x).1;rw[zy (by omega)]at t;rw[show r.base+i*r.esz+k-(r.base+pos*r.esz+0)=(i-pos)*r.esz+k by omega]at t;rw[x]at t;cases t;exact⟨W,c3⟩
   ·have O:k<r.esz:=by rw[<- Z _ e g];exact(an.1 G).1
    rw[zx ?_]at t
    ·exact h7 i e k c v g G t
    ·intro A;rw[S,aZ]at A;by_cases hi:i<pos
     ·have:(i+1)*r.esz<=pos*r.esz:=aA _ hi;rw[aX]at this;omega
     ·have:(pos+new.length)*r.esz<=i*r.esz:=aA _ (by omega);rw[aX]at this;omega
 ·intro a y hm ha;obtain⟨q1,q2⟩:=s.sep j r _ a y K I trivial hm ha;have hp:=L q1;have l:=s.mem a y hm;refine⟨?_,q1,?_⟩
  ·rw[cell?_eq (arr:=o) (ty:=m) (f:=(0,0)) (by grind) l.1,k3,zx (by subst hp;omega)];rw[<- cell?_eq (arr:=arr) (ty:=m) (f:=(0,0)) (by rw[ha];exact X) l.1];exact l.2
  ·rw[B];have:es.length*r.esz<=max es.length (pos+new.length)*r.esz:=aA _ (Nat.le_max_left _ _);omega
theorem Sim.rename(s:Sim M μ h w){j id:Nat}{b:Blk}{r:Bk}{h':Hp}(F:h.get j=zo b)(u:μ j=zo r)(K:b.live)(X:h.get id=zn)
  (J:∀ k,h'.get k=if k=id then zo b else if k=j then zo .dead else h.get k):Sim M (DW μ id r) h' w/\Grow M μ w M (DW μ id r) w:=by
 have hμ:μ id=zn:=by
  cases W:μ id with
  |none=>rfl
  |some x=>exact absurd X (s.use id x W).1
 have l:=Dq (r:=r) hμ;have U:j≠id:=by grind
 have m:∀ k x,DW μ id r k=zo x->(k=id/\x=r)\/(k≠id/\μ k=zo x):=by
  intro k x c;unfold DW at c
  grind
 obtain⟨r',C,I⟩:=s.blk j b F;rw[u]at C;cases C;refine⟨⟨s.glb,s.mem,?_,?_,?_,?_⟩,⟨.refl _,l,λ_ _ h=>.inl h,?_,ab _,λ_ _ _=>rfl,rfl,rfl,rfl,ab _⟩⟩
 ·intro k i c;rw[J]at c;by_cases e:k=id
  ·rw[zy e]at c;cases c;exact⟨r,by simp[DW,e],I.mono (.refl _) l⟩
  ·rw[zx e]at c;by_cases e2:k=j
   ·rw[zy e2]at c;cases c;exact⟨r,l _ _ (e2 ▸ u),trivial⟩
   ·rw[zx e2]at c;obtain⟨d,N,B⟩:=s.blk k i c;exact⟨d,l _ _ N,B.mono (.refl _) l⟩
 ·intro k d c;rcases m k d c with⟨e,rfl⟩|⟨e,c⟩
  ·exact⟨by simp_all,(s.use j _ u).2⟩
  ·have:=s.use k d c
   grind
 ·intro k y d g i o f n z q t E P;rw[J]at z q
  have p:∀ (k:Nat) (d:Bk) (i:Blk),k≠id->(if k=id then zo b else if k=j then zo .dead else h.get k)=zo i->i.live->k≠j/\h.get k=zo i:=by
   intro k d i e c L;rw[zx e]at c;by_cases e2:k=j
   ·rw[zy e2]at c;cases c;exact L.elim
   simp_all
  rcases m k d f with⟨e,S⟩|⟨e,f⟩
  ·rcases m y g n with⟨A,D⟩|⟨A,n⟩
   ·omega
   ·obtain⟨O,G⟩:=p y g o A q E;exact absurd (s.inj y j g r o b n u G F E K (by simp_all)) O
  ·obtain⟨O,G⟩:=p k d i e z t;rcases m y g n with⟨A,D⟩|⟨A,n⟩
   ·exact absurd (s.inj k j d r i b f u G F t K (by rw[P,D])) O
   ·obtain⟨Z,Y⟩:=p y g o A q E;exact s.inj k y d g i o f n G Y t E P
 ·intro k d i a v f n z q t;rw[J]at f;rcases m k d n with⟨e,S⟩|⟨e,n⟩
  ·rw[zy e]at f;cases f;subst S;exact s.sep j _ _ a v F u K q t
  ·rw[zx e]at f;by_cases e2:k=j
   ·rw[zy e2]at f;cases f;exact z.elim
   ·rw[zx e2]at f;exact s.sep k d i a v f n z q t
 grind
theorem BY(s:Sim M μ h w){id n cap:Nat}{es:List PV}{fz:Bool}{arr rest:Array Value}{ty:TypeId}{h':Hp}{w':World}(t:0<n)(p:FlatRep M μ n es arr)(g:es.length<=cap)(f:rest.size=(cap-es.length)*n)
  (D:h.new id (.row es zf fz)=zo h') (y:w'.heap=w.heap.push (.cells (arr++rest) ty (0,0))) (e1:w'.os=w.os) (e2:w'.output=w.output) (e3:w'.tape=w.tape/\w.drawn<=w'.drawn) :
  ∃ μ',Sim M μ' h' w'/\Grow M μ w M μ' w' /\ ∀ k,k<=es.length->Rep M μ' (.own id 0 k) (.slice (zo ⟨w.heap.size,0,zn⟩) k cap):=by
 obtain⟨d,l,_⟩:=Hp.get_new D
 have hμ:μ id=zn:=by
  cases C:μ id with
  |none=>rfl
  |some x=>exact absurd d (s.use id x C).1
 have E:(arr++rest).size=cap*n:=by
  rw[Array.size_append,p.1,f,<- aX];grind
 have hS:=s.fresh (w':=w') (r:=⟨w.heap.size,0,n,cap⟩) (o:=.cells (arr++rest) ty (0,0)) d l y rfl
  ⟨_,ty,rfl,by simp_all,g,(by simp_all),t,λi e B=>p.2.1 i e B,λi e j c v a b u=>by
   obtain⟨G,m,z,A⟩:=p.2.2 i e j c a b;simp only[aO]at u;have q:i*n+j<arr.size:=(Array.getElem?_eq_some_iff.1 m).1;rw[Array.getElem?_append_left q]at u;rw[u]at m;cases m
   exact⟨z,A.mono (.refl _) (Dq hμ)⟩⟩
 refine⟨_,hS.1,Grow.newBlk hμ y rfl e1 e2 e3,λk F=> ?_⟩;have:=Rep.own (M:=M) (DW μ id ⟨w.heap.size,0,n,cap⟩) id 0 k ⟨w.heap.size,0,n,cap⟩ (by simp[DW]) (by simp;omega)
 simp_all
end
end
section
variable[Gl]
section
variable{P:Program}{M:Al}{μ:Mu}{h:Hp}{w:World}
theorem Cc{t ty e:TypeId}{n:Nat}(r:P.underlying t=zo (.slice e))(h:AU P e=zo n)(b:Addr)(a:Option Addr)(d sCap k c:Nat)(news:List Value)(f:d+k<=sCap)
  (q:k≠0 -> ∃ x,a=zo x/\news.length=k*n /\ ∀ j v,news[j]?=zo v->w.cell? (x.add j)=zo v) (i:k=0->news=[]) :
  (Builtin.append_ #[t,t] ty #[.slice (zo b) d sCap,.slice a k c]).run P w=match (storeCells (b.add (d*n)) news 0).run P w with
   |.ok _ w'=>.ok (.slice (zo b) (d+k) sCap) w'
   |.halt o w'=>.halt o w':=by
 have p:(Builtin.firstCells n k (.slice a k c)).run P w=.ok news.toArray w:=by
  by_cases g:k=0
  ·rw[i g];cases a with
   |none=>rfl
   |some x=>exact run_firstCells_some w n k x k c [] (by simp[g]) (by simp_all)
  ·obtain⟨x,rfl,l,m⟩:=q g;exact run_firstCells_some w n k x k c news l m
 simp only[Builtin.append_];simp only[Sem.run_bind,AF r,Result.andThen,Ac h,Sem.run_pure,aQ,a8,cc];simp[Builtin.lenOf,f,p];cases(storeCells (b.add (d*n)) news 0).run P w<;>rfl
theorem Eg{t ty e:TypeId}{n:Nat}(f:P.underlying t=zo (.slice e))(b:AU P e=zo n)(a:Option Addr)(c:Nat) :
  (Builtin.append_ #[t,t] ty #[.slice zn 0 0,.slice a 0 c]).run P w=.ok (.slice zn 0 0) w:=by
 have d:(Builtin.firstCells n 0 (.slice a 0 c)).run P w=.ok #[] w:=by
  cases a with
  |none=>rfl
  |some x=>exact run_firstCells_some w n 0 x 0 c [] (by simp) (by simp_all)
 simp only[Builtin.append_];simp only[Sem.run_bind,AF f,Result.andThen,Ac b,Sem.run_pure,aQ,a8,cc];simp[Builtin.lenOf,d]
theorem FlatRep.append{n:Nat}{es es':List PV}{arr b:Array Value}(d:FlatRep M μ n es arr)(f:FlatRep M μ n es' b):FlatRep M μ n (es++es') (arr++b):=by
 refine⟨by simp[d.1,f.1,aX],λi e a=> ?_,λi e j c a h=> ?_⟩
 ·rw[aV]at a;split at a
  ·exact d.2.1 i e a
  ·exact f.2.1 _ e a
 ·rw[aV]at a;split at a
  ·obtain⟨v,k,g⟩:=d.2.2 i e j c a h
   grind
  ·rename_i hi;obtain⟨v,k,g⟩:=f.2.2 _ e j c a h;refine⟨v,?_,g⟩
   have:i*n+j=arr.size+((i-es.length)*n+j):=by
    rw[d.1,<- bw,<- aX];grind
   grind
theorem FlatRep.nil{n:Nat}:FlatRep M μ n [] #[]:=⟨by simp,λi e a=>by simp at a,λi e j c a=>by simp at a⟩
def GI(M:Al)(μ:Mu)(w:World)(n:Nat)(es:List PV)(a:Option Addr):Prop:=
 es≠[] -> ∃ (b:Addr) (news:List Value),a=zo b/\news.length=es.length*n/\(∀ j v,news[j]?=zo v->w.cell? (b.add j)=zo v)/\FlatRep M μ n es news.toArray
theorem H4{t ty e n:Nat}{d:TypeInfo}{z:Value}{olds new:List PV}{a0 a:Option Addr}{sCap c:Nat}(u:P.underlying t=zo (.slice e))(hi:P.info? e=zo d)(x:d.zero=zo z)(f:d.size=n)(o:z.cells.size=n)(_hn0:0<n)
  (C:GI M μ w n olds a0) (D:GI M μ w n new a) (p:a0=zn->sCap=0/\olds=[]) (s:sCap<olds.length+new.length) (i:new≠[]) (l:olds.length+new.length<=Ba) (m:d.bytes<=Ba) :
  ∃ w' arr rest cap,(Builtin.append_ #[t,t] ty #[.slice a0 olds.length sCap,.slice a new.length c]).run P w=.ok (.slice (zo ⟨w.heap.size,0,zn⟩) (olds.length+new.length) cap) w' /\
   FlatRep M μ n (olds++new) arr/\olds.length+new.length<=cap/\rest.size=(cap-(olds.length+new.length))*n/\w'.heap=w.heap.push (.cells (arr++rest) e (0,0))/\w'.os=w.os/\w'.output=w.output/\w'.tape=w.tape/\w.drawn<=w'.drawn:=by
 obtain⟨b,news,rfl,y,A,B⟩:=D i;have k:0<new.length:=aF.2 i
 have h:(olds.length+new.length)*d.bytes<=140737488355328:=by
  have:(olds.length+new.length)*d.bytes<=1048576*1048576:=Nat.mul_le_mul l m;omega
 simp only[Ba]at l m;cases a0 with
 |none=>
  obtain⟨rfl,rfl⟩:=p rfl;simp only[aI,aO,bY]at *;have:=run_append_nil (P:=P) w t ty e d z u hi x b new.length c news (by rw[y,f]) A k (by omega) (by omega);exact⟨_,news.toArray,_,_,this,B,grownCap_ge _ _ _ _,by simp[Builtin.zeroCells,o],rfl,rfl,rfl,rfl,bN _⟩
 |some b0=>
  have q:∃ g:List Value,g.length=olds.length*n/\(∀ j v,g[j]?=zo v->w.cell? (b0.add j)=zo v)/\FlatRep M μ n olds g.toArray:=by
   by_cases r:olds=[]
   ·subst r;exact⟨[],by simp,by simp_all,FlatRep.nil⟩
   ·obtain⟨b',g,I,J,K,L⟩:=C r
    grind
  obtain⟨g,E,F,G⟩:=q;have:=run_append_grow (P:=P) w t ty e d z u hi x b0 olds.length sCap g (by rw[E,f]) F b new.length c news (by rw[y,f]) A s (by omega) (growslice_fits s h);exact⟨_,g.toArray++news.toArray,_,_,this,G.append B,grownCap_ge _ _ _ _,by simp[Builtin.zeroCells,o],rfl,rfl,rfl,rfl,bN _⟩
theorem RP{full:Bool}{es:List PV}{x:Value}{n:Nat}(e:Rep M μ (.lst full es) x)(d:CT n es=zt):∀ v∈es,v.cells.length=n:=by
 intro v a;obtain⟨i,hi⟩:=bn.1 a;cases e with
 |lst0=>simp at a
 |lst _ _ _ b off esz _ x hf hc hs hm h1 hr=>
  cases es with
  |nil=>simp at a
  |cons c es=>rw[hs i v hi,<- hs 0 c rfl];simpa[CT]using d
theorem R5(s:Sim M μ h w){id t ty:Nat}{p q:PV}{x y:Value}(hx:Rep M μ p x)(hy:Rep M μ q y){r:R}(e:EA P h id t p q=zo r) :
  Br P M μ w ((do pure (.value (<- Builtin.append_ #[t,t] ty #[x,y])):Sem Next).run P w) r:=by
 unfold EA at e;split at e
 ·rename_i el I;split at e
  ·rename_i z ti new zc m u hnew hzc;replace e:=Bl e;obtain⟨hc,e⟩:=e;simp only[af,aq,aW,bq,bF,bG]at hc;obtain⟨⟨⟨hnl,K⟩,hzl⟩,d⟩:=hc;obtain⟨zv,i,hi,N,hrun,hrz,h1z⟩:=Bb hzc M μ w;rw[u]at hi;cases hi;have O:ti.size=z:=by simp[AU,u]at m;exact m
   have S:zv.cells.size=z:=by rw[<- hzl];simpa using hrz.1.symm
   obtain⟨a,c,rfl,hE⟩:=GW s hy hnew hnl d;have A:GI M μ w z new a:=hE;split at e
   ·cases hx;cases new with
    |nil=>
     simp at e;subst e;exact AC s (Eg I m a c) (.nils _)
    |cons Z n=>
     have e:(bif ad (Z::n).length Ba then(h.new id (.row (Z::n) zf zf)).map (λh=>R.val (.own id 0 (Z::n).length) h)else zn)=zo r:=e
     replace e:=Ad e;obtain⟨E,e⟩:=e;obtain⟨h',l,rfl⟩:=AA e;obtain⟨w',arr,rest,cap,U,W,X,g4,g5,g6,g7,g8⟩:=H4 (ty:=ty) (olds:=[]) (a0:=none) (sCap:=0) (c:=c) I u N O S d (λh=>absurd rfl h) A (λ_=>⟨rfl,rfl⟩) (by simp) (by simp) (by simp_all) K;simp only[aI,aO,bY]at U W X g4;obtain⟨μ',J,F,G⟩:=BY s d W X g4 l g5 g6 g7 g8;exact⟨M,μ',w',_,by simp_all,J,F,G _ (ab _)⟩
   ·rename_i es
    have hlst:∃ a0,x=.slice a0 es.length es.length/\(a0=zn->es=[]):=by
     cases hx<;>simp_all
    obtain⟨a0,rfl,ha0⟩:=hlst;cases new with
    |nil=>
     simp at e;subst e;cases a0 with
     |none=>
      have:=ha0 rfl;subst this;exact AC s (Eg I m a c) hx
     |some b0=>
      refine AC s (x:=.slice (zo b0) es.length es.length) ?_ hx;have:=Cc (P:=P) (w:=w) (ty:=ty) I m b0 a es.length es.length 0 c [] (by omega) (λh=>absurd rfl h) (λ_=>rfl);simpa[storeCells]using this
    |cons Z n=>
     have e:(bif ad (es.length+(Z::n).length) Ba&&CT z es then(h.new id (.row (es++(Z::n)) zf zf)).map (λh=>R.val (.own id 0 (es.length+(Z::n).length)) h)else zn)=zo r:=e
     replace e:=Ad e;obtain⟨E,e⟩:=e;obtain⟨h',l,rfl⟩:=AA e;simp only[ac,bF]at E
     have hO:GI M μ w z es a0:=by
      obtain⟨a',c',L,hE2⟩:=GW s hx (es:=es) rfl (RP hx E.2) d;cases L;exact hE2
     obtain⟨w',arr,rest,cap,U,W,X,g4,g5,g6,g7,g8⟩:=H4 (ty:=ty) (c:=c) (sCap:=es.length) I u N O S d hO A (λh=>by simp_all) (by simp) (by simp) E.1 K;obtain⟨μ',J,F,G⟩:=BY s d W (by simpa using X) (by grind) l g5 g6 g7 g8;exact⟨M,μ',w',_,by simp_all,J,F,G _ (by simp)⟩
   ·rename_i j off len;split at e
    ·rename_i es ex fz hb;replace e:=Bl e;obtain⟨hc,e⟩:=e;simp only[af,aq,bF]at hc;obtain⟨⟨E,hol⟩,hel⟩:=hc;cases hx with
     |own _ _ _ _ rb hr hcap=>
     obtain⟨r',hr',arr0,ety,h1,h2,h3,h4,h5,h6,h7⟩:=s.blk j _ hb;rw[hr]at hr';cases hr'
     have Y:es≠[]->rb.esz=z:=by
      intro C;cases es with
      |nil=>simp_all
      |cons e1 es1=>rw[<- h6 0 e1 rfl];simpa[CT]using hel
     have hall:∀ v∈(es.drop off).take len,v.cells.length=z:=by
      intro v hv;have hv:=List.mem_of_mem_drop (List.mem_of_mem_take hv);obtain⟨i,hi⟩:=bn.1 hv
      grind
     have hol2:((es.drop off).take len).length=len:=by simp;omega
     have hO:GI M μ w z ((es.drop off).take len) (zo ⟨rb.b,rb.base+off*rb.esz,zn⟩):=by
      obtain⟨a',c',L,hE2⟩:=GW s (.own (M:=M) μ j off len rb hr hcap) (es:=(es.drop off).take len) (by simp_all[A2,cq,zb]) hall d;simp only[Value.slice.injEq]at L;obtain⟨rfl,_,_⟩:=L;exact hE2
     have fit:∀ news:List Value,(new≠[]->news.length=new.length*z /\ ∀ k v,news[k]?=zo v -> ∃ b,a=zo b/\w.cell? (b.add k)=zo v)->True:=λ_ _=>trivial
     have hnews:∃ news:List Value,FlatRep M μ z new news.toArray/\(new.length≠0 -> ∃ x,a=zo x/\news.length=new.length*z /\ ∀ j v,news[j]?=zo v->w.cell? (x.add j)=zo v)/\(new.length=0->news=[]):=by
      by_cases h0:new=[]
      ·subst h0;exact⟨[],FlatRep.nil,λh=>absurd rfl h,λ_=>rfl⟩
      ·obtain⟨b,news,x1,x2,x3,x4⟩:=A h0;exact⟨news,x4,λ_=>⟨b,x1,x2,x3⟩,λh=>absurd (List.eq_nil_of_length_eq_zero h) h0⟩
     obtain⟨news,hf,hn1,hn2⟩:=hnews
     have haddr:(⟨rb.b,rb.base+off*rb.esz,zn⟩:Addr).add (len*z)=⟨rb.b,rb.base+(off+len)*rb.esz,zn⟩:=by
      rw[GK];by_cases h0:es=[]<;>grind
     cases ex with
     |true=>
      have hlc:=h4 rfl;simp only[zb]at e;by_cases hnil:new=[]
      ·subst hnil;simp at e;subst e;refine AC s ?_ (.own (M:=M) μ j off len rb hr hcap);have:=Cc (P:=P) (w:=w) (ty:=ty) I m ⟨rb.b,rb.base+off*rb.esz,zn⟩ a len (rb.cap-off) 0 c [] (by omega) (λh=>absurd rfl h) (λ_=>rfl);simpa[storeCells]using this
      rw[show new.isEmpty=zf by grind,zj]at e;cases o:ad (off+len+new.length) es.length with
      |true=>
       simp only[o,zb]at e;replace e:=Bl e;obtain⟨hfz,e⟩:=e;obtain⟨h',hset,rfl⟩:=AA e;subst hfz;simp only[bF]at o;obtain⟨w',J,F,G⟩:=FW (P:=P) s hr hb hf (λC=>Y (by grind)) hol (by omega) (λ_=>o) (by grind) hset;refine⟨M,μ,w',_,?_,F,G,.own (M:=M) μ j off (len+new.length) rb hr (by omega)⟩;have:=Cc (P:=P) (w:=w) (ty:=ty) I m ⟨rb.b,rb.base+off*rb.esz,zn⟩ a len (rb.cap-off) new.length c news (by omega) hn1 hn2
       grind [Sem.run_bind,Result.andThen,Sem.run_pure]
      |false=>
       simp only[o,zj]at e;obtain⟨h',l,rfl⟩:=AA e
       have hlt:es.length<off+len+new.length:=by
        grind [cq]
       have C:new≠[]:=by omega
       obtain⟨w',arr,rest,cap,U,W,X,g4,g5,g6,g7,g8⟩:=H4 (ty:=ty) (c:=c) (sCap:=rb.cap-off) I u N O S d hO A (by grind) (by omega) C (by omega) K;obtain⟨μ',J,F,G⟩:=BY s d W (by simpa using X) (by grind) l g5 g6 g7 g8;rw[hol2]at U;exact⟨M,μ',w',_,by simp only[Sem.run_bind,U,Result.andThen,Sem.run_pure],J,F,G _ (by grind)⟩
     |false=>
      simp only[zj]at e;replace e:=Ad e;obtain⟨hc,e⟩:=e;simp only[ac,bq,bG]at hc;obtain⟨⟨B,rfl⟩,hlp⟩:=hc;split at e
      ·rename_i h1' f;obtain⟨h',l,rfl⟩:=AA e;obtain⟨d1,d2⟩:=Hp.get_set f;obtain⟨n1,n2,n3⟩:=Hp.get_new l;have hid:id≠j:=by intro e;subst e;rw[d1,zy rfl]at n1;cases n1
       have hgid:h.get id=zn:=by rw[d1,zx hid]at n1;exact n1
       have hene:es≠[]:=by intro h;subst h;simp at B;omega
       by_cases D:len+new.length<=rb.cap
       ·have g:∃ h2,h.set j (.row (BH es len new) zf fz)=zo h2:=by
         unfold Hp.set at f ⊢;cases hj:Nat.blt j (j+1)with
         |true=>exact⟨_,rfl⟩
         |false=>rw[hj]at f;cases f
        obtain⟨h2,g⟩:=g;obtain⟨w',J,F,G⟩:=FW (P:=P) s hr hb hf (λ_=>Y hene) (by omega) D (by intro h;cases h) (λ_=>B) g;obtain⟨t1,t2⟩:=Hp.get_set g
        have AG:BH es len new=es++new:=by
         unfold BH;rw[B];simp
        have hR:=F.rename (j:=j) (id:=id) (h':=h') (b:=.row (es++new) zf fz) (by rw[t1,zy rfl,AG]) hr trivial (by grind) (λk=>by
         rw[n2,d1,t1];by_cases e1:k=id
         ·rw[zy e1,zy e1]
         ·rw[zx e1,zx e1];split<;>rfl)
        refine⟨M,_,w',_,?_,hR.1,G.trans hR.2,.own (M:=M) _ id 0 (len+new.length) rb (by simp[DW]) (by omega)⟩;have:=Cc (P:=P) (w:=w) (ty:=ty) I m ⟨rb.b,rb.base+0*rb.esz,zn⟩ a len (rb.cap-0) new.length c news (by omega) hn1 hn2;rw[haddr,aO,J]at this;simp only[Sem.run_bind,this,Result.andThen,Sem.run_pure]
       ·have sD:=s.update (w':=w) hb hr trivial d1 (λ_ _=>rfl) rfl trivial (λa v hm ha=>⟨(s.mem a v hm).2,trivial⟩);have C:new≠[]:=by intro h;subst h;simp at D;omega
        have htk:(es.drop 0).take len=es:=by rw[B];simp
        rw[htk]at hO;obtain⟨w',arr,rest,cap,U,W,X,g4,g5,g6,g7,g8⟩:=H4 (ty:=ty) (c:=c) (sCap:=rb.cap-0) I u N O S d hO A (by intro h;cases h) (by omega) C (by omega) K;obtain⟨μ',J,F,G⟩:=BY sD d W (by simpa using X) (by simpa using g4) l g5 g6 g7 g8;rw[<- B]at U;exact⟨M,μ',w',_,by simp only[Sem.run_bind,U,Result.andThen,Sem.run_pure],J,F,G _ (by rw[bS];omega)⟩
      ·cases e
    ·cases e
   ·cases e
  ·cases e
 ·cases e
end
end
section
variable[Gl]
section
variable{P:Program}{M:Al}{μ:Mu}{h:Hp}{w:World}
theorem EG{g : Nat}{fn : Func}{vs : Array Value}(hg : P.funcs[g]? = some fn)(hc : (fn.body.isSome && !(fn.name == "runtime.NumGoroutine")) = true) :
  (callFunc g vs).run P w=.ok (.enter g vs) w /\ ∃ c,fn.body=zo c:=by
 simp only[ac,Bool.not_eq_true']at hc;obtain⟨c,hb⟩:=Option.isSome_iff_exists.1 hc.1;refine⟨?_,c,hb⟩;simp only[callFunc,Sem.run_bind,run_program,Result.andThen,hg,hc.2,hb];simp
theorem SA{g:Nat}{args:List PV}{r:R}(e:(match P.funcs[g]? with
  | some fn => bif fn.body.isSome && !(fn.name == "runtime.NumGoroutine") then some (R.call g args) else none
  | none => none) = some r) : r = .call g args ∧ ∃ fn, P.funcs[g]? = some fn ∧ (fn.body.isSome && !(fn.name == "runtime.NumGoroutine")) = true := by
 split at e
 ·rename_i fn hfn;replace e:=Ad e;obtain⟨hc,e⟩:=e;cases e;exact⟨rfl,fn,hfn,hc⟩
 ·cases e
theorem NS{g : Nat}{args : List PV}{r : R}(e : (bif (match P.funcs[g]? with | some fn => fn.body.isSome && !(fn.name == "runtime.NumGoroutine") | none => false) then some (R.call g args) else none) = some r) :
  r = .call g args ∧ ∃ fn, P.funcs[g]? = some fn ∧ (fn.body.isSome && !(fn.name == "runtime.NumGoroutine")) = true := by
 replace e:=Ad e;obtain⟨hc,e⟩:=e;split at hc
 ·rename_i fn hfn;cases e;exact⟨rfl,fn,hfn,hc⟩
 ·cases hc
theorem FL{f:Fn}{first cap args:List PV}{vf vc va:List Value}(hf:RepL M μ first vf)(hc:RepL M μ cap vc)(ha:RepL M μ args va){r:R}(e:CC P f first cap args=zo r) :
  Br P M μ w ((invoke (.fn f vc.toArray) (vf++va).toArray).run P w) r /\ ∃ g as,r=.call g as:=by
 unfold CC at e;split at e
 ·rename_i g;obtain⟨rfl,fn,hfn,hok⟩:=SA e;obtain⟨h1,c,h2⟩:=EG (w:=w) (vs:=((vf++va)++vc).toArray) hfn hok;refine⟨⟨(vf++va)++vc,?_,(hf.append ha).append hc,fn,c,hfn,h2⟩,_,_,rfl⟩;simpa[invoke]using h1
 ·rename_i name;split at e
  ·rename_i t v rest heq;have hall:=hf.append ha;rw[heq]at hall;obtain⟨x,ws,hws,hx,hrest⟩:=hall.cons_inv;cases hx with
   |ifc _ _ _ xv hxv=>
   split at e
   ·rename_i i hi;split at e
    ·rename_i m hm
     have meth : ∀ g pr, m.path.isEmpty = true → m.func = some (g, pr) → (receiverAt t (.val xv) pr (some ((name.splitOn ".").getLastD name))).run P w = .ok xv w →
       (invoke (.fn (.method name) vc.toArray) (vf++va).toArray).run P w=(callFunc g (xv::ws).toArray).run P w:=by
      intro g pr hpath hfun hrec;rw[hws];have hp2:m.path.toList=[]:=by simpa[Array.isEmpty_iff]using hpath
      have hm1:(method ((P.types.size+Made.depth)) t xv name).run P w=.ok (g,xv) w:=by
       have hpos:0<Made.depth:=by decide
       have hne:P.types.size+Made.depth=(P.types.size+Made.depth-1)+1:=by omega
       rw[hne];unfold method;simp only[Sem.run_bind,FJ hi,Result.andThen,hm,hp2,follow,Sem.run_pure,hfun,hpath,if_true,hrec]
      simp[invoke,callMethod,hm1]
     split at e
     ·rename_i g el hpath hfun hu;obtain⟨rfl,fn,hfn,hok⟩:=NS e;obtain⟨h1,c,h2⟩:=EG (w:=w) (vs:=(xv::ws).toArray) hfn hok;refine⟨⟨xv::ws,?_,RepL.cons hxv hrest,fn,c,hfn,h2⟩,_,_,rfl⟩;rw[meth g zt hpath hfun (by simp[receiverAt,AF hu,Place.get]),h1]
     ·cases e
     ·rename_i g d hnp hpath hfun hu;obtain⟨rfl,fn,hfn,hok⟩:=NS e;obtain⟨h1,c,h2⟩:=EG (w:=w) (vs:=(xv::ws).toArray) hfn hok;refine⟨⟨xv::ws,?_,RepL.cons hxv hrest,fn,c,hfn,h2⟩,_,_,rfl⟩;rw[meth g zf hpath hfun ?_,h1]
      have:∀ el,d ≠ .pointer el:=by
       intro el hd;subst hd
       first|exact hnp _ _ hfun hu|exact hnp _ _ rfl rfl|(simp_all)
      cases d<;>first|exact absurd rfl (this _)|simp[receiverAt,AF hu,Place.get]
     ·cases e
    ·cases e
   ·cases e
  ·cases e
 ·cases e
end
end
section
variable[Gl]
section
variable{P:Program}{M:Al}{μ:Mu}{h:Hp}{w:World}
theorem Hc{a:List PV}{vs:List Value}{p:PV}(h:RepL M μ a vs)(e:a=[p]):∃ x,vs=[x]/\Rep M μ p x:=by
 subst e;obtain⟨x,d,rfl,c,b⟩:=h.cons_inv;exact⟨x,by rw[b.nil_inv],c⟩
theorem LC{b:List PV}{vs:List Value}{p q:PV}(h:RepL M μ b vs)(e:b=[p,q]):∃ x y,vs=[x,y]/\Rep M μ p x/\Rep M μ q y:=by
 subst e;obtain⟨x,i,rfl,d,c⟩:=h.cons_inv;obtain⟨y,g,rfl,f,a⟩:=c.cons_inv;exact⟨x,y,by rw[a.nil_inv],d,f⟩
theorem FlatRep.take{n:Nat}{es:List PV}{news:List Value}(b:FlatRep M μ n es news.toArray)(k:Nat):FlatRep M μ n (es.take k) (news.take ((es.take k).length*n)).toArray:=by
 have l:news.length=es.length*n:=by simpa using b.1
 refine⟨?_,λi e a=> ?_,λi e j c a g=> ?_⟩
 ·simp_all
 ·rw[aG]at a;split at a
  ·exact b.2.1 i e a
  ·cases a
 ·have hi:i<(es.take k).length:=(an.1 a).1;rw[aG]at a;split at a
  ·obtain⟨v,d,f⟩:=b.2.2 i e j c a g;refine⟨v,?_,f⟩;have h:j<n:=by rw[<- b.2.1 i e a];grind
   simp only[aQ]at d ⊢;rw[aG,zy ?_]
   ·exact d
   ·have:(i+1)*n<=(es.take k).length*n:=aA _ hi
    grind
  ·cases a
theorem Gp{d:TypeDesc}{k:PV}{j:Value}(h:Rep M μ k j):∀ {es es':List (PV×PV)} {a:List MapEntry} (n:Nat),EntsRep M μ es a->Io d es k=zo es' ->
  (∃ i x,Instr.findNow d j a n=zo (zo (n+i,x))/\i<a.length/\EntsRep M μ es' (a.eraseIdx i)) \/
  (Instr.findNow d j a n=zo zn/\EntsRep M μ es' a)
 |[],es',a,n,hr,e=>by
  cases e;cases a with
  |nil=>exact .inr ⟨rfl,hr⟩
  |cons _ _=>simp[EntsRep]at hr
 |(k1,v1)::es,es',a,n,hr,e=>by
  cases a with
  |nil=>simp[EntsRep]at hr
  |cons b a=>
   obtain⟨c,r⟩:=hr.2 0 k1 v1 b rfl rfl;unfold Io at e;split at e
   ·rename_i hc;cases e;have:=Co hc h c;exact .inl ⟨0,b.val,by simp[Instr.findNow,this.1],by simp,by simpa using hr.tail⟩
   ·rename_i hc;have p:=(Co hc h c).1;split at e
    ·rename_i l q;cases e
     have cons:∀ {l:List (PV×PV)} {g:List MapEntry},EntsRep M μ l g->EntsRep M μ ((k1,v1)::l) (b::g):=by
      intro l g f;refine⟨by simp[f.1],λi k v e t u=> ?_⟩;cases i with
      |zero=>simp_all
      |succ i=>exact f.2 i k v e (by grind) (by grind)
     rcases Gp h (n+1) hr.tail q with⟨i,x,m,o,s⟩|⟨m,o⟩
     ·refine .inl ⟨i+1,x,?_,by grind,by simp_all⟩;simp[Instr.findNow,p,m];omega
     simp_all[Instr.findNow]
    ·cases e
   ·cases e
theorem Na{l:List PV}{vs:List Value}{k:IntKind}(f:Int->Int->Int)(g:Value->Value->Sem Value)(d:∀ k x b y w,(g (.int k x) (.int b y)).run P w=.ok (.int k (f x y)) w) :
  ∀ {m r:Int},RepL M μ l vs->B9 f m l k=zo r->(vs.foldlM g (.int k m)).run P w=.ok (.int k r) w:=by
 induction l generalizing vs with
 |nil=>intro m r a e;cases e;rw[a.nil_inv];simp
 |cons p l j=>
  intro m r a e;cases p with
  |int b y=>
   simp only[B9]at e;replace e:=Ad e;obtain⟨h,e⟩:=e;obtain⟨x,n,rfl,c,i⟩:=a.cons_inv;cases c
   simp_all
  |_=>simp[B9]at e
theorem IL(s:Sim M μ h w){id:Nat}{b:Builtin}{D:Array TypeId}{ty:TypeId}{cs:Array Bool}{args:List PV}{vs:List Value}(J:RepL M μ args vs){r:R}(e:AH P h id b D args=zo r) :
  Br P M μ w ((builtin b D ty cs vs.toArray).run P w) r:=by
 unfold AH at e;split at e
 ·split at e
  ·rename_i x t A;obtain⟨v,rfl,F⟩:=Hc J rfl;have f:D[0]?=zo t:=A;split at e
   ·rename_i kt el j B;split at e
    ·rename_i es E;cases e;cases F with
     |mp _ _ rb hr=>
     obtain⟨r',u,o,g,G,h2,h3⟩:=s.blk j _ E;rw[hr]at u;cases u;refine AC s (x:=.int .i64 es.length) ?_ (.int _ _ _);simp[Builtin.len_,f,AF B,Bv G,h2,goInt]
    ·cases e
   ·rename_i B;cases e;cases F;exact AC s (x:=.int .i64 0) (by simp[Builtin.len_,f,AF B,goInt]) (.int _ _ _)
   ·rename_i n el B;cases e;exact AC s (x:=.int .i64 n) (by simp[Builtin.len_,f,AF B,goInt]) (.int _ _ _)
   ·rename_i B;cases e;cases F;exact AC s (x:=.int .i64 0) (by simp[Builtin.len_,f,AF B,goInt]) (.int _ _ _)
   ·rename_i full es B;cases e;cases F<;>exact AC s (x:=.int .i64 _) (by simp[Builtin.len_,f,AF B,goInt]) (.int _ _ _)
   ·rename_i j off len B;cases e;cases F;exact AC s (x:=.int .i64 len) (by simp[Builtin.len_,f,AF B,goInt]) (.int _ _ _)
   ·rename_i l B;cases e;cases F;exact AC s (x:=.int .i64 _) (by simp[Builtin.len_,f,AF B,goInt]) (.int _ _ _)
   ·cases e
  ·cases e
 ·split at e
  ·rename_i x t A;obtain⟨v,rfl,F⟩:=Hc J rfl;have f:D[0]?=zo t:=A;split at e
   ·rename_i el j off len B;split at e
    ·rename_i es fz E;cases e;cases F with
     |own _ _ _ _ rb hr hcap=>
     obtain⟨r',u,O,ety,G,h2,h3,h4,h5,h6,h7⟩:=s.blk j _ E;rw[hr]at u;cases u;refine AC s (x:=.int .i64 (es.length-off:Nat)) ?_ (.int _ _ _);rw[h4 rfl];simp[Builtin.cap_,f,AF B,goInt]
    ·cases e
   ·rename_i B;cases e;cases F;exact AC s (x:=.int .i64 0) (by simp[Builtin.cap_,f,AF B,goInt]) (.int _ _ _)
   ·cases e
  ·cases e
 ·split at e
  ·rename_i p q t t' hats;replace e:=Ad e;obtain⟨Z,e⟩:=e;have Z:=Nat.eq_of_beq_eq_true Z;subst Z;obtain⟨x,y,rfl,I,N⟩:=LC J rfl;have:D = #[t,t]:=by grind
   subst this;exact R5 s I N e
  ·cases e
 ·split at e
  ·rename_i j off len q t A;obtain⟨x,y,rfl,I,N⟩:=LC J rfl;have f:D[0]?=zo t:=A;split at e
   ·rename_i el es ex new B E hnew;split at e
    ·rename_i L hsz;replace e:=Bl e;obtain⟨hc,e⟩:=e;simp only[af,aq,aW,bq,bF,bG]at hc;obtain⟨⟨⟨hnl,hol⟩,W⟩,S⟩:=hc;obtain⟨h',C,rfl⟩:=AA e;obtain⟨a,c,rfl,hE⟩:=GW s N hnew hnl W;cases I with
     |own _ _ _ _ rb hr hcap=>
     obtain⟨r',u,O,ety,G,h2,h3,h4,h5,h6,h7⟩:=s.blk j _ E;rw[hr]at u;cases u
     have K:es≠[]->rb.esz=L:=by
      intro X;cases es with
      |nil=>simp_all
      |cons e1 es1=>rw[<- h6 0 e1 rfl];simpa[CT]using S
     have hlt:(new.take len).length=cJ new.length len:=by grind
     have Y:∃ news:List Value,FlatRep M μ L (new.take len) news.toArray/\(Builtin.firstCells L (cJ new.length len) (.slice a new.length c)).run P w=.ok news.toArray w:=by
      by_cases h0:new=[]
      ·subst h0;refine⟨[],by simpa using FlatRep.nil,?_⟩;have:cJ ([]:List PV).length len=0:=by simp
       rw[this];cases a with
       |none=>rfl
       |some x=>exact run_firstCells_some w L 0 x 0 c [] (by simp) (by simp_all)
      ·obtain⟨b,news,rfl,x2,x3,x4⟩:=hE h0;refine⟨_,x4.take len,?_⟩;refine run_firstCells_some w L _ b _ c _ ?_ ?_
       ·simp_all
       grind
     obtain⟨news,hf,hfc⟩:=Y;have hlm:(new.take len).length<=len:=by simp;omega
     obtain⟨w',k1,k2,k3⟩:=FW (P:=P) s hr E hf (λX=>K (by
      intro h;simp_all)) (by omega) (by omega) (λ_=>by omega) (by simp_all) C
     refine⟨M,μ,w',.int .i64 (cJ new.length len:Nat),?_,k2,k3,.int _ _ _⟩;simp[builtin,Builtin.copy_,f,AF B,Builtin.lenOf,Ac hsz,hfc,k1,goInt]
    ·cases e
   ·cases e
  ·cases e
 ·split at e
  ·rename_i j t A;obtain⟨v,rfl,F⟩:=Hc J rfl;have f:D[0]?=zo t:=A;split at e
   ·rename_i kt el es B E;obtain⟨h',C,rfl⟩:=AA e;cases F with
    |mp _ _ rb hr=>
    obtain⟨r',u,o,g,G,h2,h3⟩:=s.blk j _ E;rw[hr]at u;cases u;have hS:=s.object (o':=.map #[] g) E hr trivial C G (by simp_all) ⟨_,g,rfl,rfl,λi k v e p q=>by simp at p⟩;have so:=BZ (P:=P) (o':=.map #[] g) G (by simp_all);refine⟨M,μ,_,.tuple #[],?_,hS.1,hS.2,.tup _ _ _ rfl (λi c v hc=>by simp at hc)⟩;simp[builtin,Builtin.clear_,f,AF B,Bv G,so]
   ·cases e
  ·rename_i t A;obtain⟨v,rfl,F⟩:=Hc J rfl;have f:D[0]?=zo t:=A;split at e
   ·rename_i B;cases e;cases F;exact⟨M,μ,w,.tuple #[],by simp[builtin,Builtin.clear_,f,AF B],s,.refl _ _ _,.tup _ _ _ rfl (λi c v hc=>by simp at hc)⟩
   ·cases e
  ·rename_i full t A;obtain⟨v,rfl,F⟩:=Hc J rfl;have f:D[0]?=zo t:=A;split at e
   ·rename_i B;cases e
    have:∃ a cap,v=.slice (zo a) 0 cap:=by
     cases F with
     |lst0 _ _ a cap=>exact⟨_,_,rfl⟩
     |lst=>exact⟨_,_,rfl⟩
    obtain⟨a,cap,rfl⟩:=this;exact⟨M,μ,w,.tuple #[],by simp[builtin,Builtin.clear_,f,AF B],s,.refl _ _ _,.tup _ _ _ rfl (λi c v hc=>by simp at hc)⟩
   ·cases e
  ·rename_i j off len t A;obtain⟨v,rfl,F⟩:=Hc J rfl;have f:D[0]?=zo t:=A;split at e
   ·rename_i el es ex B E;split at e
    ·rename_i L ag z hsz hag hz;split at e
     ·rename_i z1 hz1;replace e:=Bl e;obtain⟨hc,e⟩:=e;simp only[af,aq,bq,bF,bG]at hc;obtain⟨⟨⟨hol,W⟩,S⟩,hzl⟩:=hc;obtain⟨h',C,rfl⟩:=AA e;cases F with
      |own _ _ _ _ rb hr hcap=>
      obtain⟨r',u,O,ety,G,h2,h3,h4,h5,h6,h7⟩:=s.blk j _ E;rw[hr]at u;cases u;obtain⟨zv,i,hi,hiz,hrun,hrz,h1z⟩:=Bb hz M μ w;have hzs:zv.cells.size=L:=by rw[<- hzl];simpa using hrz.1.symm
      obtain⟨news,hn⟩:∃ news,(Builtin.zeroCells zv.cells len).toList=news:=⟨_,rfl⟩
      have hf:FlatRep M μ L (aE len z1) news.toArray:=by
       rw[<- hn,Array.toArray_toList,Builtin.zeroCells,hzs];have:=HF (len:=len) hrz h1z hzl W hz1
       rwa [hzs]at this
      have K:es≠[]->rb.esz=L:=by
       intro X;cases es with
       |nil=>simp_all
       |cons e1 es1=>rw[<- h6 0 e1 rfl];simpa[CT]using S
      obtain⟨w',k1,k2,k3⟩:=FW (P:=P) s hr E (new:=aE len z1) (n:=L) hf
       (λX=>K (by intro h0;subst h0;simp at hol;simp_all)) (by omega) (by simp;omega) (λ_=>by simp;omega) (by simp) C
      refine⟨M,μ,w',.tuple #[],?_,k2,k3,.tup _ _ _ rfl (λi c v hc=>by simp at hc)⟩;cases len with
      |zero=>
       have:news=[]:=by rw[<- hn];simp[Builtin.zeroCells]
       subst this;have:w'=w:=by simpa[storeCells]using k1.symm
       subst this;simp[builtin,Builtin.clear_,f,AF B]
      |succ n=>
       simp[builtin,Builtin.clear_,f,AF B,hrun,hn,k1,Result.andThen]
     ·cases e
    ·cases e
   ·cases e
  ·cases e
 ·split at e
  ·rename_i j k t A;obtain⟨x,y,rfl,I,N⟩:=LC J rfl;have f:D[0]?=zo t:=A;split at e
   ·rename_i kt el es B E;split at e
    ·rename_i d hd;replace e:=Bl e;obtain⟨U,e⟩:=e;have U:Cp d=zt:=by simp_all
     split at e
     ·rename_i es' hdel;obtain⟨h',C,rfl⟩:=AA e;cases I with
      |mp _ _ rb hr=>
      obtain⟨r',u,o,g,G,h2,h3⟩:=s.blk j _ E;rw[hr]at u;cases u;have her:EntsRep M μ es o.toList:=⟨by omega,λi k v e a b=>h3 i k v e a (by grind)⟩;rcases Gp N 0 her hdel with⟨i,xx,a1,a2,a3⟩|⟨a1,a2⟩
      ·have fk:(Instr.findKey kt y o.toList).run P w=.ok (zo (i,xx)) w:=by simp[Instr.findKey,AF hd,a1]
       have hlt:i<o.size:=by omega
       have her2:(o.eraseIdxIfInBounds i).toList=o.toList.eraseIdx i:=by
        simp_all
       have hS:=s.object (o':=.map (o.eraseIdxIfInBounds i) g) E hr trivial C G (by simp_all)
        ⟨_,g,rfl,by have:=a3.1;grind,λi k v e p q=>a3.2 i k v e p (by
         grind)⟩
       have so:=BZ (P:=P) (o':=.map (o.eraseIdxIfInBounds i) g) G (by simp_all);refine⟨M,μ,_,.tuple #[],?_,hS.1,hS.2,.tup _ _ _ rfl (λi c v hc=>by simp at hc)⟩;simp[builtin,Builtin.delete_,f,AF B,Bv G,Bt hd U,fk,so]
      ·have fk:(Instr.findKey kt y o.toList).run P w=.ok zn w:=by simp[Instr.findKey,AF hd,a1]
       have hS:=s.object (o':=.map o g) E hr trivial C G (by simp_all)
        ⟨_,g,rfl,by simpa using a2.1,λi k v e p q=>a2.2 i k v e p (by grind)⟩
       have so:=BZ (P:=P) (o':=.map o g) G (by simp_all);refine⟨M,μ,_,.tuple #[],?_,hS.1,hS.2,.tup _ _ _ rfl (λi c v hc=>by simp at hc)⟩;simp[builtin,Builtin.delete_,f,AF B,Bv G,Bt hd U,fk,so]
     ·cases e
    ·cases e
   ·cases e
  ·cases e
 ·split at e
  ·rename_i k a rest;obtain⟨m,hm,rfl⟩:=AA e;obtain⟨x,ws,rfl,I,Z⟩:=J.cons_inv;cases I;refine AC s (x:=.int k m) ?_ (.int _ _ _);simp only[Builtin.max_];exact Na _ Builtin.max2 (λk x k' y w=>by rfl) Z hm
  ·rename_i a c;cases e;obtain⟨x,y,rfl,I,N⟩:=LC J rfl;cases I with
   |str _ s1=>cases N with
    |str _ s2=>
     refine AC s (x:=.string (if !Op.bytesLess s1.data.toList s2.data.toList then s1 else s2)) ?_ ?_
     ·simp[Builtin.max_,Builtin.max2,Op.stringOp,asBool,ByteArray.toList_eq]
     ·cases E:Op.bytesLess s1.data.toList s2.data.toList
      ·simpa[E]using Rep.str (M:=M) μ s1
      ·simpa[E]using Rep.str (M:=M) μ s2
  ·cases e
 ·split at e
  ·rename_i k a rest;obtain⟨m,hm,rfl⟩:=AA e;obtain⟨x,ws,rfl,I,Z⟩:=J.cons_inv;cases I;refine AC s (x:=.int k m) ?_ (.int _ _ _);simp only[Builtin.min_];exact Na _ Builtin.min2 (λk x k' y w=>by rfl) Z hm
  ·rename_i a c;cases e;obtain⟨x,y,rfl,I,N⟩:=LC J rfl;cases I with
   |str _ s1=>cases N with
    |str _ s2=>
     refine AC s (x:=.string (if Op.bytesLess s1.data.toList s2.data.toList||s1.data.toList == s2.data.toList then s1 else s2)) ?_ ?_
     ·simp[Builtin.min_,Builtin.min2,Op.stringOp,asBool,ByteArray.toList_eq]
     ·cases E:(Op.bytesLess s1.data.toList s2.data.toList||s1.data.toList == s2.data.toList)
      ·simpa[E]using Rep.str (M:=M) μ s2
      ·simpa[E]using Rep.str (M:=M) μ s1
  ·cases e
 ·split at e
  ·rename_i t v;cases e;obtain⟨x,rfl,I⟩:=Hc J rfl;cases I with
   |ifc _ _ _ xv hxv=>
    refine⟨.iface t xv,?_,.ifc _ _ _ _ hxv⟩;rfl
  ·cases e
 ·cases e;rfl
 ·cases e
end
end
section
variable[Gl]
section
variable{P:Program}{M:Al}{μ:Mu}{h:Hp}{w:World}{t:T PV}{nt:Nat}{a:Act}
theorem DH(b:GlOK M)(d:TmpsRep M μ t nt a.tmps){x:Operand}{k:PV->Option R}{r:R}(e:e1 t x k=zo r):∃ p,k p=zo r/\Rep M μ p (a.eval x):=by
 unfold e1 at e;split at e
 ·rename_i p c;exact⟨p,e,CU b d c⟩
 ·cases e
theorem JP(b:GlOK M)(c:TmpsRep M μ t nt a.tmps){x y:Operand}{k:PV->PV->Option R}{r:R}(e:e2 t x y k=zo r):∃ p q,k p q=zo r/\Rep M μ p (a.eval x)/\Rep M μ q (a.eval y):=by
 unfold e2 at e;split at e
 ·rename_i p q d f;exact⟨p,q,e,CU b c d,CU b c f⟩
 ·cases e
theorem PY(b:GlOK M)(c:TmpsRep M μ t nt a.tmps){x y z:Operand}{k:PV->PV->PV->Option R}{r:R}(e:e3 t x y z k=zo r):∃ p q s,k p q s=zo r/\Rep M μ p (a.eval x)/\Rep M μ q (a.eval y)/\Rep M μ s (a.eval z):=by
 unfold e3 at e;split at e
 ·rename_i p q s d f hs;exact⟨p,q,s,e,CU b c d,CU b c f,CU b c hs⟩
 ·cases e
theorem Jz(s:Sim M μ h w){id:Nat}{b:TypeId}{p:PV}{x:Value}(j:Rep M μ p x){r:R}(e:Fc h id p=zo r) :
  Br P M μ w ((do pure (.value (<- Instr.box b x)):Sem Next).run P w) r:=by
 unfold Fc at e;split at e
 ·cases e
 ·rename_i a;obtain⟨h',d,rfl⟩:=AA e;obtain⟨f,c⟩:=j.cells (λcs hc=>a cs hc);have:=Jc (P:=P) s (ty:=b) f (λi v g=>c i v g) d;simpa[Instr.box,newVar]using this
theorem PK(s:Sim M μ h w){id:Nat}{a:TypeId}{r:R}(e:Cm P h id a=zo r) :
  Br P M μ w ((do pure (.value (<- Instr.alloc a zt (.tuple #[]))):Sem Next).run P w) r:=by
 unfold Cm at e;split at e
 ·rename_i cs j;obtain⟨h',f,rfl⟩:=AA e;obtain⟨k,i,hi,d,b,g,c⟩:=Bb j M μ w;have:=Jc (P:=P) s (ty:=a) g (Kj c) f
  simp_all[Instr.alloc,newVar]
 ·cases e
theorem Ov(s:Sim M μ h w){id:Nat}{ty:TypeId}{r:R}(e:(h.new id (.mp [])).map (λh=>R.val (.mp id) h)=zo r) :
  Br P M μ w ((do pure (.value (<- Instr.makeMap ty zn)):Sem Next).run P w) r:=by
 obtain⟨h',f,rfl⟩:=AA e;obtain⟨a,b,_⟩:=Hp.get_new f
 have hμ:μ id=zn:=by
  cases d:μ id with
  |none=>rfl
  |some x=>exact absurd a (s.use id x d).1
 have hS:=s.fresh (w':=w.alloc (.map #[] 0)) (r:=⟨w.heap.size,0,0,0⟩) (o:=.map #[] 0) a b rfl rfl
  ⟨#[],0,rfl,rfl,λi k v e c=>by simp at c⟩
 refine⟨M,DW μ id ⟨w.heap.size,0,0,0⟩,w.alloc (.map #[] 0),.map (zo w.heap.size),?_,hS.1,Grow.newBlk hμ rfl rfl rfl rfl ⟨rfl,ab _⟩,?_⟩
 ·rfl
 ·exact .mp _ _ ⟨w.heap.size,0,0,0⟩ (by simp[DW])
theorem RZ(s:Sim M μ h w){c p q:PV}{vc x y:Value}(hc:Rep M μ c vc)(a:Rep M μ p x)(b:Rep M μ q y){r:R}(e:Dk h c p q=zo r) :
  Br P M μ w ((do pure (.value (if <- asBool vc then x else y)):Sem Next).run P w) r:=by
 unfold Dk at e;split at e
 ·cases e;cases hc;exact⟨M,μ,w,x,by rfl,s,.refl _ _ _,a⟩
 ·cases e;cases hc;exact⟨M,μ,w,y,by rfl,s,.refl _ _ _,b⟩
 ·cases e
theorem Lg(s:Sim M μ h w){f:Fn}{p q:List PV}{x y:Array Value}(g:RepL M μ p x.toList)(j:RepL M μ q y.toList){r:R}(e:BF h f p q=zo r) :
  Br P M μ w ((do pure (.value (<- Instr.makeFunc f x y)):Sem Next).run P w) r:=by
 unfold BF at e;split at e
 ·cases e
 ·rename_i d;cases e;exact AC s (x:=.func f x y) (by rfl) (.fn _ _ _ _ _ _ (λl k=>d l k) (by simpa using g.1) (by simpa using j.1) (λi c v a b=>g.2 i c v a (by grind)) (λi c v a b=>j.2 i c v a (by grind)))
theorem QG{p:PV}{x:Value}(a:Rep M μ p x){r:R}(e:J7 p=zo r):Br P M μ w ((do pure (.value (<- Instr.panic x)):Sem Next).run P w) r:=by
 unfold J7 at e;split at e
 ·cases e;cases a with
  |ifc _ _ _ xv hxv=>exact⟨.iface _ xv,by rfl,.ifc _ _ _ _ hxv⟩
 ·cases e
theorem OZ(s:Sim M μ h w)(n:TmpsRep M μ t nt a.tmps){id:Nat}{o:Oper}{r:R}(e:AP P t h id o=zo r):Br P M μ w ((execOp a.eval o).run P w) r:=by
 unfold AP at e;unfold execOp;split at e
 ·rename_i x d;rw[d];obtain⟨v,L,rfl⟩:=Di e;exact⟨M,μ,w,_,rfl,s,.refl _ _ _,CU s.glb n L⟩
 ·rename_i x d;rw[d];obtain⟨v,L,rfl⟩:=Di e;exact⟨M,μ,w,_,rfl,s,.refl _ _ _,CU s.glb n L⟩
 ·rename_i c x y d;rw[d];obtain⟨p,q,u,e,j,A,D⟩:=PY s.glb n e;exact RZ s j A D e
 ·rename_i W d;rw[d];exact PK s e
 ·rename_i W x d;rw[d];obtain⟨p,e,j⟩:=DH s.glb n e;exact Jz s j e
 ·rename_i ty I d;rw[d];split at e
  ·rename_i ps G;refine PL s ?_ e;simpa using GB s.glb n G
  ·cases e
 ·rename_i ty len I d;rw[d];split at e
  ·rename_i ps G;refine I3 s ?_ e;simpa using GB s.glb n G
  ·cases e
 ·rename_i ty x d;rw[d];obtain⟨p,e,j⟩:=DH s.glb n e;exact RO s j e
 ·rename_i ty x y d;rw[d];obtain⟨p,q,e,j,A⟩:=JP s.glb n e;exact Qk s j A e
 ·rename_i x d;rw[d];obtain⟨p,e,j⟩:=DH s.glb n e;exact SR s j e
 ·rename_i op ty x y yt d;rw[d];obtain⟨p,q,e,j,A⟩:=JP s.glb n e;exact R9 s j A e
 ·rename_i op ty x d;rw[d];obtain⟨p,e,j⟩:=DH s.glb n e;exact Tf s j e
 ·rename_i src U x d;rw[d];obtain⟨p,e,j⟩:=DH s.glb n e;exact MX s j e
 ·rename_i ty x d;rw[d];obtain⟨p,e,j⟩:=DH s.glb n e;exact SJ s j e
 ·rename_i f first cap d
  rw[d];split at e
  ·rename_i p q Z hq;exact Lg s (by simpa using IX s.glb n Z) (by simpa using IX s.glb n hq) e
  ·cases e
 ·rename_i ty d;rw[d];exact Ov s e
 ·rename_i ty l c d;rw[d];obtain⟨p,q,e,j,A⟩:=JP s.glb n e;exact RR s j A e
 ·rename_i ty x lo hi mx d;rw[d];split at e
  ·rename_i l u m X hu Y;obtain⟨p,e,j⟩:=DH s.glb n e;exact Qj s j (Mh s.glb n X) (Mh s.glb n hu) (Mh s.glb n Y) e
  ·cases e
 ·rename_i sty x f d;rw[d];obtain⟨p,e,j⟩:=DH s.glb n e;exact KE s j e
 ·rename_i ty x f d;rw[d];obtain⟨p,e,j⟩:=DH s.glb n e;exact Pg s j e
 ·rename_i ty x i d;rw[d];obtain⟨p,q,e,j,A⟩:=JP s.glb n e;exact KQ s j A e
 ·rename_i ty x i d;rw[d];obtain⟨p,q,e,j,A⟩:=JP s.glb n e;exact Ps s j A e
 ·rename_i ty x k ok d;rw[d];obtain⟨p,q,e,j,A⟩:=JP s.glb n e;exact Oq s j A e
 ·rename_i ty x k v d;rw[d];obtain⟨p,q,u,e,j,A,D⟩:=PY s.glb n e;exact Gm s j A D e
 ·rename_i ty x k v d;rw[d];obtain⟨p,q,u,e,j,A,D⟩:=PY s.glb n e;exact Gm s j A D e
 ·rename_i x xt ty ok d;rw[d];obtain⟨p,e,j⟩:=DH s.glb n e;exact OL s j e
 ·rename_i x i d;rw[d];obtain⟨p,e,j⟩:=DH s.glb n e;exact Ml s j e
 ·rename_i x d;rw[d];obtain⟨p,e,j⟩:=DH s.glb n e;exact QG j e
 ·rename_i c d;rw[d];split at e
  ·rename_i args C;have F:RepL M μ args (c.args.toList.map a.eval):=IX s.glb n C;have B:c.args.map a.eval=(c.args.toList.map a.eval).toArray:=by grind
   split at e
   ·rename_i b z;simp only[resolve,z,Sem.run_bind,Sem.run_pure,Result.andThen,invoke];rw[B];exact IL s F e
   ·rename_i f z;obtain⟨p,e,j⟩:=DH s.glb n e;unfold H3 at e;split at e
    ·rename_i fn x y;generalize J:a.eval f=v at j;cases j with
     |fn _ _ _ _ va vb hf hla hlb A D=>
      obtain⟨O,g,as,k2⟩:=FL (w:=w) (vf:=va.toList) (vc:=vb.toList) ⟨by omega,λi c v p q=>A i c v p (by grind)⟩ ⟨by omega,λi c v p q=>D i c v p (by grind)⟩ F e;have N:(va.toList++c.args.toList.map a.eval).toArray=va++(c.args.toList.map a.eval).toArray:=by simp_all
      simp_all[resolve,Deferred.ofValue]
    ·rename_i l;cases e;generalize J:a.eval f=v at j;cases j with
     |yl _ _ rb hr=>
      refine⟨c.args.toList.map a.eval,rb,hr,?_,F⟩
      simp_all[resolve,Deferred.ofValue,invoke]
    ·cases e
   ·rename_i K S z;obtain⟨p,e,j⟩:=DH s.glb n e;obtain⟨O,_⟩:=FL (w:=w) (vf:=[a.eval K]) (vc:=[]) (RepL.cons j (RepL.nil _ _)) (RepL.nil _ _) F e;simpa[resolve,z,B]using O
  ·cases e
 ·rename_i c d;rw[d];split at e
  ·rename_i args C;have F:RepL M μ args (c.args.toList.map a.eval):=IX s.glb n C;have B:c.args.map a.eval=(c.args.toList.map a.eval).toArray:=by grind
   split at e
   ·rename_i b z;cases e;have E:∃ cs,(resolve a.eval c o.type).run P w=.ok { target:=.builtin b c.argTypes o.type cs,args:=c.args.map a.eval } w:=⟨_,by simp only[resolve,z];rfl⟩;obtain⟨cs,E⟩:=E;exact⟨{ target:=.builtin b c.argTypes o.type cs,args:=c.args.map a.eval },by simp_all,cs,_,rfl,B,F⟩
   ·rename_i f z;obtain⟨p,e,j⟩:=DH s.glb n e;split at e
    ·rename_i g x y;cases e;generalize J:a.eval f=v at j;cases j with
     |fn _ _ _ _ va vb hf hla hlb A D=>
      exact⟨{ target:=.fn (.func g) vb,args:=va++c.args.map a.eval },by simp_all[resolve,Deferred.ofValue],_,_,_,va.toList,vb.toList,c.args.toList.map a.eval,rfl,hf,by simp,by simp[B],
       ⟨by omega,λi c v p q=>A i c v p (by grind)⟩,⟨by omega,λi c v p q=>D i c v p (by grind)⟩,F⟩
    ·cases e
   ·cases e
  ·cases e
 ·cases e
end
end
section
variable[Gl]
section
variable{P:Program}{M:Al}{μ:Mu}{h:Hp}{w:World}
mutual
theorem D0:∀ {q:PV},flat q=zt -> ∀ {M0:Al} {μ0:Mu} {v:Value} (M:Al) (μ:Mu),Rep M0 μ0 q v->Rep M μ q v
 |.agg cs,hf,M0,μ0,v,M,μ,hr=>by
  cases hr with
  |agg _ _ vs hl h1 h=>
   have:=HH (q:=cs) (by simpa[flat]using hf) M μ (M0:=M0) (μ0:=μ0);exact .agg _ _ _ hl h1 λi c v a b=>this i c v a (h i c v a b)
 |.tup cs,hf,M0,μ0,v,M,μ,hr=>by
  cases hr with
  |tup _ _ vs hl h=>
   have:=HH (q:=cs) (by simpa[flat]using hf) M μ (M0:=M0) (μ0:=μ0);exact .tup _ _ _ hl λi c v a b=>this i c v a (h i c v a b)
 |.ifc t x,hf,M0,μ0,v,M,μ,hr=>by
  cases hr with
  |ifc _ _ _ y hy=>exact .ifc _ _ _ _ (D0 (by simpa[flat]using hf) M μ hy)
 |.lst full es,hf,M0,μ0,v,M,μ,hr=>by
  cases hr with
  |lst0 _ _ a cap hz=>exact .lst0 _ _ _ _ hz
  |lst _ _ _ b off esz cap x h1 h2 h3 h4 h5 h6=>
   have:es=[]:=by simpa[flat]using hf
   subst this;exact .lst _ _ _ _ _ esz _ x h1 h2 h3 (λi e j c d=>by simp at d) h5 (λi e j c d=>by simp at d)
 |.bool b,_,_,_,_,M,μ,hr=>by cases hr;constructor
 |.int k n,_,_,_,_,M,μ,hr=>by cases hr;constructor
 |.str l,_,_,_,_,M,μ,hr=>by cases hr;constructor
 |.nilp,_,_,_,_,M,μ,hr=>by cases hr;constructor
 |.nils,_,_,_,_,M,μ,hr=>by cases hr;constructor
 |.nilm,_,_,_,_,M,μ,hr=>by cases hr;constructor
 |.nilf,_,_,_,_,M,μ,hr=>by cases hr;constructor
 |.nili,_,_,_,_,M,μ,hr=>by cases hr;constructor
 |.own _ _ _,hf,_,_,_,_,_,_=>by simp[flat]at hf
 |.ptr _ _,hf,_,_,_,_,_,_=>by simp[flat]at hf
 |.ept _ _ _,hf,_,_,_,_,_,_=>by simp[flat]at hf
 |.view _,hf,_,_,_,_,_,_=>by simp[flat]at hf
 |.fn _ _ _,hf,_,_,_,_,_,_=>by simp[flat]at hf
 |.yl _,hf,_,_,_,_,_,_=>by simp[flat]at hf
 |.mp _,hf,_,_,_,_,_,_=>by simp[flat]at hf
 |.gk _,hf,_,_,_,_,_,_=>by simp[flat]at hf
 |.adr _ _,_,_,_,_,M,μ,hr=>by cases hr;constructor
theorem HH:∀ {q:List PV},BS q=zt -> ∀ {M0:Al} {μ0:Mu} (M:Al) (μ:Mu) (i:Nat) (c:PV) (v:Value),q[i]?=zo c->Rep M0 μ0 c v->Rep M μ c v
 |[],_,_,_,_,_,i,c,v,hc,_=>by simp at hc
 |p::ps,hf,M0,μ0,M,μ,i,c,v,hc,hr=>by
  simp[BS]at hf;cases i with
  |zero=>simp at hc;subst hc;exact D0 hf.1 M μ hr
  |succ i=>exact HH hf.2 M μ i c v (by simpa using hc) hr
end
theorem Hp.get_lf(nx id:Nat):Hp.get { m:=.lf,nx:=nx } id=zn:=rfl
theorem Sim.empty(s:Sim M μ h w)(L:List Nat):Sim (Hj M h μ w L) mu0 { m:=.lf,nx:=0 } w where
 glb:=s.glb.mono (C3 L)
 mem a v hm:=KI s hm
 blk id b hb:=by rw[Hp.get_lf]at hb;cases hb
 use id r hr:=by simp[mu0]at hr
 inj id id' r r' b b' hr:=by simp[mu0]at hr
 sep id r b a v hb:=by rw[Hp.get_lf]at hb;cases hb
theorem Sim.world{e:World}(s:Sim M μ h w)(hs:w.heap.size<=e.heap.size)(f:∀ b,b<w.heap.size->e.heap[b]?=w.heap[b]?):Sim M μ h e where
 glb:=s.glb
 mem a v hm:=⟨(s.mem a v hm).1,by rw[cell?_congr (f _ (s.mem_lt hm))];exact(s.mem a v hm).2⟩
 blk id b hb:=by
  obtain⟨r,c,d⟩:=s.blk id b hb;exact⟨r,c,by rw[f _ (s.use id r c).2];exact d⟩
 use id r c:=⟨(s.use id r c).1,Nat.lt_of_lt_of_le (s.use id r c).2 hs⟩
 inj:=s.inj
 sep:=s.sep
section
variable{L:List Nat}{M2:Al}{μ2:Mu}{h2:Hp}{w2:World}
theorem Grow.keeps{M0:Al}(g:Grow M0 mu0 w M2 μ2 w2):∀ b,b<w.heap.size->w2.heap[b]?=w.heap[b]?:=λb a=>g.keep b a λid r c=>by simp[mu0]at c
theorem HK(s:Sim M μ h w){M0:Al}(g:Grow M0 mu0 w M2 μ2 w2):Sim M μ h w2/\Grow M μ w M μ w2:=
 ⟨s.world g.size g.keeps,⟨.refl _,.refl _,λ_ _ h=>.inl h,λid r h=>.inl ⟨id,r,h,rfl⟩,g.size,λb a _=>g.keeps b a,g.os,g.output,g.tape,g.dr⟩⟩
theorem La(s:Sim M μ h w)(s2:Sim M2 μ2 h2 w2)(g:Grow (Hj M h μ w L) mu0 w M2 μ2 w2){m:Hp}(D:freeze h L=zo m)(l:List Nat) :
  ∃ e,Sim e μ m w2/\Grow M μ w e μ w2/\MLe (Hj M2 h2 μ2 w2 l) e/\(∀ a v,e a=zo v->w.heap.size<=a.block->Hj M2 h2 μ2 w2 l a=zo v):=by
 obtain⟨i,u,x,I,_⟩:=Bi L s D;have d:Sim i μ m w2:=x.world g.size g.keeps
 let j:=Hj M2 h2 μ2 w2 l
 let e:Al:=λa=>if a.block<w.heap.size then i a else j a
 have G:∀ a v,j a=zo v->a.block<w.heap.size->i a=zo v:=by
  intro a v c E;rcases De c with c|⟨⟨id,_,r,b,k,_,C,_⟩,_⟩
  ·rcases g.only a v c with c|⟨id,r,k,_⟩|hge
   ·exact u a v c
   ·simp[mu0]at k
   ·omega
  ·rcases g.fresh id r k with⟨F,J,p,_⟩|hge
   ·simp[mu0]at p
   ·omega
 have q:MLe j e:=by
  intro a v c
  grind
 have f:MLe i e:=by
  intro a v c;show(if a.block<w.heap.size then i a else j a)=zo v
  rw[zy (x.mem_lt c)];exact c
 have inv:∀ a v,e a=zo v->(a.block<w.heap.size/\i a=zo v)\/(w.heap.size<=a.block/\j a=zo v):=by
  grind
 refine⟨e,⟨d.glb.mono f,?_,?_,d.use,d.inj,?_⟩,⟨(C3 L).trans (u.trans f),.refl _,?_,λid r h=>.inl ⟨id,r,h,rfl⟩,g.size,λb o _=>g.keeps b o,g.os,g.output,g.tape,g.dr⟩,q,?_⟩
 ·intro a v c;rcases inv a v c with⟨_,c⟩|⟨_,c⟩
  ·exact d.mem a v c
  ·exact KI s2 c
 ·intro id b o;obtain⟨r,k,n⟩:=d.blk id b o;exact⟨r,k,n.mono f (.refl _)⟩
 ·intro id r b a v y t z A B;rcases inv a v A with⟨_,c⟩|⟨hge,c⟩
  ·exact d.sep id r b a v y t z c B
  ·have:=(s.use id r t).2;omega
 all_goals grind
theorem Ol(s:Sim M μ h w)(s2:Sim M2 μ2 h2 w2)(g:Grow (Hj M h μ w L) mu0 w M2 μ2 w2){f:Hp}(i:freeze h L=zo f){n:Nat}{p q:PV}{l:List Nat}{v:Value}(e:AW h2 n p=zo (q,l))(j:Rep M2 μ2 p v) :
  ∃ d,Sim d μ f w2/\Grow M μ w d μ w2/\Rep d μ q v:=by
 obtain⟨d,a,b,c,_⟩:=La s s2 g i l;exact⟨d,a,b,(GE s2 l n p q l v e j (λ_ h=>h)).mono c (.mu0 _)⟩
theorem Sim.adopt{id:Nat}{b:Blk}{r:Bk}{h':Hp}(s:Sim M μ h w)(G:h.get id=zn)(u:∀ k,h'.get k=if k=id then zo b else h.get k)(F:r.b<w.heap.size)
  (I:∀ k c,μ k=zo c->c.b≠r.b) (A:∀ a v,M a=zo v->a.block≠r.b) (E:BlkAt M (DW μ id r) r w.heap[r.b]? b):Sim M (DW μ id r) h' w/\μ id=zn:=by
 have hμ:μ id=zn:=by
  cases A:μ id with
  |none=>rfl
  |some x=>exact absurd G (s.use id x A).1
 have o:=Dq (r:=r) hμ
 have f:∀ k x,DW μ id r k=zo x->(k=id/\x=r)\/(k≠id/\μ k=zo x):=by
  intro k x d;unfold DW at d
  grind
 refine⟨⟨s.glb,s.mem,?_,?_,?_,?_⟩,hμ⟩
 ·intro k m d;rw[u]at d;by_cases e:k=id
  ·simp_all[zy,DW]
  ·rw[zx e]at d;obtain⟨c,y,n⟩:=s.blk k m d;exact⟨c,o _ _ y,n.mono (.refl _) o⟩
 ·intro k c d;rcases f k c d with⟨e,rfl⟩|⟨e,d⟩
  ·simp_all
  ·have:=s.use k c d
   simp_all
 ·intro k B c p m t g i j l q C D;rw[u]at j l;rcases f k c g with⟨e,J⟩|⟨e,g⟩
  ·grind
  ·rcases f B p i with⟨z,K⟩|⟨z,i⟩
   ·grind
   ·rw[zx e]at j;rw[zx z]at l;exact s.inj k B c p m t g i j l q C D
 ·intro k c m a v g i j l q;rw[u]at g;rcases f k c i with⟨e,J⟩|⟨e,i⟩
  ·simp_all
  ·rw[zx e]at g;exact s.sep k c m a v g i j l q
theorem HG:∀ {a:List PV},BS a=zt -> ∀ (i:Nat) (p:PV),a[i]?=zo p->flat p=zt
 |[],_,i,p,hp=>by simp at hp
 |q::a,hf,i,p,hp=>by
  simp[BS]at hf;cases i with
  |zero=>simp_all
  |succ i=>exact HG hf.2 i p (by grind)
theorem Mn{p:PV}(a:flat p=zt):∀ (j:Nat) (c:PV),p.cells[j]?=zo c->flat c=zt:=by
 intro j c hc;cases p with
 |agg cs=>exact HG (show BS cs=zt by simpa[flat]using a) j c hc
 |tup cs=>simp[PV.cells]at hc
 |_=>
  simp only[PV.cells]at hc;cases j with
  |zero=>simp only[a8,Option.some.injEq]at hc;subst hc;exact a
  |succ j=>simp at hc
theorem CJ(s:Sim M μ h w)(s2:Sim M2 μ2 h2 w2)(g:Grow (Hj M h μ w L) mu0 w M2 μ2 w2){id:Nat}{r q:PV}{x:Value}{h':Hp}(Y:Rep M2 μ2 r x)(e:Ag id L h h2 r=zo (q,h')) :
  ∃ f μ',Sim f μ' h' w2/\Grow M μ w f μ' w2/\Rep f μ' q x:=by
 unfold Ag at e;split at e
 ·rename_i len X ex n;split at n
  ·rename_i j len';split at n
   ·rename_i es ex' hb;split at n
    ·rename_i qs' J hp;replace n:=Bl n;obtain⟨hj,n⟩:=n;cases n;split at e
     ·rename_i hh E F;obtain⟨h3,P,e⟩:=AA e;cases e;obtain⟨t,u,_⟩:=Hp.get_new P;cases Y with
      |own _ _ _ _ rj hr hcap=>
      obtain⟨r',S,arr,ety,b1,b2,b3,b4,b5,b6,b7⟩:=s2.blk j _ hb;rw[hr]at S;cases S
      have hge:w.heap.size<=rj.b:=by
       rcases g.fresh j rj hr with⟨D,r0,C,_⟩|hge
       ·simp[mu0]at C
       ·exact hge
      have hlt:rj.b<w2.heap.size:=(s2.use j rj hr).2;obtain⟨k1,k2⟩:=Gv hp
      have Z:∀ (a:Addr) (v:Value),Hj M2 h2 μ2 w2 J a=zo v->a.block≠rj.b:=by
       intro a v A B;rcases De A with A|⟨⟨D,hid,r0,b0,C,hb0,hab0,_,hfc⟩,_⟩
       ·have:=s2.sep j rj _ a v hb hr trivial A B;simp[LA]at this
       ·have:=s2.inj D j r0 rj b0 _ C hr hb0 hb (by cases b0<;>first|trivial|exact hfc.elim) trivial (by omega)
        subst this;rw[List.any_eq_false]at hj;exact hj D hid (by simp)
      have cellsOf:∀ (i:Nat) (d:PV) (m:Nat) (c:PV) (v:Value),X[i]?=zo d->d.cells[m]?=zo c->arr[rj.base+i*rj.esz+m]?=zo v->v.oneCell'=zt/\Rep (Hj M2 h2 μ2 w2 J) mu0 c v:=by
       intro i d m c v hi n A;have o:i<es.length:=by grind
       obtain⟨q',l',a1,K,a3⟩:=k2 i _ (ah o);rw[hi]at K;cases K;obtain⟨c1,c2⟩:=CM a1;have O:m<(es[i]).cells.length:=by grind
       obtain⟨n',c',l'',d1,d2,d3,d4⟩:=c2 m _ (ah O);rw[n]at d3;cases d3;obtain⟨o1,o2⟩:=b7 i _ m _ v (ah o) (ah O) A;exact⟨o1,GE s2 J n' _ _ l'' v d2 o2 λy hy=>a3 y (d4 y hy)⟩
      have W:∀ (i:Nat) (d:PV),X[i]?=zo d->d.cells.length=rj.esz:=by
       intro i d hi;have o:i<es.length:=by grind
       obtain⟨q',l',a1,K,a3⟩:=k2 i _ (ah o);rw[hi]at K;cases K;rw[(CM a1).1];exact b6 i _ (ah o)
      have N:∀ {f:Al} {E:Hp},Sim f μ E w2->Grow M μ w f μ w2->E.get id=zn->(∀ k,h'.get k=if k=id then zo (.row X ex zf)else E.get k)->(∀ a v,f a=zo v->a.block≠rj.b) ->
        (∀ (i:Nat) (d:PV) (m:Nat) (c:PV) (v:Value),X[i]?=zo d->d.cells[m]?=zo c->arr[rj.base+i*rj.esz+m]?=zo v->Rep f mu0 c v) ->
        ∃ f μ',Sim f μ' h' w2/\Grow M μ w f μ' w2/\Rep f μ' (.own id 0 len) (.slice (zo ⟨rj.b,rj.base+0*rj.esz,zn⟩) len (rj.cap-0)):=by
       intro f E sM p hn he hno U;have hne:∀ k rk,μ k=zo rk->rk.b≠rj.b:=λk rk hk=>by have:=(s.use k rk hk).2;omega
       obtain⟨sA,hμ⟩:=sM.adopt (r:=rj) hn he hlt hne hno ⟨arr,ety,b1,b2,by omega,(λY=>by simp_all),b5,W,λi d m c v x y z=>⟨(cellsOf i d m c v x y z).1,(U i d m c v x y z).mono (.refl _) (.mu0 _)⟩⟩;refine⟨f,DW μ id rj,sA,⟨p.m,Dq hμ,p.only,?_,p.size,p.keep,p.os,p.output,p.tape,p.dr⟩,?_⟩
       ·grind [DW]
       ·exact .own (M:=f) (DW μ id rj) id 0 len rj (by simp[DW]) hcap
      cases l:BS X with
      |true=>
       simp only[l,zb]at F;cases F;obtain⟨G,I⟩:=HK s g;refine N G I t u (λa v A B=> ?_) λi d m c v x y z=> ?_
       ·have:=s.mem_lt A;omega
       ·exact D0 (Mn (HG l i d x) m c y) _ _ (cellsOf i d m c v x y z).2
      |false=>
       simp only[l,zj]at F;obtain⟨f,G,I,j3,j4⟩:=La s s2 g F J;refine N G I t u (λa v A B=> ?_) λi d m c v x y z=>(cellsOf i d m c v x y z).2.mono j3 (.refl _)<;>grind
     ·cases e
    ·cases n
   ·cases n
  ·cases n
 ·split at e
  ·rename_i q' J hq;cases l:flat q' with
   |true=>
    simp only[l,zb]at e;cases e;obtain⟨G,I⟩:=HK s g;exact⟨M,μ,G,I,D0 l M μ (GE s2 J _ _ _ _ _ hq Y (λ_ h=>h))⟩
   |false=>
    simp only[l,zj]at e;obtain⟨E,F,e⟩:=AA e;cases e;obtain⟨f,G,I,j3⟩:=Ol s s2 g F hq Y
    grind
  ·cases e
end
end
end
section
variable[Gl]
section
variable{P:Program}{b:Frame}{a:Act}{k:List Item}{cs:List Frame}{w w':World}{ops:Array Oper}{i:Nat}{rest:List Nat}{o:Oper}
theorem EK(c:ops[i]?=zo o)(v:Value):(b.atR a (.inRegion ops (i::rest)::k)).finish v=b.atR (a.put o.dst v) (.inRegion ops rest::k):=by
 rw[Frame.finish_atR,c];rfl
theorem MD(c:ops[i]?=zo o)(e:Region.wanted o (yielded ops a.tmps)=zt){v:Value}(d:(o.semAt b.roundOf a.eval).run P w=.ok (.value v) w') :
  step P (lone (b.atR a (.inRegion ops (i::rest)::k)) cs w)=.next (lone (b.atR (a.put o.dst v) (.inRegion ops rest::k)) cs w'):=
 step_lone_go (by simp_all[stepGR_op,EK,stepG.apply])
theorem NJ(c:ops[i]?=zo o)(e:Region.wanted o (yielded ops a.tmps)=zt)(d:(o.semAt b.roundOf a.eval).run P w=.ok .skip w') :
  step P (lone (b.atR a (.inRegion ops (i::rest)::k)) cs w)=.next (lone (b.atR (a.put o.dst undef) (.inRegion ops rest::k)) cs w'):=
 step_lone_go (by simp_all[stepGR_op,EK,stepG.apply])
theorem L8(c:ops[i]?=zo o)(f:Region.wanted o (yielded ops a.tmps)=zt){d:Deferred}(e:(o.semAt b.roundOf a.eval).run P w=.ok (.defer d) w') :
  step P (lone (b.atR a (.inRegion ops (i::rest)::k)) cs w)=.next (lone (b.atR ({ a with defers:=d::a.defers }.put o.dst undef) (.inRegion ops rest::k)) cs w'):=by
 refine step_lone_go ?_;have:=EK (b:=b) (a:={ a with defers:=d::a.defers }) (k:=k) (rest:=rest) c undef
 rw[stepGR_op c f];simp only[stepG.apply,Sem.runT_eq,e,GStep.bare_after];exact congrArg (λfr=>GStep.go { frame:=fr,callers:=cs,status:=.running,dying:=zn } w') this
theorem L9(c:ops[i]?=zo o)(e:Region.wanted o (yielded ops a.tmps)=zt){f:FuncId}{args:Array Value}(d:(o.semAt b.roundOf a.eval).run P w=.ok (.enter f args) w') :
  step P (lone (b.atR a (.inRegion ops (i::rest)::k)) cs w)=.next (lone (Frame.enter P f args .normal) (b.atR a (.inRegion ops (i::rest)::k)::cs) w'):=
 step_lone_go (by rw[stepGR_op c e];simp[stepG.apply,d,Frame.atR])
theorem MB(g:ops[i]?=zo o)(j:Region.wanted o (yielded ops a.tmps)=zt){l:Nat}{f:FuncId}{d:Array Value}{e c:Code}(h:(o.semAt b.roundOf a.eval).run P w=.ok (.round l f d e c) w') :
  step P (lone (b.atR a (.inRegion ops (i::rest)::k)) cs w)=.next (lone (Frame.round l f d e c .normal) (b.atR a (.inRegion ops (i::rest)::k)::cs) w'):=
 step_lone_go (by rw[stepGR_op g j];simp[stepG.apply,h,Frame.atR])
theorem MA(c:ops[i]?=zo o)(e:Region.wanted o (yielded ops a.tmps)=zt){v:Value}(d:(o.semAt b.roundOf a.eval).run P w=.halt (.panic v) w') :
  step P (lone (b.atR a (.inRegion ops (i::rest)::k)) cs w)=.next (lone { b.atR a (.inRegion ops (i::rest)::k)with mode:=.panicking [{ v,recovered:=zf }] } cs w'):=
 step_lone_go (by simp_all[stepGR_op,Frame.raise_atR,stepG.apply])
theorem JG(f:ops[i]?=zo o)(j:Region.wanted o (yielded ops a.tmps)=zt)(d:b.roundOf=zn)(g:(o.semAt b.roundOf a.eval).run P w=.ok .recover w') :
  step P (lone (b.atR a (.inRegion ops (i::rest)::k)) cs w)=match tryRecover (b.atR a (.inRegion ops (i::rest)::k)) cs with
   |some (v,c)=>.next (lone (b.atR (a.put o.dst v) (.inRegion ops rest::k)) c w')
   |none=>.next (lone (b.atR (a.put o.dst .nilIface) (.inRegion ops rest::k)) cs w'):=by
 cases h:tryRecover (b.atR a (.inRegion ops (i::rest)::k)) cs with
 |some x=>
  obtain⟨v,c⟩:=x;refine step_lone_go ?_;have e:(b.atR a (.inRegion ops (i::rest)::k)).roundOf=zn:=d
  simp_all[stepGR_op,EK,stepG.apply]
 |none=>
  refine step_lone_go ?_;have e:(b.atR a (.inRegion ops (i::rest)::k)).roundOf=zn:=d
  simp_all[stepGR_op,EK,stepG.apply]
theorem MC{c:Code}:step P (lone (b.atR a (.code (.scope c)::k)) cs w)=.next (lone (b.atR a (.code c :: .inScope c::k)) cs w):=
 step_lone_go (by rfl)
theorem JF{c:Code}:step P (lone (b.atR a (.inScope c::k)) cs w)=.next (lone (b.atR a k) cs w):=
 step_lone_go (by rfl)
end
section
variable{P:Program}
theorem K4{fr:Frame}{cs:List Frame}{w w':World}{b:Nat}{c a:List Deferred}{d:Array Value}(f:fr.mode ≠ .run)(e:fr.defers={ target:=.collected b,args:=d }::c)
  (g:(Instr.takeDeferred b).run P w=.ok a w'):step P (lone fr cs w)=.next (lone { fr with defers:=a++c } cs w'):=by
 refine step_lone_go ?_
 simp_all[stepG,unwind,Sem.runT_eq]
theorem G0{fr:Frame}{cs:List Frame}{w w':World}{d:Builtin}{b:Array TypeId}{ty:TypeId}{a:Array Bool}{e:List Deferred}{c:Array Value}{v:Value}(h:fr.mode ≠ .run)
  (g:fr.defers={ target:=.builtin d b ty a,args:=c }::e) (f:(builtin d b ty a c).run P w=.ok (.value v) w') :
  step P (lone fr cs w)=.next (lone { fr with defers:=e } cs w'):=by
 refine step_lone_go ?_;have hi:(invoke (.builtin d b ty a) c).run P w=.ok (.value v) w':=f
 simp_all[stepG,unwind,callDeferred,Sem.runT_eq]
end
end
section
variable[Gl]
section
variable{P:Program}{M:Al}{μ:Mu}{h:Hp}{w:World}
def ChRep(M:Al)(μ:Mu):List PE->List PanicEntry->Prop
 |[],[]=>True
 |e::l,p::m=>Rep M μ e.v p.v/\e.recovered=p.recovered/\p.goexit=zf/\ChRep M μ l m
 |_,_=>False
theorem ChRep.mono{e:Al}{μ':Mu}(f:MLe M e)(hμ:MuLe μ μ'):∀ {l:List PE} {m:List PanicEntry},ChRep M μ l m->ChRep e μ' l m
 |[],[],_=>trivial
 |_::_,_::_,⟨a,b,c,d⟩=>⟨a.mono f hμ,b,c,d.mono f hμ⟩
def UMRep(M:Al)(μ:Mu):UM->FrameMode->Prop
 |.ret,m=>m=.returning
 |.pan ch,m=>∃ a,m=.panicking a/\ChRep M μ ch a
theorem UMRep.mono{b:Al}{μ':Mu}(f:MLe M b)(hμ:MuLe μ μ'){u:UM}{m:FrameMode}(c:UMRep M μ u m):UMRep b μ' u m:=by
 cases u with
 |ret=>exact c
 |pan g=>obtain⟨a,d,e⟩:=c;exact⟨a,d,e.mono f hμ⟩
def NO(M:Al)(μ:Mu)(a:CallKind)(cs:List Frame):Option UM->Prop
 |none=>a=.normal
 |some u=>a=.deferred /\ ∃ c b,cs=c::b/\UMRep M μ u c.mode
def JH(μ:Mu)(c:Option Nat)(r:Option Nat):Prop:=match c with
 |none=>r=zn
 |some l=>∃ a,μ l=zo a/\r=zo a.b
structure FrRep (M:Al) (μ:Mu) (fr:Fr) (b:Frame) (a:Act) (cs:List Frame):Prop where
 t:TmpsRep M μ fr.t fr.nt a.tmps
 d:DefsRep M μ fr.ds a.defers
 u:NO M μ b.kind cs fr.up
 r:JH μ fr.ro b.roundOf
def Tail(d:CallKind)(cs a:List Frame):Prop:=a=cs\/(d=.deferred /\ ∃ c b m,cs=c::b/\a={ c with mode:=m }::b)
theorem Tail.refl{a:CallKind}(cs:List Frame):Tail a cs cs:=.inl rfl
theorem Tail.trans{d:CallKind}{a b c:List Frame}(h:Tail d a b)(k:Tail d b c):Tail d a c:=by
 rcases h with rfl|⟨e,x,f,m,rfl,rfl⟩
 ·exact k
 ·rcases k with rfl|⟨_,y,i,m',g,rfl⟩
  ·exact .inr ⟨e,x,f,m,rfl,rfl⟩
  ·cases g;exact .inr ⟨e,x,f,m',rfl,rfl⟩
theorem FrRep.mono{k:Al}{μ':Mu}{fr:Fr}{b:Frame}{a:Act}{cs:List Frame}(e:FrRep M μ fr b a cs)(j:MLe M k)(hμ:MuLe μ μ'):FrRep k μ' fr b a cs where
 t:=e.t.mono j hμ
 d:=e.d.mono j hμ
 u:=by
  have:=e.u;cases f:fr.up with
  |none=>rw[f]at this;exact this
  |some u=>rw[f]at this;obtain⟨g,c,o,i,m⟩:=this;exact⟨g,c,o,i,m.mono j hμ⟩
 r:=by
  have:=e.r;unfold JH at this ⊢;cases f:fr.ro with
  |none=>simp_all
  |some l=>rw[f]at this;obtain⟨n,g,i⟩:=this;exact⟨n,hμ _ _ g,i⟩
def Arr(P:Program)(m:Machine)(b:Frame)(k:List Item)(cs:List Frame)(a:Act)(w:World)(M:Al)(μ:Mu):Ex->Prop
 |.normal=>Steps P m (lone (b.atR a k) cs w)
 |.exit id=>∃ c,exitTo id c=exitTo id k/\Steps P m (lone (b.atR a (.code (.exit id)::c)) cs w)
 |.goto l=>∃ c,gotoIn l c=gotoIn l k/\Steps P m (lone (b.atR a (.code (.goto l)::c)) cs w)
 |.ret=>∃ c,Steps P m (lone (b.atR a (.code .ret::c)) cs w)
 |.panic v=>∃ d x,Rep M μ v x/\Steps P m (lone { b.atR a d with mode:=.panicking [{ v:=x,recovered:=zf }] } cs w)
theorem Arr.of_steps{m h:Machine}{b:Frame}{k:List Item}{cs:List Frame}{a:Act}{e:Ex}(hs:Steps P m h)(g:Arr P h b k cs a w M μ e):Arr P m b k cs a w M μ e:=by
 cases e with
 |normal=>exact hs.trans g
 |exit id=>obtain⟨d,f,c⟩:=g;exact⟨d,f,hs.trans c⟩
 |goto id=>obtain⟨d,f,c⟩:=g;exact⟨d,f,hs.trans c⟩
 |ret=>obtain⟨d,c⟩:=g;exact⟨d,hs.trans c⟩
 |panic v=>obtain⟨d,x,f,c⟩:=g;exact⟨d,x,f,hs.trans c⟩
def Ran(P:Program)(M:Al)(μ:Mu)(w:World)(m:Machine)(b:Frame)(k:List Item)(cs:List Frame)(e:Ex)(c:Fr)(h':Hp):Prop:=
 ∃ a μ' w' a' cs',Sim a μ' h' w'/\Grow M μ w a μ' w'/\FrRep a μ' c b a' cs'/\Tail b.kind cs cs'/\Arr P m b k cs' a' w' a μ' e
def S3(P:Program)(M:Al)(μ:Mu)(fr:Frame)(w:World):Out->Prop
 |.ret v=>∃ x,Rep M μ v x/\fr.leaving P w (.returned x)
 |.pan b=>∃ a,ChRep M μ b a/\fr.leaving P w (.panicked a)
def Qy(P:Program)(M:Al)(μ:Mu)(fr:Frame)(w:World):Out->Prop
 |.ret v=>∃ x,Rep M μ v x/\fr.going P w (.returned x)
 |.pan b=>∃ a,ChRep M μ b a/\fr.going P w (.panicked a)
structure RecOK (P:Program) (rec:GH):Prop where
 nrm:∀ {f args h o up' h'},rec (.fn f) zn args h=zo (o,up',h') -> ∀ {M μ w vs},Sim M μ h w->RepL M μ args vs -> ∀ cs,∃ M' μ' w' fr,
  Sim M' μ' h' w'/\Grow M μ w M' μ' w'/\Steps P (lone (Frame.enter P f vs.toArray .normal) cs w) (lone fr cs w')/\fr.fn=f/\S3 P M' μ' fr w' o
 dfr:∀ {f u args h o up' h'},rec (.fn f) (zo u) args h=zo (o,up',h') -> ∀ {M μ w vs},Sim M μ h w->RepL M μ args vs -> ∀ c cs,UMRep M μ u c.mode -> ∃ M' μ' w' fr m' u',
  Sim M' μ' h' w'/\Grow M μ w M' μ' w'/\Steps P (lone (Frame.enter P f vs.toArray .deferred) (c::cs) w) (lone fr ({ c with mode:=m' }::cs) w')/\up'=zo u'/\UMRep M' μ' u' m'/\fr.kind=.deferred/\Qy P M' μ' fr w' o
 yld:∀ {l args h o up' h'},rec (.yl l) zn args h=zo (o,up',h') -> ∀ {M μ w vs r},Sim M μ h w->RepL M μ args vs->μ l=zo r -> ∀ c cs,∃ M' μ' w' x v fn tmps asg body,
  o=.ret v/\(Instr.yield r.b vs.toArray).run P w=.ok (.round r.b fn tmps asg body) w/\Sim M' μ' h' w'/\Grow M μ w M' μ' w'/\Rep M' μ' v x /\
  Steps P (lone (Frame.round r.b fn tmps asg body .normal) (c::cs) w) (lone (c.finish x) cs w')
def Cz(P:Program):Prop:=∀ (f:FuncId) (p:Pr),Gl.pr f=zo p -> ∀ (args:List PV) (h:Hp) (v:PV) (h':Hp),Kq P p args h=zo (v,h') ->
 ∀ (M:Al) (μ:Mu) (w:World) (vs:List Value),Sim M μ h w->RepL M μ args vs -> ∀ cs,∃ a μ' w' fr x,Sim a μ' h' w'/\Grow M μ w a μ' w' /\
  Steps P (lone (Frame.enter P f vs.toArray .normal) cs w) (lone fr cs w')/\fr.fn=f/\Rep a μ' v x/\fr.leaving P w' (.returned x)
theorem R0(P:Program)(h:∀ f,Gl.pr f=zn):Cz P:=λf p e=>by simp_all
def GlW(w:World):Prop:=∃ M0:Al,GlOK M0 /\ ∀ (a:Addr) (v:Value),M0 a=zo v->a.spot=zn/\w.cell? a=zo v
theorem GlW.none(h:∀ g,Gl.g g=zn)(w:World):GlW w:=⟨λ_=>Option.none,(λg cs e=>by simp_all),λa v e=>by cases e⟩
theorem GlW.sim{w:World}(h:GlW w):∃ M0:Al,Sim M0 mu0 { m:=.lf,nx:=0 } w:=by
 obtain⟨M0,e,f⟩:=h;refine⟨M0,e,f,λid b c=> ?_,λid r d=> ?_,λid g r i b b' d=> ?_,λid r b a v c=> ?_⟩
 ·cases c
 ·simp[mu0]at d
 ·simp[mu0]at d
 ·cases c
theorem MG{t:T PV}{nt d:Nat}{a:Array Value}{v:PV}{x:Value}(e:TmpsRep M μ t nt a)(g:d<nt)(i:Rep M μ v x):TmpsRep M μ (T.put 20 t d v) nt (a.setIfInBounds d x):=by
 obtain⟨b,c,f⟩:=e;refine⟨b,by simp[c],λk=> ?_⟩;rw[T.get_put 20 t d v k (by omega)];by_cases h:k=d
 ·simp_all
 simp_all[zx,aH,Array.getElem?_setIfInBounds,Ne.symm]
theorem FrRep.put{fr f:Fr}{b:Frame}{a:Act}{cs:List Frame}{c:Option Nat}{v:PV}{x:Value}(g:FrRep M μ fr b a cs)(i:Rep M μ v x)(e:fr.put c v=zo f):FrRep M μ f b (a.put c x) cs:=by
 unfold Fr.put at e;split at e
 ·cases e;exact g
 ·replace e:=Ad e;obtain⟨h,e⟩:=e;cases e;exact⟨MG g.t (by simpa using h) i,g.d,g.u,g.r⟩
theorem FT(M:Al)(μ:Mu):Rep M μ (.tup []) undef:=.tup _ _ _ rfl λi c v hc=>by simp at hc
theorem Ju{ops:Array Oper}{t:T PV}{nt:Nat}{b:Array Value}(h:TmpsRep M μ t nt b)(o:Oper):Region.wanted o (yielded ops b)=A8 ops.toList t o.guard:=by
 unfold Region.wanted A8;cases l:o.guard with
 |none=>rfl
 |some g=>
  obtain⟨j,f⟩:=g;simp only[yielded,AM,Array.getElem?_toList];cases m:ops[j]? with
  |none=>simp
  |some i=>
   simp only[cw];cases k:i.dst with
   |none=>simp
   |some d=>
    simp only[cw];have a:=h.2.2 d;rw[aH]at a;cases e:b[d]? with
    |none=>
     rw[e]at a;simp only[cx]at a;cases c:t.get d with
     |none=>simp
     |some p=>
      rw[c]at a;simp only[aD]at a;cases a;simp
    |some x=>
     rw[e]at a;simp only[aD]at a;cases c:t.get d with
     |none=>
      rw[c]at a;simp only[cx]at a;cases a;simp
     |some p=>
      rw[c]at a;simp only[aD]at a;cases a<;>simp
end
end
section
variable[Gl]
section
variable{P:Program}{M:Al}{μ:Mu}{h:Hp}{w:World}{sh:FuncId->Bool}{rec:GH}
theorem JN(R:RecOK P rec){f:FuncId}{args:List PV}{o:Out}{h':Hp}{id:Nat}(e:A9 sh rec id f args h=zo (o,h'))(s:Sim M μ h w){vs:List Value}(z:RepL M μ args vs)(cs:List Frame) :
  ∃ c μ' w' fr,Sim c μ' h' w'/\Grow M μ w c μ' w'/\Steps P (lone (Frame.enter P f vs.toArray .normal) cs w) (lone fr cs w')/\fr.fn=f/\S3 P c μ' fr w' o:=by
 unfold A9 at e;cases hs:sh f with
 |true=>
  simp only[hs,zb]at e;split at e
  ·rename_i X B W g;cases e;exact R.nrm g s z cs
  ·cases e
 |false=>
  simp only[hs,zj]at e;split at e
  ·rename_i S l K;have d:=N6 s l K z (λ_ h=>h);split at e
   ·rename_i r B I g;obtain⟨C,μ2,y,fr,s2,j,u,b,x,i,m⟩:=R.nrm g (s.empty l) d cs;obtain⟨⟨q,A⟩,J,e⟩:=AA e;cases e;obtain⟨c,μ',n,t,L⟩:=CJ s s2 j i J;exact⟨c,μ',y,fr,n,t,u,b,x,L,m⟩
   ·rename_i U Y B I g;obtain⟨C,μ2,y,fr,s2,j,u,b,a,i,m⟩:=R.nrm g (s.empty l) d cs;split at e
    ·rename_i q N A;replace e:=Ad e;obtain⟨k,e⟩:=e;cases e;obtain⟨n,t⟩:=HK s j;refine⟨M,μ,y,fr,n,t,u,b,a,?_,m⟩;cases a with
     |nil=>exact i
     |cons p O=>
      obtain⟨D,E,F,G⟩:=i;cases O with
      |cons _ _=>exact G.elim
      |nil=>exact⟨D0 k M μ (GE s2 N _ _ _ _ _ A D (λ_ h=>h)),E,F,trivial⟩
    ·cases e
   ·cases e
  ·cases e
theorem Ht{a:Option Nat}{ρ:Operand->Value}{o:Oper}(h:a=zn \/ ∀ c,o.op ≠ .defer c):o.semAt a ρ=execOp ρ o:=by
 rcases h with rfl|h
 ·rfl
 ·exact Oper.semAt_eq a ρ o h
theorem Mf{t:T PV}{id:Nat}{o:Oper}{c:Call}{r:R}(a:o.op=.defer c)(e:AP P t h id o=zo r):∃ d,r=.dfr d:=by
 unfold AP at e;rw[a]at e;simp only at e;split at e
 ·grind [e1]
 ·cases e
theorem HY(R:RecOK P rec){ops:Array Oper}{base:Nat}:∀ (L:List (Nat×Oper)) {fr B:Fr} {h h':Hp} {ex:Ex},AZ P sh rec base ops.toList L fr h=zo (ex,B,h')->(∀ x∈L,ops[x.1]?=zo x.2) ->
  ∀ {M:Al} {μ:Mu} {w:World} {b:Frame} {a:Act} {cs:List Frame} (k:List Item),Sim M μ h w->FrRep M μ fr b a cs->Ran P M μ w (lone (b.atR a (.inRegion ops (L.map (·.1))::k)) cs w) b k cs ex B h'
 |[],fr,B,h,h',ex,e,hL,M,μ,w,b,a,cs,k,s,hf=>by
  simp only[AZ]at e;cases e;exact⟨M,μ,w,a,cs,s,.refl _ _ _,hf,.refl _,.one stepR_region_end⟩
 |(i,o)::L,fr,B,h,h',ex,e,hL,M,μ,w,b,a,cs,k,s,hf=>by
  have N:ops[i]?=zo o:=hL (i,o) (by simp);have hL2:∀ x∈L,ops[x.1]?=zo x.2:=λx O=>hL x (by simp[O]);unfold AZ at e
  have X:∀ {fr1:Fr} {Y:Hp} {K:Al} {μ1:Mu} {S:World} {a1:Act} {U:List Frame},AZ P sh rec base ops.toList L fr1 Y=zo (ex,B,h')->Sim K μ1 Y S->Grow M μ w K μ1 S->FrRep K μ1 fr1 b a1 U->Tail b.kind cs U ->
    Steps P (lone (b.atR a (.inRegion ops (i::L.map (·.1))::k)) cs w) (lone (b.atR a1 (.inRegion ops (L.map (·.1))::k)) U S) ->
    Ran P M μ w (lone (b.atR a (.inRegion ops (((i,o)::L).map (·.1))::k)) cs w) b k cs ex B h':=by
   intro fr1 Y K μ1 S a1 U e1 s1 y f1 t1 st;obtain⟨M',μ',w',a',cs',q1,q2,q3,q4,q5⟩:=HY R L e1 hL2 k s1 f1;exact⟨M',μ',w',a',cs',q1,y.trans q2,q3,t1.trans q4,.of_steps st q5⟩
  cases hw:A8 ops.toList fr.t o.guard with
  |false=>
   simp only[hw,zj]at e;split at e
   ·rename_i fr1 AG;refine X e s (.refl _ _ _) (hf.put (FT M μ) AG) (.refl _) (.one ?_);have:=stepR_op_skip (P:=P) (b:=b) (a:=a) (k:=k) (cs:=cs) (w:=w) (ops:=ops) (i:=i) (rest:=L.map (·.1)) (by rw[N];simp[Ju hf.t o,hw])
    simp_all
   ·cases e
  |true=>
   have C:Region.wanted o (yielded ops a.tmps)=zt:=by rw[Ju hf.t o,hw]
   simp only[hw,zb]at e;cases hop:AP P fr.t h (base+i) o with
   |none=>simp_all
   |some r=>
    have q:=OZ s hf.t hop;rw[hop]at e;have I:(∀ d,r ≠ .dfr d)->o.semAt b.roundOf a.eval=execOp a.eval o:=λhr=>Ht (.inr λc hc=>let ⟨d,hd⟩:=Mf hc hop;hr d hd);cases r with
    |val v Y=>
     obtain⟨K,μ1,S,x,g,s1,y,hv⟩:=q;simp only at e;split at e
     ·rename_i fr1 AG;exact X e s1 y ((hf.mono y.m y.u).put hv AG) (.refl _) (.one (MD N C (by simp_all)))
     ·cases e
    |skip Y=>
     obtain⟨K,μ1,S,g,s1,y⟩:=q;simp only at e;split at e
     ·rename_i fr1 AG;exact X e s1 y ((hf.mono y.m y.u).put (FT _ _) AG) (.refl _) (.one (NJ N C (by simp_all)))
     ·cases e
    |dfr d=>
     obtain⟨D,g,hd⟩:=q;simp only at e;split at e
     ·rename_i hro;split at e
      ·rename_i fr1 AG;have hbr:b.roundOf=zn:=by have:=hf.r;simp_all[JH]
       have hf2:FrRep M μ { fr with ds:=d::fr.ds } b { a with defers:=D::a.defers } cs:=⟨hf.t,⟨hd,hf.d⟩,hf.u,hf.r⟩
       exact X e s (.refl _ _ _) (hf2.put (FT _ _) AG) (.refl _) (.one (L8 N C (by rw[Ht (.inl hbr)];exact g)))
      ·cases e
     ·cases e
    |call f args=>
     obtain⟨vs,g,z,fn,c,hfn,hbody⟩:=q;have E:=L9 (b:=b) (a:=a) (k:=k) (cs:=cs) (rest:=L.map (·.1)) N C (by rw[I (by simp_all)];exact g);simp only at e;split at e
     ·rename_i v Y n;obtain⟨K,μ1,S,fr0,s1,y,st,hfn0,x,O,hl⟩:=JN R n s z (b.atR a (.inRegion ops (i::L.map (·.1))::k)::cs);split at e
      ·rename_i fr1 AG;refine X e s1 y ((hf.mono y.m y.u).put O AG) (.refl _) (.head E (st.trans (.one ?_)));rw[<- EK N];exact step_leave_returned hl
      ·cases e
     ·rename_i e0 Y n;obtain⟨K,μ1,S,fr0,s1,y,st,hfn0,j,O,hl⟩:=JN R n s z (b.atR a (.inRegion ops (i::L.map (·.1))::k)::cs);cases e;cases j with
      |nil=>exact O.elim
      |cons p ps=>
       obtain⟨c1,c2,c3,c4⟩:=O;cases ps with
       |cons _ _=>exact c4.elim
       |nil=>
        obtain⟨pv,prc,pge⟩:=p;simp only at c1 c2 c3;subst c2;subst c3;refine⟨K,μ1,S,a,cs,s1,y,hf.mono y.m y.u,.refl _,.inRegion ops (i::L.map (·.1))::k,pv,c1,.head E (st.trans (.one ?_))⟩;rw[<- Frame.raise_atR];exact step_leave_panicked hl
     ·cases e
    |yield l args=>
     obtain⟨vs,rb,hrb,g,z⟩:=q;simp only at e;split at e
     ·rename_i v u1 Y n;obtain⟨K,μ1,S,x,v',fn,tmps,asg,body,hout,hy,s1,y,O,st⟩:=R.yld n s z hrb (b.atR a (.inRegion ops (i::L.map (·.1))::k)) cs;cases hout;split at e
      ·rename_i fr1 AG;refine X e s1 y ((hf.mono y.m y.u).put O AG) (.refl _) (.head (MB N C (by rw[I (by simp_all),g];exact hy)) ?_);rw[<- EK N];exact st
      ·cases e
     ·cases e
    |pan v=>
     obtain⟨x,g,O⟩:=q;simp only at e;cases e;exact⟨M,μ,w,a,cs,s,.refl _ _ _,hf,.refl _,_,x,O,.one (MA N C (by simp_all))⟩
    |rcv=>
     have g:(execOp a.eval o).run P w=.ok .recover w:=q;simp only at e;split at e
     ·cases e
     ·rename_i hro;have hbr:b.roundOf=zn:=by have:=hf.r;simp_all[JH]
      have A:=JG (b:=b) (a:=a) (k:=k) (cs:=cs) (rest:=L.map (·.1)) N C hbr (by rw[I (by simp_all)];exact g)
      have hnone:tryRecover (b.atR a (.inRegion ops (i::L.map (·.1))::k)) cs=zn -> ∀ {fr1:Fr},fr.put o.dst .nili=zo fr1->AZ P sh rec base ops.toList L fr1 h=zo (ex,B,h') ->
        Ran P M μ w (lone (b.atR a (.inRegion ops (((i,o)::L).map (·.1))::k)) cs w) b k cs ex B h':=by
       intro ht fr1 AG e;rw[ht]at A;exact X e s (.refl _ _ _) (hf.put (.nili _) AG) (.refl _) (.one A)
      split at e
      ·rename_i v J W;split at e
       ·rename_i fr1 AG;have hu:=hf.u;rw[W]at hu;obtain⟨G,c,tl,rfl,j,Z,F⟩:=hu;cases j with
        |nil=>exact F.elim
        |cons p ps=>
         obtain⟨c1,c2,c3,c4⟩:=F;obtain⟨pv,prc,pge⟩:=p;simp only at c1 c2 c3;subst c2;subst c3
         have ht:tryRecover (b.atR a (.inRegion ops (i::L.map (·.1))::k)) (c::tl)=zo (pv,{ c with mode:=.panicking ({ v:=pv,recovered:=zt }::ps) }::tl):=by
          rw[tryRecover_deferred (show(b.atR a (.inRegion ops (i::L.map (·.1))::k)).kind=.deferred from G)];simp only[recoverD,Z]
         rw[ht]at A
         have hf2:FrRep M μ { fr with up:=zo (.pan ({ v,recovered:=zt }::J)) } b a ({ c with mode:=.panicking ({ v:=pv,recovered:=zt }::ps) }::tl):=
          ⟨hf.t,hf.d,⟨G,_,tl,rfl,_,rfl,c1,rfl,rfl,c4⟩,hf.r⟩
         exact X e s (.refl _ _ _) (hf2.put c1 AG) (.inr ⟨G,c,tl,_,rfl,rfl⟩) (.one A)
       ·cases e
      ·rename_i hnup;split at e
       ·rename_i fr1 AG;refine hnone ?_ AG e;have hu:=hf.u;cases W:fr.up with
        |none=>
         rw[W]at hu;have hkn:b.kind=.normal:=hu
         simp_all[tryRecover,Frame.atR]
        |some u=>
         rw[W]at hu;obtain⟨G,c,tl,rfl,Z⟩:=hu;rw[tryRecover_deferred (show(b.atR a (.inRegion ops (i::L.map (·.1))::k)).kind=.deferred from G)];cases u with
         |ret=>have Z:c.mode=.returning:=Z;simp only[recoverD,Z]
         |pan ch=>
          obtain⟨j,Z,F⟩:=Z;cases ch with
          |nil=>cases j with
           |nil=>simp only[recoverD,Z]
           |cons _ _=>exact F.elim
          |cons e0 J=>
           cases j with
           |nil=>exact F.elim
           |cons p ps=>
            obtain⟨c1,c2,c3,c4⟩:=F;obtain⟨ev,erc⟩:=e0;cases erc with
            |false=>simp_all
            |true=>
             grind [recoverD]
       ·cases e
end
end
end Go.Proofs.YtoefnfbpoabinaaGreatDoor.Pi
