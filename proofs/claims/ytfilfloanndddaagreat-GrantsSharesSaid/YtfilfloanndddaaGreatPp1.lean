/- A part of the evaluator of the model's code for any program, and of the proof that it is sound. No condition. -/
import Derived.Test.YtfilfloanndddaaGreatPp0
import Derived.Laws.Append
import Derived.AtR
import Derived.Recover
import Derived.RangeFuncIn
set_option linter.all false
namespace Go.Proofs.YtfilfloanndddaaGreat.Pi
variable [Gl]
section
variable {P:Program} {M:CJ} {μ:Mu} {h:Hp} {w:World}
theorem PW (b o j:Nat):(⟨b,o,none⟩:Addr).add j=⟨b,o+j,none⟩:=by simp [Addr.add]
theorem SN {n k:Nat} {l:Nat} (a:0<n) (b:k<l*n):k / n<l/\k % n<n/\k / n*n+k % n=k :=
 ⟨(Nat.div_lt_iff_lt_mul a).2 b,Nat.mod_lt _ a,by rw [Nat.mul_comm];exact Nat.div_add_mod k n⟩
theorem Mi (s:Sim M μ h w) {p:PV} {x:Value} {es:List PV} {n:Nat} (L:Rep M μ p x) (e:EN h p=some es) (O : ∀ v∈es,v.cells.length=n) (A:0<n) :
  ∃ a cap,x = .slice a es.length cap/\(es≠[] -> ∃ (b:Addr) (m:List Value),a=some b/\m.length=es.length*n/\(∀ j v,m[j]? = some v->w.cell? (b.add j)=some v)/\FlatRep M μ n es m.toArray):=by
 unfold EN at e;split at e
 ·cases e;cases L;exact ⟨none,0,rfl,λh=>absurd rfl h⟩
 ·rename_i full l;cases e;cases L with
  | lst0 _ _ a cap hf=>exact ⟨some a,cap,rfl,λh=>absurd rfl h⟩
  | lst _ _ _ b off esz cap x hf hc hs hm F hr =>
   refine ⟨_,cap,rfl,λq => ?_⟩
   have u:esz=n:=by
    cases es with
    | nil=>exact absurd rfl q
    | cons P es=>rw [<- hs 0 P rfl];exact O P (by simp)
   subst u;refine ⟨_,(List.range (es.length*esz)).map λk=>x (k / esz) (k % esz),rfl,by simp,λj v y => ?_,by simp,λi e f=>hs i e f,λi e j c f y => ?_⟩
   ·have d:j<es.length*esz:=by
     have:=(List.getElem?_eq_some_iff.1 y).1;simpa using this
    simp only [List.getElem?_map,List.getElem?_range d,Option.map_some,Option.some.injEq] at y;subst y;obtain ⟨G,N,D⟩:=SN A d;have t : ∃ c,(es[j / esz]).cells[j % esz]? = some c:=⟨_,List.getElem?_eq_getElem (by rw [hs (j / esz) _ (List.getElem?_eq_getElem G)];exact N)⟩;obtain ⟨c,hc⟩:=t;have:=(s.mem _ _ (hm (j / esz) _ (j % esz) c (List.getElem?_eq_getElem G) hc)).2;rw [PW,<- D,<- Nat.add_assoc];rw [D];exact this
   ·have J:j<esz:=by rw [<- hs i e f];exact (List.getElem?_eq_some_iff.1 y).1
    have I:i<es.length:=(List.getElem?_eq_some_iff.1 f).1
    have d:i*esz+j<es.length*esz:=by
     have:(i+1)*esz<=es.length*esz:=Nat.mul_le_mul_right _ I;rw [Nat.add_mul] at this;omega
    refine ⟨x i j,?_,F i e j c f y,(hr i e j c f y).mono (.refl _) (.mu0 _)⟩;obtain ⟨G,N,D⟩:=SN A d;have:=Lx N J D;simp [List.getElem?_range d,this.1,this.2]
 ·rename_i j off len;split at e
  ·rename_i l ex fz W;replace e:=Bs e;obtain ⟨E,e⟩:=e;simp at E;cases e;cases L with
   | own _ _ _ _ r hr hcap =>
    obtain ⟨r',B,arr,ety,F,U,h3,h4,h5,K,X⟩:=s.blk j _ W;rw [hr] at B;cases B;have g:((l.drop off).take len).length=len:=by simp;omega
    refine ⟨_,_,by rw [g],λq => ?_⟩
    have get : ∀ (i:Nat) (e:PV),((l.drop off).take len)[i]? = some e->l[off+i]? = some e/\i<len:=by
     intro i e f;rw [List.getElem?_take] at f;split at f
     ·rw [List.getElem?_drop] at f;exact ⟨f,by assumption⟩
     ·cases f
    have u:r.esz=n:=by
     have h0:0<((l.drop off).take len).length:=List.length_pos_iff.2 q;have Y:=List.getElem?_eq_getElem h0;rw [<- K _ _ (get 0 _ Y).1];exact O _ (List.getElem_mem h0)
    have z : ∀ k,k<len*n->r.base+off*n+k<arr.size:=by
     intro k o;have:(off+len)*n<=r.cap*n:=Nat.mul_le_mul_right _ (by omega);rw [Nat.add_mul] at this;rw [u] at U;omega
    refine ⟨_,(arr.toList.drop (r.base+off*n)).take (len*n),rfl,?_,λk v o => ?_,?_,λi e f => ?_,λi e k c f o => ?_⟩
    ·rw [g];simp only [List.length_take,List.length_drop,Array.length_toList];rcases Nat.eq_zero_or_pos (len*n) with h0 | h0
     ·omega
     ·have:=z (len*n-1) (by omega);omega
    ·rw [List.getElem?_take] at o;split at o
     ·rw [List.getElem?_drop] at o;rw [PW,u,cell?_eq (a:=⟨r.b,_,none⟩) F rfl];simpa using o
     ·cases o
    ·simp only [List.size_toArray];rw [g];simp only [List.length_take,List.length_drop,Array.length_toList];rcases Nat.eq_zero_or_pos (len*n) with h0 | h0
     ·omega
     ·have:=z (len*n-1) (by omega);omega
    ·rw [<- u];exact K _ e (get i e f).1
    ·obtain ⟨S,Z⟩:=get i e f;have hk':k<n:=by rw [<- u,<- K _ e S];exact (List.getElem?_eq_some_iff.1 o).1
     have d:i*n+k<len*n:=by
      have:(i+1)*n<=len*n:=Nat.mul_le_mul_right _ Z;rw [Nat.add_mul] at this;omega
     have C:=z _ d;refine ⟨arr[r.base+off*n+(i*n+k)],?_,?_⟩
     ·simp only [List.getElem?_toArray];rw [List.getElem?_take,if_pos d,List.getElem?_drop];simp [C]
     ·refine X (off+i) e k c _ S o ?_;rw [u,Nat.add_mul];rw [show r.base+(off*n+i*n)+k=r.base+off*n+(i*n+k) by omega];exact Array.getElem?_eq_getElem C
  ·cases e
 ·cases e
theorem Nl (s:Sim M μ h w) {j Ap n:Nat} {es new:List PV} {ex fz:Bool} {h':Hp} {r:Bk} {d:List Value} (O:μ j=some r) (X:h.get j=some (.row es ex fz))
  (E:FlatRep M μ n new d.toArray) (D:new≠[]->r.esz=n) (x:Ap<=es.length) (A:Ap+new.length<=r.cap) (Z:ex=true->Ap+new.length<=es.length) (Y:fz=true->Ap=es.length)
  (hs:h.set j (.row (EH es Ap new) ex fz)=some h') :
  ∃ w',(storeCells ⟨r.b,r.base+Ap*r.esz,none⟩ d 0).run P w = .ok () w'/\Sim M μ h' w'/\Grow M μ w M μ w':=by
 obtain ⟨r',L,arr,t,h1,h2,h3,h4,h5,h6,h7⟩:=s.blk j _ X;rw [O] at L;cases L
 have K:d.length=new.length*r.esz:=by
  have:=E.1;simp at this;rw [this];by_cases g:new=[]
  ·subst g;simp
  ·rw [D g]
 have hin:r.base+Ap*r.esz+d.length<=arr.size:=by
  have:(Ap+new.length)*r.esz<=r.cap*r.esz:=Nat.mul_le_mul_right _ A;rw [Nat.add_mul] at this;omega
 have N : ∀ y∈d,y.oneCell'=true:=by
  intro y hy;obtain ⟨k,C⟩:=List.mem_iff_getElem?.1 hy;have I:k<new.length*r.esz:=by rw [<- K];exact (List.getElem?_eq_some_iff.1 C).1
  obtain ⟨d1,d2,d3⟩:=SN h5 I;have g:new≠[]:=by intro e;subst e;simp at I
  have hg:=List.getElem?_eq_getElem d1;have hcl:(new[k / r.esz]).cells.length=r.esz:=by rw [E.2.1 _ _ hg,D g]
  obtain ⟨v,q,c2,_⟩:=E.2.2 (k / r.esz) _ (k % r.esz) _ hg (List.getElem?_eq_getElem (by omega));rw [<- D g,d3] at q;simp at q;rw [C] at q;cases q;exact c2
 obtain ⟨w',u,G,U,k2,k3,k4,k5,k6,k7,k8,k9⟩:=Iy (P:=P) (ty:=t) d w arr (r.base+Ap*r.esz) 0 h1 (by omega) N;refine ⟨w',G,?_,Grow.update O k4 k5 k6 k7 k8 (λarr ty f h=>by rw [U] at h;cases h;rfl)⟩
 have z : ∀ (i:Nat) (e:PV),(EH es Ap new)[i]? = some e->(Ap<=i/\i<Ap+new.length/\new[i-Ap]? = some e)\/(¬ (Ap<=i/\i<Ap+new.length)/\es[i]? = some e):=by
  intro i e l;unfold EH at l;rw [List.getElem?_append] at l;simp only [List.length_take,Nat.min_eq_left x] at l;by_cases hi:i<Ap
  ·rw [if_pos hi,List.getElem?_take,if_pos hi] at l;exact .inr ⟨by omega,l⟩
  ·rw [if_neg hi,List.getElem?_append] at l;by_cases F:i-Ap<new.length
   ·rw [if_pos F] at l;exact .inl ⟨by omega,by omega,l⟩
   ·rw [if_neg F,List.getElem?_drop] at l;refine .inr ⟨by omega,?_⟩
    rwa [show Ap+new.length+(i-Ap-new.length)=i by omega] at l
 have o:(EH es Ap new).length=max es.length (Ap+new.length):=by
  unfold EH;simp only [List.length_append,List.length_take,List.length_drop,Nat.min_eq_left x];omega
 refine s.update X O trivial (Hp.get_set hs).1 k4 k5 ?_ ?_
 ·refine ⟨u,t,U,by omega,?_,?_,h5,?_,?_⟩
  ·rw [o];exact Nat.max_le.2 ⟨h3,A⟩
  ·intro hx;rw [o,<- h4 hx];exact Nat.max_eq_left (Z hx)
  ·intro i e l;rcases z i e l with ⟨a1,a2,m⟩ | ⟨_,m⟩
   ·have g:new≠[]:=by intro e;subst e;simp at m
    rw [E.2.1 _ e m,D g]
   ·exact h6 i e m
  ·intro i e k c v l C B;rw [k3] at B;rcases z i e l with ⟨a1,a2,m⟩ | ⟨a1,m⟩
   ·have g:new≠[]:=by intro e;subst e;simp at m
    have S:k<r.esz:=by rw [D g,<- E.2.1 _ e m];exact (List.getElem?_eq_some_iff.1 C).1
    obtain ⟨y,q,c2,c3⟩:=E.2.2 _ e k c m C;rw [<- D g] at q;simp at q;have e1:Ap*r.esz+(i-Ap)*r.esz=i*r.esz:=by rw [<- Nat.add_mul];congr 1;omega
    have hlt:(i-Ap)*r.esz+k<d.length:=(List.getElem?_eq_some_iff.1 q).1;rw [if_pos (by omega)] at B;rw [show r.base+i*r.esz+k-(r.base+Ap*r.esz+0)=(i-Ap)*r.esz+k by omega] at B;rw [q] at B;cases B;exact ⟨c2,c3⟩
   ·have S:k<r.esz:=by rw [<- h6 _ e m];exact (List.getElem?_eq_some_iff.1 C).1
    rw [if_neg ?_] at B
    ·exact h7 i e k c v m C B
    ·intro J;rw [K,Nat.add_zero] at J;by_cases hi:i<Ap
     ·have:(i+1)*r.esz<=Ap*r.esz:=Nat.mul_le_mul_right _ hi;rw [Nat.add_mul] at this;omega
     ·have:(Ap+new.length)*r.esz<=i*r.esz:=Nat.mul_le_mul_right _ (by omega);rw [Nat.add_mul] at this;omega
 ·intro a y hm W;obtain ⟨q1,q2⟩:=s.sep j r _ a y X O trivial hm W;have hp:=Y q1;have p:=s.mem a y hm;refine ⟨?_,q1,?_⟩
  ·rw [cell?_eq (arr:=u) (ty:=t) (f:=(0,0)) (by rw [W];exact U) p.1,k3,if_neg (by subst hp;omega)];rw [<- cell?_eq (arr:=arr) (ty:=t) (f:=(0,0)) (by rw [W];exact h1) p.1];exact p.2
  ·rw [o];have:es.length*r.esz<=max es.length (Ap+new.length)*r.esz:=Nat.mul_le_mul_right _ (Nat.le_max_left _ _);omega
theorem Sim.rename (s:Sim M μ h w) {j id:Nat} {b:Blk} {r:Bk} {h':Hp} (q:h.get j=some b) (o:μ j=some r) (O:b.live) (S:h.get id=none)
  (D : ∀ k,h'.get k=if k=id then some b else if k=j then some .dead else h.get k):Sim M (IX μ id r) h' w/\Grow M μ w M (IX μ id r) w:=by
 have hμ:μ id=none:=by
  cases W:μ id with
  | none=>rfl
  | some x=>exact absurd S (s.use id x W).1
 have l:=Iw (r:=r) hμ;have U:j≠id:=by intro e;subst e;rw [S] at q;cases q
 have g : ∀ k x,IX μ id r k=some x->(k=id/\x=r)\/(k≠id/\μ k=some x):=by
  intro k x c;unfold IX at c;by_cases e:k=id
  ·rw [if_pos e] at c;exact .inl ⟨e,(Option.some.inj c).symm⟩
  ·rw [if_neg e] at c;exact .inr ⟨e,c⟩
 obtain ⟨Z,E,N⟩:=s.blk j b q;rw [o] at E;cases E;refine ⟨⟨s.glb,s.mem,?_,?_,?_,?_⟩,⟨.refl _,l,λ_ _ h => .inl h,?_,Nat.le_refl _,λ_ _ _=>rfl,rfl,rfl,rfl,λ_ arr _ _ h => .inr ⟨arr,h⟩⟩⟩
 ·intro k i c;rw [D] at c;by_cases e:k=id
  ·rw [if_pos e] at c;cases c;exact ⟨r,by simp [IX,e],N.mono (.refl _) l⟩
  ·rw [if_neg e] at c;by_cases e2:k=j
   ·rw [if_pos e2] at c;cases c;exact ⟨r,l _ _ (e2 ▸ o),trivial⟩
   ·rw [if_neg e2] at c;obtain ⟨rk,J,B⟩:=s.blk k i c;exact ⟨rk,l _ _ J,B.mono (.refl _) l⟩
 ·intro k rk c;rcases g k rk c with ⟨e,rfl⟩ | ⟨e,c⟩
  ·exact ⟨by rw [D,if_pos e];simp,(s.use j _ o).2⟩
  ·have:=s.use k rk c;refine ⟨?_,this.2⟩;rw [D,if_neg e];split
   ·simp
   ·exact this.1
 ·intro k t rk f i n d m A y u G K;rw [D] at A y
  have p : ∀ (k:Nat) (rk:Bk) (i:Blk),k≠id->(if k=id then some b else if k=j then some .dead else h.get k)=some i->i.live->k≠j/\h.get k=some i:=by
   intro k rk i e c L;rw [if_neg e] at c;by_cases e2:k=j
   ·rw [if_pos e2] at c;cases c;exact L.elim
   ·rw [if_neg e2] at c;exact ⟨e2,c⟩
  rcases g k rk d with ⟨e,F⟩ | ⟨e,d⟩
  ·rcases g t f m with ⟨z,C⟩ | ⟨z,m⟩
   ·exact e.trans z.symm
   ·obtain ⟨P,I⟩:=p t f n z y G;exact absurd (s.inj t j f r n b m o I q G O (by rw [<- K,F])) P
  ·obtain ⟨P,I⟩:=p k rk i e A u;rcases g t f m with ⟨z,C⟩ | ⟨z,m⟩
   ·exact absurd (s.inj k j rk r i b d o I q u O (by rw [K,C])) P
   ·obtain ⟨Y,X⟩:=p t f n z y G;exact s.inj k t rk f i n d m I X u G K
 ·intro k rk i a v d m A y u;rw [D] at d;rcases g k rk m with ⟨e,F⟩ | ⟨e,m⟩
  ·rw [if_pos e] at d;cases d;subst F;exact s.sep j _ _ a v q o O y u
  ·rw [if_neg e] at d;by_cases e2:k=j
   ·rw [if_pos e2] at d;cases d;exact A.elim
   ·rw [if_neg e2] at d;exact s.sep k rk i a v d m A y u
 ·intro k rk c;rcases g k rk c with ⟨_,F⟩ | ⟨_,c⟩
  ·exact .inl ⟨j,r,o,by rw [F]⟩
  ·exact .inl ⟨k,rk,c,rfl⟩
theorem ER (s:Sim M μ h w) {id n cap:Nat} {es:List PV} {fz:Bool} {arr rest:Array Value} {ty:TypeId} {h':Hp} {w':World} (u:0<n) (t:FlatRep M μ n es arr) (l:es.length<=cap) (f:rest.size=(cap-es.length)*n)
  (B:h.new id (.row es false fz)=some h') (y:w'.heap=w.heap.push (.cells (arr++rest) ty (0,0))) (e1:w'.os=w.os) (e2:w'.output=w.output) (e3:w'.tape=w.tape) :
  ∃ μ',Sim M μ' h' w'/\Grow M μ w M μ' w' /\ ∀ k,k<=es.length->Rep M μ' (.own id 0 k) (.slice (some ⟨w.heap.size,0,none⟩) k cap):=by
 obtain ⟨d,g,_⟩:=Hp.get_new B
 have hμ:μ id=none:=by
  cases C:μ id with
  | none=>rfl
  | some x=>exact absurd d (s.use id x C).1
 have z:(arr++rest).size=cap*n:=by
  rw [Array.size_append,t.1,f,<- Nat.add_mul];congr 1;omega
 have hS:=s.fresh (w':=w') (r:=⟨w.heap.size,0,n,cap⟩) (o:=.cells (arr++rest) ty (0,0)) d g y rfl
  ⟨_,ty,rfl,by simp only [Nat.zero_add];omega,l,(by intro h;cases h),u,λi e D=>t.2.1 i e D,λi e j c v a b m=>by
   obtain ⟨F,p,E,A⟩:=t.2.2 i e j c a b;simp only [Nat.zero_add] at m;have q:i*n+j<arr.size:=(Array.getElem?_eq_some_iff.1 p).1;rw [Array.getElem?_append_left q] at m;rw [m] at p;cases p
   exact ⟨E,A.mono (.refl _) (Iw hμ)⟩⟩
 refine ⟨_,hS.1,Grow.newBlk hμ y rfl e1 e2 e3 (λ_ _ _ h=>by cases h;rfl),λk G => ?_⟩;have:=Rep.own (M:=M) (IX μ id ⟨w.heap.size,0,n,cap⟩) id 0 k ⟨w.heap.size,0,n,cap⟩ (by simp [IX]) (by simp;omega);simpa using this
end
end Go.Proofs.YtfilfloanndddaaGreat.Pi
namespace Go.Proofs.YtfilfloanndddaaGreat.Pi
variable [Gl]
section
variable {P:Program} {M:CJ} {μ:Mu} {h:Hp} {w:World}
theorem GY {t ty e:TypeId} {n:Nat} (u:P.underlying t=some (.slice e)) (i:Bc P e=some n) (b:Addr) (a:Option Addr) (f sCap k c:Nat) (d:List Value) (g:f+k<=sCap)
  (m:k≠0 -> ∃ x,a=some x/\d.length=k*n /\ ∀ j v,d[j]? = some v->w.cell? (x.add j)=some v) (r:k=0->d=[]) :
  (Builtin.append_ #[t,t] ty #[.slice (some b) f sCap,.slice a k c]).run P w=match (storeCells (b.add (f*n)) d 0).run P w with
   | .ok _ w' => .ok (.slice (some b) (f+k) sCap) w'
   | .halt o w' => .halt o w':=by
 have p:(Builtin.firstCells n k (.slice a k c)).run P w = .ok d.toArray w:=by
  by_cases l:k=0
  ·rw [r l];cases a with
   | none=>exact run_firstCells_none w n k k c
   | some x=>exact run_firstCells_some w n k x k c [] (by simp [l]) (by intro j v h;simp at h)
  ·obtain ⟨x,rfl,s,q⟩:=m l;exact run_firstCells_some w n k x k c d s q
 simp only [Builtin.append_];simp only [Sem.run_bind,Ae u,Result.andThen,Bv i,Sem.run_pure,List.getElem?_toArray,List.getElem?_cons_zero,List.getElem?_cons_succ];simp [Builtin.lenOf,g,p];cases (storeCells (b.add (f*n)) d 0).run P w<;>rfl
theorem KF {t ty e:TypeId} {n:Nat} (f:P.underlying t=some (.slice e)) (b:Bc P e=some n) (a:Option Addr) (c:Nat) :
  (Builtin.append_ #[t,t] ty #[.slice none 0 0,.slice a 0 c]).run P w = .ok (.slice none 0 0) w:=by
 have d:(Builtin.firstCells n 0 (.slice a 0 c)).run P w = .ok #[] w:=by
  cases a with
  | none=>exact run_firstCells_none w n 0 0 c
  | some x=>exact run_firstCells_some w n 0 x 0 c [] (by simp) (by intro j v h;simp at h)
 simp only [Builtin.append_];simp only [Sem.run_bind,Ae f,Result.andThen,Bv b,Sem.run_pure,List.getElem?_toArray,List.getElem?_cons_zero,List.getElem?_cons_succ];simp [Builtin.lenOf,d]
theorem FlatRep.append {n:Nat} {es es':List PV} {arr b:Array Value} (d:FlatRep M μ n es arr) (g:FlatRep M μ n es' b):FlatRep M μ n (es++es') (arr++b):=by
 refine ⟨by simp [d.1,g.1,Nat.add_mul],λi e a => ?_,λi e j c a k => ?_⟩
 ·rw [List.getElem?_append] at a;split at a
  ·exact d.2.1 i e a
  ·exact g.2.1 _ e a
 ·rw [List.getElem?_append] at a;split at a
  ·obtain ⟨v,f,h⟩:=d.2.2 i e j c a k;exact ⟨v,by rw [Array.getElem?_append_left (Array.getElem?_eq_some_iff.1 f).1];exact f,h⟩
  ·rename_i hi;obtain ⟨v,f,h⟩:=g.2.2 _ e j c a k;refine ⟨v,?_,h⟩
   have:i*n+j=arr.size+((i-es.length)*n+j):=by
    rw [d.1,<- Nat.add_assoc,<- Nat.add_mul];congr 2;omega
   rw [this,Array.getElem?_append_right (by omega)];rw [show arr.size+((i-es.length)*n+j)-arr.size=(i-es.length)*n+j by omega];exact f
theorem FlatRep.nil {n:Nat}:FlatRep M μ n [] #[]:=⟨by simp,λi e a=>by simp at a,λi e j c a=>by simp at a⟩
def Mj (M:CJ) (μ:Mu) (w:World) (n:Nat) (es:List PV) (a:Option Addr):Prop :=
 es≠[] -> ∃ (b:Addr) (c:List Value),a=some b/\c.length=es.length*n/\(∀ j v,c[j]? = some v->w.cell? (b.add j)=some v)/\FlatRep M μ n es c.toArray
theorem PB {t ty e n:Nat} {g:TypeInfo} {z:Value} {olds new:List PV} {a0 a:Option Addr} {sCap c:Nat} (y:P.underlying t=some (.slice e)) (hi:P.info? e=some g) (u:g.zero=some z) (i:g.size=n) (q:z.cells.size=n) (_hn0:0<n)
  (B:Mj M μ w n olds a0) (J:Mj M μ w n new a) (r:a0=none->sCap=0/\olds=[]) (x:sCap<olds.length+new.length) (k:new≠[]) (o:olds.length+new.length<=EO) (p:g.bytes<=EO) :
  ∃ w' arr rest cap,(Builtin.append_ #[t,t] ty #[.slice a0 olds.length sCap,.slice a new.length c]).run P w = .ok (.slice (some ⟨w.heap.size,0,none⟩) (olds.length+new.length) cap) w' /\
   FlatRep M μ n (olds++new) arr/\olds.length+new.length<=cap/\rest.size=(cap-(olds.length+new.length))*n/\w'.heap=w.heap.push (.cells (arr++rest) e (0,0))/\w'.os=w.os/\w'.output=w.output/\w'.tape=w.tape:=by
 obtain ⟨b,d,rfl,n1,n2,n3⟩:=J k;have l:0<new.length:=List.length_pos_iff.2 k
 have m:(olds.length+new.length)*g.bytes<=140737488355328:=by
  have:(olds.length+new.length)*g.bytes<=1048576*1048576:=Nat.mul_le_mul o p;omega
 simp only [EO] at o p;cases a0 with
 | none =>
  obtain ⟨rfl,rfl⟩:=r rfl;simp only [List.length_nil,Nat.zero_add,List.nil_append] at *;have:=run_append_nil (P:=P) w t ty e g z y hi u b new.length c d (by rw [n1,i]) n2 l (by omega) (by omega);exact ⟨_,d.toArray,_,_,this,n3,grownCap_ge _ _ _ _,by simp [Builtin.zeroCells,q],rfl,rfl,rfl,rfl⟩
 | some b0 =>
  have s : ∃ f:List Value,f.length=olds.length*n/\(∀ j v,f[j]? = some v->w.cell? (b0.add j)=some v)/\FlatRep M μ n olds f.toArray:=by
   by_cases A:olds=[]
   ·subst A;exact ⟨[],by simp,by intro j v h;simp at h,FlatRep.nil⟩
   ·obtain ⟨b',f,G,F,D,E⟩:=B A;cases G;exact ⟨f,F,D,E⟩
  obtain ⟨f,K,I,C⟩:=s;have:=run_append_grow (P:=P) w t ty e g z y hi u b0 olds.length sCap f (by rw [K,i]) I b new.length c d (by rw [n1,i]) n2 x (by omega) (growslice_fits x m);exact ⟨_,f.toArray++d.toArray,_,_,this,C.append n3,grownCap_ge _ _ _ _,by simp [Builtin.zeroCells,q],rfl,rfl,rfl,rfl⟩
theorem jp {full:Bool} {es:List PV} {x:Value} {n:Nat} (c:Rep M μ (.lst full es) x) (d:HD n es=true) : ∀ v∈es,v.cells.length=n:=by
 intro v a;obtain ⟨i,hi⟩:=List.mem_iff_getElem?.1 a;cases c with
 | lst0=>simp at a
 | lst _ _ _ b off esz _ x hf hc hs hm h1 hr =>
  cases es with
  | nil=>simp at a
  | cons e es=>rw [hs i v hi,<- hs 0 e rfl];simpa [HD] using d
theorem mE (s:Sim M μ h w) {id t ty:Nat} {p q:PV} {x y:Value} (hx:Rep M μ p x) (hy:Rep M μ q y) {r:R} (e:KL P h id t p q=some r) :
  E5 P M μ w ((do pure (.value (<- Builtin.append_ #[t,t] ty #[x,y])):Sem Next).run P w) r:=by
 unfold KL at e;split at e
 ·rename_i el S;split at e
  ·rename_i E ti new zc n D hnew hzc;replace e:=E6 e;obtain ⟨hc,e⟩:=e;simp only [Bool.or_eq_false_iff,Bool.not_eq_false',List.all_eq_true,Nat.beq_eq,Nat.ble_eq,Nat.blt_eq] at hc;obtain ⟨⟨⟨hnl,hby⟩,hzl⟩,g⟩:=hc;obtain ⟨zv,i,hi,Z,hrun,hrz,h1z⟩:=FT hzc M μ w;rw [D] at hi;cases hi;have W:ti.size=E:=by simp [Bc,D] at n;exact n
   have X:zv.cells.size=E:=by rw [<- hzl];simpa using hrz.1.symm
   obtain ⟨a,c,rfl,hE⟩:=Mi s hy hnew hnl g;have O:Mj M μ w E new a:=hE;split at e
   ·cases hx;cases new with
    | nil =>
     simp at e;subst e;exact AV s (KF S n a c) (.nils _)
    | cons e0 z =>
     have e:(bif Nat.ble (e0::z).length EO then (h.new id (.row (e0::z) false false)).map (λh=>R.val (.own id 0 (e0::z).length) h) else none)=some r:=e
     replace e:=Bs e;obtain ⟨A,e⟩:=e;obtain ⟨h',o,rfl⟩:=AQ e;obtain ⟨w',arr,rest,cap,U,g2,g3,g4,g5,g6,g7,g8⟩:=PB (ty:=ty) (olds:=[]) (a0:=none) (sCap:=0) (c:=c) S D Z W X g (λh=>absurd rfl h) O (λ_=>⟨rfl,rfl⟩) (by simp) (by simp) (by simpa using A) hby;simp only [List.length_nil,Nat.zero_add,List.nil_append] at U g2 g3 g4;obtain ⟨μ',F,L,K⟩:=ER s g g2 g3 g4 o g5 g6 g7 g8;exact ⟨M,μ',w',_,by simp only [Sem.run_bind,U,Result.andThen,Sem.run_pure],F,L,K _ (Nat.le_refl _)⟩
   ·rename_i es
    have hlst : ∃ a0,x = .slice a0 es.length es.length/\(a0=none->es=[]):=by
     cases hx with
     | lst0 _ _ a cap hf=>have:=hf rfl;subst this;exact ⟨some a,rfl,λ_=>rfl⟩
     | lst _ _ _ b off esz cap x hf hc hs hm h1 hr=>have:=hf rfl;subst this;exact ⟨_,rfl,by intro h;cases h⟩
    obtain ⟨a0,rfl,ha0⟩:=hlst;cases new with
    | nil =>
     simp at e;subst e;cases a0 with
     | none =>
      have:=ha0 rfl;subst this;exact AV s (KF S n a c) hx
     | some b0 =>
      refine AV s (x:=.slice (some b0) es.length es.length) ?_ hx;have:=GY (P:=P) (w:=w) (ty:=ty) S n b0 a es.length es.length 0 c [] (by omega) (λh=>absurd rfl h) (λ_=>rfl);simpa [storeCells] using this
    | cons e0 z =>
     have e:(bif Nat.ble (es.length+(e0::z).length) EO&&HD E es then (h.new id (.row (es++(e0::z)) false false)).map (λh=>R.val (.own id 0 (es.length+(e0::z).length)) h) else none)=some r:=e
     replace e:=Bs e;obtain ⟨A,e⟩:=e;obtain ⟨h',o,rfl⟩:=AQ e;simp only [Bool.and_eq_true,Nat.ble_eq] at A
     have hO:Mj M μ w E es a0:=by
      obtain ⟨a',c',Y,hE2⟩:=Mi s hx (es:=es) rfl (jp hx A.2) g;cases Y;exact hE2
     obtain ⟨w',arr,rest,cap,U,g2,g3,g4,g5,g6,g7,g8⟩:=PB (ty:=ty) (c:=c) (sCap:=es.length) S D Z W X g hO O (λh=>by have:=ha0 h;subst this;exact ⟨rfl,rfl⟩) (by simp) (by simp) A.1 hby;obtain ⟨μ',F,L,K⟩:=ER s g g2 (by simpa using g3) (by simpa using g4) o g5 g6 g7 g8;exact ⟨M,μ',w',_,by simp only [Sem.run_bind,U,Result.andThen,Sem.run_pure],F,L,K _ (by simp)⟩
   ·rename_i j off len;split at e
    ·rename_i es ex fz hb;replace e:=E6 e;obtain ⟨hc,e⟩:=e;simp only [Bool.or_eq_false_iff,Bool.not_eq_false',Nat.ble_eq] at hc;obtain ⟨⟨A,J⟩,hel⟩:=hc;cases hx with
     | own _ _ _ _ rb hr hcap =>
     obtain ⟨r',hr',arr0,ety,h1,h2,h3,h4,h5,h6,h7⟩:=s.blk j _ hb;rw [hr] at hr';cases hr'
     have B:es≠[]->rb.esz=E:=by
      intro u;cases es with
      | nil=>exact absurd rfl u
      | cons e1 es1=>rw [<- h6 0 e1 rfl];simpa [HD] using hel
     have hall : ∀ v∈(es.drop off).take len,v.cells.length=E:=by
      intro v hv;have hv:=List.mem_of_mem_drop (List.mem_of_mem_take hv);obtain ⟨i,hi⟩:=List.mem_iff_getElem?.1 hv;rw [h6 i v hi,B (by intro h;subst h;simp at hv)]
     have C:((es.drop off).take len).length=len:=by simp;omega
     have hO:Mj M μ w E ((es.drop off).take len) (some ⟨rb.b,rb.base+off*rb.esz,none⟩):=by
      obtain ⟨a',c',Y,hE2⟩:=Mi s (.own (M:=M) μ j off len rb hr hcap) (es:=(es.drop off).take len) (by simp only [EN,hb,Nat.ble_eq_true_of_le J,cond_true]) hall g;simp only [Value.slice.injEq] at Y;obtain ⟨rfl,_,_⟩:=Y;exact hE2
     have fit : ∀ d:List Value,(new≠[]->d.length=new.length*E /\ ∀ k v,d[k]? = some v -> ∃ b,a=some b/\w.cell? (b.add k)=some v)->True:=λ_ _=>trivial
     have hnews : ∃ d:List Value,FlatRep M μ E new d.toArray/\(new.length≠0 -> ∃ x,a=some x/\d.length=new.length*E /\ ∀ j v,d[j]? = some v->w.cell? (x.add j)=some v)/\(new.length=0->d=[]):=by
      by_cases h0:new=[]
      ·subst h0;exact ⟨[],FlatRep.nil,λh=>absurd rfl h,λ_=>rfl⟩
      ·obtain ⟨b,d,x1,x2,x3,x4⟩:=O h0;exact ⟨d,x4,λ_=>⟨b,x1,x2,x3⟩,λh=>absurd (List.eq_nil_of_length_eq_zero h) h0⟩
     obtain ⟨d,hf,hn1,hn2⟩:=hnews
     have I:(⟨rb.b,rb.base+off*rb.esz,none⟩:Addr).add (len*E)=⟨rb.b,rb.base+(off+len)*rb.esz,none⟩:=by
      rw [PW];by_cases h0:es=[]
      ·subst h0;simp at J;simp [J.1,J.2]
      ·rw [B h0,Nat.add_mul,Nat.add_assoc]
     cases ex with
     | true =>
      have hlc:=h4 rfl;simp only [cond_true] at e;by_cases hnil:new=[]
      ·subst hnil;simp at e;subst e;refine AV s ?_ (.own (M:=M) μ j off len rb hr hcap);have:=GY (P:=P) (w:=w) (ty:=ty) S n ⟨rb.b,rb.base+off*rb.esz,none⟩ a len (rb.cap-off) 0 c [] (by omega) (λh=>absurd rfl h) (λ_=>rfl);simpa [storeCells] using this
      rw [show new.isEmpty=false by cases new with
       | nil=>exact absurd rfl hnil
       | cons _ _=>rfl,cond_false] at e
      cases f:Nat.ble (off+len+new.length) es.length with
      | true =>
       simp only [f,cond_true] at e;replace e:=E6 e;obtain ⟨hfz,e⟩:=e;obtain ⟨h',hset,rfl⟩:=AQ e;subst hfz;simp only [Nat.ble_eq] at f;obtain ⟨w',F,L,K⟩:=Nl (P:=P) s hr hb hf (λu=>B (by intro h;subst h;exact u (List.eq_nil_of_length_eq_zero (by simp only [List.length_nil] at f;omega)))) J (by omega) (λ_=>f) (by intro h;cases h) hset;refine ⟨M,μ,w',_,?_,L,K,.own (M:=M) μ j off (len+new.length) rb hr (by omega)⟩;have:=GY (P:=P) (w:=w) (ty:=ty) S n ⟨rb.b,rb.base+off*rb.esz,none⟩ a len (rb.cap-off) new.length c d (by omega) hn1 hn2;rw [I,F] at this;simp only [Sem.run_bind,this,Result.andThen,Sem.run_pure]
      | false =>
       simp only [f,cond_false] at e;obtain ⟨h',o,rfl⟩:=AQ e
       have hlt:es.length<off+len+new.length:=by
        rcases Nat.lt_or_ge es.length (off+len+new.length) with h | h
        ·exact h
        ·rw [Nat.ble_eq_true_of_le h] at f;cases f
       have u:new≠[]:=by intro h;subst h;simp at hlt;omega
       obtain ⟨w',arr,rest,cap,U,g2,g3,g4,g5,g6,g7,g8⟩:=PB (ty:=ty) (c:=c) (sCap:=rb.cap-off) S D Z W X g hO O (by intro h;cases h) (by rw [C];omega) u (by rw [C];exact A) hby;obtain ⟨μ',F,L,K⟩:=ER s g g2 (by simpa using g3) (by simpa using g4) o g5 g6 g7 g8;rw [C] at U;exact ⟨M,μ',w',_,by simp only [Sem.run_bind,U,Result.andThen,Sem.run_pure],F,L,K _ (by rw [List.length_append,C];exact Nat.le_refl _)⟩
     | false =>
      simp only [cond_false] at e;replace e:=Bs e;obtain ⟨hc,e⟩:=e;simp only [Bool.and_eq_true,Nat.beq_eq,Nat.blt_eq] at hc;obtain ⟨⟨N,rfl⟩,hlp⟩:=hc;split at e
      ·rename_i h1' m;obtain ⟨h',o,rfl⟩:=AQ e;obtain ⟨d1,d2⟩:=Hp.get_set m;obtain ⟨n1,n2,n3⟩:=Hp.get_new o;have hid:id≠j:=by intro e;subst e;rw [d1,if_pos rfl] at n1;cases n1
       have hgid:h.get id=none:=by rw [d1,if_neg hid] at n1;exact n1
       have hene:es≠[]:=by intro h;subst h;simp at N;omega
       by_cases G:len+new.length<=rb.cap
       ·have l : ∃ h2,h.set j (.row (EH es len new) false fz)=some h2:=by
         unfold Hp.set at m ⊢;cases hj:Nat.blt j (j+1) with
         | true=>exact ⟨_,rfl⟩
         | false=>rw [hj] at m;cases m
        obtain ⟨h2,l⟩:=l;obtain ⟨w',F,L,K⟩:=Nl (P:=P) s hr hb hf (λ_=>B hene) (by omega) G (by intro h;cases h) (λ_=>N) l;obtain ⟨t1,t2⟩:=Hp.get_set l
        have Ai:EH es len new=es++new:=by
         unfold EH;rw [N];simp
        have hR:=L.rename (j:=j) (id:=id) (h':=h') (b:=.row (es++new) false fz) (by rw [t1,if_pos rfl,Ai]) hr trivial (by rw [t1,if_neg hid];exact hgid) (λk=>by
         rw [n2,d1,t1];by_cases e1:k=id
         ·rw [if_pos e1,if_pos e1]
         ·rw [if_neg e1,if_neg e1];split<;>rfl)
        refine ⟨M,_,w',_,?_,hR.1,K.trans hR.2,.own (M:=M) _ id 0 (len+new.length) rb (by simp [IX]) (by omega)⟩;have:=GY (P:=P) (w:=w) (ty:=ty) S n ⟨rb.b,rb.base+0*rb.esz,none⟩ a len (rb.cap-0) new.length c d (by omega) hn1 hn2;rw [I,Nat.zero_add,F] at this;simp only [Sem.run_bind,this,Result.andThen,Sem.run_pure]
       ·have sD:=s.update (w':=w) hb hr trivial d1 (λ_ _=>rfl) rfl trivial (λa v hm ha=>⟨(s.mem a v hm).2,trivial⟩);have u:new≠[]:=by intro h;subst h;simp at G;omega
        have htk:(es.drop 0).take len=es:=by rw [N];simp
        rw [htk] at hO;obtain ⟨w',arr,rest,cap,U,g2,g3,g4,g5,g6,g7,g8⟩:=PB (ty:=ty) (c:=c) (sCap:=rb.cap-0) S D Z W X g hO O (by intro h;cases h) (by omega) u (by omega) hby;obtain ⟨μ',F,L,K⟩:=ER sD g g2 (by simpa using g3) (by simpa using g4) o g5 g6 g7 g8;rw [<- N] at U;exact ⟨M,μ',w',_,by simp only [Sem.run_bind,U,Result.andThen,Sem.run_pure],F,L,K _ (by rw [List.length_append];omega)⟩
      ·cases e
    ·cases e
   ·cases e
  ·cases e
 ·cases e
end
end Go.Proofs.YtfilfloanndddaaGreat.Pi
namespace Go.Proofs.YtfilfloanndddaaGreat.Pi
variable [Gl]
section
variable {P:Program} {M:CJ} {μ:Mu} {h:Hp} {w:World}
theorem Jh {g : Nat} {fn : Func} {vs : Array Value} (hg : P.funcs[g]? = some fn) (hc : (fn.body.isSome && !(fn.name == "runtime.NumGoroutine")) = true) :
  (callFunc g vs).run P w = .ok (.enter g vs) w /\ ∃ c,fn.body=some c:=by
 simp only [Bool.and_eq_true,Bool.not_eq_true'] at hc;obtain ⟨c,hb⟩:=Option.isSome_iff_exists.1 hc.1;refine ⟨?_,c,hb⟩;simp only [callFunc,Sem.run_bind,run_program,Result.andThen,hg,hc.2,hb];simp
theorem cA {g:Nat} {args:List PV} {r:R} (e:(match P.funcs[g]? with
  | some fn => bif fn.body.isSome && !(fn.name == "runtime.NumGoroutine") then some (R.call g args) else none
  | none => none) = some r) : r = .call g args ∧ ∃ fn, P.funcs[g]? = some fn ∧ (fn.body.isSome && !(fn.name == "runtime.NumGoroutine")) = true := by
 split at e
 ·rename_i fn hfn;replace e:=Bs e;obtain ⟨hc,e⟩:=e;cases e;exact ⟨rfl,fn,hfn,hc⟩
 ·cases e
theorem PC {g : Nat} {args : List PV} {r : R} (e : (bif (match P.funcs[g]? with | some fn => fn.body.isSome && !(fn.name == "runtime.NumGoroutine") | none => false) then some (R.call g args) else none) = some r) :
  r = .call g args ∧ ∃ fn, P.funcs[g]? = some fn ∧ (fn.body.isSome && !(fn.name == "runtime.NumGoroutine")) = true := by
 replace e:=Bs e;obtain ⟨hc,e⟩:=e;split at hc
 ·rename_i fn hfn;cases e;exact ⟨rfl,fn,hfn,hc⟩
 ·cases hc
theorem LB {f:Fn} {first cap args:List PV} {vf vc va:List Value} (hf:RepL M μ first vf) (hc:RepL M μ cap vc) (ha:RepL M μ args va) {r:R} (e:F8 P f first cap args=some r) :
  E5 P M μ w ((invoke (.fn f vc.toArray) (vf++va).toArray).run P w) r /\ ∃ g as,r = .call g as:=by
 unfold F8 at e;split at e
 ·rename_i g;obtain ⟨rfl,fn,hfn,hok⟩:=cA e;obtain ⟨h1,c,h2⟩:=Jh (w:=w) (vs:=((vf++va)++vc).toArray) hfn hok;refine ⟨⟨(vf++va)++vc,?_,(hf.append ha).append hc,fn,c,hfn,h2⟩,_,_,rfl⟩;simpa [invoke] using h1
 ·rename_i name;split at e
  ·rename_i t v rest heq;have hall:=hf.append ha;rw [heq] at hall;obtain ⟨x,ws,hws,hx,hrest⟩:=hall.cons_inv;cases hx with
   | ifc _ _ _ xv hxv =>
   split at e
   ·rename_i i hi;split at e
    ·rename_i m hm
     have meth : ∀ g pr, m.path.isEmpty = true → m.func = some (g, pr) → (receiverAt t (.val xv) pr (some ((name.splitOn ".").getLastD name))).run P w = .ok xv w →
       (invoke (.fn (.method name) vc.toArray) (vf++va).toArray).run P w=(callFunc g (xv::ws).toArray).run P w:=by
      intro g pr hpath hfun hrec;rw [hws];have hp2:m.path.toList=[]:=by simpa [Array.isEmpty_iff] using hpath
      have hm1:(method ((P.types.size+Made.depth)) t xv name).run P w = .ok (g,xv) w:=by
       have hpos:0<Made.depth:=by decide
       have hne:P.types.size+Made.depth=(P.types.size+Made.depth-1)+1:=by omega
       rw [hne];unfold method;simp only [Sem.run_bind,K8 hi,Result.andThen,hm,hp2,follow,Sem.run_pure,hfun,hpath,if_true,hrec]
      simp [invoke,callMethod,hm1]
     split at e
     ·rename_i g el hpath hfun hu;obtain ⟨rfl,fn,hfn,hok⟩:=PC e;obtain ⟨h1,c,h2⟩:=Jh (w:=w) (vs:=(xv::ws).toArray) hfn hok;refine ⟨⟨xv::ws,?_,RepL.cons hxv hrest,fn,c,hfn,h2⟩,_,_,rfl⟩;rw [meth g true hpath hfun (by simp [receiverAt,Ae hu,Place.get]),h1]
     ·cases e
     ·rename_i g d hnp hpath hfun hu;obtain ⟨rfl,fn,hfn,hok⟩:=PC e;obtain ⟨h1,c,h2⟩:=Jh (w:=w) (vs:=(xv::ws).toArray) hfn hok;refine ⟨⟨xv::ws,?_,RepL.cons hxv hrest,fn,c,hfn,h2⟩,_,_,rfl⟩;rw [meth g false hpath hfun ?_,h1]
      have : ∀ el,d ≠ .pointer el:=by
       intro el hd;subst hd
       first | exact hnp _ _ hfun hu | exact hnp _ _ rfl rfl | (simp_all)
      cases d<;>first | exact absurd rfl (this _) | simp [receiverAt,Ae hu,Place.get]
     ·cases e
    ·cases e
   ·cases e
  ·cases e
 ·cases e
end
end Go.Proofs.YtfilfloanndddaaGreat.Pi
namespace Go.Proofs.YtfilfloanndddaaGreat.Pi
variable [Gl]
section
variable {P:Program} {M:CJ} {μ:Mu} {h:Hp} {w:World}
theorem Tl {a:List PV} {vs:List Value} {p:PV} (h:RepL M μ a vs) (e:a=[p]) : ∃ x,vs=[x]/\Rep M μ p x:=by
 subst e;obtain ⟨x,d,rfl,b,c⟩:=h.cons_inv;exact ⟨x,by rw [c.nil_inv],b⟩
theorem Tn {b:List PV} {vs:List Value} {p q:PV} (h:RepL M μ b vs) (e:b=[p,q]) : ∃ x y,vs=[x,y]/\Rep M μ p x/\Rep M μ q y:=by
 subst e;obtain ⟨x,i,rfl,c,g⟩:=h.cons_inv;obtain ⟨y,d,rfl,f,a⟩:=g.cons_inv;exact ⟨x,y,by rw [a.nil_inv],c,f⟩
theorem FlatRep.take {n:Nat} {es:List PV} {a:List Value} (d:FlatRep M μ n es a.toArray) (k:Nat):FlatRep M μ n (es.take k) (a.take ((es.take k).length*n)).toArray:=by
 have m:a.length=es.length*n:=by simpa using d.1
 refine ⟨?_,λi e b => ?_,λi e j c b f => ?_⟩
 ·simp only [List.size_toArray,List.length_take,m];exact Nat.min_eq_left (Nat.mul_le_mul_right _ (Nat.min_le_right _ _))
 ·rw [List.getElem?_take] at b;split at b
  ·exact d.2.1 i e b
  ·cases b
 ·have hi:i<(es.take k).length:=(List.getElem?_eq_some_iff.1 b).1;rw [List.getElem?_take] at b;split at b
  ·obtain ⟨v,g,h⟩:=d.2.2 i e j c b f;refine ⟨v,?_,h⟩;have l:j<n:=by rw [<- d.2.1 i e b];exact (List.getElem?_eq_some_iff.1 f).1
   simp only [List.getElem?_toArray] at g ⊢;rw [List.getElem?_take,if_pos ?_]
   ·exact g
   ·have:(i+1)*n<=(es.take k).length*n:=Nat.mul_le_mul_right _ hi;rw [Nat.add_mul] at this;omega
  ·cases b
theorem Ml {d:TypeDesc} {k:PV} {p:Value} (q:Rep M μ k p) : ∀ {es es':List (PV×PV)} {a:List MapEntry} (n:Nat),EntsRep M μ es a->KN d es k=some es' ->
  (∃ i x,Instr.findNow d p a n=some (some (n+i,x))/\i<a.length/\EntsRep M μ es' (a.eraseIdx i)) \/
  (Instr.findNow d p a n=some none/\EntsRep M μ es' a)
 | [],es',a,n,hr,e=>by
  cases e;cases a with
  | nil=>exact .inr ⟨rfl,hr⟩
  | cons _ _=>simp [EntsRep] at hr
 | (k1,v1)::es,es',a,n,hr,e=>by
  cases a with
  | nil=>simp [EntsRep] at hr
  | cons b a =>
   obtain ⟨c,m⟩:=hr.2 0 k1 v1 b rfl rfl;unfold KN at e;split at e
   ·rename_i hc;cases e;have:=HW hc q c;exact .inl ⟨0,b.val,by simp [Instr.findNow,this.1],by simp,by simpa using hr.tail⟩
   ·rename_i hc;have s:=(HW hc q c).1;split at e
    ·rename_i l t;cases e
     have cons : ∀ {l:List (PV×PV)} {g:List MapEntry},EntsRep M μ l g->EntsRep M μ ((k1,v1)::l) (b::g):=by
      intro l g f;refine ⟨by simp [f.1],λi k v e r o => ?_⟩;cases i with
      | zero=>simp at r o;obtain ⟨rfl,rfl⟩:=r;subst o;exact ⟨c,m⟩
      | succ i=>exact f.2 i k v e (by simpa using r) (by simpa using o)
     rcases Ml q (n+1) hr.tail t with ⟨i,x,j,h,u⟩ | ⟨j,h⟩
     ·refine .inl ⟨i+1,x,?_,by simpa using h,by simpa using cons u⟩;simp [Instr.findNow,s,j];omega
     ·exact .inr ⟨by simp [Instr.findNow,s,j],cons h⟩
    ·cases e
   ·cases e
theorem X2 {l:List PV} {vs:List Value} {k:IntKind} (f:Int->Int->Int) (g:Value->Value->Sem Value) (d : ∀ k x b y w,(g (.int k x) (.int b y)).run P w = .ok (.int k (f x y)) w) :
  ∀ {m r:Int},RepL M μ l vs->F7 f m l k=some r->(vs.foldlM g (.int k m)).run P w = .ok (.int k r) w:=by
 induction l generalizing vs with
 | nil=>intro m r a e;cases e;rw [a.nil_inv];simp
 | cons p l i =>
  intro m r a e;cases p with
  | int b y =>
   simp only [F7] at e;replace e:=Bs e;obtain ⟨n,e⟩:=e;obtain ⟨x,j,rfl,h,c⟩:=a.cons_inv;cases h;simp only [List.foldlM_cons,Sem.run_bind,d,Result.andThen];exact i c e
  | _=>simp [F7] at e
theorem PY (s:Sim M μ h w) {id:Nat} {b:Builtin} {E:Array TypeId} {ty:TypeId} {cs:Array Bool} {args:List PV} {vs:List Value} (K:RepL M μ args vs) {r:R} (e:Al P h id b E args=some r) :
  E5 P M μ w ((builtin b E ty cs vs.toArray).run P w) r:=by
 unfold Al at e;split at e
 ·split at e
  ·rename_i x t D;obtain ⟨v,rfl,J⟩:=Tl K rfl;have u:E[0]? = some t:=D;split at e
   ·rename_i kt el j A;split at e
    ·rename_i es C;cases e;cases J with
     | mp _ _ rb hr =>
     obtain ⟨r',z,o,g,G,Y,h3⟩:=s.blk j _ C;rw [hr] at z;cases z;refine AV s (x:=.int .i64 es.length) ?_ (.int _ _ _);simp [Builtin.len_,u,Ae A,E8 G,Y,goInt]
    ·cases e
   ·rename_i A;cases e;cases J;exact AV s (x:=.int .i64 0) (by simp [Builtin.len_,u,Ae A,goInt]) (.int _ _ _)
   ·rename_i n el A;cases e;exact AV s (x:=.int .i64 n) (by simp [Builtin.len_,u,Ae A,goInt]) (.int _ _ _)
   ·rename_i A;cases e;cases J;exact AV s (x:=.int .i64 0) (by simp [Builtin.len_,u,Ae A,goInt]) (.int _ _ _)
   ·rename_i full es A;cases e;cases J<;>exact AV s (x:=.int .i64 _) (by simp [Builtin.len_,u,Ae A,goInt]) (.int _ _ _)
   ·rename_i j off len A;cases e;cases J;exact AV s (x:=.int .i64 len) (by simp [Builtin.len_,u,Ae A,goInt]) (.int _ _ _)
   ·rename_i l A;cases e;cases J;exact AV s (x:=.int .i64 _) (by simp [Builtin.len_,u,Ae A,goInt]) (.int _ _ _)
   ·cases e
  ·cases e
 ·split at e
  ·rename_i x t D;obtain ⟨v,rfl,J⟩:=Tl K rfl;have u:E[0]? = some t:=D;split at e
   ·rename_i el j off len A;split at e
    ·rename_i es fz C;cases e;cases J with
     | own _ _ _ _ rb hr hcap =>
     obtain ⟨r',z,arr0,ety,G,Y,h3,h4,h5,h6,h7⟩:=s.blk j _ C;rw [hr] at z;cases z;refine AV s (x:=.int .i64 (es.length-off:Nat)) ?_ (.int _ _ _);rw [h4 rfl];simp [Builtin.cap_,u,Ae A,goInt]
    ·cases e
   ·rename_i A;cases e;cases J;exact AV s (x:=.int .i64 0) (by simp [Builtin.cap_,u,Ae A,goInt]) (.int _ _ _)
   ·cases e
  ·cases e
 ·split at e
  ·rename_i p q t t' hats;replace e:=Bs e;obtain ⟨X,e⟩:=e;have X:=Nat.eq_of_beq_eq_true X;subst X;obtain ⟨x,y,rfl,F,N⟩:=Tn K rfl;have:E = #[t,t]:=by rw [<- Array.toArray_toList (xs:=E),hats]
   subst this;exact mE s F N e
  ·cases e
 ·split at e
  ·rename_i j off len q t D;obtain ⟨x,y,rfl,F,N⟩:=Tn K rfl;have u:E[0]? = some t:=D;split at e
   ·rename_i el es ex new A C hnew;split at e
    ·rename_i Z hsz;replace e:=E6 e;obtain ⟨hc,e⟩:=e;simp only [Bool.or_eq_false_iff,Bool.not_eq_false',List.all_eq_true,Nat.beq_eq,Nat.ble_eq,Nat.blt_eq] at hc;obtain ⟨⟨⟨hnl,hol⟩,hn0⟩,hel⟩:=hc;obtain ⟨h',B,rfl⟩:=AQ e;obtain ⟨a,c,rfl,hE⟩:=Mi s N hnew hnl hn0;cases F with
     | own _ _ _ _ rb hr hcap =>
     obtain ⟨r',z,arr0,ety,G,Y,h3,h4,h5,h6,h7⟩:=s.blk j _ C;rw [hr] at z;cases z
     have hesz:es≠[]->rb.esz=Z:=by
      intro S;cases es with
      | nil=>exact absurd rfl S
      | cons e1 es1=>rw [<- h6 0 e1 rfl];simpa [HD] using hel
     have W:(new.take len).length=Nat.min new.length len:=by rw [List.length_take,Nat.min_comm]
     have U : ∃ I:List Value,FlatRep M μ Z (new.take len) I.toArray/\(Builtin.firstCells Z (Nat.min new.length len) (.slice a new.length c)).run P w = .ok I.toArray w:=by
      by_cases h0:new=[]
      ·subst h0;refine ⟨[],by simpa using FlatRep.nil,?_⟩;have:Nat.min ([]:List PV).length len=0:=by simp
       rw [this];cases a with
       | none=>exact run_firstCells_none w Z 0 0 c
       | some x=>exact run_firstCells_some w Z 0 x 0 c [] (by simp) (by intro j v h;simp at h)
      ·obtain ⟨b,I,rfl,x2,x3,x4⟩:=hE h0;refine ⟨_,x4.take len,?_⟩;refine run_firstCells_some w Z _ b _ c _ ?_ ?_
       ·have:=(x4.take len).1;simpa [W] using this
       ·intro k v hk;rw [List.getElem?_take] at hk;split at hk
        ·exact x3 k v hk
        ·cases hk
     obtain ⟨I,hf,hfc⟩:=U;have hlm:(new.take len).length<=len:=by simp;omega
     obtain ⟨w',k1,k2,k3⟩:=Nl (P:=P) s hr C hf (λS=>hesz (by
      intro h;subst h;have:(new.take len).length=0:=by simp only [List.length_nil] at hol;omega
      exact S (List.eq_nil_of_length_eq_zero this))) (by omega) (by omega) (λ_=>by omega) (by intro h;cases h) B
     refine ⟨M,μ,w',.int .i64 (Nat.min new.length len:Nat),?_,k2,k3,.int _ _ _⟩;simp [builtin,Builtin.copy_,u,Ae A,Builtin.lenOf,Bv hsz,hfc,k1,goInt]
    ·cases e
   ·cases e
  ·cases e
 ·split at e
  ·rename_i j t D;obtain ⟨v,rfl,J⟩:=Tl K rfl;have u:E[0]? = some t:=D;split at e
   ·rename_i kt el es A C;obtain ⟨h',B,rfl⟩:=AQ e;cases J with
    | mp _ _ rb hr =>
    obtain ⟨r',z,o,g,G,Y,h3⟩:=s.blk j _ C;rw [hr] at z;cases z;have hS:=s.object (o':=.map #[] g) C hr trivial B G (by intro a t f hc;cases hc) ⟨_,g,rfl,rfl,λi k v e p q=>by simp at p⟩;have so:=EQ (P:=P) (o':=.map #[] g) G (by intro a t f hc;cases hc);refine ⟨M,μ,_,.tuple #[],?_,hS.1,hS.2,.tup _ _ _ rfl (λi c v hc=>by simp at hc)⟩;simp [builtin,Builtin.clear_,u,Ae A,E8 G,so]
   ·cases e
  ·cases e
 ·split at e
  ·rename_i j k t D;obtain ⟨x,y,rfl,F,N⟩:=Tn K rfl;have u:E[0]? = some t:=D;split at e
   ·rename_i kt el es A C;split at e
    ·rename_i d hd;replace e:=E6 e;obtain ⟨L,e⟩:=e;have L:HT d=true:=by simpa using L
     split at e
     ·rename_i es' hdel;obtain ⟨h',B,rfl⟩:=AQ e;cases F with
      | mp _ _ rb hr =>
      obtain ⟨r',z,o,g,G,Y,h3⟩:=s.blk j _ C;rw [hr] at z;cases z;have her:EntsRep M μ es o.toList:=⟨by simpa using Y,λi k v e a b=>h3 i k v e a (by simpa using b)⟩;rcases Ml N 0 her hdel with ⟨i,xx,a1,a2,a3⟩ | ⟨a1,a2⟩
      ·have fk:(Instr.findKey kt y o.toList).run P w = .ok (some (i,xx)) w:=by simp [Instr.findKey,Ae hd,a1]
       have W:i<o.size:=by simpa using a2
       have O:(o.eraseIdxIfInBounds i).toList=o.toList.eraseIdx i:=by
        simp [Array.eraseIdxIfInBounds,W]
       have hS:=s.object (o':=.map (o.eraseIdxIfInBounds i) g) C hr trivial B G (by intro a t f hc;cases hc)
        ⟨_,g,rfl,by have:=a3.1;rw [<- O,Array.length_toList] at this;exact this,λi k v e p q=>a3.2 i k v e p (by
         rw [<- O,Array.getElem?_toList];exact q)⟩
       have so:=EQ (P:=P) (o':=.map (o.eraseIdxIfInBounds i) g) G (by intro a t f hc;cases hc);refine ⟨M,μ,_,.tuple #[],?_,hS.1,hS.2,.tup _ _ _ rfl (λi c v hc=>by simp at hc)⟩;simp [builtin,Builtin.delete_,u,Ae A,E8 G,E7 hd L,fk,so]
      ·have fk:(Instr.findKey kt y o.toList).run P w = .ok none w:=by simp [Instr.findKey,Ae hd,a1]
       have hS:=s.object (o':=.map o g) C hr trivial B G (by intro a t f hc;cases hc)
        ⟨_,g,rfl,by simpa using a2.1,λi k v e p q=>a2.2 i k v e p (by simpa using q)⟩
       have so:=EQ (P:=P) (o':=.map o g) G (by intro a t f hc;cases hc);refine ⟨M,μ,_,.tuple #[],?_,hS.1,hS.2,.tup _ _ _ rfl (λi c v hc=>by simp at hc)⟩;simp [builtin,Builtin.delete_,u,Ae A,E8 G,E7 hd L,fk,so]
     ·cases e
    ·cases e
   ·cases e
  ·cases e
 ·split at e
  ·rename_i k a rest;obtain ⟨m,hm,rfl⟩:=AQ e;obtain ⟨x,ws,rfl,F,X⟩:=K.cons_inv;cases F;refine AV s (x:=.int k m) ?_ (.int _ _ _);simp only [Builtin.max_];exact X2 _ Builtin.max2 (λk x k' y w=>by simp [Builtin.max2]) X hm
  ·rename_i a c;cases e;obtain ⟨x,y,rfl,F,N⟩:=Tn K rfl;cases F with
   | str _ s1=>cases N with
    | str _ s2 =>
     refine AV s (x:=.string (if !Op.bytesLess s1.data.toList s2.data.toList then s1 else s2)) ?_ ?_
     ·simp [Builtin.max_,Builtin.max2,Op.stringOp,asBool,ByteArray.toList_eq]
     ·cases C:Op.bytesLess s1.data.toList s2.data.toList
      ·simpa [C] using Rep.str (M:=M) μ s1
      ·simpa [C] using Rep.str (M:=M) μ s2
  ·cases e
 ·split at e
  ·rename_i k a rest;obtain ⟨m,hm,rfl⟩:=AQ e;obtain ⟨x,ws,rfl,F,X⟩:=K.cons_inv;cases F;refine AV s (x:=.int k m) ?_ (.int _ _ _);simp only [Builtin.min_];exact X2 _ Builtin.min2 (λk x k' y w=>by simp [Builtin.min2]) X hm
  ·rename_i a c;cases e;obtain ⟨x,y,rfl,F,N⟩:=Tn K rfl;cases F with
   | str _ s1=>cases N with
    | str _ s2 =>
     refine AV s (x:=.string (if Op.bytesLess s1.data.toList s2.data.toList||s1.data.toList == s2.data.toList then s1 else s2)) ?_ ?_
     ·simp [Builtin.min_,Builtin.min2,Op.stringOp,asBool,ByteArray.toList_eq]
     ·cases C:(Op.bytesLess s1.data.toList s2.data.toList||s1.data.toList == s2.data.toList)
      ·simpa [C] using Rep.str (M:=M) μ s2
      ·simpa [C] using Rep.str (M:=M) μ s1
  ·cases e
 ·split at e
  ·rename_i t v;cases e;obtain ⟨x,rfl,F⟩:=Tl K rfl;cases F with
   | ifc _ _ _ xv hxv =>
    refine ⟨.iface t xv,?_,.ifc _ _ _ _ hxv⟩;simp [builtin,Instr.panic,goPanic]
  ·cases e
 ·cases e;simp [E5,builtin]
 ·cases e
end
end Go.Proofs.YtfilfloanndddaaGreat.Pi
namespace Go.Proofs.YtfilfloanndddaaGreat.Pi
variable [Gl]
section
variable {P:Program} {M:CJ} {μ:Mu} {h:Hp} {w:World} {t:T PV} {nt:Nat} {a:Act}
theorem IE (b:GlOK M) (d:TmpsRep M μ t nt a.tmps) {x:Operand} {k:PV->Option R} {r:R} (e:e1 t x k=some r) : ∃ p,k p=some r/\Rep M μ p (a.eval x):=by
 unfold e1 at e;split at e
 ·rename_i p c;exact ⟨p,e,GX b d c⟩
 ·cases e
theorem RG (b:GlOK M) (c:TmpsRep M μ t nt a.tmps) {x y:Operand} {k:PV->PV->Option R} {r:R} (e:e2 t x y k=some r) : ∃ p q,k p q=some r/\Rep M μ p (a.eval x)/\Rep M μ q (a.eval y):=by
 unfold e2 at e;split at e
 ·rename_i p q d f;exact ⟨p,q,e,GX b c d,GX b c f⟩
 ·cases e
theorem cB (b:GlOK M) (c:TmpsRep M μ t nt a.tmps) {x y z:Operand} {k:PV->PV->PV->Option R} {r:R} (e:e3 t x y z k=some r) : ∃ p q s,k p q s=some r/\Rep M μ p (a.eval x)/\Rep M μ q (a.eval y)/\Rep M μ s (a.eval z):=by
 unfold e3 at e;split at e
 ·rename_i p q s d f hs;exact ⟨p,q,s,e,GX b c d,GX b c f,GX b c hs⟩
 ·cases e
theorem SO (s:Sim M μ h w) {id:Nat} {b:TypeId} {p:PV} {x:Value} (d:Rep M μ p x) {r:R} (e:Lh h id p=some r) :
  E5 P M μ w ((do pure (.value (<- Instr.box b x)):Sem Next).run P w) r:=by
 unfold Lh at e;split at e
 ·cases e
 ·rename_i a;obtain ⟨h',c,rfl⟩:=AQ e;obtain ⟨j,f⟩:=d.cells (λcs hc=>a cs hc);have:=RB (P:=P) s (ty:=b) j (λi v g=>f i v g) c;simpa [Instr.box,newVar] using this
theorem cC (s:Sim M μ h w) {id:Nat} {b:TypeId} {r:R} (e:HU P h id b=some r) :
  E5 P M μ w ((do pure (.value (<- Instr.alloc b true (.tuple #[]))):Sem Next).run P w) r:=by
 unfold HU at e;split at e
 ·rename_i cs c;obtain ⟨h',d,rfl⟩:=AQ e;obtain ⟨k,i,hi,f,a,j,g⟩:=FT c M μ w;have:=RB (P:=P) s (ty:=b) j (SH g) d;simpa [Instr.alloc,a,newVar] using this
 ·cases e
theorem ZG (s:Sim M μ h w) {id:Nat} {ty:TypeId} {r:R} (e:(h.new id (.mp [])).map (λh=>R.val (.mp id) h)=some r) :
  E5 P M μ w ((do pure (.value (<- Instr.makeMap ty none)):Sem Next).run P w) r:=by
 obtain ⟨h',d,rfl⟩:=AQ e;obtain ⟨a,b,_⟩:=Hp.get_new d
 have hμ:μ id=none:=by
  cases c:μ id with
  | none=>rfl
  | some x=>exact absurd a (s.use id x c).1
 have hS:=s.fresh (w':=w.alloc (.map #[] 0)) (r:=⟨w.heap.size,0,0,0⟩) (o:=.map #[] 0) a b rfl rfl
  ⟨#[],0,rfl,rfl,λi k v e f=>by simp at f⟩
 refine ⟨M,IX μ id ⟨w.heap.size,0,0,0⟩,w.alloc (.map #[] 0),.map (some w.heap.size),?_,hS.1,Grow.newBlk hμ rfl rfl rfl rfl rfl (λ_ _ _ h=>by cases h),?_⟩
 ·simp [Instr.makeMap]
 ·exact .mp _ _ ⟨w.heap.size,0,0,0⟩ (by simp [IX])
theorem jq (s:Sim M μ h w) {c p q:PV} {vc x y:Value} (hc:Rep M μ c vc) (a:Rep M μ p x) (b:Rep M μ q y) {r:R} (e:Iv h c p q=some r) :
  E5 P M μ w ((do pure (.value (if <- asBool vc then x else y)):Sem Next).run P w) r:=by
 unfold Iv at e;split at e
 ·cases e;cases hc;exact ⟨M,μ,w,x,by simp [asBool],s,.refl _ _ _,a⟩
 ·cases e;cases hc;exact ⟨M,μ,w,y,by simp [asBool],s,.refl _ _ _,b⟩
 ·cases e
theorem To (s:Sim M μ h w) {f:Fn} {p q:List PV} {x y:Array Value} (g:RepL M μ p x.toList) (j:RepL M μ q y.toList) {r:R} (e:DK h f p q=some r) :
  E5 P M μ w ((do pure (.value (<- Instr.makeFunc f x y)):Sem Next).run P w) r:=by
 unfold DK at e;split at e
 ·cases e
 ·rename_i d;cases e;exact AV s (x:=.func f x y) (by simp [Instr.makeFunc]) (.fn _ _ _ _ _ _ (λl k=>d l k) (by simpa using g.1) (by simpa using j.1) (λi c v a b=>g.2 i c v a (by simpa using b)) (λi c v a b=>j.2 i c v a (by simpa using b)))
theorem cD {p:PV} {x:Value} (a:Rep M μ p x) {r:R} (e:SB p=some r):E5 P M μ w ((do pure (.value (<- Instr.panic x)):Sem Next).run P w) r:=by
 unfold SB at e;split at e
 ·cases e;cases a with
  | ifc _ _ _ xv hxv=>exact ⟨.iface _ xv,by simp [Instr.panic,goPanic],.ifc _ _ _ _ hxv⟩
 ·cases e
theorem ZH (s:Sim M μ h w) (n:TmpsRep M μ t nt a.tmps) {id:Nat} {o:Oper} {r:R} (e:BC P t h id o=some r):E5 P M μ w ((execOp a.eval o).run P w) r:=by
 unfold BC at e;unfold execOp;split at e
 ·rename_i x d;rw [d];obtain ⟨v,O,rfl⟩:=Ic e;exact ⟨M,μ,w,_,rfl,s,.refl _ _ _,GX s.glb n O⟩
 ·rename_i x d;rw [d];obtain ⟨v,O,rfl⟩:=Ic e;exact ⟨M,μ,w,_,rfl,s,.refl _ _ _,GX s.glb n O⟩
 ·rename_i c x y d;rw [d];obtain ⟨p,q,u,e,j,B,F⟩:=cB s.glb n e;exact jq s j B F e
 ·rename_i el d;rw [d];exact cC s e
 ·rename_i el x d;rw [d];obtain ⟨p,e,j⟩:=IE s.glb n e;exact SO s j e
 ·rename_i ty J d;rw [d];split at e
  ·rename_i U G;refine bn s ?_ e;simpa using Lz s.glb n G
  ·cases e
 ·rename_i ty len J d;rw [d];split at e
  ·rename_i U G;refine Qq s ?_ e;simpa using Lz s.glb n G
  ·cases e
 ·rename_i ty x d;rw [d];obtain ⟨p,e,j⟩:=IE s.glb n e;exact jj s j e
 ·rename_i ty x y d;rw [d];obtain ⟨p,q,e,j,B⟩:=RG s.glb n e;exact bj s j B e
 ·rename_i x d;rw [d];obtain ⟨p,e,j⟩:=IE s.glb n e;exact mB s j e
 ·rename_i Y ty x y yt d;rw [d];obtain ⟨p,q,e,j,B⟩:=RG s.glb n e;exact mD s j B e
 ·rename_i Y ty x d;rw [d];obtain ⟨p,e,j⟩:=IE s.glb n e;exact nS s j e
 ·rename_i W dst x d;rw [d];obtain ⟨p,e,j⟩:=IE s.glb n e;exact Vp s j e
 ·rename_i ty x d;rw [d];obtain ⟨p,e,j⟩:=IE s.glb n e;exact mC s j e
 ·rename_i f first cap d
  rw [d];split at e
  ·rename_i p q hp Z;exact To s (by simpa using PQ s.glb n hp) (by simpa using PQ s.glb n Z) e
  ·cases e
 ·rename_i ty d;rw [d];exact ZG s e
 ·rename_i ty l c d;rw [d];obtain ⟨p,q,e,j,B⟩:=RG s.glb n e;exact jm s j B e
 ·rename_i ty x lo hi mx d;rw [d];split at e
  ·rename_i l u m hl X hm;obtain ⟨p,e,j⟩:=IE s.glb n e;exact bu s j (Vn s.glb n hl) (Vn s.glb n X) (Vn s.glb n hm) e
  ·cases e
 ·rename_i sty x f d;rw [d];obtain ⟨p,e,j⟩:=IE s.glb n e;exact SI s j e
 ·rename_i ty x f d;rw [d];obtain ⟨p,e,j⟩:=IE s.glb n e;exact bw s j e
 ·rename_i ty x i d;rw [d];obtain ⟨p,q,e,j,B⟩:=RG s.glb n e;exact SJ s j B e
 ·rename_i ty x i d;rw [d];obtain ⟨p,q,e,j,B⟩:=RG s.glb n e;exact bx s j B e
 ·rename_i ty x k ok d;rw [d];obtain ⟨p,q,e,j,B⟩:=RG s.glb n e;exact ZF s j B e
 ·rename_i ty x k v d;rw [d];obtain ⟨p,q,u,e,j,B,F⟩:=cB s.glb n e;exact Mh s j B F e
 ·rename_i ty x k v d;rw [d];obtain ⟨p,q,u,e,j,B,F⟩:=cB s.glb n e;exact Mh s j B F e
 ·rename_i x xt ty ok d;rw [d];obtain ⟨p,e,j⟩:=IE s.glb n e;exact ZD s j e
 ·rename_i x i d;rw [d];obtain ⟨p,e,j⟩:=IE s.glb n e;exact Vo s j e
 ·rename_i x d;rw [d];obtain ⟨p,e,j⟩:=IE s.glb n e;exact cD j e
 ·rename_i c d;rw [d];split at e
  ·rename_i args C;have I:RepL M μ args (c.args.toList.map a.eval):=PQ s.glb n C;have A:c.args.map a.eval=(c.args.toList.map a.eval).toArray:=by rw [<- Array.toList_map,Array.toArray_toList]
   split at e
   ·rename_i b z;simp only [resolve,z,Sem.run_bind,Sem.run_pure,Result.andThen,invoke];rw [A];exact PY s I e
   ·rename_i f z;obtain ⟨p,e,j⟩:=IE s.glb n e;unfold O7 at e;split at e
    ·rename_i fn x y;generalize E:a.eval f=v at j;cases j with
     | fn _ _ _ _ va vb hf hla hlb B F =>
      obtain ⟨N,g,as,k2⟩:=LB (w:=w) (vf:=va.toList) (vc:=vb.toList) ⟨by simpa using hla,λi c v p q=>B i c v p (by simpa using q)⟩ ⟨by simpa using hlb,λi c v p q=>F i c v p (by simpa using q)⟩ I e;have L:(va.toList++c.args.toList.map a.eval).toArray=va++(c.args.toList.map a.eval).toArray:=by apply Array.ext';simp
      rw [L] at N;simpa [resolve,z,Deferred.ofValue,E,A] using N
    ·rename_i l;cases e;generalize E:a.eval f=v at j;cases j with
     | yl _ _ rb hr =>
      refine ⟨c.args.toList.map a.eval,rb,hr,?_,I⟩;simp [resolve,z,Deferred.ofValue,E,invoke,A]
    ·cases e
   ·rename_i K S z;obtain ⟨p,e,j⟩:=IE s.glb n e;obtain ⟨N,_⟩:=LB (w:=w) (vf:=[a.eval K]) (vc:=[]) (RepL.cons j (RepL.nil _ _)) (RepL.nil _ _) I e;simpa [resolve,z,A] using N
  ·cases e
 ·rename_i c d;rw [d];split at e
  ·rename_i args C;have I:RepL M μ args (c.args.toList.map a.eval):=PQ s.glb n C;have A:c.args.map a.eval=(c.args.toList.map a.eval).toArray:=by rw [<- Array.toList_map,Array.toArray_toList]
   split at e
   ·rename_i b z;cases e;have D : ∃ cs,(resolve a.eval c o.type).run P w = .ok { target:=.builtin b c.argTypes o.type cs,args:=c.args.map a.eval } w:=⟨_,by simp only [resolve,z];rfl⟩;obtain ⟨cs,D⟩:=D;exact ⟨{ target:=.builtin b c.argTypes o.type cs,args:=c.args.map a.eval },by simp only [Sem.run_bind,D,Result.andThen,Sem.run_pure],cs,_,rfl,A,I⟩
   ·rename_i f z;obtain ⟨p,e,j⟩:=IE s.glb n e;split at e
    ·rename_i g x y;cases e;generalize E:a.eval f=v at j;cases j with
     | fn _ _ _ _ va vb hf hla hlb B F =>
      exact ⟨{ target:=.fn (.func g) vb,args:=va++c.args.map a.eval },by simp [resolve,z,Deferred.ofValue,E],_,_,_,va.toList,vb.toList,c.args.toList.map a.eval,rfl,hf,by simp,by simp [A],
       ⟨by simpa using hla,λi c v p q=>B i c v p (by simpa using q)⟩,⟨by simpa using hlb,λi c v p q=>F i c v p (by simpa using q)⟩,I⟩
    ·cases e
   ·cases e
  ·cases e
 ·cases e
end
end Go.Proofs.YtfilfloanndddaaGreat.Pi
namespace Go.Proofs.YtfilfloanndddaaGreat.Pi
variable [Gl]
section
variable {P:Program} {M:CJ} {μ:Mu} {h:Hp} {w:World}
mutual
theorem KS : ∀ {q:PV},flat q=true -> ∀ {M0:CJ} {μ0:Mu} {v:Value} (M:CJ) (μ:Mu),Rep M0 μ0 q v->Rep M μ q v
 | .agg cs,hf,M0,μ0,v,M,μ,hr=>by
  cases hr with
  | agg _ _ vs hl h1 h =>
   have:=Nm (q:=cs) (by simpa [flat] using hf) M μ (M0:=M0) (μ0:=μ0);exact .agg _ _ _ hl h1 λi c v a b=>this i c v a (h i c v a b)
 | .tup cs,hf,M0,μ0,v,M,μ,hr=>by
  cases hr with
  | tup _ _ vs hl h =>
   have:=Nm (q:=cs) (by simpa [flat] using hf) M μ (M0:=M0) (μ0:=μ0);exact .tup _ _ _ hl λi c v a b=>this i c v a (h i c v a b)
 | .ifc t x,hf,M0,μ0,v,M,μ,hr=>by
  cases hr with
  | ifc _ _ _ y hy=>exact .ifc _ _ _ _ (KS (by simpa [flat] using hf) M μ hy)
 | .lst full es,hf,M0,μ0,v,M,μ,hr=>by
  cases hr with
  | lst0 _ _ a cap hz=>exact .lst0 _ _ _ _ hz
  | lst _ _ _ b off esz cap x h1 h2 h3 h4 h5 h6 =>
   have:es=[]:=by simpa [flat] using hf
   subst this;exact .lst _ _ _ _ _ esz _ x h1 h2 h3 (λi e j c d=>by simp at d) h5 (λi e j c d=>by simp at d)
 | .bool b,_,_,_,_,M,μ,hr=>by cases hr;constructor
 | .int k n,_,_,_,_,M,μ,hr=>by cases hr;constructor
 | .str l,_,_,_,_,M,μ,hr=>by cases hr;constructor
 | .nilp,_,_,_,_,M,μ,hr=>by cases hr;constructor
 | .nils,_,_,_,_,M,μ,hr=>by cases hr;constructor
 | .nilm,_,_,_,_,M,μ,hr=>by cases hr;constructor
 | .nilf,_,_,_,_,M,μ,hr=>by cases hr;constructor
 | .nili,_,_,_,_,M,μ,hr=>by cases hr;constructor
 | .own _ _ _,hf,_,_,_,_,_,_=>by simp [flat] at hf
 | .ptr _ _,hf,_,_,_,_,_,_=>by simp [flat] at hf
 | .ept _ _ _,hf,_,_,_,_,_,_=>by simp [flat] at hf
 | .view _,hf,_,_,_,_,_,_=>by simp [flat] at hf
 | .fn _ _ _,hf,_,_,_,_,_,_=>by simp [flat] at hf
 | .yl _,hf,_,_,_,_,_,_=>by simp [flat] at hf
 | .mp _,hf,_,_,_,_,_,_=>by simp [flat] at hf
 | .gk _,hf,_,_,_,_,_,_=>by simp [flat] at hf
 | .adr _ _,_,_,_,_,M,μ,hr=>by cases hr;constructor
theorem Nm : ∀ {q:List PV},Dg q=true -> ∀ {M0:CJ} {μ0:Mu} (M:CJ) (μ:Mu) (i:Nat) (c:PV) (v:Value),q[i]? = some c->Rep M0 μ0 c v->Rep M μ c v
 | [],_,_,_,_,_,i,c,v,hc,_=>by simp at hc
 | p::ps,hf,M0,μ0,M,μ,i,c,v,hc,hr=>by
  simp [Dg] at hf;cases i with
  | zero=>simp at hc;subst hc;exact KS hf.1 M μ hr
  | succ i=>exact Nm hf.2 M μ i c v (by simpa using hc) hr
end
theorem Hp.get_lf (nx id:Nat):Hp.get { m:=.lf,nx:=nx } id=none:=rfl
theorem Sim.empty (s:Sim M μ h w) (L:List Nat):Sim (PA M h μ w L) mu0 { m:=.lf,nx:=0 } w where
 glb:=s.glb.mono (Hs L)
 mem a v hm:=SF s hm
 blk id b hb:=by rw [Hp.get_lf] at hb;cases hb
 use id r hr:=by simp [mu0] at hr
 inj id id' r r' b b' hr:=by simp [mu0] at hr
 sep id r b a v hb:=by rw [Hp.get_lf] at hb;cases hb
theorem Sim.world {d:World} (s:Sim M μ h w) (hs:w.heap.size<=d.heap.size) (f : ∀ b,b<w.heap.size->d.heap[b]? = w.heap[b]?):Sim M μ h d where
 glb:=s.glb
 mem a v hm:=⟨(s.mem a v hm).1,by rw [cell?_congr (f _ (s.mem_lt hm))];exact (s.mem a v hm).2⟩
 blk id b hb:=by
  obtain ⟨r,c,e⟩:=s.blk id b hb;exact ⟨r,c,by rw [f _ (s.use id r c).2];exact e⟩
 use id r c:=⟨(s.use id r c).1,Nat.lt_of_lt_of_le (s.use id r c).2 hs⟩
 inj:=s.inj
 sep:=s.sep
section
variable {L:List Nat} {M2:CJ} {μ2:Mu} {h2:Hp} {w2:World}
theorem Grow.keeps {M0:CJ} (g:Grow M0 mu0 w M2 μ2 w2) : ∀ b,b<w.heap.size->w2.heap[b]? = w.heap[b]? := λb a=>g.keep b a λid r c=>by simp [mu0] at c
theorem Nn (s:Sim M μ h w) {M0:CJ} (g:Grow M0 mu0 w M2 μ2 w2):Sim M μ h w2/\Grow M μ w M μ w2 :=
 ⟨s.world g.size g.keeps,⟨.refl _,.refl _,λ_ _ h => .inl h,λid r h => .inl ⟨id,r,h,rfl⟩,g.size,λb a _=>g.keeps b a,g.os,g.output,g.tape,g.nf⟩⟩
theorem Tp (s:Sim M μ h w) (s2:Sim M2 μ2 h2 w2) (g:Grow (PA M h μ w L) mu0 w M2 μ2 w2) {n:Hp} (F:freeze h L=some n) (l:List Nat) :
  ∃ f,Sim f μ n w2/\Grow M μ w f μ w2/\MLe (PA M2 h2 μ2 w2 l) f/\(∀ a v,f a=some v->w.heap.size<=a.block->PA M2 h2 μ2 w2 l a=some v):=by
 obtain ⟨i,z,y,B,_⟩:=Em L s F;have d:Sim i μ n w2:=y.world g.size g.keeps
 let k:=PA M2 h2 μ2 w2 l
 let f:CJ:=λa=>if a.block<w.heap.size then i a else k a
 have t : ∀ a v,k a=some v->a.block<w.heap.size->i a=some v:=by
  intro a v c e;rcases Ie c with c | ⟨⟨id,_,r,b,m,_,I,_⟩,_⟩
  ·rcases g.only a v c with c | ⟨id,r,m,_⟩ | hge
   ·exact z a v c
   ·simp [mu0] at m
   ·omega
  ·rcases g.fresh id r m with ⟨D,J,p,_⟩ | hge
   ·simp [mu0] at p
   ·omega
 have u:MLe k f:=by
  intro a v c;show (if a.block<w.heap.size then i a else k a)=some v
  split
  ·exact t a v c (by assumption)
  ·exact c
 have j:MLe i f:=by
  intro a v c;show (if a.block<w.heap.size then i a else k a)=some v
  rw [if_pos (y.mem_lt c)];exact c
 have inv : ∀ a v,f a=some v->(a.block<w.heap.size/\i a=some v)\/(w.heap.size<=a.block/\k a=some v):=by
  intro a v c;have c:(if a.block<w.heap.size then i a else k a)=some v:=c
  by_cases e:a.block<w.heap.size
  ·rw [if_pos e] at c;exact .inl ⟨e,c⟩
  ·rw [if_neg e] at c;exact .inr ⟨by omega,c⟩
 refine ⟨f,⟨d.glb.mono j,?_,?_,d.use,d.inj,?_⟩,⟨(Hs L).trans (z.trans j),.refl _,?_,λid r h => .inl ⟨id,r,h,rfl⟩,g.size,λb o _=>g.keeps b o,g.os,g.output,g.tape,g.nf⟩,u,?_⟩
 ·intro a v c;rcases inv a v c with ⟨_,c⟩ | ⟨_,c⟩
  ·exact d.mem a v c
  ·exact SF s2 c
 ·intro id b o;obtain ⟨r,m,q⟩:=d.blk id b o;exact ⟨r,m,q.mono j (.refl _)⟩
 ·intro id r b a v C x A G E;rcases inv a v G with ⟨_,c⟩ | ⟨hge,c⟩
  ·exact d.sep id r b a v C x A c E
  ·have:=(s.use id r x).2;omega
 ·intro a v c;rcases inv a v c with ⟨_,c⟩ | ⟨hge,c⟩
  ·rcases B a v c with h | h
   ·exact .inl h
   ·exact .inr (.inl h)
  ·exact .inr (.inr hge)
 ·intro a v c hge;rcases inv a v c with ⟨e,_⟩ | ⟨_,c⟩
  ·omega
  ·exact c
theorem ZI (s:Sim M μ h w) (s2:Sim M2 μ2 h2 w2) (g:Grow (PA M h μ w L) mu0 w M2 μ2 w2) {f:Hp} (j:freeze h L=some f) {n:Nat} {p q:PV} {l:List Nat} {v:Value} (e:Bg h2 n p=some (q,l)) (i:Rep M2 μ2 p v) :
  ∃ d,Sim d μ f w2/\Grow M μ w d μ w2/\Rep d μ q v:=by
 obtain ⟨d,a,b,c,_⟩:=Tp s s2 g j l;exact ⟨d,a,b,(Ly s2 l n p q l v e i (λ_ h=>h)).mono c (.mu0 _)⟩
theorem Sim.adopt {id:Nat} {b:Blk} {r:Bk} {h':Hp} (s:Sim M μ h w) (J:h.get id=none) (t : ∀ k,h'.get k=if k=id then some b else h.get k) (D:r.b<w.heap.size)
  (m : ∀ k rk,μ k=some rk->rk.b≠r.b) (C : ∀ a v,M a=some v->a.block≠r.b) (F:BlkAt M (IX μ id r) r w.heap[r.b]? b):Sim M (IX μ id r) h' w/\μ id=none:=by
 have hμ:μ id=none:=by
  cases C:μ id with
  | none=>rfl
  | some x=>exact absurd J (s.use id x C).1
 have l:=Iw (r:=r) hμ
 have d : ∀ k x,IX μ id r k=some x->(k=id/\x=r)\/(k≠id/\μ k=some x):=by
  intro k x c;unfold IX at c;by_cases e:k=id
  ·rw [if_pos e] at c;exact .inl ⟨e,(Option.some.inj c).symm⟩
  ·rw [if_neg e] at c;exact .inr ⟨e,c⟩
 refine ⟨⟨s.glb,s.mem,?_,?_,?_,?_⟩,hμ⟩
 ·intro k q c;rw [t] at c;by_cases e:k=id
  ·rw [if_pos e] at c;cases c;exact ⟨r,by simp [IX,e],F⟩
  ·rw [if_neg e] at c;obtain ⟨rk,A,o⟩:=s.blk k q c;exact ⟨rk,l _ _ A,o.mono (.refl _) l⟩
 ·intro k rk c;rcases d k rk c with ⟨e,rfl⟩ | ⟨e,c⟩
  ·exact ⟨by rw [t,if_pos e];simp,D⟩
  ·have:=s.use k rk c;exact ⟨by rw [t,if_neg e];exact this.1,this.2⟩
 ·intro k y rk g q B i f n j z I E;rw [t] at n j;rcases d k rk i with ⟨e,G⟩ | ⟨e,i⟩
  ·rcases d y g f with ⟨u,p⟩ | ⟨u,f⟩
   ·exact e.trans u.symm
   ·exact absurd (by rw [<- E,G]) (m y g f)
  ·rcases d y g f with ⟨u,p⟩ | ⟨u,f⟩
   ·exact absurd (by rw [E,p]) (m k rk i)
   ·rw [if_neg e] at n;rw [if_neg u] at j;exact s.inj k y rk g q B i f n j z I E
 ·intro k rk q a v i f n j z;rw [t] at i;rcases d k rk f with ⟨e,G⟩ | ⟨e,f⟩
  ·exact absurd (by rw [z,G]) (C a v j)
  ·rw [if_neg e] at i;exact s.sep k rk q a v i f n j z
theorem Np : ∀ {a:List PV},Dg a=true -> ∀ (i:Nat) (p:PV),a[i]? = some p->flat p=true
 | [],_,i,p,hp=>by simp at hp
 | q::a,hf,i,p,hp=>by
  simp [Dg] at hf;cases i with
  | zero=>simp at hp;subst hp;exact hf.1
  | succ i=>exact Np hf.2 i p (by simpa using hp)
theorem Vt {p:PV} (a:flat p=true) : ∀ (j:Nat) (c:PV),p.cells[j]? = some c->flat c=true:=by
 intro j c hc;cases p with
 | agg cs=>exact Np (show Dg cs=true by simpa [flat] using a) j c hc
 | tup cs=>simp [PV.cells] at hc
 | _ =>
  simp only [PV.cells] at hc;cases j with
  | zero=>simp only [List.getElem?_cons_zero,Option.some.injEq] at hc;subst hc;exact a
  | succ j=>simp at hc
theorem Ig (s:Sim M μ h w) (s2:Sim M2 μ2 h2 w2) (g:Grow (PA M h μ w L) mu0 w M2 μ2 w2) {id:Nat} {r q:PV} {x:Value} {h':Hp} (hx:Rep M2 μ2 r x) (e:B9 id L h h2 r=some (q,h')) :
  ∃ d μ',Sim d μ' h' w2/\Grow M μ w d μ' w2/\Rep d μ' q x:=by
 unfold B9 at e;split at e
 ·rename_i len X ex n;split at n
  ·rename_i j len';split at n
   ·rename_i es ex' hb;split at n
    ·rename_i qs' N hp;replace n:=E6 n;obtain ⟨hj,n⟩:=n;cases n;split at e
     ·rename_i hh I K;obtain ⟨h3,Y,e⟩:=AQ e;cases e;obtain ⟨C,A,_⟩:=Hp.get_new Y;cases hx with
      | own _ _ _ _ rj hr hcap =>
      obtain ⟨r',Z,arr,ety,b1,b2,b3,b4,b5,b6,b7⟩:=s2.blk j _ hb;rw [hr] at Z;cases Z
      have hge:w.heap.size<=rj.b:=by
       rcases g.fresh j rj hr with ⟨D,r0,F,_⟩ | hge
       ·simp [mu0] at F
       ·exact hge
      have hlt:rj.b<w2.heap.size:=(s2.use j rj hr).2;obtain ⟨k1,k2⟩:=Me hp
      have t : ∀ (a:Addr) (v:Value),PA M2 h2 μ2 w2 N a=some v->a.block≠rj.b:=by
       intro a v u p;rcases Ie u with u | ⟨⟨D,hid,r0,b0,F,hb0,S,_,hfc⟩,_⟩
       ·have:=s2.sep j rj _ a v hb hr trivial u p;simp [Td] at this
       ·have:=s2.inj D j r0 rj b0 _ F hr hb0 hb (by cases b0<;>first | trivial | exact hfc.elim) trivial (by rw [<- S,p])
        subst this;rw [List.any_eq_false] at hj;exact hj D hid (by simp)
      have cellsOf : ∀ (i:Nat) (f:PV) (m:Nat) (c:PV) (v:Value),X[i]? = some f->f.cells[m]? = some c->arr[rj.base+i*rj.esz+m]? = some v->v.oneCell'=true/\Rep (PA M2 h2 μ2 w2 N) mu0 c v:=by
       intro i f m c v hi n u;have o:i<es.length:=by rw [<- k1];exact (List.getElem?_eq_some_iff.1 hi).1
       obtain ⟨q',l',a1,W,a3⟩:=k2 i _ (List.getElem?_eq_getElem o);rw [hi] at W;cases W;obtain ⟨c1,c2⟩:=GM a1;have hml:m<(es[i]).cells.length:=by rw [<- c1];exact (List.getElem?_eq_some_iff.1 n).1
       obtain ⟨n',c',l'',d1,d2,d3,d4⟩:=c2 m _ (List.getElem?_eq_getElem hml);rw [n] at d3;cases d3;obtain ⟨o1,o2⟩:=b7 i _ m _ v (List.getElem?_eq_getElem o) (List.getElem?_eq_getElem hml) u;exact ⟨o1,Ly s2 N n' _ _ l'' v d2 o2 λy hy=>a3 y (d4 y hy)⟩
      have P : ∀ (i:Nat) (f:PV),X[i]? = some f->f.cells.length=rj.esz:=by
       intro i f hi;have o:i<es.length:=by rw [<- k1];exact (List.getElem?_eq_some_iff.1 hi).1
       obtain ⟨q',l',a1,W,a3⟩:=k2 i _ (List.getElem?_eq_getElem o);rw [hi] at W;cases W;rw [(GM a1).1];exact b6 i _ (List.getElem?_eq_getElem o)
      have O : ∀ {d:CJ} {I:Hp},Sim d μ I w2->Grow M μ w d μ w2->I.get id=none->(∀ k,h'.get k=if k=id then some (.row X ex false) else I.get k)->(∀ a v,d a=some v->a.block≠rj.b) ->
        (∀ (i:Nat) (f:PV) (m:Nat) (c:PV) (v:Value),X[i]? = some f->f.cells[m]? = some c->arr[rj.base+i*rj.esz+m]? = some v->Rep d mu0 c v) ->
        ∃ d μ',Sim d μ' h' w2/\Grow M μ w d μ' w2/\Rep d μ' (.own id 0 len) (.slice (some ⟨rj.b,rj.base+0*rj.esz,none⟩) len (rj.cap-0)):=by
       intro d I sM B hn he hno U;have hne : ∀ k rk,μ k=some rk->rk.b≠rj.b:=λk rk J=>by have:=(s.use k rk J).2;omega
       obtain ⟨sA,hμ⟩:=sM.adopt (r:=rj) hn he hlt hne hno ⟨arr,ety,b1,b2,by rw [k1];exact b3,(λhx=>by rw [k1];exact b4 hx),b5,P,λi f m c v x y z=>⟨(cellsOf i f m c v x y z).1,(U i f m c v x y z).mono (.refl _) (.mu0 _)⟩⟩;refine ⟨d,IX μ id rj,sA,⟨B.m,Iw hμ,B.only,?_,B.size,B.keep,B.os,B.output,B.tape,B.nf⟩,?_⟩
       ·intro k rk J;unfold IX at J;split at J
        ·cases J;exact .inr hge
        ·exact .inl ⟨k,rk,J,rfl⟩
       ·exact .own (M:=d) (IX μ id rj) id 0 len rj (by simp [IX]) hcap
      cases l:Dg X with
      | true =>
       simp only [l,cond_true] at K;cases K;obtain ⟨G,E⟩:=Nn s g;refine O G E C A (λa v u p => ?_) λi f m c v x y z => ?_
       ·have:=s.mem_lt u;omega
       ·exact KS (Vt (Np l i f x) m c y) _ _ (cellsOf i f m c v x y z).2
      | false =>
       simp only [l,cond_false] at K;obtain ⟨d,G,E,j3,j4⟩:=Tp s s2 g K N;refine O G E C A (λa v u p => ?_) λi f m c v x y z=>(cellsOf i f m c v x y z).2.mono j3 (.refl _);exact t a v (j4 a v u (by omega)) p
     ·cases e
    ·cases n
   ·cases n
  ·cases n
 ·split at e
  ·rename_i q' N hq;cases l:flat q' with
   | true =>
    simp only [l,cond_true] at e;cases e;obtain ⟨G,E⟩:=Nn s g;exact ⟨M,μ,G,E,KS l M μ (Ly s2 N _ _ _ _ _ hq hx (λ_ h=>h))⟩
   | false =>
    simp only [l,cond_false] at e;obtain ⟨I,K,e⟩:=AQ e;cases e;obtain ⟨d,G,E,j3⟩:=ZI s s2 g K hq hx;exact ⟨d,μ,G,E,j3⟩
  ·cases e
end
end
end Go.Proofs.YtfilfloanndddaaGreat.Pi
namespace Go.Proofs.YtfilfloanndddaaGreat.Pi
variable [Gl]
section
variable {P:Program} {b:Frame} {a:Act} {k:List Item} {cs:List Frame} {w w':World} {ops:Array Oper} {i:Nat} {rest:List Nat} {o:Oper}
theorem Ji (c:ops[i]? = some o) (v:Value):(b.atR a (.inRegion ops (i::rest)::k)).finish v=b.atR (a.put o.dst v) (.inRegion ops rest::k):=by
 rw [Frame.finish_atR,c];rfl
theorem Tq (c:ops[i]? = some o) (d:Region.wanted o (yielded ops a.tmps)=true) {v:Value} (e:(o.semAt b.roundOf a.eval).run P w = .ok (.value v) w') :
  step P (lone (b.atR a (.inRegion ops (i::rest)::k)) cs w) = .next (lone (b.atR (a.put o.dst v) (.inRegion ops rest::k)) cs w') :=
 step_lone_go (by rw [stepGR_op c d,<- Ji c];simp [stepG.apply,e])
theorem Vu (c:ops[i]? = some o) (d:Region.wanted o (yielded ops a.tmps)=true) (e:(o.semAt b.roundOf a.eval).run P w = .ok .skip w') :
  step P (lone (b.atR a (.inRegion ops (i::rest)::k)) cs w) = .next (lone (b.atR (a.put o.dst undef) (.inRegion ops rest::k)) cs w') :=
 step_lone_go (by rw [stepGR_op c d,<- Ji c];simp [stepG.apply,e])
theorem Ts (c:ops[i]? = some o) (e:Region.wanted o (yielded ops a.tmps)=true) {d:Deferred} (f:(o.semAt b.roundOf a.eval).run P w = .ok (.defer d) w') :
  step P (lone (b.atR a (.inRegion ops (i::rest)::k)) cs w) = .next (lone (b.atR ({ a with defers:=d::a.defers }.put o.dst undef) (.inRegion ops rest::k)) cs w'):=by
 refine step_lone_go ?_;have:=Ji (b:=b) (a:={ a with defers:=d::a.defers }) (k:=k) (rest:=rest) c undef
 rw [stepGR_op c e];simp only [stepG.apply,Sem.runT_eq,f,GStep.bare_after];exact congrArg (λfr=>GStep.go { frame:=fr,callers:=cs,status:=.running,dying:=none } w') this
theorem Tu (c:ops[i]? = some o) (d:Region.wanted o (yielded ops a.tmps)=true) {f:FuncId} {args:Array Value} (e:(o.semAt b.roundOf a.eval).run P w = .ok (.enter f args) w') :
  step P (lone (b.atR a (.inRegion ops (i::rest)::k)) cs w) = .next (lone (Frame.enter P f args .normal) (b.atR a (.inRegion ops (i::rest)::k)::cs) w') :=
 step_lone_go (by rw [stepGR_op c d];simp [stepG.apply,e,Frame.atR])
theorem Tv (g:ops[i]? = some o) (h:Region.wanted o (yielded ops a.tmps)=true) {l:Nat} {f:FuncId} {d:Array Value} {e c:Code} (j:(o.semAt b.roundOf a.eval).run P w = .ok (.round l f d e c) w') :
  step P (lone (b.atR a (.inRegion ops (i::rest)::k)) cs w) = .next (lone (Frame.round l f d e c .normal) (b.atR a (.inRegion ops (i::rest)::k)::cs) w') :=
 step_lone_go (by rw [stepGR_op g h];simp [stepG.apply,j,Frame.atR])
theorem Tw (c:ops[i]? = some o) (d:Region.wanted o (yielded ops a.tmps)=true) {v:Value} (e:(o.semAt b.roundOf a.eval).run P w = .halt (.panic v) w') :
  step P (lone (b.atR a (.inRegion ops (i::rest)::k)) cs w) = .next (lone { b.atR a (.inRegion ops (i::rest)::k) with mode:=.panicking [{ v,recovered:=false }] } cs w') :=
 step_lone_go (by rw [stepGR_op c d,<- Frame.raise_atR];simp [stepG.apply,e])
theorem Qt (f:ops[i]? = some o) (g:Region.wanted o (yielded ops a.tmps)=true) (e:b.roundOf=none) (j:(o.semAt b.roundOf a.eval).run P w = .ok .recover w') :
  step P (lone (b.atR a (.inRegion ops (i::rest)::k)) cs w)=match tryRecover (b.atR a (.inRegion ops (i::rest)::k)) cs with
   | some (v,d) => .next (lone (b.atR (a.put o.dst v) (.inRegion ops rest::k)) d w')
   | none => .next (lone (b.atR (a.put o.dst .nilIface) (.inRegion ops rest::k)) cs w'):=by
 cases h:tryRecover (b.atR a (.inRegion ops (i::rest)::k)) cs with
 | some x =>
  obtain ⟨v,d⟩:=x;refine step_lone_go ?_;have c:(b.atR a (.inRegion ops (i::rest)::k)).roundOf=none:=e;rw [stepGR_op f g,<- Ji f];simp [stepG.apply,j,c,h]
 | none =>
  refine step_lone_go ?_;have c:(b.atR a (.inRegion ops (i::rest)::k)).roundOf=none:=e;rw [stepGR_op f g,<- Ji f];simp [stepG.apply,j,c,h]
theorem Tx {c:Code}:step P (lone (b.atR a (.code (.scope c)::k)) cs w) = .next (lone (b.atR a (.code c :: .inScope c::k)) cs w) :=
 step_lone_go (by simp [stepG,stepG.exec,Frame.atR])
theorem Qu {c:Code}:step P (lone (b.atR a (.inScope c::k)) cs w) = .next (lone (b.atR a k) cs w) :=
 step_lone_go (by simp [stepG,stepG.exec,Frame.atR])
end
section
variable {P:Program}
theorem SP {fr:Frame} {cs:List Frame} {w w':World} {e:Nat} {f b:List Deferred} {i:Array Value} (h:fr.mode ≠ .run) (d:fr.defers={ target:=.collected e,args:=i }::f)
  (g:(Instr.takeDeferred e).run P w = .ok b w'):step P (lone fr cs w) = .next (lone { fr with defers:=b++f } cs w'):=by
 refine step_lone_go ?_;cases a:fr.mode with
 | run=>exact absurd a h
 | returning=>simp [stepG,unwind,a,d,Sem.runT_eq,g]
 | panicking c=>simp [stepG,unwind,a,d,Sem.runT_eq,g]
theorem Mm {fr:Frame} {cs:List Frame} {w w':World} {e:Builtin} {c:Array TypeId} {ty:TypeId} {a:Array Bool} {h:List Deferred} {d:Array Value} {v:Value} (i:fr.mode ≠ .run)
  (g:fr.defers={ target:=.builtin e c ty a,args:=d }::h) (j:(builtin e c ty a d).run P w = .ok (.value v) w') :
  step P (lone fr cs w) = .next (lone { fr with defers:=h } cs w'):=by
 refine step_lone_go ?_;have hi:(invoke (.builtin e c ty a) d).run P w = .ok (.value v) w':=j;cases b:fr.mode with
 | run=>exact absurd b i
 | returning=>simp [stepG,unwind,callDeferred,b,g,Sem.runT_eq,hi]
 | panicking f=>simp [stepG,unwind,callDeferred,b,g,Sem.runT_eq,hi]
end
end Go.Proofs.YtfilfloanndddaaGreat.Pi
namespace Go.Proofs.YtfilfloanndddaaGreat.Pi
variable [Gl]
section
variable {P:Program} {M:CJ} {μ:Mu} {h:Hp} {w:World}
def ChRep (M:CJ) (μ:Mu):List PE->List PanicEntry->Prop
 | [],[]=>True
 | e::l,p::m=>Rep M μ e.v p.v/\e.recovered=p.recovered/\p.goexit=false/\ChRep M μ l m
 | _,_=>False
theorem ChRep.mono {f:CJ} {μ':Mu} (e:MLe M f) (hμ:MuLe μ μ') : ∀ {l:List PE} {m:List PanicEntry},ChRep M μ l m->ChRep f μ' l m
 | [],[],_=>trivial
 | _::_,_::_,⟨a,b,c,d⟩=>⟨a.mono e hμ,b,c,d.mono e hμ⟩
def UMRep (M:CJ) (μ:Mu):UM->FrameMode->Prop
 | .ret,m=>m = .returning
 | .pan ch,m => ∃ a,m = .panicking a/\ChRep M μ ch a
theorem UMRep.mono {b:CJ} {μ':Mu} (e:MLe M b) (hμ:MuLe μ μ') {u:UM} {m:FrameMode} (c:UMRep M μ u m):UMRep b μ' u m:=by
 cases u with
 | ret=>exact c
 | pan g=>obtain ⟨a,f,d⟩:=c;exact ⟨a,f,d.mono e hμ⟩
def X3 (M:CJ) (μ:Mu) (a:CallKind) (cs:List Frame):Option UM->Prop
 | none=>a = .normal
 | some u=>a = .deferred /\ ∃ c b,cs=c::b/\UMRep M μ u c.mode
def RI (μ:Mu) (c:Option Nat) (r:Option Nat):Prop:=match c with
 | none=>r=none
 | some l => ∃ a,μ l=some a/\r=some a.b
structure FrRep (M:CJ) (μ:Mu) (fr:Fr) (b:Frame) (a:Act) (cs:List Frame):Prop where
 t:TmpsRep M μ fr.t fr.nt a.tmps
 d:DefsRep M μ fr.ds a.defers
 u:X3 M μ b.kind cs fr.up
 r:RI μ fr.ro b.roundOf
def Tail (d:CallKind) (cs a:List Frame):Prop:=a=cs\/(d = .deferred /\ ∃ c b m,cs=c::b/\a={ c with mode:=m }::b)
theorem Tail.refl {a:CallKind} (cs:List Frame):Tail a cs cs:=.inl rfl
theorem Tail.trans {d:CallKind} {a b c:List Frame} (h:Tail d a b) (k:Tail d b c):Tail d a c:=by
 rcases h with rfl | ⟨f,x,e,m,rfl,rfl⟩
 ·exact k
 ·rcases k with rfl | ⟨_,y,g,i,j,rfl⟩
  ·exact .inr ⟨f,x,e,m,rfl,rfl⟩
  ·cases j;exact .inr ⟨f,x,e,i,rfl,rfl⟩
theorem FrRep.mono {k:CJ} {μ':Mu} {fr:Fr} {b:Frame} {a:Act} {cs:List Frame} (f:FrRep M μ fr b a cs) (i:MLe M k) (hμ:MuLe μ μ'):FrRep k μ' fr b a cs where
 t:=f.t.mono i hμ
 d:=f.d.mono i hμ
 u:=by
  have:=f.u;cases e:fr.up with
  | none=>rw [e] at this;exact this
  | some u=>rw [e] at this;obtain ⟨j,c,n,g,o⟩:=this;exact ⟨j,c,n,g,o.mono i hμ⟩
 r:=by
  have:=f.r;unfold RI at this ⊢;cases e:fr.ro with
  | none=>rw [e] at this;exact this
  | some l=>rw [e] at this;obtain ⟨m,j,g⟩:=this;exact ⟨m,hμ _ _ j,g⟩
def Arr (P:Program) (m:Machine) (b:Frame) (k:List Item) (cs:List Frame) (a:Act) (w:World) (M:CJ) (μ:Mu):Ex->Prop
 | .normal=>Steps P m (lone (b.atR a k) cs w)
 | .exit id => ∃ c,exitTo id c=exitTo id k/\Steps P m (lone (b.atR a (.code (.exit id)::c)) cs w)
 | .goto l => ∃ c,gotoIn l c=gotoIn l k/\Steps P m (lone (b.atR a (.code (.goto l)::c)) cs w)
 | .ret => ∃ c,Steps P m (lone (b.atR a (.code .ret::c)) cs w)
 | .panic v => ∃ d x,Rep M μ v x/\Steps P m (lone { b.atR a d with mode:=.panicking [{ v:=x,recovered:=false }] } cs w)
theorem Arr.of_steps {m h:Machine} {b:Frame} {k:List Item} {cs:List Frame} {a:Act} {e:Ex} (hs:Steps P m h) (g:Arr P h b k cs a w M μ e):Arr P m b k cs a w M μ e:=by
 cases e with
 | normal=>exact hs.trans g
 | exit id=>obtain ⟨d,f,c⟩:=g;exact ⟨d,f,hs.trans c⟩
 | goto id=>obtain ⟨d,f,c⟩:=g;exact ⟨d,f,hs.trans c⟩
 | ret=>obtain ⟨d,c⟩:=g;exact ⟨d,hs.trans c⟩
 | panic v=>obtain ⟨d,x,f,c⟩:=g;exact ⟨d,x,f,hs.trans c⟩
def Ran (P:Program) (M:CJ) (μ:Mu) (w:World) (m:Machine) (b:Frame) (k:List Item) (cs:List Frame) (e:Ex) (c:Fr) (h':Hp):Prop :=
 ∃ a μ' w' a' cs',Sim a μ' h' w'/\Grow M μ w a μ' w'/\FrRep a μ' c b a' cs'/\Tail b.kind cs cs'/\Arr P m b k cs' a' w' a μ' e
def nT (P:Program) (M:CJ) (μ:Mu) (fr:Frame) (w:World):Out->Prop
 | .ret v => ∃ x,Rep M μ v x/\fr.leaving P w (.returned x)
 | .pan b => ∃ a,ChRep M μ b a/\fr.leaving P w (.panicked a)
def jr (P:Program) (M:CJ) (μ:Mu) (fr:Frame) (w:World):Out->Prop
 | .ret v => ∃ x,Rep M μ v x/\fr.going P w (.returned x)
 | .pan b => ∃ a,ChRep M μ b a/\fr.going P w (.panicked a)
structure RecOK (P:Program) (rec:OZ):Prop where
 nrm : ∀ {f args h o up' h'},rec (.fn f) none args h=some (o,up',h') -> ∀ {M μ w vs},Sim M μ h w->RepL M μ args vs -> ∀ cs,∃ M' μ' w' fr,
  Sim M' μ' h' w'/\Grow M μ w M' μ' w'/\Steps P (lone (Frame.enter P f vs.toArray .normal) cs w) (lone fr cs w')/\fr.fn=f/\nT P M' μ' fr w' o
 dfr : ∀ {f u args h o up' h'},rec (.fn f) (some u) args h=some (o,up',h') -> ∀ {M μ w vs},Sim M μ h w->RepL M μ args vs -> ∀ c cs,UMRep M μ u c.mode -> ∃ M' μ' w' fr m' u',
  Sim M' μ' h' w'/\Grow M μ w M' μ' w'/\Steps P (lone (Frame.enter P f vs.toArray .deferred) (c::cs) w) (lone fr ({ c with mode:=m' }::cs) w')/\up'=some u'/\UMRep M' μ' u' m'/\fr.kind = .deferred/\jr P M' μ' fr w' o
 yld : ∀ {l args h o up' h'},rec (.yl l) none args h=some (o,up',h') -> ∀ {M μ w vs r},Sim M μ h w->RepL M μ args vs->μ l=some r -> ∀ c cs,∃ M' μ' w' x v fn tmps asg body,
  o = .ret v/\(Instr.yield r.b vs.toArray).run P w = .ok (.round r.b fn tmps asg body) w/\Sim M' μ' h' w'/\Grow M μ w M' μ' w'/\Rep M' μ' v x /\
  Steps P (lone (Frame.round r.b fn tmps asg body .normal) (c::cs) w) (lone (c.finish x) cs w')
def SQ (P:Program):Prop := ∀ (f:FuncId) (p:Pr),Gl.pr f=some p -> ∀ (args:List PV) (h:Hp) (v:PV) (h':Hp),nQ P p args h=some (v,h') ->
 ∀ (M:CJ) (μ:Mu) (w:World) (vs:List Value),Sim M μ h w->RepL M μ args vs -> ∀ cs,∃ a μ' w' fr x,Sim a μ' h' w'/\Grow M μ w a μ' w' /\
  Steps P (lone (Frame.enter P f vs.toArray .normal) cs w) (lone fr cs w')/\fr.fn=f/\Rep a μ' v x/\fr.leaving P w' (.returned x)
theorem Tz (P:Program) (h : ∀ f,Gl.pr f=none):SQ P:=λf p e=>by rw [h] at e;cases e
def GlW (w:World):Prop := ∃ M0:CJ,GlOK M0 /\ ∀ (a:Addr) (v:Value),M0 a=some v->a.spot=none/\w.cell? a=some v
theorem GlW.none (h : ∀ g,Gl.g g=none) (w:World):GlW w:=⟨λ_=>Option.none,(λg cs e=>by rw [h] at e;cases e),λa v e=>by cases e⟩
theorem UA {t : T PV} {nt d : Nat} {tmps : Array Value} {v : PV} {x : Value} (ht : TmpsRep M μ t nt tmps) (hd : d < nt) (hr : Rep M μ v x) : TmpsRep M μ (T.put 20 t d v) nt (tmps.setIfInBounds d x) := by
  obtain ⟨h1, h2, h3⟩ := ht;refine ⟨h1, by simp [h2], fun k => ?_⟩
  rw [T.get_put 20 t d v k (by have : (2 : Nat) ^ 20 - 1 = 1048575 := by decide
                               omega)]
  by_cases hk : k = d
  · subst hk
    rw [if_pos rfl];have : (tmps.setIfInBounds k x).getD k undef = x := by simp [Array.getD_eq_getD_getElem?, h2, hd]
    rw [this]; exact hr
  · rw [if_neg hk]
    have : (tmps.setIfInBounds d x).getD k undef = tmps.getD k undef := by
      simp only [Array.getD_eq_getD_getElem?, Array.getElem?_setIfInBounds, if_neg (Ne.symm hk)]
    rw [this]; exact h3 k
theorem FrRep.put {fr c:Fr} {b:Frame} {a:Act} {cs:List Frame} {f:Option Nat} {v:PV} {x:Value} (g:FrRep M μ fr b a cs) (i:Rep M μ v x) (e:fr.put f v=some c):FrRep M μ c b (a.put f x) cs:=by
 unfold Fr.put at e;split at e
 ·cases e;exact g
 ·replace e:=Bs e;obtain ⟨h,e⟩:=e;cases e;exact ⟨UA g.t (by simpa using h) i,g.d,g.u,g.r⟩
theorem LC (M:CJ) (μ:Mu):Rep M μ (.tup []) undef:=.tup _ _ _ rfl λi c v hc=>by simp at hc
theorem RJ {ops:Array Oper} {t:T PV} {nt:Nat} {b:Array Value} (i:TmpsRep M μ t nt b) (o:Oper):Region.wanted o (yielded ops b)=Cz ops.toList t o.guard:=by
 unfold Region.wanted Cz;cases l:o.guard with
 | none=>rfl
 | some g =>
  obtain ⟨j,f⟩:=g;simp only [yielded,A5,Array.getElem?_toList];cases m:ops[j]? with
  | none=>simp
  | some h =>
   simp only [Option.bind_some];cases k:h.dst with
   | none=>simp
   | some d =>
    simp only [Option.bind_some];have a:=i.2.2 d;rw [Array.getD_eq_getD_getElem?] at a;cases e:b[d]? with
    | none =>
     rw [e] at a;simp only [Option.getD_none] at a;cases c:t.get d with
     | none=>simp
     | some p =>
      rw [c] at a;simp only [Option.getD_some] at a;cases a;simp
    | some x =>
     rw [e] at a;simp only [Option.getD_some] at a;cases c:t.get d with
     | none =>
      rw [c] at a;simp only [Option.getD_none] at a;cases a;simp
     | some p =>
      rw [c] at a;simp only [Option.getD_some] at a;cases a<;>simp
end
end Go.Proofs.YtfilfloanndddaaGreat.Pi
namespace Go.Proofs.YtfilfloanndddaaGreat.Pi
variable [Gl]
section
variable {P:Program} {M:CJ} {μ:Mu} {h:Hp} {w:World} {sh:FuncId->Bool} {rec:OZ}
theorem RK (R:RecOK P rec) {f:FuncId} {args:List PV} {o:Out} {h':Hp} {id:Nat} (e:C6 sh rec id f args h=some (o,h')) (s:Sim M μ h w) {vs:List Value} (A:RepL M μ args vs) (cs:List Frame) :
  ∃ d μ' w' fr,Sim d μ' h' w'/\Grow M μ w d μ' w'/\Steps P (lone (Frame.enter P f vs.toArray .normal) cs w) (lone fr cs w')/\fr.fn=f/\nT P d μ' fr w' o:=by
 unfold C6 at e;cases hs:sh f with
 | true =>
  simp only [hs,cond_true] at e;split at e
  ·rename_i Y z S g;cases e;exact R.nrm g s A cs
  ·cases e
 | false =>
  simp only [hs,cond_false] at e;split at e
  ·rename_i U l N;have c:=Xw s l N A (λ_ h=>h);split at e
   ·rename_i r z D g;obtain ⟨J,μ2,j,fr,s2,t,m,b,x,i,y⟩:=R.nrm g (s.empty l) c cs;obtain ⟨⟨q,B⟩,F,e⟩:=AQ e;cases e;obtain ⟨d,μ',u,k,L⟩:=Ig s s2 t i F;exact ⟨d,μ',j,fr,u,k,m,b,x,L,y⟩
   ·rename_i X W z D g;obtain ⟨J,μ2,j,fr,s2,t,m,b,a,i,y⟩:=R.nrm g (s.empty l) c cs;split at e
    ·rename_i q O B;replace e:=Bs e;obtain ⟨n,e⟩:=e;cases e;obtain ⟨u,k⟩:=Nn s t;refine ⟨M,μ,j,fr,u,k,m,b,a,?_,y⟩;cases a with
     | nil=>exact i
     | cons p C =>
      obtain ⟨I,K,G,E⟩:=i;cases C with
      | cons _ _=>exact E.elim
      | nil=>exact ⟨KS n M μ (Ly s2 O _ _ _ _ _ B I (λ_ h=>h)),K,G,trivial⟩
    ·cases e
   ·cases e
  ·cases e
theorem Of {a:Option Nat} {ρ:Operand->Value} {o:Oper} (h:a=none \/ ∀ c,o.op ≠ .defer c):o.semAt a ρ=execOp ρ o:=by
 rcases h with rfl | h
 ·rfl
 ·exact Oper.semAt_eq a ρ o h
theorem Vv {t:T PV} {id:Nat} {o:Oper} {c:Call} {r:R} (a:o.op = .defer c) (e:BC P t h id o=some r) : ∃ d,r = .dfr d:=by
 unfold BC at e;rw [a] at e;simp only at e;split at e
 ·split at e
  ·cases e;exact ⟨_,rfl⟩
  ·unfold e1 at e;split at e
   ·dsimp only at e;split at e
    ·cases e;exact ⟨_,rfl⟩
    ·cases e
   ·cases e
  ·cases e
 ·cases e
theorem Nq (R:RecOK P rec) {ops:Array Oper} {base:Nat} : ∀ (L:List (Nat×Oper)) {fr C:Fr} {h h':Hp} {ex:Ex},Bl P sh rec base ops.toList L fr h=some (ex,C,h')->(∀ x∈L,ops[x.1]? = some x.2) ->
  ∀ {M:CJ} {μ:Mu} {w:World} {b:Frame} {a:Act} {cs:List Frame} (k:List Item),Sim M μ h w->FrRep M μ fr b a cs->Ran P M μ w (lone (b.atR a (.inRegion ops (L.map (·.1))::k)) cs w) b k cs ex C h'
 | [],fr,C,h,h',ex,e,hL,M,μ,w,b,a,cs,k,s,hf=>by
  simp only [Bl] at e;cases e;exact ⟨M,μ,w,a,cs,s,.refl _ _ _,hf,.refl _,.one stepR_region_end⟩
 | (i,o)::L,fr,C,h,h',ex,e,hL,M,μ,w,b,a,cs,k,s,hf=>by
  have J:ops[i]? = some o:=hL (i,o) (by simp);have hL2 : ∀ x∈L,ops[x.1]? = some x.2:=λx U=>hL x (by simp [U]);unfold Bl at e
  have Z : ∀ {fr1:Fr} {h1:Hp} {S:CJ} {μ1:Mu} {O:World} {a1:Act} {W:List Frame},Bl P sh rec base ops.toList L fr1 h1=some (ex,C,h')->Sim S μ1 h1 O->Grow M μ w S μ1 O->FrRep S μ1 fr1 b a1 W->Tail b.kind cs W ->
    Steps P (lone (b.atR a (.inRegion ops (i::L.map (·.1))::k)) cs w) (lone (b.atR a1 (.inRegion ops (L.map (·.1))::k)) W O) ->
    Ran P M μ w (lone (b.atR a (.inRegion ops (((i,o)::L).map (·.1))::k)) cs w) b k cs ex C h':=by
   intro fr1 h1 S μ1 O a1 W e1 s1 y f1 t1 st;obtain ⟨M',μ',w',a',cs',q1,q2,q3,q4,q5⟩:=Nq R L e1 hL2 k s1 f1;exact ⟨M',μ',w',a',cs',q1,y.trans q2,q3,t1.trans q4,.of_steps st q5⟩
  cases hw:Cz ops.toList fr.t o.guard with
  | false =>
   simp only [hw,cond_false] at e;split at e
   ·rename_i fr1 Ai;refine Z e s (.refl _ _ _) (hf.put (LC M μ) Ai) (.refl _) (.one ?_);have:=stepR_op_skip (P:=P) (b:=b) (a:=a) (k:=k) (cs:=cs) (w:=w) (ops:=ops) (i:=i) (rest:=L.map (·.1)) (by rw [J];simp [RJ hf.t o,hw])
    rwa [J] at this
   ·cases e
  | true =>
   have F:Region.wanted o (yielded ops a.tmps)=true:=by rw [RJ hf.t o,hw]
   simp only [hw,cond_true] at e;cases Y:BC P fr.t h (base+i) o with
   | none=>rw [Y] at e;cases e
   | some r =>
    have n:=ZH s hf.t Y;rw [Y] at e;have z:(∀ d,r ≠ .dfr d)->o.semAt b.roundOf a.eval=execOp a.eval o:=λhr=>Of (.inr λc hc=>let ⟨d,hd⟩:=Vv hc Y;hr d hd);cases r with
    | val v h1 =>
     obtain ⟨S,μ1,O,x,g,s1,y,hv⟩:=n;simp only at e;split at e
     ·rename_i fr1 Ai;exact Z e s1 y ((hf.mono y.m y.u).put hv Ai) (.refl _) (.one (Tq J F (by rw [z (by intro d h;cases h)];exact g)))
     ·cases e
    | skip h1 =>
     obtain ⟨S,μ1,O,g,s1,y⟩:=n;simp only at e;split at e
     ·rename_i fr1 Ai;exact Z e s1 y ((hf.mono y.m y.u).put (LC _ _) Ai) (.refl _) (.one (Vu J F (by rw [z (by intro d h;cases h)];exact g)))
     ·cases e
    | dfr d =>
     obtain ⟨D,g,hd⟩:=n;simp only at e;split at e
     ·rename_i hro;split at e
      ·rename_i fr1 Ai;have hbr:b.roundOf=none:=by have:=hf.r;unfold RI at this;rw [hro] at this;exact this
       have hf2:FrRep M μ { fr with ds:=d::fr.ds } b { a with defers:=D::a.defers } cs:=⟨hf.t,⟨hd,hf.d⟩,hf.u,hf.r⟩
       exact Z e s (.refl _ _ _) (hf2.put (LC _ _) Ai) (.refl _) (.one (Ts J F (by rw [Of (.inl hbr)];exact g)))
      ·cases e
     ·cases e
    | call f args =>
     obtain ⟨vs,g,A,fn,c,hfn,hbody⟩:=n;have G:=Tu (b:=b) (a:=a) (k:=k) (cs:=cs) (rest:=L.map (·.1)) J F (by rw [z (by intro d h;cases h)];exact g);simp only at e;split at e
     ·rename_i v h1 q;obtain ⟨S,μ1,O,fr0,s1,y,st,hfn0,x,U,hl⟩:=RK R q s A (b.atR a (.inRegion ops (i::L.map (·.1))::k)::cs);split at e
      ·rename_i fr1 Ai;refine Z e s1 y ((hf.mono y.m y.u).put U Ai) (.refl _) (.head G (st.trans (.one ?_)));rw [<- Ji J];exact step_leave_returned hl
      ·cases e
     ·rename_i e0 h1 q;obtain ⟨S,μ1,O,fr0,s1,y,st,hfn0,j,U,hl⟩:=RK R q s A (b.atR a (.inRegion ops (i::L.map (·.1))::k)::cs);cases e;cases j with
      | nil=>exact U.elim
      | cons p ps =>
       obtain ⟨c1,c2,c3,c4⟩:=U;cases ps with
       | cons _ _=>exact c4.elim
       | nil =>
        obtain ⟨pv,prc,pge⟩:=p;simp only at c1 c2 c3;subst c2;subst c3;refine ⟨S,μ1,O,a,cs,s1,y,hf.mono y.m y.u,.refl _,.inRegion ops (i::L.map (·.1))::k,pv,c1,.head G (st.trans (.one ?_))⟩;rw [<- Frame.raise_atR];exact step_leave_panicked hl
     ·cases e
    | yield l args =>
     obtain ⟨vs,rb,hrb,g,A⟩:=n;simp only at e;split at e
     ·rename_i v u1 h1 q;obtain ⟨S,μ1,O,x,v',fn,tmps,asg,body,hout,hy,s1,y,U,st⟩:=R.yld q s A hrb (b.atR a (.inRegion ops (i::L.map (·.1))::k)) cs;cases hout;split at e
      ·rename_i fr1 Ai;refine Z e s1 y ((hf.mono y.m y.u).put U Ai) (.refl _) (.head (Tv J F (by rw [z (by intro d h;cases h),g];exact hy)) ?_);rw [<- Ji J];exact st
      ·cases e
     ·cases e
    | pan v =>
     obtain ⟨x,g,U⟩:=n;simp only at e;cases e;exact ⟨M,μ,w,a,cs,s,.refl _ _ _,hf,.refl _,_,x,U,.one (Tw J F (by rw [z (by intro d h;cases h)];exact g))⟩
    | rcv =>
     have g:(execOp a.eval o).run P w = .ok .recover w:=n;simp only at e;split at e
     ·cases e
     ·rename_i hro;have hbr:b.roundOf=none:=by have:=hf.r;unfold RI at this;rw [hro] at this;exact this
      have B:=Qt (b:=b) (a:=a) (k:=k) (cs:=cs) (rest:=L.map (·.1)) J F hbr (by rw [z (by intro d h;cases h)];exact g)
      have hnone:tryRecover (b.atR a (.inRegion ops (i::L.map (·.1))::k)) cs=none -> ∀ {fr1:Fr},fr.put o.dst .nili=some fr1->Bl P sh rec base ops.toList L fr1 h=some (ex,C,h') ->
        Ran P M μ w (lone (b.atR a (.inRegion ops (((i,o)::L).map (·.1))::k)) cs w) b k cs ex C h':=by
       intro ht fr1 Ai e;rw [ht] at B;exact Z e s (.refl _ _ _) (hf.put (.nili _) Ai) (.refl _) (.one B)
      split at e
      ·rename_i v E N;split at e
       ·rename_i fr1 Ai;have hu:=hf.u;rw [N] at hu;obtain ⟨K,c,tl,rfl,j,X,I⟩:=hu;cases j with
        | nil=>exact I.elim
        | cons p ps =>
         obtain ⟨c1,c2,c3,c4⟩:=I;obtain ⟨pv,prc,pge⟩:=p;simp only at c1 c2 c3;subst c2;subst c3
         have ht:tryRecover (b.atR a (.inRegion ops (i::L.map (·.1))::k)) (c::tl)=some (pv,{ c with mode:=.panicking ({ v:=pv,recovered:=true }::ps) }::tl):=by
          rw [tryRecover_deferred (show (b.atR a (.inRegion ops (i::L.map (·.1))::k)).kind = .deferred from K)];simp only [recoverD,X]
         rw [ht] at B
         have hf2:FrRep M μ { fr with up:=some (.pan ({ v,recovered:=true }::E)) } b a ({ c with mode:=.panicking ({ v:=pv,recovered:=true }::ps) }::tl) :=
          ⟨hf.t,hf.d,⟨K,_,tl,rfl,_,rfl,c1,rfl,rfl,c4⟩,hf.r⟩
         exact Z e s (.refl _ _ _) (hf2.put c1 Ai) (.inr ⟨K,c,tl,_,rfl,rfl⟩) (.one B)
       ·cases e
      ·rename_i hnup;split at e
       ·rename_i fr1 Ai;refine hnone ?_ Ai e;have hu:=hf.u;cases N:fr.up with
        | none =>
         rw [N] at hu;have hkn:b.kind = .normal:=hu;unfold tryRecover;simp only [Frame.atR,hkn]
        | some u =>
         rw [N] at hu;obtain ⟨K,c,tl,rfl,X⟩:=hu;rw [tryRecover_deferred (show (b.atR a (.inRegion ops (i::L.map (·.1))::k)).kind = .deferred from K)];cases u with
         | ret=>have X:c.mode = .returning:=X;simp only [recoverD,X]
         | pan ch =>
          obtain ⟨j,X,I⟩:=X;cases ch with
          | nil=>cases j with
           | nil=>simp only [recoverD,X]
           | cons _ _=>exact I.elim
          | cons e0 E =>
           cases j with
           | nil=>exact I.elim
           | cons p ps =>
            obtain ⟨c1,c2,c3,c4⟩:=I;obtain ⟨ev,erc⟩:=e0;cases erc with
            | false=>exact absurd N (hnup ev E)
            | true =>
             obtain ⟨pv,prc,pge⟩:=p;simp only at c2;subst c2;simp only [recoverD,X]
       ·cases e
end
end Go.Proofs.YtfilfloanndddaaGreat.Pi
