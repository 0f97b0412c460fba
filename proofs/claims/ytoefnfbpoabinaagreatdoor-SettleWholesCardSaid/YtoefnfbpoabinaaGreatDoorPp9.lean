/- A part of the evaluator of the model's code for any program, and of the proof that it is sound. No condition. -/
import Derived.Test.YtoefnfbpoabinaaGreatDoorPl5
import Derived.ChangeSame
import Derived.Shelf.SlSortCmp.WholeK
set_option linter.all false
open List renaming getElem?_drop->xo, getElem?_eq_some_iff->a8, getElem?_map->i0, getElem?_take_of_lt->tb, getElem_mem->o5, length->rz, range->q0
open Nat renaming add_mul->s6, add_zero->xa, eq_zero_or_pos->r6, mul_comm->sa, mul_le_mul_right->pg, zero_le->hU
open Array renaming getElem?_eq_getElem->ed, getElem?_toList->tT
open Option renaming map_some->ol
open Option renaming some->zo, none->zn
open Bool renaming true->zt, false->zf
namespace Go.Proofs.YtoefnfbpoabinaaGreatDoor.Pi
section
open Go.ChangeShapes Go.WideShapes
section
variable{H:Type}{NV:TypeId×Value->H}{P:Program}
theorem gr{f:Func}{s:ChangeSpec}{Hb fresh d i:Bool}{W l:World}{args:Array Value}{v:Value}{m n:List (DataW H)}{c pa pv:List MemPlace}
  (w:DataW.Whole NV P f.params.toList s.vars Hb W args.toList m n c)
  (h:∀ (b:Nat) (k:Nat->Bool) (hd:Bool),DataW.TrodAll NV P l b k hd f.resultTypes.toList (v.resultList f.resultTypes.size) (s.fn H (m++n)).results [])
  (e:∀ k:Nat->Bool,(∀ p∈c,k p.block=zt)->DataW.TrodAll NV P l 0 k zt f.params.toList args.toList (s.fn H (m++n)).args pa)
  (g:∀ k:Nat->Bool,(∀ p∈c,k p.block=zt)->DataW.TrodVars NV P l k s.vars (s.fn H (m++n)).vars pv)
  (q:c=pa++pv) (A:WStays W l)
  (y:∀ (j:Nat) (t:TypeId) (r:Value),f.resultTypes[j]?=zo t->(v.resultList f.resultTypes.size)[j]?=zo r->Value.okWide P l .any 0 t r) :
  s.post NV P f Hb fresh d i W args v l:=by
 have lt:=w.lt;have x:=w;have u:∀ p∈c,(λb=>decide (b<W.heap.size)) p.block=zt:=λp o=>decide_eq_true (lt p o);have all:∀ p:MemPlace,p∈([]++pa)++pv<->p∈c:=λp=>by rw[q,List.nil_append]
 obtain⟨_,_,_,_,_,D,C⟩:=w;refine⟨m,n,c,[],pa,pv,?_,h _ _ _,e _ u,g _ u,A.kept _,λ_=>⟨y,_,_,([]++pa)++pv,⟨[]++pa,pv,trodAll_append (e _ λ_ _=>rfl) (h _ _ _),g _ λ_ _=>rfl,rfl,λb off o=> ?_,λB=> ?_⟩,λp o _=>(all p).1 o⟩⟩
 ·exact x
 ·have z:=(all _).1 o;rw[A.frozen (a:=⟨b,off,zn⟩) (lt _ z)];exact D b off z
 ·have:=C B;rw[q]at this;simpa using this
end
end
section
open Go.RowKit Go.Shelf Go.Sort Go.Proofs
open Sv (Ty)
section
variable[Gl]{P:Program}{M:Al}{μ:Mu}{h:Hp}{w:World}
def W4:(c:Ty)->c.den->List Value
 |.int k,n=>[.int k n]
 |.bool,b=>[.bool b]
 |.str,s=>[.string ⟨s.toArray⟩]
 |.unit,_=>[]
 |.pair a b,x=>W4 a x.1++W4 b x.2
 |.sl _ _,_=>[]
def Wn:Ty->Nat
 |.pair a b=>Wn a+Wn b
 |.unit | .sl _ _=>0
 |_=>1
theorem ZX:∀ (c:Ty) (x:c.den),(W4 c x).length=Wn c
 |.int _,_ | .bool,_ | .str,_ | .unit,_ | .sl _ _,_=>rfl
 |.pair a b,x=>by simp[W4,Wn,ZX a,ZX b]
theorem Xq:∀ (c:Ty) (x:c.den),(NV c x).length=Wn c
 |.int _,_ | .bool,_ | .str,_ | .unit,_ | .sl _ _,_=>rfl
 |.pair a b,x=>by simp[NV,Wn,Xq a,Xq b]
theorem ZY:∀ (c:Ty) (x:c.den),∀ v∈W4 c x,v.oneCell'=zt
 |.int _,_,v,h | .bool,_,v,h | .str,_,v,h=>by cases List.mem_singleton.1 h;rfl
 |.unit,_,v,h | .sl _ _,_,v,h=>by cases h
 |.pair a b,x,v,h=>(List.mem_append.1 h).elim (ZY a x.1 v) (ZY b x.2 v)
theorem cF:∀ (c:Ty) (x:c.den),RepL M μ (NV c x) (W4 c x)
 |.int k,n=>RepL.cons (.int _ _ _) (RepL.nil _ _)
 |.bool,b=>RepL.cons (.bool _ _) (RepL.nil _ _)
 |.str,s=>RepL.cons (by have:=Rep.str (M:=M) μ ⟨s.toArray⟩;simpa using this) (RepL.nil _ _)
 |.unit,_ | .sl _ _,_=>RepL.nil _ _
 |.pair a b,x=>(cF a x.1).append (cF b x.2)
theorem eA:∀ (c:Ty) (x:c.den) {vs:List Value},RepL M μ (NV c x) vs->vs=W4 c x
 |.int k,n,vs,h=>by
  obtain⟨v,l,rfl,e,d⟩:=h.cons_inv;cases e;cases d.nil_inv;rfl
 |.bool,b,vs,h=>by
  obtain⟨v,l,rfl,e,d⟩:=h.cons_inv;cases e;cases d.nil_inv;rfl
 |.str,s,vs,h=>by
  obtain⟨v,l,rfl,e,d⟩:=h.cons_inv;cases d.nil_inv;cases e;simp[W4]
 |.unit,_,vs,h=>h.nil_inv
 |.sl _ _,_,vs,h=>h.nil_inv
 |.pair a b,x,vs,h=>by
  have f:=eA a x.1 (vs:=vs.take (Wn a)) (by have:=h.take (Wn a);rwa [show(NV (.pair a b) x).take (Wn a)=NV a x.1 from by simp[NV,<- Xq a x.1]]at this);have g:=eA b x.2 (vs:=vs.drop (Wn a)) (by have:=h.drop (Wn a);rwa [show(NV (.pair a b) x).drop (Wn a)=NV b x.2 from by simp[NV,<- Xq a x.1]]at this);rw[<- List.take_append_drop (Wn a) vs,f,g];rfl
theorem iq:∀ (c:Ty) {ps r:List PV} {x:c.den},unc c ps=zo (x,r)->ps=NV c x++r
 |.int k,[],r,x,e=>by cases e
 |.int k,p::ps,r,x,e=>by
  cases p
  case int k' n=>
   simp only[unc]at e;cases d:k == k' with
   |false=>rw[d]at e;cases e
   |true=>rw[d]at e;cases e;rw[eq_of_beq d];rfl
  all_goals cases e
 |.bool,[],r,x,e=>by cases e
 |.bool,p::ps,r,x,e=>by cases p<;>cases e;rfl
 |.str,[],r,x,e=>by cases e
 |.str,p::ps,r,x,e=>by cases p<;>cases e;rfl
 |.unit,ps,r,x,e=>by
  unfold unc at e;cases e;rfl
 |.sl _ _,ps,r,x,e=>by
  unfold unc at e;cases e
 |.pair a b,ps,r,x,e=>by
  simp only[unc]at e;split at e
  ·rename_i y q f;split at e
   ·rename_i z h g;cases e;rw[iq a f,iq b g,<- List.append_assoc];rfl
   ·cases e
  ·cases e
theorem ql(c:Ty):∀ {es:List PV} {l:List c.den},UE c es=zo l->es=l.map λx=>.agg (NV c x)
 |[],l,e=>by cases e;rfl
 |p::es,l,e=>by
  unfold UE at e;split at e
  ·rename_i h;cases h
  ·rename_i cs l' hh;cases hh;split at e
   ·rename_i x r a b;cases e;rw[ql c b,iq c a];simp
   ·cases e
  ·cases e
theorem rK(c:Ty){V:c.den->Prop}[Inhabited {x:c.den // V x}](d:Array {x:c.den // V x}):FlatRep M μ (Wn c) (d.toList.map λx=>PV.agg (NV c x.1)) (flatK (λx=>W4 c x.1) (Wn c) d):=by
 refine⟨by simp,λi e a=> ?_,λi e j p a g=> ?_⟩
 ·rw[i0]at a;cases h:d.toList[i]? with
  |none=>rw[h]at a;cases a
  |some x=>rw[h]at a;cases a;exact Xq c x.1
 ·rw[i0]at a;cases h:d.toList[i]? with
  |none=>rw[h]at a;cases a
  |some x=>
   rw[h]at a;cases a;have g:(NV c x.1)[j]?=zo p:=g;have m:j<Wn c:=by rw[<- Xq c x.1];exact(a8.1 g).1
   have hi:i<d.size:=by simpa using(a8.1 h).1
   have o:d[i]! =x:=by rw[getElem!_pos d i hi];have:=(a8.1 h).2;simpa using this
   have f:i*Wn c+j<d.size*Wn c:=by
    have:=pg (Wn c) (show i+1<=d.size from hi);rw[s6,Nat.one_mul]at this;omega
   have l:=get_flatK (λx:{x:c.den // V x}=>W4 c x.1) (Wn c) d _ f;have k:(i*Wn c+j) / Wn c=i:=by rw[sa,Nat.mul_add_div (by omega),Nat.div_eq_of_lt m];rfl
   have n:(i*Wn c+j) % Wn c=j:=by rw[sa,Nat.mul_add_mod,Nat.mod_eq_of_lt m]
   rw[k,n,o]at l;have b:j<(W4 c x.1).length:=by rw[ZX];exact m
   rw[getElem!_pos (W4 c x.1) j b]at l;refine⟨(W4 c x.1)[j],?_,ZY c x.1 _ (o5 b),(cF c x.1).2 j p _ g (List.getElem?_eq_getElem b)⟩;rw[ed (by simpa using f),<- l,getElem!_pos _ _ (by simpa using f)]
theorem fZ{c:Ty}{V:c.den->Prop}[Inhabited {x:c.den // V x}](d:Array {x:c.den // V x})(s:Sim M μ h w){id off len:Nat}{es:List PV}{ex:Bool}{r:Bk}(W:μ id=zo r)(L:h.get id=zo (.row es ex zf))(U:off+len<=es.length)
  (g:(es.drop off).take len=d.toList.map λx=>PV.agg (NV c x.1)):HoldsK (λx:{x:c.den // V x}=>W4 c x.1) (Wn c) w r.b (r.base+off*r.esz) d:=by
 obtain⟨r',o,arr,ty,E,F,Y,Z,h5,J,K⟩:=s.blk id _ L;rw[W]at o;cases o
 have N:d.size=len:=by
  have:=congrArg rz g;simp at this;omega
 intro t y;rw[size_flatK]at y
 have S:0<Wn c:=by
  rcases r6 (Wn c)with h|h
  ·rw[h]at y;simp at y
  ·exact h
 have hi:t / Wn c<d.size:=Nat.div_lt_of_lt_mul (by rwa [sa]at y);have I:t % Wn c<Wn c:=Nat.mod_lt _ S;have X:d.toList[t / Wn c]?=zo d[t / Wn c]:=by rw[tT];exact ed hi
 have G:es[off+t / Wn c]?=zo (PV.agg (NV c d[t / Wn c].1)):=by
  have:=congrArg (·[t / Wn c]?) g;simp only[i0,X,ol]at this
  rwa [tb (by omega),xo]at this
 have l:r.esz=Wn c:=by rw[<- J _ _ G];exact Xq c _
 have O:t % Wn c<(NV c d[t / Wn c].1).length:=by rw[Xq];exact I
 have f:r.base+(off+t / Wn c)*r.esz+t % Wn c<arr.size:=by
  have A:off+t / Wn c+1<=r.cap:=by omega
  have B:=pg r.esz A;rw[s6,Nat.one_mul,l]at B;rw[l];rw[l]at F;omega
 have u:∀ j p,(NV c d[t / Wn c].1)[j]?=zo p -> ∃ v,arr[r.base+(off+t / Wn c)*r.esz+j]?=zo v/\Rep M μ p v:=λj p z=>by
  have P:j<Wn c:=by rw[<- Xq c d[t / Wn c].1];exact(a8.1 z).1
  have e:r.base+(off+t / Wn c)*r.esz+j<arr.size:=by
   have A:off+t / Wn c+1<=r.cap:=by omega
   have B:=pg r.esz A;rw[s6,Nat.one_mul,l]at B;rw[l]at F ⊢;omega
  exact⟨_,ed e,(K _ _ j p _ G z (ed e)).2⟩
 have n:(q0 (Wn c)).map (λj=>arr[r.base+(off+t / Wn c)*r.esz+j]!)=W4 c d[t / Wn c].1:=eA (M:=M) (μ:=μ) c _ ⟨by simp[Xq],λi p v z k=>by
  obtain⟨v',e1,e2⟩:=u i p z;rw[i0]at k;cases C:(q0 (Wn c))[i]? with
  |none=>rw[C]at k;cases k
  |some q=>
   rw[C]at k;obtain⟨_,rfl⟩:=a8.1 C;simp only[List.getElem_range,ol,Option.some.injEq]at k;subst k;obtain⟨e,rfl⟩:=Array.getElem?_eq_some_iff.1 e1
   rw[getElem!_pos arr _ e];exact e2⟩
 have m:r.base+off*r.esz+t=r.base+(off+t / Wn c)*r.esz+t % Wn c:=by
  rw[s6,l];have:=Nat.div_add_mod t (Wn c);rw[sa]at this;omega
 refine⟨?_,?_⟩
 ·rw[cell?_eq (a:=⟨r.b,r.base+off*r.esz+t,zn⟩) E rfl,get_flatK _ _ _ _ y,getElem!_pos d _ hi];simp only;rw[m,<- n,ed f];have D:t % Wn c<((q0 (Wn c)).map (λj=>arr[r.base+(off+t / Wn c)*r.esz+j]!)).length:=by simp[I]
  rw[getElem!_pos ((q0 (Wn c)).map (λj=>arr[r.base+(off+t / Wn c)*r.esz+j]!)) _ D];simp[f]
 ·simp[World.frozen?,E]
theorem iC(P:Program){c:Ty}{V:c.den->Prop}[Inhabited {x:c.den // V x}]{d a:Array {x:c.den // V x}}(g:a.size=d.size)(s:Sim M μ h w){id off len:Nat}{es:List PV}{ex:Bool}{r:Bk}(z:μ id=zo r)(k:h.get id=zo (.row es ex zf))(u:off+len<=es.length)
  (f:(es.drop off).take len=d.toList.map λx=>PV.agg (NV c x.1)) {h':Hp} (o:h.set id (.row (BH es off (a.toList.map λx=>PV.agg (NV c x.1))) ex zf)=zo h') (n:Nat) (os:Array Obj) :
  Sim M μ h' (sortWorldK (λx:{x:c.den // V x}=>W4 c x.1) (Wn c) w r.b (r.base+off*r.esz) n a os)/\Grow M μ w M μ (sortWorldK (λx:{x:c.den // V x}=>W4 c x.1) (Wn c) w r.b (r.base+off*r.esz) n a os):=by
 have F:=fZ d s z k u f
 have N:d.size=len:=by
  have:=congrArg rz f;simp at this;omega
 obtain⟨r',m,arr,ty,h1,h2,h3,h4,h5,K,h7⟩:=s.blk id _ k;rw[z]at m;cases m
 have l:(a.toList.map λx=>PV.agg (NV c x.1))≠[]->r.esz=Wn c:=λy=>by
  have J:0<d.size:=by
   rcases r6 d.size with h|h
   ·exact absurd (by rw[<- g]at h;simp[Array.size_eq_zero_iff.1 h]) y
   ·exact h
  have O:es[off]?=zo (PV.agg (NV c d[0].1)):=by
   have:=congrArg (·[0]?) f;simp only[i0,tT,ed J,ol]at this
   rwa [tb (by omega),xo,xa]at this
  rw[<- K _ _ O];exact Xq c _
 obtain⟨w1,Z,C,D⟩:=FW (P:=P) s z k (pos:=off) (new:=a.toList.map λx=>PV.agg (NV c x.1)) (n:=Wn c) (news:=(flatK (λx:{x:c.den // V x}=>W4 c x.1) (Wn c) a).toList) (by rw[Array.toArray_toList];exact rK c a) l (by omega) (by simp;omega) (λ_=>by simp;omega) (λh=>by cases h) o
 have p:=stores_of_holds P F 0 (flatK (λx:{x:c.den // V x}=>W4 c x.1) (Wn c) a).toList (by simp[g]) (λv W=>by
  obtain⟨t,U,rfl⟩:=List.mem_iff_getElem.1 W;have i:t<a.size*Wn c:=by simpa using U
  have S:0<Wn c:=by
   rcases r6 (Wn c)with h|h
   ·rw[h]at i;simp at i
   ·exact h
  have:=get_flatK (λx:{x:c.den // V x}=>W4 c x.1) (Wn c) a t i;rw[getElem!_pos _ _ (by simpa using i)]at this;rw[Array.getElem_toList,this];have G:t % Wn c<(W4 c a[t / Wn c]!.1).length:=by rw[ZX];exact Nat.mod_lt _ S
  rw[getElem!_pos (W4 c a[t / Wn c]!.1) _ G]
  exact ZY c _ _ (o5 G))
 rw[xa]at p
 have B:w1=w.setCells r.b (r.base+off*r.esz) (flatK (λx:{x:c.den // V x}=>W4 c x.1) (Wn c) a).toList:=by
  have:=Z.symm.trans p;injection this
 have AG:w.setCells r.b (r.base+off*r.esz) (flatK (λx:{x:c.den // V x}=>W4 c x.1) (Wn c) a).toList=putRowK (λx:{x:c.den // V x}=>W4 c x.1) (Wn c) w r.b (r.base+off*r.esz) a:=by
  have q:=setCells_putRow w r.b (r.base+off*r.esz) (flatK (λx:{x:c.den // V x}=>W4 c x.1) (Wn c) a).toList 0 (flatK (λx:{x:c.den // V x}=>W4 c x.1) (Wn c) d) (by simp[g]);rw[xa]at q
  have L:putRow _root_.id w r.b (r.base+off*r.esz) (flatK (λx:{x:c.den // V x}=>W4 c x.1) (Wn c) d)=w:=by
   have:=sortWorldK_start (λx:{x:c.den // V x}=>W4 c x.1) (Wn c) w r.b (r.base+off*r.esz) d F;exact this
  rw[L]at q;rw[q];unfold putRowK
  congr 1
  apply Array.ext
  ·simp[g]
  ·intro t A j;have e1:∀ (X:Array Value) (h:t<X.size),X[t]=X[t]!:=λX h=>(getElem!_pos X t h).symm;have e2:∀ (Y:List Value) (h:t<Y.length),Y[t]! =Y[t]:=λY h=>getElem!_pos Y t h;rw[e1 _ A,get_setMany _ _ _ t (by simpa[g]using j),zy ⟨hU _,by simpa using j⟩,Nat.sub_zero,e2 _ (by simpa using j)];simp
 rw[B,AG]at C D;have e:sortWorldK (λx:{x:c.den // V x}=>W4 c x.1) (Wn c) w r.b (r.base+off*r.esz) n a os=grow ((putRowK (λx:{x:c.den // V x}=>W4 c x.1) (Wn c) w r.b (r.base+off*r.esz) a).drewN n) os:=rfl;rw[e];generalize putRowK (λx:{x:c.den // V x}=>W4 c x.1) (Wn c) w r.b (r.base+off*r.esz) a=I at C D ⊢;have E:WStays I (grow (I.drewN n) os):=⟨rfl,rfl,rfl,Nat.le_add_right _ _,by simp[grow,World.drewN],λb k=>by simp[grow,World.drewN,Array.getElem?_append_left k]⟩;exact⟨O5 C E.size E.keep,D.trans (Mr E)⟩
end
end
section
open Go.RowKit Go.Shelf Go.Sort Go.Proofs
open Sv (Ty)
theorem WStays.grown{w w':World}(h:WStays w w'):∃ q b,w'=grow (w.drewN q) b:=by
 obtain⟨c,d,e,j,k,f⟩:=h;refine⟨w'.drawn-w.drawn,w'.heap.extract w.heap.size w'.heap.size,?_⟩
 have hh:w'.heap=w.heap++w'.heap.extract w.heap.size w'.heap.size:=by
  apply Array.ext
  ·simp;omega
  ·intro i a g;rcases Nat.lt_or_ge i w.heap.size with h|h
   ·have:=f i h;rw[ed a,ed h]at this;rw[Array.getElem_append_left h];exact Option.some.inj this
   ·rw[Array.getElem_append_right h];simp[show w.heap.size+(i-w.heap.size)=i by omega]
 have hd:w'.drawn=w.drawn+(w'.drawn-w.drawn):=by omega
 cases w;cases w';simp only[grow,World.drewN,World.mk.injEq]at *;exact⟨hh,e,hd,c,d⟩
theorem db{α:Type}{V:α->Prop}:∀ (l:List α),(∀ x∈l,V x) -> ∃ d:List {x:α // V x},d.map (·.1)=l
 |[],_=>⟨[],rfl⟩
 |a::l,h=>by
  obtain⟨d,hd⟩:=db l λx b=>h x (.tail _ b);exact⟨⟨a,h a (.head _)⟩::d,by simp[hd]⟩
theorem ra{α:Type}[Inhabited α]{d a:Array α}(h:PermIn 0 d.size d a):a.toList.Perm d.toList:=by
 obtain⟨c,_,b⟩:=h;have:a.extract 0 d.size=a:=by rw[<- c];simp
 rw[this]at b;simpa using b
theorem rZ{α:Type}[Inhabited α]{lt:α->α->Bool}{c:Array α}{n:Nat}(f:c.size=n)(h:SortedIn lt 0 n c):c.toList.Pairwise λa b=>lt b a=zf:=by
 rw[List.pairwise_iff_getElem];intro i j hi e d;have:=h i j (hU _) d (by rw[<- f];simpa using e);rw[getElem!_pos c i (by simpa using hi),getElem!_pos c j (by simpa using e)]at this;simpa using this
@[reducible] def wy:Gl:=⟨λ_=>zn,λ_=>zn⟩
theorem ky{P:Program}{d:FuncId}(hc:∀ (a b:ByteArray) (w:World),Calls P d #[.string a,.string b] w λe w'=>e=.returned (.int .i64 (Lib.compareBytes a.data.toList b.data.toList))/\w'=w) : @Cz (Og wy d .cmp) P:=by
 refine @Ra wy P d .cmp (@R0 wy P λ_=>rfl) λargs h v h' hd M μ w vs s i cs=> ?_
 letI:=wy
 rcases args with _|⟨e,_|⟨t,_|⟨_,_⟩⟩⟩<;>try (cases hd;done)
 replace hd:(TV e t).map (λn=>(PV.int .i64 n,h))=zo (v,h'):=hd;obtain⟨n,c,hh⟩:=AA hd;cases hh;unfold TV at c;split at c<;>try (cases c;done)
 cases c;obtain⟨x,p,rfl,j,f⟩:=i.cons_inv;obtain⟨y,q,rfl,k,g⟩:=f.cons_inv;cases g.nil_inv;cases j with
 |str _ x=>cases k with
  |str _ y=>
   obtain⟨e,w',fr,⟨rfl,rfl⟩,l,m,o⟩:=hc x y w cs;exact⟨M,μ,_,fr,_,s,.refl _ _ _,l,m,by rw[Hw];exact .int _ _ _,o⟩
theorem i4[Gl]{M:Al}{μ:Mu}(c:Ty)(x:c.den):Rep M μ (.agg (NV c x)) (.agg (W4 c x).toArray):=
 .agg _ _ _ (by simp[Xq,ZX]) (λi v h=>ZY c x v (by
  rw[List.getElem?_toArray]at h
  exact List.mem_of_getElem? h)) λi p v a b=>(cF c x).2 i p v a (by simpa using b)
theorem rn[Gl]{P:Program}{g:FuncId}{c:Ty}{F:List c.den->Option (List c.den)}{b:∀ l l',F l=zo l'->l'.length=l.length}{args:List PV}{h h':Hp}{v:PV}(e:Kq P (.srt g c F b) args h=zo (v,h')):∃ p,args=[p,.fn (.func g) [] []]/\Nz c F p h=zo (v,h'):=by
 match args,e with
 |[p,.fn (.func g') [] []],e=>
  replace e:(bif Nat.beq g g' then Nz c F p h else zn)=zo (v,h'):=e
  cases a:Nat.beq g g' with
  |false=>rw[a]at e;cases e
  |true=>rw[a]at e;rw[<- Nat.eq_of_beq_eq_true a];exact⟨p,rfl,e⟩
theorem rp[Gl]{c:Ty}{F:List c.den->Option (List c.den)}{id off len:Nat}{h h':Hp}{v:PV}(e:Nz c F (.own id off len) h=zo (v,h')) :
  v=.tup [] /\ ∃ es ex l l',h.get id=zo (.row es ex zf)/\off+len<=es.length/\UE c ((es.drop off).take len)=zo l/\F l=zo l'/\h.set id (.row (BH es off (l'.map λx=>.agg (NV c x))) ex zf)=zo h':=by
 simp only[Nz]at e;split at e
 ·rename_i es ex i;cases a:Nat.ble (off+len) es.length with
  |false=>rw[a]at e;cases e
  |true=>
   rw[a]at e;simp only[zb]at e;split at e
   ·rename_i l b;split at e
    ·rename_i l' d;obtain⟨j,f,g⟩:=AA e;cases g;exact⟨rfl,es,ex,l,l',i,Nat.le_of_ble_eq_true a,b,d,f⟩
    ·cases e
   ·cases e
 ·cases e
def jh[Gl]:Option (Out×Option UM×Hp)->Bool
 |some (.ret (.tup []),_,_)=>zt
 |_=>zf
theorem jD[Gl]{x:Option (Out×Option UM×Hp)}(h:jh x=zt):∃ u h,x=zo (.ret (.tup []),u,h):=by
 unfold jh at h;split at h
 ·exact⟨_,_,rfl⟩
 ·cases h
theorem mF[G:Gl]{P:Program}(PO:Cz P){ρ:Ren}(L:SlLaysF0.n6 P ρ){g:FuncId}{c:Ty}{F:List c.den->Option (List c.den)}{hF:∀ l l',F l=zo l'->l'.length=l.length}
  (aE:∀ w,(isAgg (ρ.t 24)).run P w=.ok zt w) (zE:∀ w,(Go.sizeOf (ρ.t 24)).run P w=.ok (Wn c) w) {V:c.den->Prop} (x0:{x:c.den // V x}) (cf:c.den->c.den->Int)
  (hO:SWO (ltOf λ(x y:{x:c.den // V x})=>cf x.1 y.1)) (eg:∀ args w,(callFunc g args).run P w=.ok (.enter g args) w)
  (W:∀ x y,V x->V y -> ∀ w,Calls P g #[.agg (W4 c x).toArray,.agg (W4 c y).toArray] w λe w'=>e=.returned (.int .i64 (cf x y))/\WStays w w')
  (hFs:∀ l l',F l=zo l'->l.length<4611686018427387904/\(∀ x∈l,V x) /\ ∀ m:List c.den,m.Perm l->(m.Pairwise λa b=>¬ cf b a<0)->m=l')
  {sh:FuncId->Bool} {Fu n:Nat}
  (D:jh (B5 P sh Fu n (.fn (ρ.f 6)) zn [.nils,.fn (.func g) [] []] { m:=.lf,nx:=0 })=zt)
  (E:jh (B5 P sh Fu n (.fn (ρ.f 6)) zn [.lst zf [],.fn (.func g) [] []] { m:=.lf,nx:=0 })=zt) :
  @Cz (Og G (ρ.f 6) (.srt g c F hF)) P:=by
 obtain⟨u1,O,D⟩:=jD D;obtain⟨u2,h2,E⟩:=jD E;have R:=PT (sh:=sh) PO (λrec R=>GU (P:=P) (rec:=rec) R) Fu n;refine Ra PO λargs h v h' hd M μ w vs s ha cs=> ?_
 have d:∀ {p:PV} {u:Option UM} {O:Hp},B5 P sh Fu n (.fn (ρ.f 6)) zn [p,.fn (.func g) [] []] { m:=.lf,nx:=0 }=zo (.ret (.tup []),u,O)->(∀ vs,RepL M μ [p,.fn (.func g) [] []] vs->RepL M mu0 [p,.fn (.func g) [] []] vs)->RepL M μ [p,.fn (.func g) [] []] vs ->
   ∃ J μ' w' fr x,Sim J μ' h w'/\Grow M μ w J μ' w'/\Steps P (lone (Frame.enter P (ρ.f 6) vs.toArray .normal) cs w) (lone fr cs w')/\fr.fn=ρ.f 6/\Rep J μ' (.tup []) x/\fr.leaving P w' (.returned x):=by
  intro p u O hn k ha;have s0:=s.empty [];rw[Nd]at s0;obtain⟨J,μ',w',fr,s1,g1,st,j,x,q,Y⟩:=R.nrm hn s0 (k vs ha) cs;obtain⟨j1,j2⟩:=HK s g1;refine⟨M,μ,w',fr,x,j1,j2,st,j,?_,Y⟩;cases q with
  |tup _ _ vs' hz _=>exact .tup _ _ _ hz λi c v e=>by simp at e
 have K:∀ {v:Value},Rep M μ (.fn (.func g) [] []) v->v=.func (.func g) #[] #[]:=fun {v} k=>by
  cases k with
  |fn _ _ _ _ va vb _ hla hlb _ _=>
   have O:va = #[]:=Array.eq_empty_of_size_eq_zero hla.symm;have h2:vb = #[]:=Array.eq_empty_of_size_eq_zero hlb.symm;rw[O,h2]
 have N:Rep M mu0 (.fn (.func g) [] []) (.func (.func g) #[] #[]):=.fn _ _ _ _ _ _ (λl e=>by cases e) rfl rfl (λi c v e=>by simp at e) (λi c v e=>by simp at e);obtain⟨p,rfl,e⟩:=rn hd;clear hd;obtain⟨x,l1,rfl,q,B⟩:=ha.cons_inv;obtain⟨f,l2,rfl,hf,C⟩:=B.cons_inv;cases C.nil_inv;cases K hf;cases p<;>try (simp only[Nz]at e;cases e;done)
 case nils=>
  cases e;cases q
  exact d D (λvs k=>by
   obtain⟨x,l1,rfl,q,B⟩:=k.cons_inv;obtain⟨f,l2,rfl,hf,C⟩:=B.cons_inv;cases C.nil_inv;cases K hf;cases q
   exact .cons (.nils _) (.cons N (.nil _ _))) ha
 case lst full es=>
  cases es with
  |cons _ _=>simp only[Nz]at e;cases e
  |nil=>
   cases e
   have k:Rep M mu0 (.lst zf []) x:=by
    cases q with
    |lst0 _ _ a cap hf=>exact .lst0 _ _ _ _ λh=>by cases h
    |lst _ _ _ b off esz cap x _ _ _ _ _ _=>exact .lst0 _ _ _ _ λh=>by cases h
   have hr2:RepL M mu0 [.lst zf [],.fn (.func g) [] []] [x,.func (.func g) #[] #[]]:=.cons k (.cons N (.nil _ _));have s0:=s.empty [];rw[Nd]at s0;obtain⟨J,μ',w',fr,s1,g1,st,j,x,q,Y⟩:=R.nrm E s0 hr2 cs;obtain⟨j1,j2⟩:=HK s g1;refine⟨M,μ,w',fr,x,j1,j2,st,j,?_,Y⟩;cases q with
   |tup _ _ vs' hz _=>exact .tup _ _ _ hz λi c v e=>by simp at e
 case own id off len=>
  obtain⟨rfl,es,ex,l,l',hb,Z,hu,hFl,hset⟩:=rp e;obtain⟨z,hV,huq⟩:=hFs l l' hFl;obtain⟨dl,A⟩:=db l hV;cases q with
  |own _ _ _ _ r k hc=>
   haveI:Inhabited {x:c.den // V x}:=⟨x0⟩
   have o:(es.drop off).take len=dl.toArray.toList.map λx=>PV.agg (NV c x.1):=by
    rw[ql c hu,<- A];simp
   have hsz:dl.toArray.size=len:=by
    have:=congrArg rz o;simp at this;simp;omega
   have hH:=fZ dl.toArray s k hb Z o;have S:r.b<w.heap.size:=(s.use id r k).2
   have U:=AnyQ.slices_SortFunc L (Wn c) aE zE (λx:{x:c.den // V x}=>W4 c x.1) (λx=>ZX c x.1) (λx=>ZY c x.1) (λx y=>cf x.1 y.1) hO g #[] r.b (r.base+off*r.esz) (r.cap-off) dl.toArray w eg
    (λm os dk hs x y=>(W x.1 y.1 x.2 y.2 _).mono λ_ _ ⟨he,hw⟩=>⟨he,hw.grown⟩) hH S (by simp[<- A]at z;simpa using z)
   rw[hsz]at U;obtain⟨e,w',fr,⟨rfl,d',n',os,hp,hso,rfl⟩,st,j,Y⟩:=U cs;rw[<- hsz]at hp hso;have X:=hp.1
   have hm:=huq (d'.toList.map (·.1)) (by rw[<- A];have:=(ra hp).map (λx:{x:c.den // V x}=>x.1);simpa using this) (by
    rw[List.pairwise_map];refine(rZ X hso).imp fun {a b} h=> ?_
    simpa[ltOf]using h)
   have I:h.set id (.row (BH es off (d'.toList.map λx=>.agg (NV c x.1))) ex zf)=zo h':=by
    rw[<- hset,<- hm];simp
   obtain⟨q1,q2⟩:=iC P X s k hb Z o I n' os;exact⟨M,μ,_,fr,_,q1,q2,st,j,.tup _ _ _ rfl λi c v e=>by simp at e,Y⟩
end
end Go.Proofs.YtoefnfbpoabinaaGreatDoor.Pi
