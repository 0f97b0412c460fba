/- A part of the evaluator of the model's code for any program, and of the proof that it is sound. No condition. -/
import Derived.Test.YthpkjfabdccpdaaGreatPp0
import Derived.Laws.Append
import Derived.AtR
import Derived.Recover
import Derived.RangeFuncIn
namespace Go.Proofs.YthpkjfabdccpdaaGreat.Pi
section
variable {P:Program} {M:B5} {μ:Mu} {h:Hp} {w:World}
theorem Nv (b o j:Nat):(⟨b,o,none⟩:Addr).add j=⟨b,o+j,none⟩:=by simp [Addr.add]
theorem Qg {n k:Nat} {l:Nat} (hn:0<n) (hk:k<l*n):k / n<l/\k % n<n/\k / n*n+k % n=k :=
 ⟨(Nat.div_lt_iff_lt_mul hn).2 hk,Nat.mod_lt _ hn,by rw [Nat.mul_comm];exact Nat.div_add_mod k n⟩
theorem LY (s:Sim M μ h w) {p:PV} {x:Value} {es:List PV} {n:Nat} (hx:Rep M μ p x) (e:Dv h p=some es) (hn : ∀ v∈es,v.cells.length=n) (hn0:0<n) :
  ∃ a cap,x = .slice a es.length cap/\(es≠[] -> ∃ (b:Addr) (news:List Value),a=some b/\news.length=es.length*n/\(∀ j v,news[j]? = some v->w.cell? (b.add j)=some v)/\FlatRep M μ n es news.toArray):=by
 unfold Dv at e;split at e
 ·cases e;cases hx;exact ⟨none,0,rfl,λh=>absurd rfl h⟩
 ·rename_i full es0;cases e;cases hx with
  | lst0 _ _ a cap hf=>exact ⟨some a,cap,rfl,λh=>absurd rfl h⟩
  | lst _ _ _ b off esz cap x hf hc hs hm h1 hr =>
   refine ⟨_,cap,rfl,λhne => ?_⟩
   have hz:esz=n:=by
    cases es with
    | nil=>exact absurd rfl hne
    | cons e0 es=>rw [<- hs 0 e0 rfl];exact hn e0 (by simp)
   subst hz;refine ⟨_,(List.range (es.length*esz)).map λk=>x (k / esz) (k % esz),rfl,by simp,λj v hj => ?_,by simp,λi e he=>hs i e he,λi e j c he hj => ?_⟩
   ·have hlt:j<es.length*esz:=by
     have:=(List.getElem?_eq_some_iff.1 hj).1;simpa using this
    simp only [List.getElem?_map,List.getElem?_range hlt,Option.map_some,Option.some.injEq] at hj;subst hj;obtain ⟨d1,d2,d3⟩:=Qg hn0 hlt;have hcell : ∃ c,(es[j / esz]).cells[j % esz]? = some c:=⟨_,List.getElem?_eq_getElem (by rw [hs (j / esz) _ (List.getElem?_eq_getElem d1)];exact d2)⟩;obtain ⟨c,hc⟩:=hcell;have:=(s.mem _ _ (hm (j / esz) _ (j % esz) c (List.getElem?_eq_getElem d1) hc)).2;rw [Nv,<- d3,<- Nat.add_assoc];rw [d3];exact this
   ·have hj':j<esz:=by rw [<- hs i e he];exact (List.getElem?_eq_some_iff.1 hj).1
    have hi':i<es.length:=(List.getElem?_eq_some_iff.1 he).1
    have hlt:i*esz+j<es.length*esz:=by
     have:(i+1)*esz<=es.length*esz:=Nat.mul_le_mul_right _ hi';rw [Nat.add_mul] at this;omega
    refine ⟨x i j,?_,h1 i e j c he hj,(hr i e j c he hj).mono (.refl _) (.mu0 _)⟩;obtain ⟨d1,d2,d3⟩:=Qg hn0 hlt;have:=Ko d2 hj' d3;simp [List.getElem?_range hlt,this.1,this.2]
 ·rename_i j off len;split at e
  ·rename_i es0 ex fz hb;replace e:=Be e;obtain ⟨hle,e⟩:=e;simp at hle;cases e;cases hx with
   | own _ _ _ _ r hr hcap =>
    obtain ⟨r',hr',arr,ety,h1,h2,h3,h4,h5,h6,h7⟩:=s.blk j _ hb;rw [hr] at hr';cases hr';have hlen:((es0.drop off).take len).length=len:=by simp;omega
    refine ⟨_,_,by rw [hlen],λhne => ?_⟩
    have get : ∀ (i:Nat) (e:PV),((es0.drop off).take len)[i]? = some e->es0[off+i]? = some e/\i<len:=by
     intro i e he;rw [List.getElem?_take] at he;split at he
     ·rw [List.getElem?_drop] at he;exact ⟨he,by assumption⟩
     ·cases he
    have hz:r.esz=n:=by
     have h0:0<((es0.drop off).take len).length:=List.length_pos_iff.2 hne;have hg:=List.getElem?_eq_getElem h0;rw [<- h6 _ _ (get 0 _ hg).1];exact hn _ (List.getElem_mem h0)
    have inb : ∀ k,k<len*n->r.base+off*n+k<arr.size:=by
     intro k hk;have:(off+len)*n<=r.cap*n:=Nat.mul_le_mul_right _ (by omega);rw [Nat.add_mul] at this;rw [hz] at h2;omega
    refine ⟨_,(arr.toList.drop (r.base+off*n)).take (len*n),rfl,?_,λk v hk => ?_,?_,λi e he => ?_,λi e k c he hk => ?_⟩
    ·rw [hlen];simp only [List.length_take,List.length_drop,Array.length_toList];rcases Nat.eq_zero_or_pos (len*n) with h0 | h0
     ·omega
     ·have:=inb (len*n-1) (by omega);omega
    ·rw [List.getElem?_take] at hk;split at hk
     ·rw [List.getElem?_drop] at hk;rw [Nv,hz,cell?_eq (a:=⟨r.b,_,none⟩) h1 rfl];simpa using hk
     ·cases hk
    ·simp only [List.size_toArray];rw [hlen];simp only [List.length_take,List.length_drop,Array.length_toList];rcases Nat.eq_zero_or_pos (len*n) with h0 | h0
     ·omega
     ·have:=inb (len*n-1) (by omega);omega
    ·rw [<- hz];exact h6 _ e (get i e he).1
    ·obtain ⟨g1,g2⟩:=get i e he;have hk':k<n:=by rw [<- hz,<- h6 _ e g1];exact (List.getElem?_eq_some_iff.1 hk).1
     have hlt:i*n+k<len*n:=by
      have:(i+1)*n<=len*n:=Nat.mul_le_mul_right _ g2;rw [Nat.add_mul] at this;omega
     have hin:=inb _ hlt;refine ⟨arr[r.base+off*n+(i*n+k)],?_,?_⟩
     ·simp only [List.getElem?_toArray];rw [List.getElem?_take,if_pos hlt,List.getElem?_drop];simp [hin]
     ·refine h7 (off+i) e k c _ g1 hk ?_;rw [hz,Nat.add_mul];rw [show r.base+(off*n+i*n)+k=r.base+off*n+(i*n+k) by omega];exact Array.getElem?_eq_getElem hin
  ·cases e
 ·cases e
theorem MN (s:Sim M μ h w) {j Am n:Nat} {es new:List PV} {ex fz:Bool} {h':Hp} {r:Bk} {news:List Value} (hr:μ j=some r) (hb:h.get j=some (.row es ex fz))
  (hf:FlatRep M μ n new news.toArray) (hz:new≠[]->r.esz=n) (hpos:Am<=es.length) (hcap:Am+new.length<=r.cap) (hex:ex=true->Am+new.length<=es.length) (hfz:fz=true->Am=es.length)
  (hs:h.set j (.row (Em es Am new) ex fz)=some h') :
  ∃ w',(storeCells ⟨r.b,r.base+Am*r.esz,none⟩ news 0).run P w = .ok () w'/\Sim M μ h' w'/\Grow M μ w M μ w':=by
 obtain ⟨r',hr',arr,ety,h1,h2,h3,h4,h5,h6,h7⟩:=s.blk j _ hb;rw [hr] at hr';cases hr'
 have hnl:news.length=new.length*r.esz:=by
  have:=hf.1;simp at this;rw [this];by_cases hne:new=[]
  ·subst hne;simp
  ·rw [hz hne]
 have hin:r.base+Am*r.esz+news.length<=arr.size:=by
  have:(Am+new.length)*r.esz<=r.cap*r.esz:=Nat.mul_le_mul_right _ hcap;rw [Nat.add_mul] at this;omega
 have hone : ∀ y∈news,y.oneCell'=true:=by
  intro y hy;obtain ⟨k,hk⟩:=List.mem_iff_getElem?.1 hy;have hkl:k<new.length*r.esz:=by rw [<- hnl];exact (List.getElem?_eq_some_iff.1 hk).1
  obtain ⟨d1,d2,d3⟩:=Qg h5 hkl;have hne:new≠[]:=by intro e;subst e;simp at hkl
  have hg:=List.getElem?_eq_getElem d1;have hcl:(new[k / r.esz]).cells.length=r.esz:=by rw [hf.2.1 _ _ hg,hz hne]
  obtain ⟨v,c1,c2,_⟩:=hf.2.2 (k / r.esz) _ (k % r.esz) _ hg (List.getElem?_eq_getElem (by omega));rw [<- hz hne,d3] at c1;simp at c1;rw [hk] at c1;cases c1;exact c2
 obtain ⟨w',arr',hrun,k1,k2,k3,k4,k5,k6,k7,k8,k9⟩:=Hv (P:=P) (ty:=ety) news w arr (r.base+Am*r.esz) 0 h1 (by omega) hone;refine ⟨w',hrun,?_,Grow.update hr k4 k5 k6 k7 k8 (λarr ty f h=>by rw [k1] at h;cases h;rfl)⟩
 have hget : ∀ (i:Nat) (e:PV),(Em es Am new)[i]? = some e->(Am<=i/\i<Am+new.length/\new[i-Am]? = some e)\/(¬ (Am<=i/\i<Am+new.length)/\es[i]? = some e):=by
  intro i e he;unfold Em at he;rw [List.getElem?_append] at he;simp only [List.length_take,Nat.min_eq_left hpos] at he;by_cases hi:i<Am
  ·rw [if_pos hi,List.getElem?_take,if_pos hi] at he;exact .inr ⟨by omega,he⟩
  ·rw [if_neg hi,List.getElem?_append] at he;by_cases hi2:i-Am<new.length
   ·rw [if_pos hi2] at he;exact .inl ⟨by omega,by omega,he⟩
   ·rw [if_neg hi2,List.getElem?_drop] at he;refine .inr ⟨by omega,?_⟩
    rwa [show Am+new.length+(i-Am-new.length)=i by omega] at he
 have hlen:(Em es Am new).length=max es.length (Am+new.length):=by
  unfold Em;simp only [List.length_append,List.length_take,List.length_drop,Nat.min_eq_left hpos];omega
 refine s.update hb hr trivial (Hp.get_set hs).1 k4 k5 ?_ ?_
 ·refine ⟨arr',ety,k1,by omega,?_,?_,h5,?_,?_⟩
  ·rw [hlen];exact Nat.max_le.2 ⟨h3,hcap⟩
  ·intro hx;rw [hlen,<- h4 hx];exact Nat.max_eq_left (hex hx)
  ·intro i e he;rcases hget i e he with ⟨a1,a2,a3⟩ | ⟨_,a3⟩
   ·have hne:new≠[]:=by intro e;subst e;simp at a3
    rw [hf.2.1 _ e a3,hz hne]
   ·exact h6 i e a3
  ·intro i e k c v he hk hv;rw [k3] at hv;rcases hget i e he with ⟨a1,a2,a3⟩ | ⟨a1,a3⟩
   ·have hne:new≠[]:=by intro e;subst e;simp at a3
    have hkn:k<r.esz:=by rw [hz hne,<- hf.2.1 _ e a3];exact (List.getElem?_eq_some_iff.1 hk).1
    obtain ⟨y,c1,c2,c3⟩:=hf.2.2 _ e k c a3 hk;rw [<- hz hne] at c1;simp at c1;have e1:Am*r.esz+(i-Am)*r.esz=i*r.esz:=by rw [<- Nat.add_mul];congr 1;omega
    have hlt:(i-Am)*r.esz+k<news.length:=(List.getElem?_eq_some_iff.1 c1).1;rw [if_pos (by omega)] at hv;rw [show r.base+i*r.esz+k-(r.base+Am*r.esz+0)=(i-Am)*r.esz+k by omega] at hv;rw [c1] at hv;cases hv;exact ⟨c2,c3⟩
   ·have hkn:k<r.esz:=by rw [<- h6 _ e a3];exact (List.getElem?_eq_some_iff.1 hk).1
    rw [if_neg ?_] at hv
    ·exact h7 i e k c v a3 hk hv
    ·intro hcon;rw [hnl,Nat.add_zero] at hcon;by_cases hi:i<Am
     ·have:(i+1)*r.esz<=Am*r.esz:=Nat.mul_le_mul_right _ hi;rw [Nat.add_mul] at this;omega
     ·have:(Am+new.length)*r.esz<=i*r.esz:=Nat.mul_le_mul_right _ (by omega);rw [Nat.add_mul] at this;omega
 ·intro a y hm ha;obtain ⟨q1,q2⟩:=s.sep j r _ a y hb hr trivial hm ha;have hp:=hfz q1;have hmem:=s.mem a y hm;refine ⟨?_,q1,?_⟩
  ·rw [cell?_eq (arr:=arr') (ty:=ety) (f:=(0,0)) (by rw [ha];exact k1) hmem.1,k3,if_neg (by subst hp;omega)];rw [<- cell?_eq (arr:=arr) (ty:=ety) (f:=(0,0)) (by rw [ha];exact h1) hmem.1];exact hmem.2
  ·rw [hlen];have:es.length*r.esz<=max es.length (Am+new.length)*r.esz:=Nat.mul_le_mul_right _ (Nat.le_max_left _ _);omega
theorem Sim.rename (s:Sim M μ h w) {j id:Nat} {b:Blk} {r:Bk} {h':Hp} (hb:h.get j=some b) (hr:μ j=some r) (hl:b.live) (hn:h.get id=none)
  (he : ∀ k,h'.get k=if k=id then some b else if k=j then some .dead else h.get k):Sim M (HX μ id r) h' w/\Grow M μ w M (HX μ id r) w:=by
 have hμ:μ id=none:=by
  cases hm:μ id with
  | none=>rfl
  | some x=>exact absurd hn (s.use id x hm).1
 have hle:=Ht (r:=r) hμ;have hij:j≠id:=by intro e;subst e;rw [hn] at hb;cases hb
 have hup : ∀ k x,HX μ id r k=some x->(k=id/\x=r)\/(k≠id/\μ k=some x):=by
  intro k x hk;unfold HX at hk;by_cases e:k=id
  ·rw [if_pos e] at hk;exact .inl ⟨e,(Option.some.inj hk).symm⟩
  ·rw [if_neg e] at hk;exact .inr ⟨e,hk⟩
 obtain ⟨r',hr',hat⟩:=s.blk j b hb;rw [hr] at hr';cases hr';refine ⟨⟨s.mem,?_,?_,?_,?_⟩,⟨.refl _,hle,λ_ _ h => .inl h,?_,Nat.le_refl _,λ_ _ _=>rfl,rfl,rfl,rfl,λ_ arr _ _ h => .inr ⟨arr,h⟩⟩⟩
 ·intro k bk hk;rw [he] at hk;by_cases e:k=id
  ·rw [if_pos e] at hk;cases hk;exact ⟨r,by simp [HX,e],hat.mono (.refl _) hle⟩
  ·rw [if_neg e] at hk;by_cases e2:k=j
   ·rw [if_pos e2] at hk;cases hk;exact ⟨r,hle _ _ (e2 ▸ hr),trivial⟩
   ·rw [if_neg e2] at hk;obtain ⟨rk,hrk,hatk⟩:=s.blk k bk hk;exact ⟨rk,hle _ _ hrk,hatk.mono (.refl _) hle⟩
 ·intro k rk hk;rcases hup k rk hk with ⟨e,rfl⟩ | ⟨e,hk⟩
  ·exact ⟨by rw [he,if_pos e];simp,(s.use j _ hr).2⟩
  ·have:=s.use k rk hk;refine ⟨?_,this.2⟩;rw [he,if_neg e];split
   ·simp
   ·exact this.1
 ·intro k k' rk rk' bk bk' a1 a2 a3 a4 a5 a6 a7;rw [he] at a3 a4
  have old : ∀ (k:Nat) (rk:Bk) (bk:Blk),k≠id->(if k=id then some b else if k=j then some .dead else h.get k)=some bk->bk.live->k≠j/\h.get k=some bk:=by
   intro k rk bk e hk hlv;rw [if_neg e] at hk;by_cases e2:k=j
   ·rw [if_pos e2] at hk;cases hk;exact hlv.elim
   ·rw [if_neg e2] at hk;exact ⟨e2,hk⟩
  rcases hup k rk a1 with ⟨e,hx⟩ | ⟨e,a1⟩
  ·rcases hup k' rk' a2 with ⟨e',hx'⟩ | ⟨e',a2⟩
   ·exact e.trans e'.symm
   ·obtain ⟨o1,o2⟩:=old k' rk' bk' e' a4 a6;exact absurd (s.inj k' j rk' r bk' b a2 hr o2 hb a6 hl (by rw [<- a7,hx])) o1
  ·obtain ⟨o1,o2⟩:=old k rk bk e a3 a5;rcases hup k' rk' a2 with ⟨e',hx'⟩ | ⟨e',a2⟩
   ·exact absurd (s.inj k j rk r bk b a1 hr o2 hb a5 hl (by rw [a7,hx'])) o1
   ·obtain ⟨p1,p2⟩:=old k' rk' bk' e' a4 a6;exact s.inj k k' rk rk' bk bk' a1 a2 o2 p2 a5 a6 a7
 ·intro k rk bk a v a1 a2 a3 a4 a5;rw [he] at a1;rcases hup k rk a2 with ⟨e,hx⟩ | ⟨e,a2⟩
  ·rw [if_pos e] at a1;cases a1;subst hx;exact s.sep j _ _ a v hb hr hl a4 a5
  ·rw [if_neg e] at a1;by_cases e2:k=j
   ·rw [if_pos e2] at a1;cases a1;exact a3.elim
   ·rw [if_neg e2] at a1;exact s.sep k rk bk a v a1 a2 a3 a4 a5
 ·intro k rk hk;rcases hup k rk hk with ⟨_,hx⟩ | ⟨_,hk⟩
  ·exact .inl ⟨j,r,hr,by rw [hx]⟩
  ·exact .inl ⟨k,rk,hk,rfl⟩
theorem Dy (s:Sim M μ h w) {id n cap:Nat} {es:List PV} {fz:Bool} {arr rest:Array Value} {ty:TypeId} {h':Hp} {w':World} (hn0:0<n) (hf:FlatRep M μ n es arr) (hcap:es.length<=cap) (hrest:rest.size=(cap-es.length)*n)
  (hn:h.new id (.row es false fz)=some h') (hw:w'.heap=w.heap.push (.cells (arr++rest) ty (0,0))) (e1:w'.os=w.os) (e2:w'.output=w.output) (e3:w'.tape=w.tape) :
  ∃ μ',Sim M μ' h' w'/\Grow M μ w M μ' w' /\ ∀ k,k<=es.length->Rep M μ' (.own id 0 k) (.slice (some ⟨w.heap.size,0,none⟩) k cap):=by
 obtain ⟨hget,hset,_⟩:=Hp.get_new hn
 have hμ:μ id=none:=by
  cases hm:μ id with
  | none=>rfl
  | some x=>exact absurd hget (s.use id x hm).1
 have hsz:(arr++rest).size=cap*n:=by
  rw [Array.size_append,hf.1,hrest,<- Nat.add_mul];congr 1;omega
 have hS:=s.fresh (w':=w') (r:=⟨w.heap.size,0,n,cap⟩) (o:=.cells (arr++rest) ty (0,0)) hget hset hw rfl
  ⟨_,ty,rfl,by simp only [Nat.zero_add];omega,hcap,(by intro h;cases h),hn0,λi e he=>hf.2.1 i e he,λi e j c v a b hv=>by
   obtain ⟨v',c1,c2,c3⟩:=hf.2.2 i e j c a b;simp only [Nat.zero_add] at hv;have hlt:i*n+j<arr.size:=(Array.getElem?_eq_some_iff.1 c1).1;rw [Array.getElem?_append_left hlt] at hv;rw [hv] at c1;cases c1
   exact ⟨c2,c3.mono (.refl _) (Ht hμ)⟩⟩
 refine ⟨_,hS.1,Grow.newBlk hμ hw rfl e1 e2 e3 (λ_ _ _ h=>by cases h;rfl),λk hk => ?_⟩;have:=Rep.own (M:=M) (HX μ id ⟨w.heap.size,0,n,cap⟩) id 0 k ⟨w.heap.size,0,n,cap⟩ (by simp [HX]) (by simp;omega);simpa using this
end
end Go.Proofs.YthpkjfabdccpdaaGreat.Pi
namespace Go.Proofs.YthpkjfabdccpdaaGreat.Pi
section
variable {P:Program} {M:B5} {μ:Mu} {h:Hp} {w:World}
theorem Fk {t ty e:TypeId} {n:Nat} (ht:P.underlying t=some (.slice e)) (hsz:BV P e=some n) (b:Addr) (a:Option Addr) (sLen sCap k c:Nat) (news:List Value) (hfit:sLen+k<=sCap)
  (hn:k≠0 -> ∃ x,a=some x/\news.length=k*n /\ ∀ j v,news[j]? = some v->w.cell? (x.add j)=some v) (h0:k=0->news=[]) :
  (Builtin.append_ #[t,t] ty #[.slice (some b) sLen sCap,.slice a k c]).run P w=match (storeCells (b.add (sLen*n)) news 0).run P w with
   | .ok _ w' => .ok (.slice (some b) (sLen+k) sCap) w'
   | .halt o w' => .halt o w':=by
 have hf:(Builtin.firstCells n k (.slice a k c)).run P w = .ok news.toArray w:=by
  by_cases hk:k=0
  ·rw [h0 hk];cases a with
   | none=>exact run_firstCells_none w n k k c
   | some x=>exact run_firstCells_some w n k x k c [] (by simp [hk]) (by intro j v h;simp at h)
  ·obtain ⟨x,rfl,h1,h2⟩:=hn hk;exact run_firstCells_some w n k x k c news h1 h2
 simp only [Builtin.append_];simp only [Sem.run_bind,Ab ht,Result.andThen,Bn hsz,Sem.run_pure,List.getElem?_toArray,List.getElem?_cons_zero,List.getElem?_cons_succ];simp [Builtin.lenOf,hfit,hf];cases (storeCells (b.add (sLen*n)) news 0).run P w<;>rfl
theorem I9 {t ty e:TypeId} {n:Nat} (ht:P.underlying t=some (.slice e)) (hsz:BV P e=some n) (a:Option Addr) (c:Nat) :
  (Builtin.append_ #[t,t] ty #[.slice none 0 0,.slice a 0 c]).run P w = .ok (.slice none 0 0) w:=by
 have hf:(Builtin.firstCells n 0 (.slice a 0 c)).run P w = .ok #[] w:=by
  cases a with
  | none=>exact run_firstCells_none w n 0 0 c
  | some x=>exact run_firstCells_some w n 0 x 0 c [] (by simp) (by intro j v h;simp at h)
 simp only [Builtin.append_];simp only [Sem.run_bind,Ab ht,Result.andThen,Bn hsz,Sem.run_pure,List.getElem?_toArray,List.getElem?_cons_zero,List.getElem?_cons_succ];simp [Builtin.lenOf,hf]
theorem FlatRep.append {n:Nat} {es es':List PV} {arr arr':Array Value} (hf:FlatRep M μ n es arr) (hg:FlatRep M μ n es' arr'):FlatRep M μ n (es++es') (arr++arr'):=by
 refine ⟨by simp [hf.1,hg.1,Nat.add_mul],λi e he => ?_,λi e j c he hj => ?_⟩
 ·rw [List.getElem?_append] at he;split at he
  ·exact hf.2.1 i e he
  ·exact hg.2.1 _ e he
 ·rw [List.getElem?_append] at he;split at he
  ·obtain ⟨v,h1,h2⟩:=hf.2.2 i e j c he hj;exact ⟨v,by rw [Array.getElem?_append_left (Array.getElem?_eq_some_iff.1 h1).1];exact h1,h2⟩
  ·rename_i hi;obtain ⟨v,h1,h2⟩:=hg.2.2 _ e j c he hj;refine ⟨v,?_,h2⟩
   have:i*n+j=arr.size+((i-es.length)*n+j):=by
    rw [hf.1,<- Nat.add_assoc,<- Nat.add_mul];congr 2;omega
   rw [this,Array.getElem?_append_right (by omega)];rw [show arr.size+((i-es.length)*n+j)-arr.size=(i-es.length)*n+j by omega];exact h1
theorem FlatRep.nil {n:Nat}:FlatRep M μ n [] #[]:=⟨by simp,λi e he=>by simp at he,λi e j c he=>by simp at he⟩
def LZ (M:B5) (μ:Mu) (w:World) (n:Nat) (es:List PV) (a:Option Addr):Prop :=
 es≠[] -> ∃ (b:Addr) (news:List Value),a=some b/\news.length=es.length*n/\(∀ j v,news[j]? = some v->w.cell? (b.add j)=some v)/\FlatRep M μ n es news.toArray
theorem Ng {t ty e n:Nat} {ti:TypeInfo} {z:Value} {olds new:List PV} {a0 a:Option Addr} {sCap c:Nat} (ht:P.underlying t=some (.slice e)) (hi:P.info? e=some ti) (hz:ti.zero=some z) (hsn:ti.size=n) (hzn:z.cells.size=n) (_hn0:0<n)
  (ho:LZ M μ w n olds a0) (hw:LZ M μ w n new a) (ha0:a0=none->sCap=0/\olds=[]) (hg:sCap<olds.length+new.length) (hne:new≠[]) (hs1:olds.length+new.length<=Dw) (hs2:ti.bytes<=Dw) :
  ∃ w' arr rest cap,(Builtin.append_ #[t,t] ty #[.slice a0 olds.length sCap,.slice a new.length c]).run P w = .ok (.slice (some ⟨w.heap.size,0,none⟩) (olds.length+new.length) cap) w' /\
   FlatRep M μ n (olds++new) arr/\olds.length+new.length<=cap/\rest.size=(cap-(olds.length+new.length))*n/\w'.heap=w.heap.push (.cells (arr++rest) e (0,0))/\w'.os=w.os/\w'.output=w.output/\w'.tape=w.tape:=by
 obtain ⟨b,news,rfl,n1,n2,n3⟩:=hw hne;have hpos:0<new.length:=List.length_pos_iff.2 hne
 have hfit:(olds.length+new.length)*ti.bytes<=140737488355328:=by
  have:(olds.length+new.length)*ti.bytes<=1048576*1048576:=Nat.mul_le_mul hs1 hs2;omega
 simp only [Dw] at hs1 hs2;cases a0 with
 | none =>
  obtain ⟨rfl,rfl⟩:=ha0 rfl;simp only [List.length_nil,Nat.zero_add,List.nil_append] at *;have:=run_append_nil (P:=P) w t ty e ti z ht hi hz b new.length c news (by rw [n1,hsn]) n2 hpos (by omega) (by omega);exact ⟨_,news.toArray,_,_,this,n3,grownCap_ge _ _ _ _,by simp [Builtin.zeroCells,hzn],rfl,rfl,rfl,rfl⟩
 | some b0 =>
  have hol : ∃ ol:List Value,ol.length=olds.length*n/\(∀ j v,ol[j]? = some v->w.cell? (b0.add j)=some v)/\FlatRep M μ n olds ol.toArray:=by
   by_cases h0:olds=[]
   ·subst h0;exact ⟨[],by simp,by intro j v h;simp at h,FlatRep.nil⟩
   ·obtain ⟨b',ol,he,x1,x2,x3⟩:=ho h0;cases he;exact ⟨ol,x1,x2,x3⟩
  obtain ⟨ol,o1,o2,o3⟩:=hol;have:=run_append_grow (P:=P) w t ty e ti z ht hi hz b0 olds.length sCap ol (by rw [o1,hsn]) o2 b new.length c news (by rw [n1,hsn]) n2 hg (by omega) (growslice_fits hg hfit);exact ⟨_,ol.toArray++news.toArray,_,_,this,o3.append n3,grownCap_ge _ _ _ _,by simp [Builtin.zeroCells,hzn],rfl,rfl,rfl,rfl⟩
theorem eX {full:Bool} {es:List PV} {x:Value} {n:Nat} (hx:Rep M μ (.lst full es) x) (he:GJ n es=true) : ∀ v∈es,v.cells.length=n:=by
 intro v hv;obtain ⟨i,hi⟩:=List.mem_iff_getElem?.1 hv;cases hx with
 | lst0=>simp at hv
 | lst _ _ _ b off esz _ x hf hc hs hm h1 hr =>
  cases es with
  | nil=>simp at hv
  | cons e0 es=>rw [hs i v hi,<- hs 0 e0 rfl];simpa [GJ] using he
theorem iF (s:Sim M μ h w) {id t ty:Nat} {p q:PV} {x y:Value} (hx:Rep M μ p x) (hy:Rep M μ q y) {r:R} (e:JD P h id t p q=some r) :
  EY P M μ w ((do pure (.value (<- Builtin.append_ #[t,t] ty #[x,y])):Sem Next).run P w) r:=by
 unfold JD at e;split at e
 ·rename_i el hu;split at e
  ·rename_i sz ti new zc hsz hti hnew hzc;replace e:=EZ e;obtain ⟨hc,e⟩:=e;simp only [Bool.or_eq_false_iff,Bool.not_eq_false',List.all_eq_true,Nat.beq_eq,Nat.ble_eq,Nat.blt_eq] at hc;obtain ⟨⟨⟨hnl,hby⟩,hzl⟩,hn0⟩:=hc;obtain ⟨zv,i,hi,hiz,hrun,hrz,h1z⟩:=Er hzc M μ w;rw [hti] at hi;cases hi;have hsn:ti.size=sz:=by simp [BV,hti] at hsz;exact hsz
   have hzn:zv.cells.size=sz:=by rw [<- hzl];simpa using hrz.1.symm
   obtain ⟨a,c,rfl,hE⟩:=LY s hy hnew hnl hn0;have hE':LZ M μ w sz new a:=hE;split at e
   ·cases hx;cases new with
    | nil =>
     simp at e;subst e;exact AQ s (I9 hu hsz a c) (.nils _)
    | cons e0 es0 =>
     have e:(bif Nat.ble (e0::es0).length Dw then (h.new id (.row (e0::es0) false false)).map (λh=>R.val (.own id 0 (e0::es0).length) h) else none)=some r:=e
     replace e:=Be e;obtain ⟨hsm,e⟩:=e;obtain ⟨h',hnw,rfl⟩:=AL e;obtain ⟨w',arr,rest,cap,g1,g2,g3,g4,g5,g6,g7,g8⟩:=Ng (ty:=ty) (olds:=[]) (a0:=none) (sCap:=0) (c:=c) hu hti hiz hsn hzn hn0 (λh=>absurd rfl h) hE' (λ_=>⟨rfl,rfl⟩) (by simp) (by simp) (by simpa using hsm) hby;simp only [List.length_nil,Nat.zero_add,List.nil_append] at g1 g2 g3 g4;obtain ⟨μ',k1,k2,k3⟩:=Dy s hn0 g2 g3 g4 hnw g5 g6 g7 g8;exact ⟨M,μ',w',_,by simp only [Sem.run_bind,g1,Result.andThen,Sem.run_pure],k1,k2,k3 _ (Nat.le_refl _)⟩
   ·rename_i es
    have hlst : ∃ a0,x = .slice a0 es.length es.length/\(a0=none->es=[]):=by
     cases hx with
     | lst0 _ _ a cap hf=>have:=hf rfl;subst this;exact ⟨some a,rfl,λ_=>rfl⟩
     | lst _ _ _ b off esz cap x hf hc hs hm h1 hr=>have:=hf rfl;subst this;exact ⟨_,rfl,by intro h;cases h⟩
    obtain ⟨a0,rfl,ha0⟩:=hlst;cases new with
    | nil =>
     simp at e;subst e;cases a0 with
     | none =>
      have:=ha0 rfl;subst this;exact AQ s (I9 hu hsz a c) hx
     | some b0 =>
      refine AQ s (x:=.slice (some b0) es.length es.length) ?_ hx;have:=Fk (P:=P) (w:=w) (ty:=ty) hu hsz b0 a es.length es.length 0 c [] (by omega) (λh=>absurd rfl h) (λ_=>rfl);simpa [storeCells] using this
    | cons e0 es0 =>
     have e:(bif Nat.ble (es.length+(e0::es0).length) Dw&&GJ sz es then (h.new id (.row (es++(e0::es0)) false false)).map (λh=>R.val (.own id 0 (es.length+(e0::es0).length)) h) else none)=some r:=e
     replace e:=Be e;obtain ⟨hsm,e⟩:=e;obtain ⟨h',hnw,rfl⟩:=AL e;simp only [Bool.and_eq_true,Nat.ble_eq] at hsm
     have hO:LZ M μ w sz es a0:=by
      obtain ⟨a',c',he',hE2⟩:=LY s hx (es:=es) rfl (eX hx hsm.2) hn0;cases he';exact hE2
     obtain ⟨w',arr,rest,cap,g1,g2,g3,g4,g5,g6,g7,g8⟩:=Ng (ty:=ty) (c:=c) (sCap:=es.length) hu hti hiz hsn hzn hn0 hO hE' (λh=>by have:=ha0 h;subst this;exact ⟨rfl,rfl⟩) (by simp) (by simp) hsm.1 hby;obtain ⟨μ',k1,k2,k3⟩:=Dy s hn0 g2 (by simpa using g3) (by simpa using g4) hnw g5 g6 g7 g8;exact ⟨M,μ',w',_,by simp only [Sem.run_bind,g1,Result.andThen,Sem.run_pure],k1,k2,k3 _ (by simp)⟩
   ·rename_i j off len;split at e
    ·rename_i es ex fz hb;replace e:=EZ e;obtain ⟨hc,e⟩:=e;simp only [Bool.or_eq_false_iff,Bool.not_eq_false',Nat.ble_eq] at hc;obtain ⟨⟨hsm,hol⟩,hel⟩:=hc;cases hx with
     | own _ _ _ _ rb hr hcap =>
     obtain ⟨r',hr',arr0,ety,h1,h2,h3,h4,h5,h6,h7⟩:=s.blk j _ hb;rw [hr] at hr';cases hr'
     have hesz:es≠[]->rb.esz=sz:=by
      intro hne;cases es with
      | nil=>exact absurd rfl hne
      | cons e1 es1=>rw [<- h6 0 e1 rfl];simpa [GJ] using hel
     have hall : ∀ v∈(es.drop off).take len,v.cells.length=sz:=by
      intro v hv;have hv:=List.mem_of_mem_drop (List.mem_of_mem_take hv);obtain ⟨i,hi⟩:=List.mem_iff_getElem?.1 hv;rw [h6 i v hi,hesz (by intro h;subst h;simp at hv)]
     have hol2:((es.drop off).take len).length=len:=by simp;omega
     have hO:LZ M μ w sz ((es.drop off).take len) (some ⟨rb.b,rb.base+off*rb.esz,none⟩):=by
      obtain ⟨a',c',he',hE2⟩:=LY s (.own (M:=M) μ j off len rb hr hcap) (es:=(es.drop off).take len) (by simp only [Dv,hb,Nat.ble_eq_true_of_le hol,cond_true]) hall hn0;simp only [Value.slice.injEq] at he';obtain ⟨rfl,_,_⟩:=he';exact hE2
     have fit : ∀ news:List Value,(new≠[]->news.length=new.length*sz /\ ∀ k v,news[k]? = some v -> ∃ b,a=some b/\w.cell? (b.add k)=some v)->True:=λ_ _=>trivial
     have hnews : ∃ news:List Value,FlatRep M μ sz new news.toArray/\(new.length≠0 -> ∃ x,a=some x/\news.length=new.length*sz /\ ∀ j v,news[j]? = some v->w.cell? (x.add j)=some v)/\(new.length=0->news=[]):=by
      by_cases h0:new=[]
      ·subst h0;exact ⟨[],FlatRep.nil,λh=>absurd rfl h,λ_=>rfl⟩
      ·obtain ⟨b,news,x1,x2,x3,x4⟩:=hE' h0;exact ⟨news,x4,λ_=>⟨b,x1,x2,x3⟩,λh=>absurd (List.eq_nil_of_length_eq_zero h) h0⟩
     obtain ⟨news,hf,hn1,hn2⟩:=hnews
     have haddr:(⟨rb.b,rb.base+off*rb.esz,none⟩:Addr).add (len*sz)=⟨rb.b,rb.base+(off+len)*rb.esz,none⟩:=by
      rw [Nv];by_cases h0:es=[]
      ·subst h0;simp at hol;simp [hol.1,hol.2]
      ·rw [hesz h0,Nat.add_mul,Nat.add_assoc]
     cases ex with
     | true =>
      have hlc:=h4 rfl;simp only [cond_true] at e;by_cases hnil:new=[]
      ·subst hnil;simp at e;subst e;refine AQ s ?_ (.own (M:=M) μ j off len rb hr hcap);have:=Fk (P:=P) (w:=w) (ty:=ty) hu hsz ⟨rb.b,rb.base+off*rb.esz,none⟩ a len (rb.cap-off) 0 c [] (by omega) (λh=>absurd rfl h) (λ_=>rfl);simpa [storeCells] using this
      rw [show new.isEmpty=false by cases new with
       | nil=>exact absurd rfl hnil
       | cons _ _=>rfl,cond_false] at e
      cases hfit:Nat.ble (off+len+new.length) es.length with
      | true =>
       simp only [hfit,cond_true] at e;replace e:=EZ e;obtain ⟨hfz,e⟩:=e;obtain ⟨h',hset,rfl⟩:=AL e;subst hfz;simp only [Nat.ble_eq] at hfit;obtain ⟨w',k1,k2,k3⟩:=MN (P:=P) s hr hb hf (λhne=>hesz (by intro h;subst h;exact hne (List.eq_nil_of_length_eq_zero (by simp only [List.length_nil] at hfit;omega)))) hol (by omega) (λ_=>hfit) (by intro h;cases h) hset;refine ⟨M,μ,w',_,?_,k2,k3,.own (M:=M) μ j off (len+new.length) rb hr (by omega)⟩;have:=Fk (P:=P) (w:=w) (ty:=ty) hu hsz ⟨rb.b,rb.base+off*rb.esz,none⟩ a len (rb.cap-off) new.length c news (by omega) hn1 hn2;rw [haddr,k1] at this;simp only [Sem.run_bind,this,Result.andThen,Sem.run_pure]
      | false =>
       simp only [hfit,cond_false] at e;obtain ⟨h',hnw,rfl⟩:=AL e
       have hlt:es.length<off+len+new.length:=by
        rcases Nat.lt_or_ge es.length (off+len+new.length) with h | h
        ·exact h
        ·rw [Nat.ble_eq_true_of_le h] at hfit;cases hfit
       have hne:new≠[]:=by intro h;subst h;simp at hlt;omega
       obtain ⟨w',arr,rest,cap,g1,g2,g3,g4,g5,g6,g7,g8⟩:=Ng (ty:=ty) (c:=c) (sCap:=rb.cap-off) hu hti hiz hsn hzn hn0 hO hE' (by intro h;cases h) (by rw [hol2];omega) hne (by rw [hol2];exact hsm) hby;obtain ⟨μ',k1,k2,k3⟩:=Dy s hn0 g2 (by simpa using g3) (by simpa using g4) hnw g5 g6 g7 g8;rw [hol2] at g1;exact ⟨M,μ',w',_,by simp only [Sem.run_bind,g1,Result.andThen,Sem.run_pure],k1,k2,k3 _ (by rw [List.length_append,hol2];exact Nat.le_refl _)⟩
     | false =>
      simp only [cond_false] at e;replace e:=Be e;obtain ⟨hc,e⟩:=e;simp only [Bool.and_eq_true,Nat.beq_eq,Nat.blt_eq] at hc;obtain ⟨⟨hle,rfl⟩,hlp⟩:=hc;split at e
      ·rename_i h1' hdead;obtain ⟨h',hnw,rfl⟩:=AL e;obtain ⟨d1,d2⟩:=Hp.get_set hdead;obtain ⟨n1,n2,n3⟩:=Hp.get_new hnw;have hid:id≠j:=by intro e;subst e;rw [d1,if_pos rfl] at n1;cases n1
       have hgid:h.get id=none:=by rw [d1,if_neg hid] at n1;exact n1
       have hene:es≠[]:=by intro h;subst h;simp at hle;omega
       by_cases hroom:len+new.length<=rb.cap
       ·have hset2 : ∃ h2,h.set j (.row (Em es len new) false fz)=some h2:=by
         unfold Hp.set at hdead ⊢;cases hj:Nat.blt j (j+1) with
         | true=>exact ⟨_,rfl⟩
         | false=>rw [hj] at hdead;cases hdead
        obtain ⟨h2,hset2⟩:=hset2;obtain ⟨w',k1,k2,k3⟩:=MN (P:=P) s hr hb hf (λ_=>hesz hene) (by omega) hroom (by intro h;cases h) (λ_=>hle) hset2;obtain ⟨t1,t2⟩:=Hp.get_set hset2
        have Ad:Em es len new=es++new:=by
         unfold Em;rw [hle];simp
        have hR:=k2.rename (j:=j) (id:=id) (h':=h') (b:=.row (es++new) false fz) (by rw [t1,if_pos rfl,Ad]) hr trivial (by rw [t1,if_neg hid];exact hgid) (λk=>by
         rw [n2,d1,t1];by_cases e1:k=id
         ·rw [if_pos e1,if_pos e1]
         ·rw [if_neg e1,if_neg e1];split<;>rfl)
        refine ⟨M,_,w',_,?_,hR.1,k3.trans hR.2,.own (M:=M) _ id 0 (len+new.length) rb (by simp [HX]) (by omega)⟩;have:=Fk (P:=P) (w:=w) (ty:=ty) hu hsz ⟨rb.b,rb.base+0*rb.esz,none⟩ a len (rb.cap-0) new.length c news (by omega) hn1 hn2;rw [haddr,Nat.zero_add,k1] at this;simp only [Sem.run_bind,this,Result.andThen,Sem.run_pure]
       ·have sD:=s.update (w':=w) hb hr trivial d1 (λ_ _=>rfl) rfl trivial (λa v hm ha=>⟨(s.mem a v hm).2,trivial⟩);have hne:new≠[]:=by intro h;subst h;simp at hroom;omega
        have htk:(es.drop 0).take len=es:=by rw [hle];simp
        rw [htk] at hO;obtain ⟨w',arr,rest,cap,g1,g2,g3,g4,g5,g6,g7,g8⟩:=Ng (ty:=ty) (c:=c) (sCap:=rb.cap-0) hu hti hiz hsn hzn hn0 hO hE' (by intro h;cases h) (by omega) hne (by omega) hby;obtain ⟨μ',k1,k2,k3⟩:=Dy sD hn0 g2 (by simpa using g3) (by simpa using g4) hnw g5 g6 g7 g8;rw [<- hle] at g1;exact ⟨M,μ',w',_,by simp only [Sem.run_bind,g1,Result.andThen,Sem.run_pure],k1,k2,k3 _ (by rw [List.length_append];omega)⟩
      ·cases e
    ·cases e
   ·cases e
  ·cases e
 ·cases e
end
end Go.Proofs.YthpkjfabdccpdaaGreat.Pi
namespace Go.Proofs.YthpkjfabdccpdaaGreat.Pi
section
variable {P:Program} {M:B5} {μ:Mu} {h:Hp} {w:World}
theorem IY {g : Nat} {fn : Func} {vs : Array Value} (hg : P.funcs[g]? = some fn) (hc : (fn.body.isSome && !(fn.name == "runtime.NumGoroutine")) = true) :
  (callFunc g vs).run P w = .ok (.enter g vs) w /\ ∃ c,fn.body=some c:=by
 simp only [Bool.and_eq_true,Bool.not_eq_true'] at hc;obtain ⟨c,hb⟩:=Option.isSome_iff_exists.1 hc.1;refine ⟨?_,c,hb⟩;simp only [callFunc,Sem.run_bind,run_program,Result.andThen,hg,hc.2,hb];simp
theorem YV {g:Nat} {args:List PV} {r:R} (e:(match P.funcs[g]? with
  | some fn => bif fn.body.isSome && !(fn.name == "runtime.NumGoroutine") then some (R.call g args) else none
  | none => none) = some r) : r = .call g args ∧ ∃ fn, P.funcs[g]? = some fn ∧ (fn.body.isSome && !(fn.name == "runtime.NumGoroutine")) = true := by
 split at e
 ·rename_i fn hfn;replace e:=Be e;obtain ⟨hc,e⟩:=e;cases e;exact ⟨rfl,fn,hfn,hc⟩
 ·cases e
theorem Nh {g : Nat} {args : List PV} {r : R} (e : (bif (match P.funcs[g]? with | some fn => fn.body.isSome && !(fn.name == "runtime.NumGoroutine") | none => false) then some (R.call g args) else none) = some r) :
  r = .call g args ∧ ∃ fn, P.funcs[g]? = some fn ∧ (fn.body.isSome && !(fn.name == "runtime.NumGoroutine")) = true := by
 replace e:=Be e;obtain ⟨hc,e⟩:=e;split at hc
 ·rename_i fn hfn;cases e;exact ⟨rfl,fn,hfn,hc⟩
 ·cases hc
theorem Jy {f:Fn} {first cap args:List PV} {vf vc va:List Value} (hf:RepL M μ first vf) (hc:RepL M μ cap vc) (ha:RepL M μ args va) {r:R} (e:FP P f first cap args=some r) :
  EY P M μ w ((invoke (.fn f vc.toArray) (vf++va).toArray).run P w) r /\ ∃ g as,r = .call g as:=by
 unfold FP at e;split at e
 ·rename_i g;obtain ⟨rfl,fn,hfn,hok⟩:=YV e;obtain ⟨h1,c,h2⟩:=IY (w:=w) (vs:=((vf++va)++vc).toArray) hfn hok;refine ⟨⟨(vf++va)++vc,?_,(hf.append ha).append hc,fn,c,hfn,h2⟩,_,_,rfl⟩;simpa [invoke] using h1
 ·rename_i name;split at e
  ·rename_i t v rest heq;have hall:=hf.append ha;rw [heq] at hall;obtain ⟨x,ws,hws,hx,hrest⟩:=hall.cons_inv;cases hx with
   | ifc _ _ _ xv hxv =>
   split at e
   ·rename_i i hi;split at e
    ·rename_i m hm
     have meth : ∀ g pr, m.path.isEmpty = true → m.func = some (g, pr) → (receiverAt t (.val xv) pr (some ((name.splitOn ".").getLastD name))).run P w = .ok xv w →
       (invoke (.fn (.method name) vc.toArray) (vf++va).toArray).run P w=(callFunc g (xv::ws).toArray).run P w:=by
      intro g pr hpath hfun hrec;rw [hws];have hp2:m.path.toList=[]:=by simpa [Array.isEmpty_iff] using hpath
      have hm1:(method ((P.types.size+Made.depth)) t xv name).run P w = .ok (g,xv) w:=by
       have hpos:0<Made.depth:=by decide
       have hne:P.types.size+Made.depth=(P.types.size+Made.depth-1)+1:=by omega
       rw [hne];unfold method;simp only [Sem.run_bind,Jv hi,Result.andThen,hm,hp2,follow,Sem.run_pure,hfun,hpath,if_true,hrec]
      simp [invoke,callMethod,hm1]
     split at e
     ·rename_i g el hpath hfun hu;obtain ⟨rfl,fn,hfn,hok⟩:=Nh e;obtain ⟨h1,c,h2⟩:=IY (w:=w) (vs:=(xv::ws).toArray) hfn hok;refine ⟨⟨xv::ws,?_,RepL.cons hxv hrest,fn,c,hfn,h2⟩,_,_,rfl⟩;rw [meth g true hpath hfun (by simp [receiverAt,Ab hu,Place.get]),h1]
     ·cases e
     ·rename_i g d hnp hpath hfun hu;obtain ⟨rfl,fn,hfn,hok⟩:=Nh e;obtain ⟨h1,c,h2⟩:=IY (w:=w) (vs:=(xv::ws).toArray) hfn hok;refine ⟨⟨xv::ws,?_,RepL.cons hxv hrest,fn,c,hfn,h2⟩,_,_,rfl⟩;rw [meth g false hpath hfun ?_,h1]
      have : ∀ el,d ≠ .pointer el:=by
       intro el hd;subst hd
       first | exact hnp _ _ hfun hu | exact hnp _ _ rfl rfl | (simp_all)
      cases d<;>first | exact absurd rfl (this _) | simp [receiverAt,Ab hu,Place.get]
     ·cases e
    ·cases e
   ·cases e
  ·cases e
 ·cases e
end
end Go.Proofs.YthpkjfabdccpdaaGreat.Pi
namespace Go.Proofs.YthpkjfabdccpdaaGreat.Pi
section
variable {P:Program} {M:B5} {μ:Mu} {h:Hp} {w:World}
theorem Ro {ps:List PV} {vs:List Value} {p:PV} (h:RepL M μ ps vs) (e:ps=[p]) : ∃ x,vs=[x]/\Rep M μ p x:=by
 subst e;obtain ⟨x,ws,rfl,hx,ht⟩:=h.cons_inv;exact ⟨x,by rw [ht.nil_inv],hx⟩
theorem Rp {ps:List PV} {vs:List Value} {p q:PV} (h:RepL M μ ps vs) (e:ps=[p,q]) : ∃ x y,vs=[x,y]/\Rep M μ p x/\Rep M μ q y:=by
 subst e;obtain ⟨x,ws,rfl,hx,ht⟩:=h.cons_inv;obtain ⟨y,ws2,rfl,hy,ht2⟩:=ht.cons_inv;exact ⟨x,y,by rw [ht2.nil_inv],hx,hy⟩
theorem FlatRep.take {n:Nat} {es:List PV} {news:List Value} (hf:FlatRep M μ n es news.toArray) (k:Nat):FlatRep M μ n (es.take k) (news.take ((es.take k).length*n)).toArray:=by
 have hl:news.length=es.length*n:=by simpa using hf.1
 refine ⟨?_,λi e he => ?_,λi e j c he hj => ?_⟩
 ·simp only [List.size_toArray,List.length_take,hl];exact Nat.min_eq_left (Nat.mul_le_mul_right _ (Nat.min_le_right _ _))
 ·rw [List.getElem?_take] at he;split at he
  ·exact hf.2.1 i e he
  ·cases he
 ·have hi:i<(es.take k).length:=(List.getElem?_eq_some_iff.1 he).1;rw [List.getElem?_take] at he;split at he
  ·obtain ⟨v,h1,h2⟩:=hf.2.2 i e j c he hj;refine ⟨v,?_,h2⟩;have hjn:j<n:=by rw [<- hf.2.1 i e he];exact (List.getElem?_eq_some_iff.1 hj).1
   simp only [List.getElem?_toArray] at h1 ⊢;rw [List.getElem?_take,if_pos ?_]
   ·exact h1
   ·have:(i+1)*n<=(es.take k).length*n:=Nat.mul_le_mul_right _ hi;rw [Nat.add_mul] at this;omega
  ·cases he
theorem La {d:TypeDesc} {k:PV} {kv:Value} (hk:Rep M μ k kv) : ∀ {es es':List (PV×PV)} {ents:List MapEntry} (n:Nat),EntsRep M μ es ents->JG d es k=some es' ->
  (∃ i x,Instr.findNow d kv ents n=some (some (n+i,x))/\i<ents.length/\EntsRep M μ es' (ents.eraseIdx i)) \/
  (Instr.findNow d kv ents n=some none/\EntsRep M μ es' ents)
 | [],es',ents,n,hr,e=>by
  cases e;cases ents with
  | nil=>exact .inr ⟨rfl,hr⟩
  | cons _ _=>simp [EntsRep] at hr
 | (k1,v1)::es,es',ents,n,hr,e=>by
  cases ents with
  | nil=>simp [EntsRep] at hr
  | cons b ents =>
   obtain ⟨hk1,hv1⟩:=hr.2 0 k1 v1 b rfl rfl;unfold JG at e;split at e
   ·rename_i hc;cases e;have:=Gd hc hk hk1;exact .inl ⟨0,b.val,by simp [Instr.findNow,this.1],by simp,by simpa using hr.tail⟩
   ·rename_i hc;have h0:=(Gd hc hk hk1).1;split at e
    ·rename_i l hl;cases e
     have cons : ∀ {l:List (PV×PV)} {en:List MapEntry},EntsRep M μ l en->EntsRep M μ ((k1,v1)::l) (b::en):=by
      intro l en hle;refine ⟨by simp [hle.1],λi k v e h1 h2 => ?_⟩;cases i with
      | zero=>simp at h1 h2;obtain ⟨rfl,rfl⟩:=h1;subst h2;exact ⟨hk1,hv1⟩
      | succ i=>exact hle.2 i k v e (by simpa using h1) (by simpa using h2)
     rcases La hk (n+1) hr.tail hl with ⟨i,x,a1,a2,a3⟩ | ⟨a1,a2⟩
     ·refine .inl ⟨i+1,x,?_,by simpa using a2,by simpa using cons a3⟩;simp [Instr.findNow,h0,a1];omega
     ·exact .inr ⟨by simp [Instr.findNow,h0,a1],cons a2⟩
    ·cases e
   ·cases e
theorem Vd {l:List PV} {vs:List Value} {k:IntKind} (f:Int->Int->Int) (g:Value->Value->Sem Value) (hg : ∀ k x k' y w,(g (.int k x) (.int k' y)).run P w = .ok (.int k (f x y)) w) :
  ∀ {m r:Int},RepL M μ l vs->FO f m l k=some r->(vs.foldlM g (.int k m)).run P w = .ok (.int k r) w:=by
 induction l generalizing vs with
 | nil=>intro m r hr e;cases e;rw [hr.nil_inv];simp
 | cons p l ih =>
  intro m r hr e;cases p with
  | int k' y =>
   simp only [FO] at e;replace e:=Be e;obtain ⟨hk,e⟩:=e;obtain ⟨x,ws,rfl,hx,ht⟩:=hr.cons_inv;cases hx;simp only [List.foldlM_cons,Sem.run_bind,hg,Result.andThen];exact ih ht e
  | _=>simp [FO] at e
theorem Nx (s:Sim M μ h w) {id:Nat} {b:Builtin} {ats:Array TypeId} {ty:TypeId} {cs:Array Bool} {args:List PV} {vs:List Value} (ha:RepL M μ args vs) {r:R} (e:Af P h id b ats args=some r) :
  EY P M μ w ((builtin b ats ty cs vs.toArray).run P w) r:=by
 unfold Af at e;split at e
 ·split at e
  ·rename_i x t hat;obtain ⟨v,rfl,hv⟩:=Ro ha rfl;have at0:ats[0]? = some t:=hat;split at e
   ·rename_i kt el j hu;split at e
    ·rename_i es hb;cases e;cases hv with
     | mp _ _ rb hr =>
     obtain ⟨r',hr',ents,clock,h1,h2,h3⟩:=s.blk j _ hb;rw [hr] at hr';cases hr';refine AQ s (x:=.int .i64 es.length) ?_ (.int _ _ _);simp [Builtin.len_,at0,Ab hu,Eb h1,h2,goInt]
    ·cases e
   ·rename_i hu;cases e;cases hv;exact AQ s (x:=.int .i64 0) (by simp [Builtin.len_,at0,Ab hu,goInt]) (.int _ _ _)
   ·rename_i n el hu;cases e;exact AQ s (x:=.int .i64 n) (by simp [Builtin.len_,at0,Ab hu,goInt]) (.int _ _ _)
   ·rename_i hu;cases e;cases hv;exact AQ s (x:=.int .i64 0) (by simp [Builtin.len_,at0,Ab hu,goInt]) (.int _ _ _)
   ·rename_i full es hu;cases e;cases hv<;>exact AQ s (x:=.int .i64 _) (by simp [Builtin.len_,at0,Ab hu,goInt]) (.int _ _ _)
   ·rename_i j off len hu;cases e;cases hv;exact AQ s (x:=.int .i64 len) (by simp [Builtin.len_,at0,Ab hu,goInt]) (.int _ _ _)
   ·rename_i l hu;cases e;cases hv;exact AQ s (x:=.int .i64 _) (by simp [Builtin.len_,at0,Ab hu,goInt]) (.int _ _ _)
   ·cases e
  ·cases e
 ·split at e
  ·rename_i x t hat;obtain ⟨v,rfl,hv⟩:=Ro ha rfl;have at0:ats[0]? = some t:=hat;split at e
   ·rename_i el j off len hu;split at e
    ·rename_i es fz hb;cases e;cases hv with
     | own _ _ _ _ rb hr hcap =>
     obtain ⟨r',hr',arr0,ety,h1,h2,h3,h4,h5,h6,h7⟩:=s.blk j _ hb;rw [hr] at hr';cases hr';refine AQ s (x:=.int .i64 (es.length-off:Nat)) ?_ (.int _ _ _);rw [h4 rfl];simp [Builtin.cap_,at0,Ab hu,goInt]
    ·cases e
   ·rename_i hu;cases e;cases hv;exact AQ s (x:=.int .i64 0) (by simp [Builtin.cap_,at0,Ab hu,goInt]) (.int _ _ _)
   ·cases e
  ·cases e
 ·split at e
  ·rename_i p q t t' hats;replace e:=Be e;obtain ⟨ht,e⟩:=e;have ht:=Nat.eq_of_beq_eq_true ht;subst ht;obtain ⟨x,y,rfl,hx,hy⟩:=Rp ha rfl;have:ats = #[t,t]:=by rw [<- Array.toArray_toList (xs:=ats),hats]
   subst this;exact iF s hx hy e
  ·cases e
 ·split at e
  ·rename_i j off len q t hat;obtain ⟨x,y,rfl,hx,hy⟩:=Rp ha rfl;have at0:ats[0]? = some t:=hat;split at e
   ·rename_i el es ex new hu hb hnew;split at e
    ·rename_i sz hsz;replace e:=EZ e;obtain ⟨hc,e⟩:=e;simp only [Bool.or_eq_false_iff,Bool.not_eq_false',List.all_eq_true,Nat.beq_eq,Nat.ble_eq,Nat.blt_eq] at hc;obtain ⟨⟨⟨hnl,hol⟩,hn0⟩,hel⟩:=hc;obtain ⟨h',hset,rfl⟩:=AL e;obtain ⟨a,c,rfl,hE⟩:=LY s hy hnew hnl hn0;cases hx with
     | own _ _ _ _ rb hr hcap =>
     obtain ⟨r',hr',arr0,ety,h1,h2,h3,h4,h5,h6,h7⟩:=s.blk j _ hb;rw [hr] at hr';cases hr'
     have hesz:es≠[]->rb.esz=sz:=by
      intro hne;cases es with
      | nil=>exact absurd rfl hne
      | cons e1 es1=>rw [<- h6 0 e1 rfl];simpa [GJ] using hel
     have hlt:(new.take len).length=Nat.min new.length len:=by rw [List.length_take,Nat.min_comm]
     have hnews : ∃ news:List Value,FlatRep M μ sz (new.take len) news.toArray/\(Builtin.firstCells sz (Nat.min new.length len) (.slice a new.length c)).run P w = .ok news.toArray w:=by
      by_cases h0:new=[]
      ·subst h0;refine ⟨[],by simpa using FlatRep.nil,?_⟩;have:Nat.min ([]:List PV).length len=0:=by simp
       rw [this];cases a with
       | none=>exact run_firstCells_none w sz 0 0 c
       | some x=>exact run_firstCells_some w sz 0 x 0 c [] (by simp) (by intro j v h;simp at h)
      ·obtain ⟨b,news,rfl,x2,x3,x4⟩:=hE h0;refine ⟨_,x4.take len,?_⟩;refine run_firstCells_some w sz _ b _ c _ ?_ ?_
       ·have:=(x4.take len).1;simpa [hlt] using this
       ·intro k v hk;rw [List.getElem?_take] at hk;split at hk
        ·exact x3 k v hk
        ·cases hk
     obtain ⟨news,hf,hfc⟩:=hnews;have hlm:(new.take len).length<=len:=by simp;omega
     obtain ⟨w',k1,k2,k3⟩:=MN (P:=P) s hr hb hf (λhne=>hesz (by
      intro h;subst h;have:(new.take len).length=0:=by simp only [List.length_nil] at hol;omega
      exact hne (List.eq_nil_of_length_eq_zero this))) (by omega) (by omega) (λ_=>by omega) (by intro h;cases h) hset
     refine ⟨M,μ,w',.int .i64 (Nat.min new.length len:Nat),?_,k2,k3,.int _ _ _⟩;simp [builtin,Builtin.copy_,at0,Ab hu,Builtin.lenOf,Bn hsz,hfc,k1,goInt]
    ·cases e
   ·cases e
  ·cases e
 ·split at e
  ·rename_i j t hat;obtain ⟨v,rfl,hv⟩:=Ro ha rfl;have at0:ats[0]? = some t:=hat;split at e
   ·rename_i kt el es hu hb;obtain ⟨h',hset,rfl⟩:=AL e;cases hv with
    | mp _ _ rb hr =>
    obtain ⟨r',hr',ents,clock,h1,h2,h3⟩:=s.blk j _ hb;rw [hr] at hr';cases hr';have hS:=s.object (o':=.map #[] clock) hb hr trivial hset h1 (by intro a t f hc;cases hc) ⟨_,clock,rfl,rfl,λi k v e p q=>by simp at p⟩;have so:=Dx (P:=P) (o':=.map #[] clock) h1 (by intro a t f hc;cases hc);refine ⟨M,μ,_,.tuple #[],?_,hS.1,hS.2,.tup _ _ _ rfl (λi c v hc=>by simp at hc)⟩;simp [builtin,Builtin.clear_,at0,Ab hu,Eb h1,so]
   ·cases e
  ·cases e
 ·split at e
  ·rename_i j k t hat;obtain ⟨x,y,rfl,hx,hy⟩:=Rp ha rfl;have at0:ats[0]? = some t:=hat;split at e
   ·rename_i kt el es hu hb;split at e
    ·rename_i d hd;replace e:=EZ e;obtain ⟨hkd,e⟩:=e;have hkd:Ga d=true:=by simpa using hkd
     split at e
     ·rename_i es' hdel;obtain ⟨h',hset,rfl⟩:=AL e;cases hx with
      | mp _ _ rb hr =>
      obtain ⟨r',hr',ents,clock,h1,h2,h3⟩:=s.blk j _ hb;rw [hr] at hr';cases hr';have her:EntsRep M μ es ents.toList:=⟨by simpa using h2,λi k v e a b=>h3 i k v e a (by simpa using b)⟩;rcases La hy 0 her hdel with ⟨i,xx,a1,a2,a3⟩ | ⟨a1,a2⟩
      ·have fk:(Instr.findKey kt y ents.toList).run P w = .ok (some (i,xx)) w:=by simp [Instr.findKey,Ab hd,a1]
       have hlt:i<ents.size:=by simpa using a2
       have her2:(ents.eraseIdxIfInBounds i).toList=ents.toList.eraseIdx i:=by
        simp [Array.eraseIdxIfInBounds,hlt]
       have hS:=s.object (o':=.map (ents.eraseIdxIfInBounds i) clock) hb hr trivial hset h1 (by intro a t f hc;cases hc)
        ⟨_,clock,rfl,by have:=a3.1;rw [<- her2,Array.length_toList] at this;exact this,λi k v e p q=>a3.2 i k v e p (by
         rw [<- her2,Array.getElem?_toList];exact q)⟩
       have so:=Dx (P:=P) (o':=.map (ents.eraseIdxIfInBounds i) clock) h1 (by intro a t f hc;cases hc);refine ⟨M,μ,_,.tuple #[],?_,hS.1,hS.2,.tup _ _ _ rfl (λi c v hc=>by simp at hc)⟩;simp [builtin,Builtin.delete_,at0,Ab hu,Eb h1,Ea hd hkd,fk,so]
      ·have fk:(Instr.findKey kt y ents.toList).run P w = .ok none w:=by simp [Instr.findKey,Ab hd,a1]
       have hS:=s.object (o':=.map ents clock) hb hr trivial hset h1 (by intro a t f hc;cases hc)
        ⟨_,clock,rfl,by simpa using a2.1,λi k v e p q=>a2.2 i k v e p (by simpa using q)⟩
       have so:=Dx (P:=P) (o':=.map ents clock) h1 (by intro a t f hc;cases hc);refine ⟨M,μ,_,.tuple #[],?_,hS.1,hS.2,.tup _ _ _ rfl (λi c v hc=>by simp at hc)⟩;simp [builtin,Builtin.delete_,at0,Ab hu,Eb h1,Ea hd hkd,fk,so]
     ·cases e
    ·cases e
   ·cases e
  ·cases e
 ·split at e
  ·rename_i k a rest;obtain ⟨m,hm,rfl⟩:=AL e;obtain ⟨x,ws,rfl,hx,ht⟩:=ha.cons_inv;cases hx;refine AQ s (x:=.int k m) ?_ (.int _ _ _);simp only [Builtin.max_];exact Vd _ Builtin.max2 (λk x k' y w=>by simp [Builtin.max2]) ht hm
  ·rename_i a c;cases e;obtain ⟨x,y,rfl,hx,hy⟩:=Rp ha rfl;cases hx with
   | str _ s1=>cases hy with
    | str _ s2 =>
     refine AQ s (x:=.string (if !Op.bytesLess s1.data.toList s2.data.toList then s1 else s2)) ?_ ?_
     ·simp [Builtin.max_,Builtin.max2,Op.stringOp,asBool,ByteArray.toList_eq]
     ·cases hb:Op.bytesLess s1.data.toList s2.data.toList
      ·simpa [hb] using Rep.str (M:=M) μ s1
      ·simpa [hb] using Rep.str (M:=M) μ s2
  ·cases e
 ·split at e
  ·rename_i k a rest;obtain ⟨m,hm,rfl⟩:=AL e;obtain ⟨x,ws,rfl,hx,ht⟩:=ha.cons_inv;cases hx;refine AQ s (x:=.int k m) ?_ (.int _ _ _);simp only [Builtin.min_];exact Vd _ Builtin.min2 (λk x k' y w=>by simp [Builtin.min2]) ht hm
  ·rename_i a c;cases e;obtain ⟨x,y,rfl,hx,hy⟩:=Rp ha rfl;cases hx with
   | str _ s1=>cases hy with
    | str _ s2 =>
     refine AQ s (x:=.string (if Op.bytesLess s1.data.toList s2.data.toList||s1.data.toList == s2.data.toList then s1 else s2)) ?_ ?_
     ·simp [Builtin.min_,Builtin.min2,Op.stringOp,asBool,ByteArray.toList_eq]
     ·cases hb:(Op.bytesLess s1.data.toList s2.data.toList||s1.data.toList == s2.data.toList)
      ·simpa [hb] using Rep.str (M:=M) μ s2
      ·simpa [hb] using Rep.str (M:=M) μ s1
  ·cases e
 ·split at e
  ·rename_i t v;cases e;obtain ⟨x,rfl,hx⟩:=Ro ha rfl;cases hx with
   | ifc _ _ _ xv hxv =>
    refine ⟨.iface t xv,?_,.ifc _ _ _ _ hxv⟩;simp [builtin,Instr.panic,goPanic]
  ·cases e
 ·cases e;simp [EY,builtin]
 ·cases e
end
end Go.Proofs.YthpkjfabdccpdaaGreat.Pi
namespace Go.Proofs.YthpkjfabdccpdaaGreat.Pi
section
variable {P:Program} {M:B5} {μ:Mu} {h:Hp} {w:World} {t:T PV} {nt:Nat} {a:Act}
theorem HF (ht:TmpsRep M μ t nt a.tmps) {x:Operand} {k:PV->Option R} {r:R} (e:e1 t x k=some r) : ∃ p,k p=some r/\Rep M μ p (a.eval x):=by
 unfold e1 at e;split at e
 ·rename_i p hp;exact ⟨p,e,Fj ht hp⟩
 ·cases e
theorem PW (ht:TmpsRep M μ t nt a.tmps) {x y:Operand} {k:PV->PV->Option R} {r:R} (e:e2 t x y k=some r) : ∃ p q,k p q=some r/\Rep M μ p (a.eval x)/\Rep M μ q (a.eval y):=by
 unfold e2 at e;split at e
 ·rename_i p q hp hq;exact ⟨p,q,e,Fj ht hp,Fj ht hq⟩
 ·cases e
theorem YW (ht:TmpsRep M μ t nt a.tmps) {x y z:Operand} {k:PV->PV->PV->Option R} {r:R} (e:e3 t x y z k=some r) : ∃ p q s,k p q s=some r/\Rep M μ p (a.eval x)/\Rep M μ q (a.eval y)/\Rep M μ s (a.eval z):=by
 unfold e3 at e;split at e
 ·rename_i p q s hp hq hs;exact ⟨p,q,s,e,Fj ht hp,Fj ht hq,Fj ht hs⟩
 ·cases e
theorem Qh (s:Sim M μ h w) {id:Nat} {el:TypeId} {p:PV} {x:Value} (hx:Rep M μ p x) {r:R} (e:KX h id p=some r) :
  EY P M μ w ((do pure (.value (<- Instr.box el x)):Sem Next).run P w) r:=by
 unfold KX at e;split at e
 ·cases e
 ·rename_i hnt;obtain ⟨h',hn,rfl⟩:=AL e;obtain ⟨hr,h1⟩:=hx.cells (λcs hc=>hnt cs hc);have:=PQ (P:=P) s (ty:=el) hr (λi v hv=>h1 i v hv) hn;simpa [Instr.box,newVar] using this
theorem YX (s:Sim M μ h w) {id:Nat} {el:TypeId} {r:R} (e:Gb P h id el=some r) :
  EY P M μ w ((do pure (.value (<- Instr.alloc el true (.tuple #[]))):Sem Next).run P w) r:=by
 unfold Gb at e;split at e
 ·rename_i cs hz;obtain ⟨h',hn,rfl⟩:=AL e;obtain ⟨zv,i,hi,hiz,hrun,hr,h1⟩:=Er hz M μ w;have:=PQ (P:=P) s (ty:=el) hr (Qa h1) hn;simpa [Instr.alloc,hrun,newVar] using this
 ·cases e
theorem Wd (s:Sim M μ h w) {id:Nat} {ty:TypeId} {r:R} (e:(h.new id (.mp [])).map (λh=>R.val (.mp id) h)=some r) :
  EY P M μ w ((do pure (.value (<- Instr.makeMap ty none)):Sem Next).run P w) r:=by
 obtain ⟨h',hn,rfl⟩:=AL e;obtain ⟨hget,hset,_⟩:=Hp.get_new hn
 have hμ:μ id=none:=by
  cases hm:μ id with
  | none=>rfl
  | some x=>exact absurd hget (s.use id x hm).1
 have hS:=s.fresh (w':=w.alloc (.map #[] 0)) (r:=⟨w.heap.size,0,0,0⟩) (o:=.map #[] 0) hget hset rfl rfl
  ⟨#[],0,rfl,rfl,λi k v e he=>by simp at he⟩
 refine ⟨M,HX μ id ⟨w.heap.size,0,0,0⟩,w.alloc (.map #[] 0),.map (some w.heap.size),?_,hS.1,Grow.newBlk hμ rfl rfl rfl rfl rfl (λ_ _ _ h=>by cases h),?_⟩
 ·simp [Instr.makeMap]
 ·exact .mp _ _ ⟨w.heap.size,0,0,0⟩ (by simp [HX])
theorem eY (s:Sim M μ h w) {c p q:PV} {vc x y:Value} (hc:Rep M μ c vc) (hx:Rep M μ p x) (hy:Rep M μ q y) {r:R} (e:Hs h c p q=some r) :
  EY P M μ w ((do pure (.value (if <- asBool vc then x else y)):Sem Next).run P w) r:=by
 unfold Hs at e;split at e
 ·cases e;cases hc;exact ⟨M,μ,w,x,by simp [asBool],s,.refl _ _ _,hx⟩
 ·cases e;cases hc;exact ⟨M,μ,w,y,by simp [asBool],s,.refl _ _ _,hy⟩
 ·cases e
theorem Rq (s:Sim M μ h w) {f:Fn} {p q:List PV} {x y:Array Value} (hp:RepL M μ p x.toList) (hq:RepL M μ q y.toList) {r:R} (e:C1 h f p q=some r) :
  EY P M μ w ((do pure (.value (<- Instr.makeFunc f x y)):Sem Next).run P w) r:=by
 unfold C1 at e;split at e
 ·cases e
 ·rename_i hny;cases e;exact AQ s (x:=.func f x y) (by simp [Instr.makeFunc]) (.fn _ _ _ _ _ _ (λl hl=>hny l hl) (by simpa using hp.1) (by simpa using hq.1) (λi c v a b=>hp.2 i c v a (by simpa using b)) (λi c v a b=>hq.2 i c v a (by simpa using b)))
theorem YY {p:PV} {x:Value} (hx:Rep M μ p x) {r:R} (e:QU p=some r):EY P M μ w ((do pure (.value (<- Instr.panic x)):Sem Next).run P w) r:=by
 unfold QU at e;split at e
 ·cases e;cases hx with
  | ifc _ _ _ xv hxv=>exact ⟨.iface _ xv,by simp [Instr.panic,goPanic],.ifc _ _ _ _ hxv⟩
 ·cases e
theorem We (s:Sim M μ h w) (ht:TmpsRep M μ t nt a.tmps) {id:Nat} {o:Oper} {r:R} (e:A0 P t h id o=some r):EY P M μ w ((execOp a.eval o).run P w) r:=by
 unfold A0 at e;unfold execOp;split at e
 ·rename_i x ho;rw [ho];obtain ⟨v,hv,rfl⟩:=Hb e;exact ⟨M,μ,w,_,rfl,s,.refl _ _ _,Fj ht hv⟩
 ·rename_i x ho;rw [ho];obtain ⟨v,hv,rfl⟩:=Hb e;exact ⟨M,μ,w,_,rfl,s,.refl _ _ _,Fj ht hv⟩
 ·rename_i c x y ho;rw [ho];obtain ⟨p,q,u,e,h1,h2,h3⟩:=YW ht e;exact eY s h1 h2 h3 e
 ·rename_i el ho;rw [ho];exact YX s e
 ·rename_i el x ho;rw [ho];obtain ⟨p,e,h1⟩:=HF ht e;exact Qh s h1 e
 ·rename_i ty parts ho;rw [ho];split at e
  ·rename_i ps hps;refine YN s ?_ e;simpa using Kr ht hps
  ·cases e
 ·rename_i ty len parts ho;rw [ho];split at e
  ·rename_i ps hps;refine O6 s ?_ e;simpa using Kr ht hps
  ·cases e
 ·rename_i ty x ho;rw [ho];obtain ⟨p,e,h1⟩:=HF ht e;exact eQ s h1 e
 ·rename_i ty x y ho;rw [ho];obtain ⟨p,q,e,h1,h2⟩:=PW ht e;exact YL s h1 h2 e
 ·rename_i x ho;rw [ho];obtain ⟨p,e,h1⟩:=HF ht e;exact iC s h1 e
 ·rename_i op ty x y yt ho;rw [ho];obtain ⟨p,q,e,h1,h2⟩:=PW ht e;exact iE s h1 h2 e
 ·rename_i op ty x ho;rw [ho];obtain ⟨p,e,h1⟩:=HF ht e;exact jO s h1 e
 ·rename_i src dst x ho;rw [ho];obtain ⟨p,e,h1⟩:=HF ht e;exact TY s h1 e
 ·rename_i ty x ho;rw [ho];obtain ⟨p,e,h1⟩:=HF ht e;exact iD s h1 e
 ·rename_i f first cap ho
  rw [ho];split at e
  ·rename_i p q hp hq;exact Rq s (by simpa using Nq ht hp) (by simpa using Nq ht hq) e
  ·cases e
 ·rename_i ty ho;rw [ho];exact Wd s e
 ·rename_i ty l c ho;rw [ho];obtain ⟨p,q,e,h1,h2⟩:=PW ht e;exact eV s h1 h2 e
 ·rename_i ty x lo hi mx ho;rw [ho];split at e
  ·rename_i l u m hl hu hm;obtain ⟨p,e,h1⟩:=HF ht e;exact YR s h1 (TW ht hl) (TW ht hu) (TW ht hm) e
  ·cases e
 ·rename_i sty x f ho;rw [ho];obtain ⟨p,e,h1⟩:=HF ht e;exact Qb s h1 e
 ·rename_i ty x f ho;rw [ho];obtain ⟨p,e,h1⟩:=HF ht e;exact YS s h1 e
 ·rename_i ty x i ho;rw [ho];obtain ⟨p,q,e,h1,h2⟩:=PW ht e;exact Qc s h1 h2 e
 ·rename_i ty x i ho;rw [ho];obtain ⟨p,q,e,h1,h2⟩:=PW ht e;exact YT s h1 h2 e
 ·rename_i ty x k ok ho;rw [ho];obtain ⟨p,q,e,h1,h2⟩:=PW ht e;exact Wc s h1 h2 e
 ·rename_i ty x k v ho;rw [ho];obtain ⟨p,q,u,e,h1,h2,h3⟩:=YW ht e;exact LX s h1 h2 h3 e
 ·rename_i ty x k v ho;rw [ho];obtain ⟨p,q,u,e,h1,h2,h3⟩:=YW ht e;exact LX s h1 h2 h3 e
 ·rename_i x xt ty ok ho;rw [ho];obtain ⟨p,e,h1⟩:=HF ht e;exact Wa s h1 e
 ·rename_i x i ho;rw [ho];obtain ⟨p,e,h1⟩:=HF ht e;exact TX s h1 e
 ·rename_i x ho;rw [ho];obtain ⟨p,e,h1⟩:=HF ht e;exact YY h1 e
 ·rename_i c ho;rw [ho];split at e
  ·rename_i args hargs;have ha:RepL M μ args (c.args.toList.map a.eval):=Nq ht hargs;have harr:c.args.map a.eval=(c.args.toList.map a.eval).toArray:=by rw [<- Array.toList_map,Array.toArray_toList]
   split at e
   ·rename_i b hcal;simp only [resolve,hcal,Sem.run_bind,Sem.run_pure,Result.andThen,invoke];rw [harr];exact Nx s ha e
   ·rename_i f hcal;obtain ⟨p,e,h1⟩:=HF ht e;unfold Nc at e;split at e
    ·rename_i fn x y;generalize h1v:a.eval f=v at h1;cases h1 with
     | fn _ _ _ _ va vb hf hla hlb h2 h3 =>
      obtain ⟨k1,g,as,k2⟩:=Jy (w:=w) (vf:=va.toList) (vc:=vb.toList) ⟨by simpa using hla,λi c v p q=>h2 i c v p (by simpa using q)⟩ ⟨by simpa using hlb,λi c v p q=>h3 i c v p (by simpa using q)⟩ ha e;have hcat:(va.toList++c.args.toList.map a.eval).toArray=va++(c.args.toList.map a.eval).toArray:=by apply Array.ext';simp
      rw [hcat] at k1;simpa [resolve,hcal,Deferred.ofValue,h1v,harr] using k1
    ·rename_i l;cases e;generalize h1v:a.eval f=v at h1;cases h1 with
     | yl _ _ rb hr =>
      refine ⟨c.args.toList.map a.eval,rb,hr,?_,ha⟩;simp [resolve,hcal,Deferred.ofValue,h1v,invoke,harr]
    ·cases e
   ·rename_i recv name hcal;obtain ⟨p,e,h1⟩:=HF ht e;obtain ⟨k1,_⟩:=Jy (w:=w) (vf:=[a.eval recv]) (vc:=[]) (RepL.cons h1 (RepL.nil _ _)) (RepL.nil _ _) ha e;simpa [resolve,hcal,harr] using k1
  ·cases e
 ·rename_i c ho;rw [ho];split at e
  ·rename_i args hargs;have ha:RepL M μ args (c.args.toList.map a.eval):=Nq ht hargs;have harr:c.args.map a.eval=(c.args.toList.map a.eval).toArray:=by rw [<- Array.toList_map,Array.toArray_toList]
   split at e
   ·rename_i b hcal;cases e;have hres : ∃ cs,(resolve a.eval c o.type).run P w = .ok { target:=.builtin b c.argTypes o.type cs,args:=c.args.map a.eval } w:=⟨_,by simp only [resolve,hcal];rfl⟩;obtain ⟨cs,hres⟩:=hres;exact ⟨{ target:=.builtin b c.argTypes o.type cs,args:=c.args.map a.eval },by simp only [Sem.run_bind,hres,Result.andThen,Sem.run_pure],cs,_,rfl,harr,ha⟩
   ·rename_i f hcal;obtain ⟨p,e,h1⟩:=HF ht e;split at e
    ·rename_i g x y;cases e;generalize h1v:a.eval f=v at h1;cases h1 with
     | fn _ _ _ _ va vb hf hla hlb h2 h3 =>
      exact ⟨{ target:=.fn (.func g) vb,args:=va++c.args.map a.eval },by simp [resolve,hcal,Deferred.ofValue,h1v],_,_,_,va.toList,vb.toList,c.args.toList.map a.eval,rfl,hf,by simp,by simp [harr],
       ⟨by simpa using hla,λi c v p q=>h2 i c v p (by simpa using q)⟩,⟨by simpa using hlb,λi c v p q=>h3 i c v p (by simpa using q)⟩,ha⟩
    ·cases e
   ·cases e
  ·cases e
 ·cases e
end
end Go.Proofs.YthpkjfabdccpdaaGreat.Pi
namespace Go.Proofs.YthpkjfabdccpdaaGreat.Pi
section
variable {P:Program} {M:B5} {μ:Mu} {h:Hp} {w:World}
mutual
theorem JL : ∀ {q:PV},flat q=true -> ∀ {M0:B5} {μ0:Mu} {v:Value} (M:B5) (μ:Mu),Rep M0 μ0 q v->Rep M μ q v
 | .agg cs,hf,M0,μ0,v,M,μ,hr=>by
  cases hr with
  | agg _ _ vs hl h1 h =>
   have:=MO (q:=cs) (by simpa [flat] using hf) M μ (M0:=M0) (μ0:=μ0);exact .agg _ _ _ hl h1 λi c v a b=>this i c v a (h i c v a b)
 | .tup cs,hf,M0,μ0,v,M,μ,hr=>by
  cases hr with
  | tup _ _ vs hl h =>
   have:=MO (q:=cs) (by simpa [flat] using hf) M μ (M0:=M0) (μ0:=μ0);exact .tup _ _ _ hl λi c v a b=>this i c v a (h i c v a b)
 | .ifc t x,hf,M0,μ0,v,M,μ,hr=>by
  cases hr with
  | ifc _ _ _ y hy=>exact .ifc _ _ _ _ (JL (by simpa [flat] using hf) M μ hy)
 | .lst full es,hf,M0,μ0,v,M,μ,hr=>by
  cases hr with
  | lst0 _ _ a cap hz=>exact .lst0 _ _ _ _ hz
  | lst _ _ _ b off esz cap x h1 h2 h3 h4 h5 h6 =>
   have:es=[]:=by simpa [flat] using hf
   subst this;exact .lst _ _ _ _ _ esz _ x h1 h2 h3 (λi e j c he=>by simp at he) h5 (λi e j c he=>by simp at he)
 | .bool b,_,_,_,_,M,μ,hr=>by cases hr;constructor
 | .int k n,_,_,_,_,M,μ,hr=>by cases hr;constructor
 | .str l,_,_,_,_,M,μ,hr=>by cases hr;constructor
 | .nilp,_,_,_,_,M,μ,hr=>by cases hr;constructor
 | .nils,_,_,_,_,M,μ,hr=>by cases hr;constructor
 | .nilm,_,_,_,_,M,μ,hr=>by cases hr;constructor
 | .nilf,_,_,_,_,M,μ,hr=>by cases hr;constructor
 | .nili,_,_,_,_,M,μ,hr=>by cases hr;constructor
 | .own _ _ _,hf,_,_,_,_,_,_=>by simp [flat] at hf
 | .ptr _ _,hf,_,_,_,_,_,_=>by simp [flat] at hf
 | .ept _ _ _,hf,_,_,_,_,_,_=>by simp [flat] at hf
 | .view _,hf,_,_,_,_,_,_=>by simp [flat] at hf
 | .fn _ _ _,hf,_,_,_,_,_,_=>by simp [flat] at hf
 | .yl _,hf,_,_,_,_,_,_=>by simp [flat] at hf
 | .mp _,hf,_,_,_,_,_,_=>by simp [flat] at hf
theorem MO : ∀ {q:List PV},DI q=true -> ∀ {M0:B5} {μ0:Mu} (M:B5) (μ:Mu) (i:Nat) (c:PV) (v:Value),q[i]? = some c->Rep M0 μ0 c v->Rep M μ c v
 | [],_,_,_,_,_,i,c,v,hc,_=>by simp at hc
 | p::ps,hf,M0,μ0,M,μ,i,c,v,hc,hr=>by
  simp [DI] at hf;cases i with
  | zero=>simp at hc;subst hc;exact JL hf.1 M μ hr
  | succ i=>exact MO hf.2 M μ i c v (by simpa using hc) hr
end
theorem Hp.get_lf (nx id:Nat):Hp.get { m:=.lf,nx:=nx } id=none:=rfl
theorem Sim.empty (s:Sim M μ h w) (L:List Nat):Sim (NF M h μ w L) mu0 { m:=.lf,nx:=0 } w where
 mem a v hm:=QY s hm
 blk id b hb:=by rw [Hp.get_lf] at hb;cases hb
 use id r hr:=by simp [mu0] at hr
 inj id id' r r' b b' hr:=by simp [mu0] at hr
 sep id r b a v hb:=by rw [Hp.get_lf] at hb;cases hb
theorem Sim.world {w2:World} (s:Sim M μ h w) (hs:w.heap.size<=w2.heap.size) (hk : ∀ b,b<w.heap.size->w2.heap[b]? = w.heap[b]?):Sim M μ h w2 where
 mem a v hm:=⟨(s.mem a v hm).1,by rw [cell?_congr (hk _ (s.mem_lt hm))];exact (s.mem a v hm).2⟩
 blk id b hb:=by
  obtain ⟨r,hr,hat⟩:=s.blk id b hb;exact ⟨r,hr,by rw [hk _ (s.use id r hr).2];exact hat⟩
 use id r hr:=⟨(s.use id r hr).1,Nat.lt_of_lt_of_le (s.use id r hr).2 hs⟩
 inj:=s.inj
 sep:=s.sep
section
variable {L:List Nat} {M2:B5} {μ2:Mu} {h2:Hp} {w2:World}
theorem Grow.keeps {M0:B5} (g:Grow M0 mu0 w M2 μ2 w2) : ∀ b,b<w.heap.size->w2.heap[b]? = w.heap[b]? := λb hb=>g.keep b hb λid r hr=>by simp [mu0] at hr
theorem MP (s:Sim M μ h w) {M0:B5} (g:Grow M0 mu0 w M2 μ2 w2):Sim M μ h w2/\Grow M μ w M μ w2 :=
 ⟨s.world g.size g.keeps,⟨.refl _,.refl _,λ_ _ h => .inl h,λid r h => .inl ⟨id,r,h,rfl⟩,g.size,λb hb _=>g.keeps b hb,g.os,g.output,g.tape,g.nf⟩⟩
theorem Rr (s:Sim M μ h w) (s2:Sim M2 μ2 h2 w2) (g:Grow (NF M h μ w L) mu0 w M2 μ2 w2) {h1:Hp} (hf:freeze h L=some h1) (l:List Nat) :
  ∃ M',Sim M' μ h1 w2/\Grow M μ w M' μ w2/\MLe (NF M2 h2 μ2 w2 l) M'/\(∀ a v,M' a=some v->w.heap.size<=a.block->NF M2 h2 μ2 w2 l a=some v):=by
 obtain ⟨M1,m1,m2,m3,_⟩:=EF L s hf;have m2':Sim M1 μ h1 w2:=m2.world g.size g.keeps
 let M3:=NF M2 h2 μ2 w2 l
 let M':B5:=λa=>if a.block<w.heap.size then M1 a else M3 a
 have old : ∀ a v,M3 a=some v->a.block<w.heap.size->M1 a=some v:=by
  intro a v hv hlt;rcases Hc hv with hv | ⟨⟨id,_,r,b,hr,_,hab,_⟩,_⟩
  ·rcases g.only a v hv with hv | ⟨id,r,hr,_⟩ | hge
   ·exact m1 a v hv
   ·simp [mu0] at hr
   ·omega
  ·rcases g.fresh id r hr with ⟨id0,r0,hr0,_⟩ | hge
   ·simp [mu0] at hr0
   ·omega
 have le3:MLe M3 M':=by
  intro a v hv;show (if a.block<w.heap.size then M1 a else M3 a)=some v
  split
  ·exact old a v hv (by assumption)
  ·exact hv
 have le1:MLe M1 M':=by
  intro a v hv;show (if a.block<w.heap.size then M1 a else M3 a)=some v
  rw [if_pos (m2.mem_lt hv)];exact hv
 have inv : ∀ a v,M' a=some v->(a.block<w.heap.size/\M1 a=some v)\/(w.heap.size<=a.block/\M3 a=some v):=by
  intro a v hv;have hv:(if a.block<w.heap.size then M1 a else M3 a)=some v:=hv
  by_cases hlt:a.block<w.heap.size
  ·rw [if_pos hlt] at hv;exact .inl ⟨hlt,hv⟩
  ·rw [if_neg hlt] at hv;exact .inr ⟨by omega,hv⟩
 refine ⟨M',⟨?_,?_,m2'.use,m2'.inj,?_⟩,⟨(Hw L).trans (m1.trans le1),.refl _,?_,λid r h => .inl ⟨id,r,h,rfl⟩,g.size,λb hb _=>g.keeps b hb,g.os,g.output,g.tape,g.nf⟩,le3,?_⟩
 ·intro a v hv;rcases inv a v hv with ⟨_,hv⟩ | ⟨_,hv⟩
  ·exact m2'.mem a v hv
  ·exact QY s2 hv
 ·intro id b hb;obtain ⟨r,hr,hat⟩:=m2'.blk id b hb;exact ⟨r,hr,hat.mono le1 (.refl _)⟩
 ·intro id r b a v a1 a2 a3 a4 a5;rcases inv a v a4 with ⟨_,hv⟩ | ⟨hge,hv⟩
  ·exact m2'.sep id r b a v a1 a2 a3 hv a5
  ·have:=(s.use id r a2).2;omega
 ·intro a v hv;rcases inv a v hv with ⟨_,hv⟩ | ⟨hge,hv⟩
  ·rcases m3 a v hv with h | h
   ·exact .inl h
   ·exact .inr (.inl h)
  ·exact .inr (.inr hge)
 ·intro a v hv hge;rcases inv a v hv with ⟨hlt,_⟩ | ⟨_,hv⟩
  ·omega
  ·exact hv
theorem Wf (s:Sim M μ h w) (s2:Sim M2 μ2 h2 w2) (g:Grow (NF M h μ w L) mu0 w M2 μ2 w2) {h1:Hp} (hf:freeze h L=some h1) {n:Nat} {p q:PV} {l:List Nat} {v:Value} (e:BO h2 n p=some (q,l)) (hr:Rep M2 μ2 p v) :
  ∃ M',Sim M' μ h1 w2/\Grow M μ w M' μ w2/\Rep M' μ q v:=by
 obtain ⟨M',a,b,c,_⟩:=Rr s s2 g hf l;exact ⟨M',a,b,(Kq s2 l n p q l v e hr (λ_ h=>h)).mono c (.mu0 _)⟩
theorem Sim.adopt {id:Nat} {b:Blk} {r:Bk} {h':Hp} (s:Sim M μ h w) (hn:h.get id=none) (he : ∀ k,h'.get k=if k=id then some b else h.get k) (hlt:r.b<w.heap.size)
  (hne : ∀ k rk,μ k=some rk->rk.b≠r.b) (hm : ∀ a v,M a=some v->a.block≠r.b) (hat:BlkAt M (HX μ id r) r w.heap[r.b]? b):Sim M (HX μ id r) h' w/\μ id=none:=by
 have hμ:μ id=none:=by
  cases hm:μ id with
  | none=>rfl
  | some x=>exact absurd hn (s.use id x hm).1
 have hle:=Ht (r:=r) hμ
 have hup : ∀ k x,HX μ id r k=some x->(k=id/\x=r)\/(k≠id/\μ k=some x):=by
  intro k x hk;unfold HX at hk;by_cases e:k=id
  ·rw [if_pos e] at hk;exact .inl ⟨e,(Option.some.inj hk).symm⟩
  ·rw [if_neg e] at hk;exact .inr ⟨e,hk⟩
 refine ⟨⟨s.mem,?_,?_,?_,?_⟩,hμ⟩
 ·intro k bk hk;rw [he] at hk;by_cases e:k=id
  ·rw [if_pos e] at hk;cases hk;exact ⟨r,by simp [HX,e],hat⟩
  ·rw [if_neg e] at hk;obtain ⟨rk,hrk,hatk⟩:=s.blk k bk hk;exact ⟨rk,hle _ _ hrk,hatk.mono (.refl _) hle⟩
 ·intro k rk hk;rcases hup k rk hk with ⟨e,rfl⟩ | ⟨e,hk⟩
  ·exact ⟨by rw [he,if_pos e];simp,hlt⟩
  ·have:=s.use k rk hk;exact ⟨by rw [he,if_neg e];exact this.1,this.2⟩
 ·intro k k' rk rk' bk bk' a1 a2 a3 a4 a5 a6 a7;rw [he] at a3 a4;rcases hup k rk a1 with ⟨e,hx⟩ | ⟨e,a1⟩
  ·rcases hup k' rk' a2 with ⟨e',hx'⟩ | ⟨e',a2⟩
   ·exact e.trans e'.symm
   ·exact absurd (by rw [<- a7,hx]) (hne k' rk' a2)
  ·rcases hup k' rk' a2 with ⟨e',hx'⟩ | ⟨e',a2⟩
   ·exact absurd (by rw [a7,hx']) (hne k rk a1)
   ·rw [if_neg e] at a3;rw [if_neg e'] at a4;exact s.inj k k' rk rk' bk bk' a1 a2 a3 a4 a5 a6 a7
 ·intro k rk bk a v a1 a2 a3 a4 a5;rw [he] at a1;rcases hup k rk a2 with ⟨e,hx⟩ | ⟨e,a2⟩
  ·exact absurd (by rw [a5,hx]) (hm a v a4)
  ·rw [if_neg e] at a1;exact s.sep k rk bk a v a1 a2 a3 a4 a5
theorem MQ : ∀ {ps:List PV},DI ps=true -> ∀ (i:Nat) (p:PV),ps[i]? = some p->flat p=true
 | [],_,i,p,hp=>by simp at hp
 | q::ps,hf,i,p,hp=>by
  simp [DI] at hf;cases i with
  | zero=>simp at hp;subst hp;exact hf.1
  | succ i=>exact MQ hf.2 i p (by simpa using hp)
theorem Tc {p:PV} (hf:flat p=true) : ∀ (j:Nat) (c:PV),p.cells[j]? = some c->flat c=true:=by
 intro j c hc;cases p with
 | agg cs=>exact MQ (show DI cs=true by simpa [flat] using hf) j c hc
 | tup cs=>simp [PV.cells] at hc
 | _ =>
  simp only [PV.cells] at hc;cases j with
  | zero=>simp only [List.getElem?_cons_zero,Option.some.injEq] at hc;subst hc;exact hf
  | succ j=>simp at hc
theorem He (s:Sim M μ h w) (s2:Sim M2 μ2 h2 w2) (g:Grow (NF M h μ w L) mu0 w M2 μ2 w2) {id:Nat} {r q:PV} {x:Value} {h':Hp} (hx:Rep M2 μ2 r x) (e:B8 id L h h2 r=some (q,h')) :
  ∃ M' μ',Sim M' μ' h' w2/\Grow M μ w M' μ' w2/\Rep M' μ' q x:=by
 unfold B8 at e;split at e
 ·rename_i len qs ex hm;split at hm
  ·rename_i j len';split at hm
   ·rename_i es ex' hb;split at hm
    ·rename_i qs' l2 hp;replace hm:=EZ hm;obtain ⟨hj,hm⟩:=hm;cases hm;split at e
     ·rename_i hh h1 hf;obtain ⟨h3,hnew,e⟩:=AL e;cases e;obtain ⟨hget,hset,_⟩:=Hp.get_new hnew;cases hx with
      | own _ _ _ _ rj hr hcap =>
      obtain ⟨r',hr',arr,ety,b1,b2,b3,b4,b5,b6,b7⟩:=s2.blk j _ hb;rw [hr] at hr';cases hr'
      have hge:w.heap.size<=rj.b:=by
       rcases g.fresh j rj hr with ⟨id0,r0,hr0,_⟩ | hge
       ·simp [mu0] at hr0
       ·exact hge
      have hlt:rj.b<w2.heap.size:=(s2.use j rj hr).2;obtain ⟨k1,k2⟩:=LU hp
      have nocell : ∀ (a:Addr) (v:Value),NF M2 h2 μ2 w2 l2 a=some v->a.block≠rj.b:=by
       intro a v hv hab;rcases Hc hv with hv | ⟨⟨id0,hid,r0,b0,hr0,hb0,hab0,_,hfc⟩,_⟩
       ·have:=s2.sep j rj _ a v hb hr trivial hv hab;simp [Rh] at this
       ·have:=s2.inj id0 j r0 rj b0 _ hr0 hr hb0 hb (by cases b0<;>first | trivial | exact hfc.elim) trivial (by rw [<- hab0,hab])
        subst this;rw [List.any_eq_false] at hj;exact hj id0 hid (by simp)
      have cellsOf : ∀ (i:Nat) (e':PV) (m:Nat) (c:PV) (v:Value),qs[i]? = some e'->e'.cells[m]? = some c->arr[rj.base+i*rj.esz+m]? = some v->v.oneCell'=true/\Rep (NF M2 h2 μ2 w2 l2) mu0 c v:=by
       intro i e' m c v hi hm hv;have hil:i<es.length:=by rw [<- k1];exact (List.getElem?_eq_some_iff.1 hi).1
       obtain ⟨q',l',a1,a2,a3⟩:=k2 i _ (List.getElem?_eq_getElem hil);rw [hi] at a2;cases a2;obtain ⟨c1,c2⟩:=Fa a1;have hml:m<(es[i]).cells.length:=by rw [<- c1];exact (List.getElem?_eq_some_iff.1 hm).1
       obtain ⟨n',c',l'',d1,d2,d3,d4⟩:=c2 m _ (List.getElem?_eq_getElem hml);rw [hm] at d3;cases d3;obtain ⟨o1,o2⟩:=b7 i _ m _ v (List.getElem?_eq_getElem hil) (List.getElem?_eq_getElem hml) hv;exact ⟨o1,Kq s2 l2 n' _ _ l'' v d2 o2 λy hy=>a3 y (d4 y hy)⟩
      have lens : ∀ (i:Nat) (e':PV),qs[i]? = some e'->e'.cells.length=rj.esz:=by
       intro i e' hi;have hil:i<es.length:=by rw [<- k1];exact (List.getElem?_eq_some_iff.1 hi).1
       obtain ⟨q',l',a1,a2,a3⟩:=k2 i _ (List.getElem?_eq_getElem hil);rw [hi] at a2;cases a2;rw [(Fa a1).1];exact b6 i _ (List.getElem?_eq_getElem hil)
      have fin : ∀ {M':B5} {h1:Hp},Sim M' μ h1 w2->Grow M μ w M' μ w2->h1.get id=none->(∀ k,h'.get k=if k=id then some (.row qs ex false) else h1.get k)->(∀ a v,M' a=some v->a.block≠rj.b) ->
        (∀ (i:Nat) (e':PV) (m:Nat) (c:PV) (v:Value),qs[i]? = some e'->e'.cells[m]? = some c->arr[rj.base+i*rj.esz+m]? = some v->Rep M' mu0 c v) ->
        ∃ M' μ',Sim M' μ' h' w2/\Grow M μ w M' μ' w2/\Rep M' μ' (.own id 0 len) (.slice (some ⟨rj.b,rj.base+0*rj.esz,none⟩) len (rj.cap-0)):=by
       intro M' h1 sM gM hn he hno hrep;have hne : ∀ k rk,μ k=some rk->rk.b≠rj.b:=λk rk hk=>by have:=(s.use k rk hk).2;omega
       obtain ⟨sA,hμ⟩:=sM.adopt (r:=rj) hn he hlt hne hno ⟨arr,ety,b1,b2,by rw [k1];exact b3,(λhx=>by rw [k1];exact b4 hx),b5,lens,λi e' m c v x y z=>⟨(cellsOf i e' m c v x y z).1,(hrep i e' m c v x y z).mono (.refl _) (.mu0 _)⟩⟩;refine ⟨M',HX μ id rj,sA,⟨gM.m,Ht hμ,gM.only,?_,gM.size,gM.keep,gM.os,gM.output,gM.tape,gM.nf⟩,?_⟩
       ·intro k rk hk;unfold HX at hk;split at hk
        ·cases hk;exact .inr hge
        ·exact .inl ⟨k,rk,hk,rfl⟩
       ·exact .own (M:=M') (HX μ id rj) id 0 len rj (by simp [HX]) hcap
      cases hfl:DI qs with
      | true =>
       simp only [hfl,cond_true] at hf;cases hf;obtain ⟨j1,j2⟩:=MP s g;refine fin j1 j2 hget hset (λa v hv hab => ?_) λi e' m c v x y z => ?_
       ·have:=s.mem_lt hv;omega
       ·exact JL (Tc (MQ hfl i e' x) m c y) _ _ (cellsOf i e' m c v x y z).2
      | false =>
       simp only [hfl,cond_false] at hf;obtain ⟨M',j1,j2,j3,j4⟩:=Rr s s2 g hf l2;refine fin j1 j2 hget hset (λa v hv hab => ?_) λi e' m c v x y z=>(cellsOf i e' m c v x y z).2.mono j3 (.refl _);exact nocell a v (j4 a v hv (by omega)) hab
     ·cases e
    ·cases hm
   ·cases hm
  ·cases hm
 ·split at e
  ·rename_i q' l2 hq;cases hfl:flat q' with
   | true =>
    simp only [hfl,cond_true] at e;cases e;obtain ⟨j1,j2⟩:=MP s g;exact ⟨M,μ,j1,j2,JL hfl M μ (Kq s2 l2 _ _ _ _ _ hq hx (λ_ h=>h))⟩
   | false =>
    simp only [hfl,cond_false] at e;obtain ⟨h1,hf,e⟩:=AL e;cases e;obtain ⟨M',j1,j2,j3⟩:=Wf s s2 g hf hq hx;exact ⟨M',μ,j1,j2,j3⟩
  ·cases e
end
end
end Go.Proofs.YthpkjfabdccpdaaGreat.Pi
namespace Go.Proofs.YthpkjfabdccpdaaGreat.Pi
section
variable {P:Program} {b:Frame} {a:Act} {k:List Item} {cs:List Frame} {w w':World} {ops:Array Oper} {i:Nat} {rest:List Nat} {o:Oper}
theorem IZ (ho:ops[i]? = some o) (v:Value):(b.atR a (.inRegion ops (i::rest)::k)).finish v=b.atR (a.put o.dst v) (.inRegion ops rest::k):=by
 rw [Frame.finish_atR,ho];rfl
theorem Rs (ho:ops[i]? = some o) (hw:Region.wanted o (yielded ops a.tmps)=true) {v:Value} (hr:(o.semAt b.roundOf a.eval).run P w = .ok (.value v) w') :
  step P (lone (b.atR a (.inRegion ops (i::rest)::k)) cs w) = .next (lone (b.atR (a.put o.dst v) (.inRegion ops rest::k)) cs w') :=
 step_lone_go (by rw [stepGR_op ho hw,<- IZ ho];simp [stepG.apply,hr])
theorem Td (ho:ops[i]? = some o) (hw:Region.wanted o (yielded ops a.tmps)=true) (hr:(o.semAt b.roundOf a.eval).run P w = .ok .skip w') :
  step P (lone (b.atR a (.inRegion ops (i::rest)::k)) cs w) = .next (lone (b.atR (a.put o.dst undef) (.inRegion ops rest::k)) cs w') :=
 step_lone_go (by rw [stepGR_op ho hw,<- IZ ho];simp [stepG.apply,hr])
theorem Rt (ho:ops[i]? = some o) (hw:Region.wanted o (yielded ops a.tmps)=true) {d:Deferred} (hr:(o.semAt b.roundOf a.eval).run P w = .ok (.defer d) w') :
  step P (lone (b.atR a (.inRegion ops (i::rest)::k)) cs w) = .next (lone (b.atR ({ a with defers:=d::a.defers }.put o.dst undef) (.inRegion ops rest::k)) cs w'):=by
 refine step_lone_go ?_;have:=IZ (b:=b) (a:={ a with defers:=d::a.defers }) (k:=k) (rest:=rest) ho undef
 rw [stepGR_op ho hw];simp only [stepG.apply,Sem.runT_eq,hr,GStep.bare_after];exact congrArg (λfr=>GStep.go { frame:=fr,callers:=cs,status:=.running,dying:=none } w') this
theorem Ru (ho:ops[i]? = some o) (hw:Region.wanted o (yielded ops a.tmps)=true) {f:FuncId} {args:Array Value} (hr:(o.semAt b.roundOf a.eval).run P w = .ok (.enter f args) w') :
  step P (lone (b.atR a (.inRegion ops (i::rest)::k)) cs w) = .next (lone (Frame.enter P f args .normal) (b.atR a (.inRegion ops (i::rest)::k)::cs) w') :=
 step_lone_go (by rw [stepGR_op ho hw];simp [stepG.apply,hr,Frame.atR])
theorem Rv (ho:ops[i]? = some o) (hw:Region.wanted o (yielded ops a.tmps)=true) {l:Nat} {f:FuncId} {tmps:Array Value} {asg body:Code} (hr:(o.semAt b.roundOf a.eval).run P w = .ok (.round l f tmps asg body) w') :
  step P (lone (b.atR a (.inRegion ops (i::rest)::k)) cs w) = .next (lone (Frame.round l f tmps asg body .normal) (b.atR a (.inRegion ops (i::rest)::k)::cs) w') :=
 step_lone_go (by rw [stepGR_op ho hw];simp [stepG.apply,hr,Frame.atR])
theorem Rw (ho:ops[i]? = some o) (hw:Region.wanted o (yielded ops a.tmps)=true) {v:Value} (hr:(o.semAt b.roundOf a.eval).run P w = .halt (.panic v) w') :
  step P (lone (b.atR a (.inRegion ops (i::rest)::k)) cs w) = .next (lone { b.atR a (.inRegion ops (i::rest)::k) with mode:=.panicking [{ v,recovered:=false }] } cs w') :=
 step_lone_go (by rw [stepGR_op ho hw,<- Frame.raise_atR];simp [stepG.apply,hr])
theorem O9 (ho:ops[i]? = some o) (hw:Region.wanted o (yielded ops a.tmps)=true) (hro:b.roundOf=none) (hr:(o.semAt b.roundOf a.eval).run P w = .ok .recover w') :
  step P (lone (b.atR a (.inRegion ops (i::rest)::k)) cs w)=match tryRecover (b.atR a (.inRegion ops (i::rest)::k)) cs with
   | some (v,cs') => .next (lone (b.atR (a.put o.dst v) (.inRegion ops rest::k)) cs' w')
   | none => .next (lone (b.atR (a.put o.dst .nilIface) (.inRegion ops rest::k)) cs w'):=by
 cases ht:tryRecover (b.atR a (.inRegion ops (i::rest)::k)) cs with
 | some x =>
  obtain ⟨v,cs'⟩:=x;refine step_lone_go ?_;have hro2:(b.atR a (.inRegion ops (i::rest)::k)).roundOf=none:=hro;rw [stepGR_op ho hw,<- IZ ho];simp [stepG.apply,hr,hro2,ht]
 | none =>
  refine step_lone_go ?_;have hro2:(b.atR a (.inRegion ops (i::rest)::k)).roundOf=none:=hro;rw [stepGR_op ho hw,<- IZ ho];simp [stepG.apply,hr,hro2,ht]
theorem Rx {c:Code}:step P (lone (b.atR a (.code (.scope c)::k)) cs w) = .next (lone (b.atR a (.code c :: .inScope c::k)) cs w) :=
 step_lone_go (by simp [stepG,stepG.exec,Frame.atR])
theorem PA {c:Code}:step P (lone (b.atR a (.inScope c::k)) cs w) = .next (lone (b.atR a k) cs w) :=
 step_lone_go (by simp [stepG,stepG.exec,Frame.atR])
end
section
variable {P:Program}
theorem Qi {fr:Frame} {cs:List Frame} {w w':World} {bl:Nat} {ds calls:List Deferred} {ar:Array Value} (hm:fr.mode ≠ .run) (hd:fr.defers={ target:=.collected bl,args:=ar }::ds)
  (hr:(Instr.takeDeferred bl).run P w = .ok calls w'):step P (lone fr cs w) = .next (lone { fr with defers:=calls++ds } cs w'):=by
 refine step_lone_go ?_;cases hmode:fr.mode with
 | run=>exact absurd hmode hm
 | returning=>simp [stepG,unwind,hmode,hd,Sem.runT_eq,hr]
 | panicking chain=>simp [stepG,unwind,hmode,hd,Sem.runT_eq,hr]
theorem Lb {fr:Frame} {cs:List Frame} {w w':World} {bt:Builtin} {ats:Array TypeId} {ty:TypeId} {consts:Array Bool} {ds:List Deferred} {ar:Array Value} {v:Value} (hm:fr.mode ≠ .run)
  (hd:fr.defers={ target:=.builtin bt ats ty consts,args:=ar }::ds) (hr:(builtin bt ats ty consts ar).run P w = .ok (.value v) w') :
  step P (lone fr cs w) = .next (lone { fr with defers:=ds } cs w'):=by
 refine step_lone_go ?_;have hi:(invoke (.builtin bt ats ty consts) ar).run P w = .ok (.value v) w':=hr;cases hmode:fr.mode with
 | run=>exact absurd hmode hm
 | returning=>simp [stepG,unwind,callDeferred,hmode,hd,Sem.runT_eq,hi]
 | panicking chain=>simp [stepG,unwind,callDeferred,hmode,hd,Sem.runT_eq,hi]
end
end Go.Proofs.YthpkjfabdccpdaaGreat.Pi
namespace Go.Proofs.YthpkjfabdccpdaaGreat.Pi
section
variable {P:Program} {M:B5} {μ:Mu} {h:Hp} {w:World}
def ChRep (M:B5) (μ:Mu):List PE->List PanicEntry->Prop
 | [],[]=>True
 | e::l,p::m=>Rep M μ e.v p.v/\e.recovered=p.recovered/\p.goexit=false/\ChRep M μ l m
 | _,_=>False
theorem ChRep.mono {M':B5} {μ':Mu} (hM:MLe M M') (hμ:MuLe μ μ') : ∀ {l:List PE} {m:List PanicEntry},ChRep M μ l m->ChRep M' μ' l m
 | [],[],_=>trivial
 | _::_,_::_,⟨a,b,c,d⟩=>⟨a.mono hM hμ,b,c,d.mono hM hμ⟩
def UMRep (M:B5) (μ:Mu):UM->FrameMode->Prop
 | .ret,m=>m = .returning
 | .pan ch,m => ∃ chain,m = .panicking chain/\ChRep M μ ch chain
theorem UMRep.mono {M':B5} {μ':Mu} (hM:MLe M M') (hμ:MuLe μ μ') {u:UM} {m:FrameMode} (hr:UMRep M μ u m):UMRep M' μ' u m:=by
 cases u with
 | ret=>exact hr
 | pan ch=>obtain ⟨chain,h1,h2⟩:=hr;exact ⟨chain,h1,h2.mono hM hμ⟩
def Ve (M:B5) (μ:Mu) (kind:CallKind) (cs:List Frame):Option UM->Prop
 | none=>kind = .normal
 | some u=>kind = .deferred /\ ∃ c tl,cs=c::tl/\UMRep M μ u c.mode
def PY (μ:Mu) (ro:Option Nat) (r:Option Nat):Prop:=match ro with
 | none=>r=none
 | some l => ∃ rb,μ l=some rb/\r=some rb.b
structure FrRep (M:B5) (μ:Mu) (fr:Fr) (b:Frame) (a:Act) (cs:List Frame):Prop where
 t:TmpsRep M μ fr.t fr.nt a.tmps
 d:DefsRep M μ fr.ds a.defers
 u:Ve M μ b.kind cs fr.up
 r:PY μ fr.ro b.roundOf
def Tail (kd:CallKind) (cs cs':List Frame):Prop:=cs'=cs\/(kd = .deferred /\ ∃ c tl m,cs=c::tl/\cs'={ c with mode:=m }::tl)
theorem Tail.refl {kd:CallKind} (cs:List Frame):Tail kd cs cs:=.inl rfl
theorem Tail.trans {kd:CallKind} {a b c:List Frame} (h:Tail kd a b) (k:Tail kd b c):Tail kd a c:=by
 rcases h with rfl | ⟨hk,x,tl,m,rfl,rfl⟩
 ·exact k
 ·rcases k with rfl | ⟨_,y,tl',m',h1,rfl⟩
  ·exact .inr ⟨hk,x,tl,m,rfl,rfl⟩
  ·cases h1;exact .inr ⟨hk,x,tl,m',rfl,rfl⟩
theorem FrRep.mono {M':B5} {μ':Mu} {fr:Fr} {b:Frame} {a:Act} {cs:List Frame} (hr:FrRep M μ fr b a cs) (hM:MLe M M') (hμ:MuLe μ μ'):FrRep M' μ' fr b a cs where
 t:=hr.t.mono hM hμ
 d:=hr.d.mono hM hμ
 u:=by
  have:=hr.u;cases hu:fr.up with
  | none=>rw [hu] at this;exact this
  | some u=>rw [hu] at this;obtain ⟨h1,c,tl,h2,h3⟩:=this;exact ⟨h1,c,tl,h2,h3.mono hM hμ⟩
 r:=by
  have:=hr.r;unfold PY at this ⊢;cases hu:fr.ro with
  | none=>rw [hu] at this;exact this
  | some l=>rw [hu] at this;obtain ⟨rb,h1,h2⟩:=this;exact ⟨rb,hμ _ _ h1,h2⟩
def Arr (P:Program) (m:Machine) (b:Frame) (k:List Item) (cs:List Frame) (a:Act) (w:World) (M:B5) (μ:Mu):Ex->Prop
 | .normal=>Steps P m (lone (b.atR a k) cs w)
 | .exit id => ∃ k1,exitTo id k1=exitTo id k/\Steps P m (lone (b.atR a (.code (.exit id)::k1)) cs w)
 | .goto l => ∃ k1,gotoIn l k1=gotoIn l k/\Steps P m (lone (b.atR a (.code (.goto l)::k1)) cs w)
 | .ret => ∃ k1,Steps P m (lone (b.atR a (.code .ret::k1)) cs w)
 | .panic v => ∃ todo x,Rep M μ v x/\Steps P m (lone { b.atR a todo with mode:=.panicking [{ v:=x,recovered:=false }] } cs w)
theorem Arr.of_steps {m m1:Machine} {b:Frame} {k:List Item} {cs:List Frame} {a:Act} {e:Ex} (hs:Steps P m m1) (ha:Arr P m1 b k cs a w M μ e):Arr P m b k cs a w M μ e:=by
 cases e with
 | normal=>exact hs.trans ha
 | exit id=>obtain ⟨k1,h1,h2⟩:=ha;exact ⟨k1,h1,hs.trans h2⟩
 | goto id=>obtain ⟨k1,h1,h2⟩:=ha;exact ⟨k1,h1,hs.trans h2⟩
 | ret=>obtain ⟨k1,h2⟩:=ha;exact ⟨k1,hs.trans h2⟩
 | panic v=>obtain ⟨k1,x,h1,h2⟩:=ha;exact ⟨k1,x,h1,hs.trans h2⟩
def Ran (P:Program) (M:B5) (μ:Mu) (w:World) (m:Machine) (b:Frame) (k:List Item) (cs:List Frame) (e:Ex) (fr':Fr) (h':Hp):Prop :=
 ∃ M' μ' w' a' cs',Sim M' μ' h' w'/\Grow M μ w M' μ' w'/\FrRep M' μ' fr' b a' cs'/\Tail b.kind cs cs'/\Arr P m b k cs' a' w' M' μ' e
def jP (P:Program) (M:B5) (μ:Mu) (fr:Frame) (w:World):Out->Prop
 | .ret v => ∃ x,Rep M μ v x/\fr.leaving P w (.returned x)
 | .pan ch => ∃ chain,ChRep M μ ch chain/\fr.leaving P w (.panicked chain)
def eZ (P:Program) (M:B5) (μ:Mu) (fr:Frame) (w:World):Out->Prop
 | .ret v => ∃ x,Rep M μ v x/\fr.going P w (.returned x)
 | .pan ch => ∃ chain,ChRep M μ ch chain/\fr.going P w (.panicked chain)
structure RecOK (P:Program) (rec:Np):Prop where
 nrm : ∀ {f args h o up' h'},rec (.fn f) none args h=some (o,up',h') -> ∀ {M μ w vs},Sim M μ h w->RepL M μ args vs -> ∀ cs,∃ M' μ' w' fr,
  Sim M' μ' h' w'/\Grow M μ w M' μ' w'/\Steps P (lone (Frame.enter P f vs.toArray .normal) cs w) (lone fr cs w')/\fr.fn=f/\jP P M' μ' fr w' o
 dfr : ∀ {f u args h o up' h'},rec (.fn f) (some u) args h=some (o,up',h') -> ∀ {M μ w vs},Sim M μ h w->RepL M μ args vs -> ∀ c cs,UMRep M μ u c.mode -> ∃ M' μ' w' fr m' u',
  Sim M' μ' h' w'/\Grow M μ w M' μ' w'/\Steps P (lone (Frame.enter P f vs.toArray .deferred) (c::cs) w) (lone fr ({ c with mode:=m' }::cs) w')/\up'=some u'/\UMRep M' μ' u' m'/\fr.kind = .deferred/\eZ P M' μ' fr w' o
 yld : ∀ {l args h o up' h'},rec (.yl l) none args h=some (o,up',h') -> ∀ {M μ w vs r},Sim M μ h w->RepL M μ args vs->μ l=some r -> ∀ c cs,∃ M' μ' w' x v fn tmps asg body,
  o = .ret v/\(Instr.yield r.b vs.toArray).run P w = .ok (.round r.b fn tmps asg body) w/\Sim M' μ' h' w'/\Grow M μ w M' μ' w'/\Rep M' μ' v x /\
  Steps P (lone (Frame.round r.b fn tmps asg body .normal) (c::cs) w) (lone (c.finish x) cs w')
theorem Ry {t : T PV} {nt d : Nat} {tmps : Array Value} {v : PV} {x : Value} (ht : TmpsRep M μ t nt tmps) (hd : d < nt) (hr : Rep M μ v x) : TmpsRep M μ (T.put 20 t d v) nt (tmps.setIfInBounds d x) := by
  obtain ⟨h1, h2, h3⟩ := ht;refine ⟨h1, by simp [h2], fun k => ?_⟩
  rw [T.get_put 20 t d v k (by have : (2 : Nat) ^ 20 - 1 = 1048575 := by decide
                               omega)]
  by_cases hk : k = d
  · subst hk
    rw [if_pos rfl];have : (tmps.setIfInBounds k x).getD k undef = x := by simp [Array.getD_eq_getD_getElem?, h2, hd]
    rw [this]; exact hr
  · rw [if_neg hk]
    have : (tmps.setIfInBounds d x).getD k undef = tmps.getD k undef := by
      simp only [Array.getD_eq_getD_getElem?, Array.getElem?_setIfInBounds, if_neg (Ne.symm hk)]
    rw [this]; exact h3 k
theorem FrRep.put {fr fr':Fr} {b:Frame} {a:Act} {cs:List Frame} {dst:Option Nat} {v:PV} {x:Value} (hr:FrRep M μ fr b a cs) (hv:Rep M μ v x) (e:fr.put dst v=some fr'):FrRep M μ fr' b (a.put dst x) cs:=by
 unfold Fr.put at e;split at e
 ·cases e;exact hr
 ·replace e:=Be e;obtain ⟨hd,e⟩:=e;cases e;exact ⟨Ry hr.t (by simpa using hd) hv,hr.d,hr.u,hr.r⟩
theorem Jz (M:B5) (μ:Mu):Rep M μ (.tup []) undef:=.tup _ _ _ rfl λi c v hc=>by simp at hc
theorem PZ {ops:Array Oper} {t:T PV} {nt:Nat} {tmps:Array Value} (ht:TmpsRep M μ t nt tmps) (o:Oper):Region.wanted o (yielded ops tmps)=Cd ops.toList t o.guard:=by
 unfold Region.wanted Cd;cases hg:o.guard with
 | none=>rfl
 | some g =>
  obtain ⟨j,want⟩:=g;simp only [yielded,Au,Array.getElem?_toList];cases hj:ops[j]? with
  | none=>simp
  | some oj =>
   simp only [Option.bind_some];cases hd:oj.dst with
   | none=>simp
   | some d =>
    simp only [Option.bind_some];have h3:=ht.2.2 d;rw [Array.getD_eq_getD_getElem?] at h3;cases hx:tmps[d]? with
    | none =>
     rw [hx] at h3;simp only [Option.getD_none] at h3;cases hp:t.get d with
     | none=>simp
     | some p =>
      rw [hp] at h3;simp only [Option.getD_some] at h3;cases h3;simp
    | some x =>
     rw [hx] at h3;simp only [Option.getD_some] at h3;cases hp:t.get d with
     | none =>
      rw [hp] at h3;simp only [Option.getD_none] at h3;cases h3;simp
     | some p =>
      rw [hp] at h3;simp only [Option.getD_some] at h3;cases h3<;>simp
end
end Go.Proofs.YthpkjfabdccpdaaGreat.Pi
namespace Go.Proofs.YthpkjfabdccpdaaGreat.Pi
section
variable {P:Program} {M:B5} {μ:Mu} {h:Hp} {w:World} {sh:FuncId->Bool} {rec:Np}
theorem Pa (R:RecOK P rec) {f:FuncId} {args:List PV} {o:Out} {h':Hp} {id:Nat} (e:Cj sh rec id f args h=some (o,h')) (s:Sim M μ h w) {vs:List Value} (ha:RepL M μ args vs) (cs:List Frame) :
  ∃ M' μ' w' fr,Sim M' μ' h' w'/\Grow M μ w M' μ' w'/\Steps P (lone (Frame.enter P f vs.toArray .normal) cs w) (lone fr cs w')/\fr.fn=f/\jP P M' μ' fr w' o:=by
 unfold Cj at e;cases hs:sh f with
 | true =>
  simp only [hs,cond_true] at e;split at e
  ·rename_i o1 u1 h1 he;cases e;exact R.nrm he s ha cs
  ·cases e
 | false =>
  simp only [hs,cond_false] at e;split at e
  ·rename_i as l hp;have ha2:=VZ s l hp ha (λ_ h=>h);split at e
   ·rename_i r u1 h2 he;obtain ⟨M2,μ2,w2,fr,s2,g2,st,hfn,x,hx,hl⟩:=R.nrm he (s.empty l) ha2 cs;obtain ⟨⟨q,hq⟩,hb,e⟩:=AL e;cases e;obtain ⟨M',μ',j1,j2,j3⟩:=He s s2 g2 hx hb;exact ⟨M',μ',w2,fr,j1,j2,st,hfn,x,j3,hl⟩
   ·rename_i e0 rc u1 h2 he;obtain ⟨M2,μ2,w2,fr,s2,g2,st,hfn,chain,hx,hl⟩:=R.nrm he (s.empty l) ha2 cs;split at e
    ·rename_i q l2 hq;replace e:=Be e;obtain ⟨hfl,e⟩:=e;cases e;obtain ⟨j1,j2⟩:=MP s g2;refine ⟨M,μ,w2,fr,j1,j2,st,hfn,chain,?_,hl⟩;cases chain with
     | nil=>exact hx
     | cons p ps =>
      obtain ⟨c1,c2,c3,c4⟩:=hx;cases ps with
      | cons _ _=>exact c4.elim
      | nil=>exact ⟨JL hfl M μ (Kq s2 l2 _ _ _ _ _ hq c1 (λ_ h=>h)),c2,c3,trivial⟩
    ·cases e
   ·cases e
  ·cases e
theorem NI {ro:Option Nat} {ρ:Operand->Value} {o:Oper} (h:ro=none \/ ∀ c,o.op ≠ .defer c):o.semAt ro ρ=execOp ρ o:=by
 rcases h with rfl | h
 ·rfl
 ·exact Oper.semAt_eq ro ρ o h
theorem Te {t:T PV} {id:Nat} {o:Oper} {c:Call} {r:R} (ho:o.op = .defer c) (e:A0 P t h id o=some r) : ∃ d,r = .dfr d:=by
 unfold A0 at e;rw [ho] at e;simp only at e;split at e
 ·split at e
  ·cases e;exact ⟨_,rfl⟩
  ·unfold e1 at e;split at e
   ·dsimp only at e;split at e
    ·cases e;exact ⟨_,rfl⟩
    ·cases e
   ·cases e
  ·cases e
 ·cases e
theorem MS (R:RecOK P rec) {ops:Array Oper} {base:Nat} : ∀ (L:List (Nat×Oper)) {fr fr':Fr} {h h':Hp} {ex:Ex},BW P sh rec base ops.toList L fr h=some (ex,fr',h')->(∀ x∈L,ops[x.1]? = some x.2) ->
  ∀ {M:B5} {μ:Mu} {w:World} {b:Frame} {a:Act} {cs:List Frame} (k:List Item),Sim M μ h w->FrRep M μ fr b a cs->Ran P M μ w (lone (b.atR a (.inRegion ops (L.map (·.1))::k)) cs w) b k cs ex fr' h'
 | [],fr,fr',h,h',ex,e,hL,M,μ,w,b,a,cs,k,s,hf=>by
  simp only [BW] at e;cases e;exact ⟨M,μ,w,a,cs,s,.refl _ _ _,hf,.refl _,.one stepR_region_end⟩
 | (i,o)::L,fr,fr',h,h',ex,e,hL,M,μ,w,b,a,cs,k,s,hf=>by
  have ho:ops[i]? = some o:=hL (i,o) (by simp);have hL2 : ∀ x∈L,ops[x.1]? = some x.2:=λx hx=>hL x (by simp [hx]);unfold BW at e
  have go : ∀ {fr1:Fr} {h1:Hp} {M1:B5} {μ1:Mu} {w1:World} {a1:Act} {cs1:List Frame},BW P sh rec base ops.toList L fr1 h1=some (ex,fr',h')->Sim M1 μ1 h1 w1->Grow M μ w M1 μ1 w1->FrRep M1 μ1 fr1 b a1 cs1->Tail b.kind cs cs1 ->
    Steps P (lone (b.atR a (.inRegion ops (i::L.map (·.1))::k)) cs w) (lone (b.atR a1 (.inRegion ops (L.map (·.1))::k)) cs1 w1) ->
    Ran P M μ w (lone (b.atR a (.inRegion ops (((i,o)::L).map (·.1))::k)) cs w) b k cs ex fr' h':=by
   intro fr1 h1 M1 μ1 w1 a1 cs1 e1 s1 g1 f1 t1 st;obtain ⟨M',μ',w',a',cs',q1,q2,q3,q4,q5⟩:=MS R L e1 hL2 k s1 f1;exact ⟨M',μ',w',a',cs',q1,g1.trans q2,q3,t1.trans q4,.of_steps st q5⟩
  cases hw:Cd ops.toList fr.t o.guard with
  | false =>
   simp only [hw,cond_false] at e;split at e
   ·rename_i fr1 Ad;refine go e s (.refl _ _ _) (hf.put (Jz M μ) Ad) (.refl _) (.one ?_);have:=stepR_op_skip (P:=P) (b:=b) (a:=a) (k:=k) (cs:=cs) (w:=w) (ops:=ops) (i:=i) (rest:=L.map (·.1)) (by rw [ho];simp [PZ hf.t o,hw])
    rwa [ho] at this
   ·cases e
  | true =>
   have hwt:Region.wanted o (yielded ops a.tmps)=true:=by rw [PZ hf.t o,hw]
   simp only [hw,cond_true] at e;cases hop:A0 P fr.t h (base+i) o with
   | none=>rw [hop] at e;cases e
   | some r =>
    have hsay:=We s hf.t hop;rw [hop] at e;have hsem:(∀ d,r ≠ .dfr d)->o.semAt b.roundOf a.eval=execOp a.eval o:=λhr=>NI (.inr λc hc=>let ⟨d,hd⟩:=Te hc hop;hr d hd);cases r with
    | val v h1 =>
     obtain ⟨M1,μ1,w1,x,hrun,s1,g1,hv⟩:=hsay;simp only at e;split at e
     ·rename_i fr1 Ad;exact go e s1 g1 ((hf.mono g1.m g1.u).put hv Ad) (.refl _) (.one (Rs ho hwt (by rw [hsem (by intro d h;cases h)];exact hrun)))
     ·cases e
    | skip h1 =>
     obtain ⟨M1,μ1,w1,hrun,s1,g1⟩:=hsay;simp only at e;split at e
     ·rename_i fr1 Ad;exact go e s1 g1 ((hf.mono g1.m g1.u).put (Jz _ _) Ad) (.refl _) (.one (Td ho hwt (by rw [hsem (by intro d h;cases h)];exact hrun)))
     ·cases e
    | dfr d =>
     obtain ⟨D,hrun,hd⟩:=hsay;simp only at e;split at e
     ·rename_i hro;split at e
      ·rename_i fr1 Ad;have hbr:b.roundOf=none:=by have:=hf.r;unfold PY at this;rw [hro] at this;exact this
       have hf2:FrRep M μ { fr with ds:=d::fr.ds } b { a with defers:=D::a.defers } cs:=⟨hf.t,⟨hd,hf.d⟩,hf.u,hf.r⟩
       exact go e s (.refl _ _ _) (hf2.put (Jz _ _) Ad) (.refl _) (.one (Rt ho hwt (by rw [NI (.inl hbr)];exact hrun)))
      ·cases e
     ·cases e
    | call f args =>
     obtain ⟨vs,hrun,hargs,fn,c,hfn,hbody⟩:=hsay;have henter:=Ru (b:=b) (a:=a) (k:=k) (cs:=cs) (rest:=L.map (·.1)) ho hwt (by rw [hsem (by intro d h;cases h)];exact hrun);simp only at e;split at e
     ·rename_i v h1 hcall;obtain ⟨M1,μ1,w1,fr0,s1,g1,st,hfn0,x,hx,hl⟩:=Pa R hcall s hargs (b.atR a (.inRegion ops (i::L.map (·.1))::k)::cs);split at e
      ·rename_i fr1 Ad;refine go e s1 g1 ((hf.mono g1.m g1.u).put hx Ad) (.refl _) (.head henter (st.trans (.one ?_)));rw [<- IZ ho];exact step_leave_returned hl
      ·cases e
     ·rename_i e0 h1 hcall;obtain ⟨M1,μ1,w1,fr0,s1,g1,st,hfn0,chain,hx,hl⟩:=Pa R hcall s hargs (b.atR a (.inRegion ops (i::L.map (·.1))::k)::cs);cases e;cases chain with
      | nil=>exact hx.elim
      | cons p ps =>
       obtain ⟨c1,c2,c3,c4⟩:=hx;cases ps with
       | cons _ _=>exact c4.elim
       | nil =>
        obtain ⟨pv,prc,pge⟩:=p;simp only at c1 c2 c3;subst c2;subst c3;refine ⟨M1,μ1,w1,a,cs,s1,g1,hf.mono g1.m g1.u,.refl _,.inRegion ops (i::L.map (·.1))::k,pv,c1,.head henter (st.trans (.one ?_))⟩;rw [<- Frame.raise_atR];exact step_leave_panicked hl
     ·cases e
    | yield l args =>
     obtain ⟨vs,rb,hrb,hrun,hargs⟩:=hsay;simp only at e;split at e
     ·rename_i v u1 h1 hcall;obtain ⟨M1,μ1,w1,x,v',fn,tmps,asg,body,hout,hy,s1,g1,hx,st⟩:=R.yld hcall s hargs hrb (b.atR a (.inRegion ops (i::L.map (·.1))::k)) cs;cases hout;split at e
      ·rename_i fr1 Ad;refine go e s1 g1 ((hf.mono g1.m g1.u).put hx Ad) (.refl _) (.head (Rv ho hwt (by rw [hsem (by intro d h;cases h),hrun];exact hy)) ?_);rw [<- IZ ho];exact st
      ·cases e
     ·cases e
    | pan v =>
     obtain ⟨x,hrun,hx⟩:=hsay;simp only at e;cases e;exact ⟨M,μ,w,a,cs,s,.refl _ _ _,hf,.refl _,_,x,hx,.one (Rw ho hwt (by rw [hsem (by intro d h;cases h)];exact hrun))⟩
    | rcv =>
     have hrun:(execOp a.eval o).run P w = .ok .recover w:=hsay;simp only at e;split at e
     ·cases e
     ·rename_i hro;have hbr:b.roundOf=none:=by have:=hf.r;unfold PY at this;rw [hro] at this;exact this
      have hstep:=O9 (b:=b) (a:=a) (k:=k) (cs:=cs) (rest:=L.map (·.1)) ho hwt hbr (by rw [hsem (by intro d h;cases h)];exact hrun)
      have hnone:tryRecover (b.atR a (.inRegion ops (i::L.map (·.1))::k)) cs=none -> ∀ {fr1:Fr},fr.put o.dst .nili=some fr1->BW P sh rec base ops.toList L fr1 h=some (ex,fr',h') ->
        Ran P M μ w (lone (b.atR a (.inRegion ops (((i,o)::L).map (·.1))::k)) cs w) b k cs ex fr' h':=by
       intro ht fr1 Ad e;rw [ht] at hstep;exact go e s (.refl _ _ _) (hf.put (.nili _) Ad) (.refl _) (.one hstep)
      split at e
      ·rename_i v older hup;split at e
       ·rename_i fr1 Ad;have hu:=hf.u;rw [hup] at hu;obtain ⟨hkd,c,tl,rfl,chain,hm,hch⟩:=hu;cases chain with
        | nil=>exact hch.elim
        | cons p ps =>
         obtain ⟨c1,c2,c3,c4⟩:=hch;obtain ⟨pv,prc,pge⟩:=p;simp only at c1 c2 c3;subst c2;subst c3
         have ht:tryRecover (b.atR a (.inRegion ops (i::L.map (·.1))::k)) (c::tl)=some (pv,{ c with mode:=.panicking ({ v:=pv,recovered:=true }::ps) }::tl):=by
          rw [tryRecover_deferred (show (b.atR a (.inRegion ops (i::L.map (·.1))::k)).kind = .deferred from hkd)];simp only [recoverD,hm]
         rw [ht] at hstep
         have hf2:FrRep M μ { fr with up:=some (.pan ({ v,recovered:=true }::older)) } b a ({ c with mode:=.panicking ({ v:=pv,recovered:=true }::ps) }::tl) :=
          ⟨hf.t,hf.d,⟨hkd,_,tl,rfl,_,rfl,c1,rfl,rfl,c4⟩,hf.r⟩
         exact go e s (.refl _ _ _) (hf2.put c1 Ad) (.inr ⟨hkd,c,tl,_,rfl,rfl⟩) (.one hstep)
       ·cases e
      ·rename_i hnup;split at e
       ·rename_i fr1 Ad;refine hnone ?_ Ad e;have hu:=hf.u;cases hup:fr.up with
        | none =>
         rw [hup] at hu;have hkn:b.kind = .normal:=hu;unfold tryRecover;simp only [Frame.atR,hkn]
        | some u =>
         rw [hup] at hu;obtain ⟨hkd,c,tl,rfl,hm⟩:=hu;rw [tryRecover_deferred (show (b.atR a (.inRegion ops (i::L.map (·.1))::k)).kind = .deferred from hkd)];cases u with
         | ret=>have hm:c.mode = .returning:=hm;simp only [recoverD,hm]
         | pan ch =>
          obtain ⟨chain,hm,hch⟩:=hm;cases ch with
          | nil=>cases chain with
           | nil=>simp only [recoverD,hm]
           | cons _ _=>exact hch.elim
          | cons e0 older =>
           cases chain with
           | nil=>exact hch.elim
           | cons p ps =>
            obtain ⟨c1,c2,c3,c4⟩:=hch;obtain ⟨ev,erc⟩:=e0;cases erc with
            | false=>exact absurd hup (hnup ev older)
            | true =>
             obtain ⟨pv,prc,pge⟩:=p;simp only at c2;subst c2;simp only [recoverD,hm]
       ·cases e
end
end Go.Proofs.YthpkjfabdccpdaaGreat.Pi
