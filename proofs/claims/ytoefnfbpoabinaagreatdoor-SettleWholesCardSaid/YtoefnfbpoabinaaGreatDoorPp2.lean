/- A part of the evaluator of the model's code for any program, and of the proof that it is sound. No condition. -/
import Derived.Test.YtoefnfbpoabinaaGreatDoorPp1
import Derived.RowKit3
import Derived.ChangeSame
import Derived.WalkKit
import Derived.Lib.Bytealg
import Derived.Shelf.SlSortCmp.WholeK
set_option linter.all false
open List renaming append_assoc->aV, append_of_mem->cF, getElem?_cons_zero->bg, getElem?_drop->aJ, getElem?_eq_getElem->ai, getElem?_eq_some_iff->al, getElem?_map->aX, getElem?_take_of_lt->bf, getElem_mem->bL, length->cy, length_cons->bB, map_cons->cw, map_map->dh, mem_append->am, mem_append_left->ax, mem_cons->ak, mem_cons_of_mem->aC, mem_cons_self->bS, mem_map->bj, mem_reverse->cQ, mem_singleton->aq, nodup_cons->bF, range->bh
open Nat renaming add_mul->aO, add_zero->aN, beq->aa, ble->ad, blt->ae, blt_eq->bJ, eq_of_beq_eq_true->aj, eq_zero_or_pos->bK, le_of_ble_eq_true->ao, le_refl->ab, lor->bX, lt_or_ge->dj, lt_trichotomy->cR, mod_lt->cN, mul_comm->bO, mul_le_mul_right->az, strongRecOn->db, zero_add->aS, zero_le->ba
open Array renaming all_eq_true_iff_forall_mem->bT, getD_eq_getD_getElem?->aI, getElem?_append_left->cc, getElem?_eq_getElem->af, getElem?_eq_some_iff->cd, getElem?_toList->cq, mem_toList_iff->cv, replicate->bx
open Option renaming getD_some->aD, map_some->ay
open Bool renaming and_eq_true->ac, cond_eq_ite->aA, false_or->dc, not_eq_false'->au, not_eq_true'->aZ, not_true->ap, or_eq_false_iff->ah, or_eq_true->bE
open UInt8 renaming not_lt->dg
open Option renaming some->zo, none->zn
open Bool renaming true->zt, false->zf
namespace Go.Proofs.YtoefnfbpoabinaaGreatDoor.Pi
section
variable[Gl]
def FJ(P:Program)(rec:GT):Prop:=∀ {ops:Array Oper} {base:Nat} {fr c:Fr} {h h':Hp},drawn P rec base ops.toList fr h=zo (c,h')->(P.follows .mixedOrders || !Region.departs ops)=zt ->
 ∀ {M:Ak} {μ:Mu} {w:World} {b:Frame} {a:Act} {cs:List Frame} (k:List Item) (t:Nat),Sim M μ h w->FrRep M μ fr b a cs->Ran P M μ w (lone (b.atR a (.inRegion ops (Region.schedule (P.follows .mixedOrders) ops t)::k)) cs w) b k cs .normal c h'
section
variable{P:Program}{sh:FuncId->Bool}{rec:GT}
theorem Nz{α:Type}:∀ (l:List α) (n:Nat),(Hw n l).map (·.1)=(bh l.length).map (n+·)
 |[],n=>rfl
 |a::l,n=>by
  simp only[Hw,cw,bB,List.range_succ_eq_map,dh];rw[Nz l (n+1)];simp only[aN,List.cons.injEq,true_and];apply List.map_congr_left
  grind
theorem N4{α:Type}:∀ (l:List α) (n:Nat),∀ x∈Hw n l,n<=x.1/\l[x.1-n]?=zo x.2
 |[],n,x,hx=>by simp[Hw]at hx
 |a::l,n,x,hx=>by
  simp only[Hw,ak]at hx;rcases hx with rfl|hx
  ·simp
  ·obtain⟨b,c⟩:=N4 l (n+1) x hx
   grind
section
variable{M:Ak}{μ:Mu}{h h':Hp}{w:World}{b:Frame}{a:Act}{cs:List Frame}{k:List Item}{fr fr':Fr}{ex:Ex}{m:Machine}
theorem Ran.step{a:Machine}(hs:step P m=.next a)(c:Ran P M μ w a b k cs ex fr' h'):Ran P M μ w m b k cs ex fr' h':=
 let ⟨M',μ',w',a',cs',q1,q2,q3,q4,q5⟩:=c
 ⟨M',μ',w',a',cs',q1,q2,q3,q4,.of_steps (.one hs) q5⟩
theorem Ran.then{fr1:Fr}{g:Hp}{h:List Item}(p:Ran P M μ w m b h cs .normal fr1 g)
  (o:∀ {c μ1 d e a},Sim c μ1 g d->FrRep c μ1 fr1 b e a->Ran P c μ1 d (lone (b.atR e h) a d) b k a ex fr' h'):Ran P M μ w m b k cs ex fr' h':=by
 obtain⟨c,μ1,d,e,a,s1,n,l,y,x⟩:=p;obtain⟨i,μ',w',j,f,q,r,s,t,u⟩:=o s1 l;exact⟨i,μ',w',j,f,q,n.trans r,s,y.trans t,.of_steps x u⟩
theorem Ran.pass{x:Item}(q:x.plain=zt)(i:ex ≠ .normal)(j:Ran P M μ w m b (x::k) cs ex fr' h'):Ran P M μ w m b k cs ex fr' h':=by
 obtain⟨g,μ',w',h,c,l,n,o,p,a⟩:=j;refine⟨g,μ',w',h,c,l,n,o,p,?_⟩;cases ex with
 |normal=>simp_all
 |exit id=>obtain⟨f,d,e⟩:=a;exact⟨f,by rw[d];cases x<;>simp_all[exitTo,Item.plain],e⟩
 |goto id=>obtain⟨f,d,e⟩:=a;exact⟨f,by rw[d];cases x<;>simp_all[gotoIn,Item.plain],e⟩
 |ret=>exact a
 |panic v=>exact a
end
theorem Cz{r:Nat}{l:Loop}{w:World}(a:w.heap[r]?=zo (.loop l)):(Instr.getLoop r).run P w=.ok l w:=by
 simp[Instr.getLoop,getObj,Sem.run,a]
theorem KT(R:RecOK P rec)(D:FJ P rec):∀ (n:Nat),
  (∀ {c:Code} {fr C:Fr} {h h':Hp} {ex:Ex},AY P sh rec n c fr h=zo (ex,C,h') ->
   ∀ {M:Ak} {μ:Mu} {w:World} {b:Frame} {a:Act} {cs:List Frame} (k:List Item),Sim M μ h w->FrRep M μ fr b a cs->Ran P M μ w (lone (b.atR a (.code c::k)) cs w) b k cs ex C h') /\
  (∀ {c:Code} {fr C:Fr} {h h':Hp} {ex:Ex},AY P sh rec n (.loop c) fr h=zo (ex,C,h') ->
   ∀ {M:Ak} {μ:Mu} {w:World} {b:Frame} {a:Act} {cs:List Frame} (k:List Item),Sim M μ h w->FrRep M μ fr b a cs->Ran P M μ w (lone (b.atR a (.inLoop c::k)) cs w) b k cs ex C h')
 |0=>⟨λe=>by simp[AY]at e,λe=>by simp[AY]at e⟩
 |n+1=>by
  obtain⟨L,ihB⟩:=KT R D n
  have G:∀ {c:Code} {fr C:Fr} {h h':Hp} {ex:Ex},AY P sh rec (n+1) (.loop c) fr h=zo (ex,C,h') ->
    ∀ {M:Ak} {μ:Mu} {w:World} {b:Frame} {a:Act} {cs:List Frame} (k:List Item),Sim M μ h w->FrRep M μ fr b a cs->Ran P M μ w (lone (b.atR a (.code c :: .inLoop c::k)) cs w) b k cs ex C h':=by
   intro c fr C h h' ex e M μ w b a cs k s f;simp only[AY]at e;cases hc:AY P sh rec n c fr h with
   |none=>simp_all
   |some r=>
    obtain⟨I,fr1,h1⟩:=r;rw[hc]at e;have B:=L hc (.inLoop c::k) s f;cases I with
    |normal=>exact B.then λs1 f1=>ihB e k s1 f1
    |exit id=>cases e;exact B.pass rfl (by simp_all)
    |goto id=>cases e;exact B.pass rfl (by simp_all)
    |ret=>cases e;exact B.pass rfl (by simp_all)
    |panic v=>cases e;exact B.pass rfl (by simp_all)
  refine⟨?_,λe M μ w b a cs k s f=>(G e k s f).step stepR_inLoop⟩;intro c fr C h h' ex e M μ w b a cs k s f;cases c with
  |skip=>simp only[AY]at e;cases e;exact⟨M,μ,w,a,cs,s,.refl _ _ _,f,.refl _,.one stepR_skip⟩
  |label l=>simp only[AY]at e;cases e;exact⟨M,μ,w,a,cs,s,.refl _ _ _,f,.refl _,.one stepR_label⟩
  |refuse _=>simp[AY]at e
  |exit id=>simp only[AY]at e;cases e;exact⟨M,μ,w,a,cs,s,.refl _ _ _,f,.refl _,k,rfl,.refl _ _⟩
  |goto id=>simp only[AY]at e;cases e;exact⟨M,μ,w,a,cs,s,.refl _ _ _,f,.refl _,k,rfl,.refl _ _⟩
  |ret=>simp only[AY]at e;cases e;exact⟨M,μ,w,a,cs,s,.refl _ _ _,f,.refl _,k,.refl _ _⟩
  |seq x y=>
   simp only[AY]at e;refine Ran.step stepR_seq ?_;cases hc:AY P sh rec n x fr h with
   |none=>simp_all
   |some r=>
    obtain⟨I,fr1,h1⟩:=r;rw[hc]at e;have B:=L hc (.code y::k) s f;cases I with
    |normal=>exact B.then λs1 f1=>L e k s1 f1
    |exit id=>cases e;exact B.pass rfl (by simp_all)
    |goto id=>cases e;exact B.pass rfl (by simp_all)
    |ret=>cases e;exact B.pass rfl (by simp_all)
    |panic v=>cases e;exact B.pass rfl (by simp_all)
  |cond x y z=>
   simp only[AY]at e;split at e
   ·rename_i hx;have hv:=CY s.glb f.t hx;generalize W:a.eval x=v at hv;cases hv;exact(L e k s f).step (by rw[stepR_cond W];rfl)
   ·rename_i hx;have hv:=CY s.glb f.t hx;generalize W:a.eval x=v at hv;cases hv;exact(L e k s f).step (by rw[stepR_cond W];rfl)
   ·cases e
  |block id x=>
   simp only[AY]at e;refine Ran.step stepR_block ?_;cases hc:AY P sh rec n x fr h with
   |none=>simp_all
   |some r=>
    obtain⟨I,fr1,h1⟩:=r;rw[hc]at e;have B:=L hc (.inBlock id::k) s f;cases I with
    |normal=>cases e;exact B.then λs1 f1=>⟨_,_,_,_,_,s1,.refl _ _ _,f1,.refl _,.one stepR_inBlock⟩
    |exit j=>
     obtain⟨M',μ',w',a',F,q1,q2,q3,q4,k1,q5,q6⟩:=B;simp only at e;cases hj:aa j id with
     |true=>
      simp only[hj,zb]at e;cases e;have:=aj hj;subst this;exact⟨M',μ',w',a',F,q1,q2,q3,q4,q6.trans (.one (stepR_exit (by rw[q5];simp[exitTo])))⟩
     |false=>
      simp only[hj,zj]at e;cases e;refine⟨M',μ',w',a',F,q1,q2,q3,q4,k1,?_,q6⟩;rw[q5]
      have:(id == j)=zf:=by
       cases hij:id == j<;>simp_all
      simp[exitTo,this]
    |goto j=>
     cases e;obtain⟨M',μ',w',a',F,q1,q2,q3,q4,k1,q5,q6⟩:=B;exact⟨M',μ',w',a',F,q1,q2,q3,q4,k1,by rw[q5];rfl,q6⟩
    |ret=>cases e;exact B
    |panic v=>cases e;exact B
  |loop x=>exact(G e k s f).step stepR_loop
  |scope x=>
   simp only[AY]at e;refine Ran.step MV ?_;cases hc:AY P sh rec n x fr h with
   |none=>simp_all
   |some r=>
    obtain⟨I,fr1,h1⟩:=r;rw[hc]at e;have B:=L hc (.inScope x::k) s f;cases I with
    |normal=>cases e;exact B.then λs1 f1=>⟨_,_,_,_,_,s1,.refl _ _ _,f1,.refl _,.one JR⟩
    |exit j=>
     cases e;obtain⟨M',μ',w',a',F,q1,q2,q3,q4,k1,q5,q6⟩:=B;exact⟨M',μ',w',a',F,q1,q2,q3,q4,k1,by rw[q5];rfl,q6⟩
    |goto j=>cases e
    |ret=>cases e;exact B
    |panic v=>cases e;exact B
  |region id ops draw=>
   simp only[AY]at e;have s0:Sim M μ { h with nx:=h.nx+ops.size } w:=s.nx λ_=>rfl
   cases draw with
   |false=>
    simp only[zj]at e;refine Ran.step stepR_region ?_
    have:=Hi R _ e (λx hx=>by
     obtain⟨h1,h2⟩:=N4 _ _ x hx
     grind) k s0 f
    simp_all[Nz]
   |true=>
    simp only[zb]at e;replace e:=Ad e;obtain⟨hm,e⟩:=e;split at e
    ·rename_i fr1 h1 hd;cases e;refine Ran.step stepR_region_draw ?_;have s1:Sim M μ { h with nx:=h.nx+ops.size } { w with drawn:=w.drawn+1 }:=s0.drawn rfl
     obtain⟨M',μ',w',a',F,q1,q2,q3,q4,q5⟩:=D hd hm k (w.tape w.drawn (.order b.fn id)) s1 f;exact⟨M',μ',w',a',F,q1,(Grow.drawn (w:=w) (w':={ w with drawn:=w.drawn+1 }) rfl rfl rfl ⟨rfl,Nat.le_succ _⟩).trans q2,q3,q4,q5⟩
    ·cases e
  |rangeFunc g ps asg body=>
   simp only[AY]at e;split at e
   ·rename_i fn va0 vb0 hg;have hv:=CY s.glb f.t hg;generalize W:a.eval g=v at hv;cases hv with
    |fn _ _ _ _ va vb hf hla hlb h2 h3=>
    split at e
    ·rename_i d mark hd K;split at e
     ·rename_i hl hnewl;split at e
      ·rename_i fid args hinv;split at e
       ·rename_i rv u1 hc hcall;split at e
        ·rename_i st pend nt t pl as bd dd hgl;replace e:=Bm e;obtain⟨hst,e⟩:=e;have hst:st≠1:=by intro h;simp_all
         split at e
         ·rename_i hs hset
          have enter:∃ (w1:World) (μ1:Mu) (A:Bk) (mk:List Deferred) (lid:Nat),(Instr.enterLoop b.fn a.tmps ps asg body b.roundOf).run P w=.ok (A.b,mk) w1/\Sim M μ1 hl w1/\Grow M μ w M μ1 w1/\lid=h.nx+1/\μ1 lid=zo A/\DefsRep M μ1 mark mk:=by
           obtain⟨N,hgs,_⟩:=Hp.get_new hnewl;split at K
           ·rename_i hro;have J:b.roundOf=zn:=by have:=f.r;simp_all[JT]
            split at K
            ·rename_i hd1 hnewd;cases K;obtain⟨dget,dgs,_⟩:=Hp.get_new hnewd
             let rd:Bk:=⟨w.heap.size,0,0,0⟩
             obtain⟨s1,μd⟩:=s.fresh (w':=w.alloc (.deferred (zo []))) (r:=rd) (o:=.deferred (zo [])) dget dgs rfl rfl ⟨zo [],rfl,trivial⟩;have g1:=Grow.newBlk (M:=M) (μ:=μ) (w:=w) (w':=w.alloc (.deferred (zo []))) (r:=rd) (o:=.deferred (zo [])) μd rfl rfl rfl rfl ⟨rfl,ab _⟩
             let O:Loop:={ state:=.ready,pending:=zn,fn:=b.fn,tmps:=a.tmps,params:=ps,assign:=asg,body:=body,defers:=w.heap.size }
             let A:Bk:=⟨(w.alloc (.deferred (zo []))).heap.size,0,0,0⟩
             have μl0:Dc μ h.nx rd (h.nx+1)=zn:=by
              cases hm:Dc μ h.nx rd (h.nx+1)with
              |none=>rfl
              |some x=>exact absurd N (s1.use _ x hm).1
             have E:=Dw (r:=A) μl0
             obtain⟨s2,μl⟩:=s1.fresh (w':=(w.alloc (.deferred (zo []))).alloc (.loop O)) (r:=A) (o:=.loop O) N hgs rfl rfl
              ⟨O,rd,rfl,rfl,by decide,rfl,f.t.mono (.refl _) (g1.u.trans E),by simp[O],rfl,rfl,E _ _ (by simp[Dc]),rfl⟩
             have U:=Grow.newBlk (M:=M) (w:=w.alloc (.deferred (zo []))) (w':=(w.alloc (.deferred (zo []))).alloc (.loop O)) (r:=A) (o:=.loop O) μl rfl rfl rfl rfl ⟨rfl,ab _⟩;refine⟨_,_,A,[{ target:=.collected w.heap.size,args:=#[] }],_,?_,s2,g1.trans U,rfl,by simp[Dc],⟨⟨rd,E _ _ (by simp[Dc]),rfl,rfl⟩,trivial⟩⟩;rw[J];rfl
            ·cases K
           ·rename_i l0 hro;have J:=f.r;unfold JT at J;rw[hro]at J;obtain⟨rb,hrb,J⟩:=J;split at K
            ·rename_i st0 pend0 nt0 t0 ps0 asg0 body0 d0 hb0;cases K;obtain⟨r',Y,Z,rd,b1,b2,b3,b4,b5,b6,b7,b8,b9,b10⟩:=s.blk l0 _ hb0;rw[hrb]at Y;cases Y
             let O:Loop:={ state:=.ready,pending:=zn,fn:=b.fn,tmps:=a.tmps,params:=ps,assign:=asg,body:=body,defers:=rd.b }
             let A:Bk:=⟨w.heap.size,0,0,0⟩
             have μl0:μ (h.nx+1)=zn:=by
              cases hm:μ (h.nx+1)with
              |none=>rfl
              |some x=>exact absurd N (s.use _ x hm).1
             have E:=Dw (r:=A) μl0
             obtain⟨s2,μl⟩:=s.fresh (w':=w.alloc (.loop O)) (r:=A) (o:=.loop O) N hgs rfl rfl
              ⟨O,rd,rfl,rfl,by decide,rfl,f.t.mono (.refl _) E,by simp[O],rfl,rfl,E _ _ b9,rfl⟩
             have U:=Grow.newBlk (M:=M) (w:=w) (w':=w.alloc (.loop O)) (r:=A) (o:=.loop O) μl rfl rfl rfl rfl ⟨rfl,ab _⟩;refine⟨_,_,A,[],_,?_,s2,U,rfl,by simp[Dc],trivial⟩;rw[J];simp[Instr.enterLoop,O,A,Cz b1,b10]
            ·cases K
          obtain⟨w1,μ1,A,mk,lid,hent,s1,g1,rfl,hrl,hdm⟩:=enter;have hyl:Rep M μ1 (.yl (h.nx+1)) (.func (.yield A.b) #[] #[]):=.yl _ _ A hrl
          obtain⟨k1,g0,as0,k2⟩:=FX (P:=P) (w:=w1) (vf:=va.toList) (vc:=vb.toList) (va:=[.func (.yield A.b) #[] #[]])
           ⟨by omega,λi c v p q=>(h2 i c v p (by grind)).mono (.refl _) g1.u⟩ ⟨by omega,λi c v p q=>(h3 i c v p (by grind)).mono (.refl _) g1.u⟩ (RepL.cons hyl (RepL.nil _ _)) hinv
          obtain⟨vs,hrun,hargs,fn1,c1,hfn1,hbody1⟩:=k1
          have hres:(resolve a.eval (rangeCall g A.b) 0).run P w1=.ok { target:=.fn fn vb,args:=va ++ #[.func (.yield A.b) #[] #[]] } w1:=by
           show Sem.run P (Deferred.ofValue (a.eval g) (#[Operand.const (.func (.yield A.b) #[] #[])].map a.eval)) w1=_;have hm1 : #[Operand.const (.func (.yield A.b) #[] #[])].map a.eval = #[Value.func (.yield A.b) #[] #[]]:=by simp[Act.eval]
           rw[W,hm1];rfl
          have hcat:(va.toList++[Value.func (.yield A.b) #[] #[]]).toArray=va ++ #[.func (.yield A.b) #[] #[]]:=by apply Array.ext';simp
          have hstep:=stepR_rangeFunc (P:=P) (b:=b) (a:=a) (k:=k) (cs:=cs) hent hres (by rw[hcat]at hrun;exact hrun);have s1n:Sim M μ1 { hl with nx:=h.nx+1+1 } w1:=s1.nx λ_=>rfl
          obtain⟨M2,μ2,w2,fr2,s2,U,st2,hfn2,x2,hx2,hl2⟩:=R.nrm hcall s1n hargs (b.atR { a with defers:=mk++a.defers } (.inRangeFunc A.b::k)::cs)
          obtain⟨r',Y,Z,rd,b1,b2,b3,b4,b5,b6,b7,b8,b9,b10⟩:=s2.blk _ _ hgl;rw[U.u _ _ hrl]at Y;cases Y;subst b4
          have hnb:(Z.state == LoopState.busy)=zf:=by
           rw[b2]
           match st,hst,b3 with
           |0,_,_=>rfl
           |2,_,_=>rfl
           |3,_,_=>rfl
          have hnb2:¬ ((Z.state == LoopState.busy)=zt):=by simp_all
          have so:=Ba (P:=P) (o':=.loop { Z with state:=.exhausted }) b1 (by simp_all)
          have hend:(Instr.endLoop A.b).run P w2=.ok Z.pending { w2 with heap:=w2.heap.setIfInBounds A.b (.loop { Z with state:=.exhausted }) }:=by
           simp_all[Instr.endLoop,Sem.run_bind,Cz,Result.andThen,zx]
          obtain⟨s3,g3⟩:=s2.object (o':=.loop { Z with state:=.exhausted }) hgl (U.u _ _ hrl) trivial hset b1 (by simp_all)
           ⟨_,rd,rfl,rfl,by decide,rfl,b5,b6,b7,b8,b9,b10⟩
          have f3:FrRep M2 μ2 { fr with ds:=mark++fr.ds } b { a with defers:=mk++a.defers } cs:=by
           have f2:=f.mono (g1.m.trans U.m) (g1.u.trans U.u);refine⟨f2.t,?_,f2.u,f2.r⟩;have hdm2:=hdm.mono U.m U.u
           have app:∀ {x:List DF} {y:List Deferred},DefsRep M2 μ2 x y->DefsRep M2 μ2 (x++fr.ds) (y++a.defers):=by
            intro x
            induction x with
            |nil=>intro y hy;cases y with
             |nil=>exact f2.d
             |cons _ _=>exact hy.elim
            |cons d0 x ih=>intro y hy;cases y with
             |nil=>exact hy.elim
             |cons _ _=>exact⟨hy.1,ih hy.2⟩
           grind
          have X:=(g1.trans U).trans g3
          have S:Steps P (lone (b.atR a (.code (.rangeFunc g ps asg body)::k)) cs w) (lone (b.atR { a with defers:=mk++a.defers } ((Z.pending.map Item.code).toList++k)) cs { w2 with heap:=w2.heap.setIfInBounds A.b (.loop { Z with state:=.exhausted }) }):=by
           refine .head hstep (st2.trans (.head ?_ (.one (stepR_endRangeFunc hend))));rw[<- finish_atR_inRangeFunc A.b x2];exact step_leave_returned hl2
          clear hend so g3;generalize ({ w2 with heap:=w2.heap.setIfInBounds A.b (.loop { Z with state:=.exhausted }) }:World)=w3 at s3 X S
          split at e<;>rename_i hpd<;>(try rw[hpd]at S)
          ·cases e;exact⟨M2,μ2,_,_,cs,s3,X,f3,.refl _,S⟩
          ·cases e;exact⟨M2,μ2,_,_,cs,s3,X,f3,.refl _,k,S⟩
          ·cases e;exact⟨M2,μ2,_,_,cs,s3,X,f3,.refl _,k,rfl,S⟩
          ·cases e;exact⟨M2,μ2,_,_,cs,s3,X,f3,.refl _,k,rfl,S⟩
          ·cases e
         ·cases e
        ·cases e
       ·cases e
      ·cases e
     ·cases e
    ·cases e
   ·cases e
end
end
section
variable[Gl]
section
variable{P:Program}{sh:FuncId->Bool}{rec:GT}{M:Ak}{μ:Mu}{h:Hp}{w:World}
theorem R3(s:Sim M μ h w){t:T PV}{nt:Nat}{b:Array Value}(d:TmpsRep M μ t nt b){r:ResultVar}{p:PV}(e:Qo P h t r=zo p) :
  ∃ x,(match r with
   |.tmp t=>pure (b.getD t undef)
   |.cell a t=>do loadVar t (<- asAddr (b.getD a undef)):Sem Value).run P w=.ok x w/\Rep M μ p x:=by
 unfold Qo at e;split at e
 ·rename_i k;cases e;exact⟨_,rfl,d.2.2 k⟩
 ·rename_i a ty;split at e
  ·rename_i j off g;split at e
   ·rename_i cs fz f;have c:=d.2.2 a;rw[g]at c;simp only[aD]at c;obtain⟨r,m,hc⟩:=Jv s (off:=off) f;obtain⟨v,i,l⟩:=EZ (P:=P) hc e;generalize n:b.getD a undef=x at c;cases c with
    |ptr _ _ _ r' hr'=>
     simp_all[asAddr]
   ·cases e
  ·cases e
theorem Fh(s:Sim M μ h w){t:T PV}{nt:Nat}{b:Array Value}(f:TmpsRep M μ t nt b):∀ {l:List ResultVar} {c:List PV},JO P h t l=zo c ->
  ∃ xs:List Value,(l.mapM (fun | .tmp t=>pure (b.getD t undef) | .cell a t=>do loadVar t (<- asAddr (b.getD a undef)):ResultVar->Sem Value)).run P w=.ok xs w/\RepL M μ c xs
 |[],c,e=>by simp[JO]at e;subst e;exact⟨[],by simp,RepL.nil _ _⟩
 |r::l,c,e=>by
  unfold JO at e;split at e
  ·rename_i p k j d;cases e;obtain⟨x,m,g⟩:=R3 s f j;obtain⟨xs,n,i⟩:=Fh s f d;refine⟨x::xs,?_,RepL.cons g i⟩<;>simp_all
  ·cases e
theorem GR(s:Sim M μ h w){j:Func}{t:T PV}{nt:Nat}{d:Array Value}(q:TmpsRep M μ t nt d){v:PV}(e:results P j h t=zo v):∃ x,(Go.results j d).run P w=.ok x w/\Rep M μ v x:=by
 unfold results at e
 have key:∀ {l:List PV},JO P h t j.results.toList=zo l -> ∃ xs:Array Value,(j.results.mapM (fun | .tmp t=>pure (d.getD t undef) | .cell a t=>do loadVar t (<- asAddr (d.getD a undef)):ResultVar->Sem Value)).run P w=.ok xs w/\RepL M μ l xs.toList:=by
  intro l f;obtain⟨xs,m,k⟩:=Fh s q f
  simp_all[Array.mapM_eq_mapM_toList,Sem.run_map]
 have g:(Go.results j d).run P w=((j.results.mapM (fun | .tmp t=>pure (d.getD t undef) | .cell a t=>do loadVar t (<- asAddr (d.getD a undef)):ResultVar->Sem Value)) >>= λvs=>(pure (if h:vs.size=1 then vs[0]else .tuple vs):Sem Value)).run P w:=rfl
 rw[g];split at e
 ·rename_i z f;cases e;obtain⟨xs,m,k⟩:=key f;obtain⟨x,y,u⟩:=Hl k rfl;have r:xs = #[x]:=by grind
  simp_all
 ·rename_i l n f;cases e;obtain⟨xs,m,k⟩:=key f
  have o:xs.size≠1:=by
   intro h;have:l.length=1:=by rw[k.1];omega
   match l,this with
   |[p],_=>simp_all
  refine⟨.tuple xs,by simp_all,.tup _ _ _ (by simpa using k.1) λi c v a b=>k.2 i c v a (by grind)⟩
 ·cases e
theorem Hj{u:UM}{m:FrameMode}(b:UMRep M μ u m):UMRep M μ (LH u) (settle m):=by
 cases u with
 |ret=>have b:m=.returning:=b;subst b;rfl
 |pan j=>
  obtain⟨a,rfl,hc⟩:=b;cases j with
  |nil=>cases a with
   |nil=>exact⟨[],rfl,trivial⟩
   |cons _ _=>exact hc.elim
  |cons e d=>
   cases a with
   |nil=>exact hc.elim
   |cons p n=>
    obtain⟨i,f,g,h⟩:=hc;obtain⟨ev,k⟩:=e;obtain⟨pv,t,s⟩:=p;simp only at f g;subst f;subst g;cases k with
    |false=>exact⟨_,rfl,i,rfl,rfl,h⟩
    |true=>
     have drop:∀ {l:List PE} {m:List PanicEntry},ChRep M μ l m->m.dropWhile (!·.goexit)=[]:=by
      intro l
      induction l with
      |nil=>intro m c;cases m with
       |nil=>rfl
       |cons _ _=>exact c.elim
      |cons _ _ ih=>intro m c;cases m with
       |nil=>rfl
       |cons q w=>
        obtain⟨_,_,o,r⟩:=c
        simp_all
     have:=drop h;show settle (.panicking ({ v:=pv,recovered:=zt }::n))=.returning;simp[settle,this]
theorem Ks{u:UM}{m:FrameMode}(b:UMRep M μ u m):m ≠ .run:=by
 cases u with
 |ret=>have b:m=.returning:=b;simp_all
 |pan c=>obtain⟨a,rfl,_⟩:=b;simp_all
theorem Pk{x y:List DF}{X Y:List Deferred}(a:DefsRep M μ x X)(b:DefsRep M μ y Y):DefsRep M μ (x++y) (X++Y):=by
 induction x generalizing X with
 |nil=>cases X with
  |nil=>exact b
  |cons _ _=>exact a.elim
 |cons d x c=>cases X with
  |nil=>exact a.elim
  |cons _ _=>exact⟨a.1,c a.2⟩
theorem Gu(R:RecOK P rec){fn:Func}{t:T PV}{nt:Nat}:∀ (n:Nat) {I:List DF} {u:UM} {h h':Hp} {o:Out},leave P rec fn n I u t h=zo (o,h') ->
  ∀ {M:Ak} {μ:Mu} {w:World} {fr:Frame} (cs:List Frame),Sim M μ h w->UMRep M μ u fr.mode->DefsRep M μ I fr.defers->TmpsRep M μ t nt fr.tmps->P.funcs[fr.fn]?=zo fn ->
  ∃ z μ' w' j,Sim z μ' h' w'/\Grow M μ w z μ' w'/\Steps P (lone fr cs w) (lone j cs w')/\j.fn=fr.fn/\j.kind=fr.kind/\RJ P z μ' j w' o
 |0,_,_,_,_,_,e,_,_,_,_,_,_,_,_,_,_=>by simp[leave]at e
 |n+1,I,u,h,h',o,e,M,μ,w,fr,cs,s,hu,hd,ht,hfn=>by
  unfold leave at e;split at e
  ·have K:fr.defers=[]:=by
    cases d:fr.defers with
    |nil=>rfl
    |cons _ _=>rw[d]at hd;exact hd.elim
   split at e
   ·split at e
    ·rename_i v hv;cases e;obtain⟨x,J,h2⟩:=GR s ht hv;exact⟨M,μ,w,fr,s,.refl _ _ _,.refl _ _,rfl,rfl,x,h2,hu,K,fn,hfn,J⟩
    ·cases e
   ·rename_i ch;cases e;obtain⟨E,J,h2⟩:=hu;exact⟨M,μ,w,fr,s,.refl _ _ _,.refl _ _,rfl,rfl,E,h2,J,K,fn,hfn⟩
  ·rename_i id I;cases d:fr.defers with
   |nil=>rw[d]at hd;exact hd.elim
   |cons D C=>
    rw[d]at hd;obtain⟨⟨r,hr,i,a⟩,y⟩:=hd;obtain⟨Dt,Da⟩:=D;simp only at i a;subst i;subst a;split at e
    ·rename_i l hb;split at e
     ·rename_i J O;obtain⟨r',L,dd,b1,b2⟩:=s.blk id _ hb;rw[hr]at L;cases L;cases dd with
      |none=>grind
      |some q=>
       have so:=Ba (P:=P) (o':=.deferred zn) b1 (by simp_all);obtain⟨s1,p⟩:=s.object (o':=.deferred zn) hb hr trivial O b1 (by simp_all) ⟨zn,rfl,trivial⟩
       have k:(Instr.takeDeferred r.b).run P w=.ok q { w with heap:=w.heap.setIfInBounds r.b (.deferred zn) }:=by
        simp_all[getObj,Sem.run,Instr.takeDeferred,Sem.run_bind,Result.andThen]
       have st:=LK (P:=P) (cs:=cs) (Ks hu) d k;obtain⟨z,μ',w',j,S,U,W,X,Y,Z⟩:=Gu R n e (fr:={ fr with defers:=q++C }) cs s1 hu (Pk b2 y) ht hfn
       exact⟨z,μ',w',j,S,p.trans U,.head st W,X,Y,Z⟩
     ·cases e
    ·cases e
  ·rename_i b ats ty args I;cases d:fr.defers with
   |nil=>rw[d]at hd;exact hd.elim
   |cons D C=>
    rw[d]at hd;obtain⟨⟨A,va,i,a,G⟩,y⟩:=hd;obtain⟨Dt,Da⟩:=D;simp only at i a;subst i;subst a;split at e
    ·split at e
     ·rename_i v J hbt;obtain⟨M1,μ1,w1,x,k,s1,p,hx⟩:=IW (ty:=ty) (cs:=A) s G hbt;have st:=HB (P:=P) (cs:=cs) (Ks hu) d k;obtain⟨z,μ',w',j,S,U,W,X,Y,Z⟩:=Gu R n e (fr:={ fr with defers:=C }) cs s1 (hu.mono p.m p.u) (y.mono p.m p.u) (ht.mono p.m p.u) hfn
      exact⟨z,μ',w',j,S,p.trans U,.head st W,X,Y,Z⟩
     ·cases e
    ·cases e
  ·rename_i f args I;cases d:fr.defers with
   |nil=>rw[d]at hd;exact hd.elim
   |cons D C=>
    rw[d]at hd;obtain⟨⟨fv,first,cap,vf,vc,va,hfe,hny,i,a,G,hrb,hrc⟩,y⟩:=hd
    obtain⟨Dt,Da⟩:=D;simp only at i a;subst i;subst a;subst hfe;cases fv with
    |func g=>
     simp only at e;cases B:CF P (.func g) first cap args with
     |none=>simp_all
     |some rr=>
      rw[B]at e;obtain⟨N,g',args',rfl⟩:=FX (P:=P) (w:=w) G hrb hrc B;obtain⟨vs,k,hvs,_⟩:=N;simp only at e;split at e
      ·rename_i rv u1 J F;obtain⟨M1,μ1,w1,frX,m1,u1',s1,p,st1,hup,hum,hkX,x,hx,hgo⟩:=R.dfr F s hvs { fr with defers:=C } cs hu
       cases hup;have st:=step_defer (P:=P) (cs:=cs) (Ks hu) d rfl k;have st2:=step_going_returned (c:={ { fr with defers:=C }with mode:=m1 }) (cs:=cs) hkX hgo
       obtain⟨z,μ',w',j,S,U,W,X,Y,Z⟩:=Gu R n e (fr:={ { { fr with defers:=C }with mode:=m1 }with mode:=settle m1 }) cs s1 (Hj hum) (y.mono p.m p.u) (ht.mono p.m p.u) hfn
       exact⟨z,μ',w',j,S,p.trans U,.head st (st1.trans (.head st2 W)),X,Y,Z⟩
      ·cases e
    |_=>cases e
theorem H3:∀ (l:List PV) (i:Nat) (t:T PV) (k:Nat),i + l.length <= 1048575 -> (Br i l t).get k=if i <= k /\ k < i + l.length then l[k - i]? else t.get k
  |[],i,t,k,_=>by simp[Br];omega
  |a :: l,i,t,k,hle=>by
    simp only[bB]at hle;unfold Br
    rw [H3 l (i + 1) _ k (by omega), T.get_put 20 t i a k (by have : (2 : Nat) ^ 20 - 1 = 1048575 := by decide
                                                              omega)]
    by_cases hk:k=i
    · subst hk;rw[zx (by omega),zy rfl,zy (by simp)];simp
    · by_cases h1:i + 1 <= k /\ k < i + 1 + l.length
      · rw[zy h1,zy (by simp;omega),show k - i=(k - (i + 1)) + 1 by omega];simp
      · rw[zx h1,zx hk,zx (by simp;omega)]
theorem Mz{args:List PV}{vs:List Value}(a:RepL M μ args vs){n:Nat}(e:args.length<=n)(b:n<1048575):TmpsRep M μ (Br 0 args .lf) n (vs.toArray++bx (n-vs.toArray.size) undef):=by
 have f:=a.1;refine⟨b,by simp;omega,λk=> ?_⟩;rw[H3 args 0 .lf k (by omega)];by_cases c:k<args.length
 ·rw[zy (by omega)];obtain⟨v,d,g⟩:=a.get (i:=k) (ai c)
  have:(vs.toArray++bx (n-vs.toArray.size) undef).getD k undef=v:=by
   rw[aI,cc (by simp;omega)];simp[d]
  grind
 ·rw[zx (by omega)]
  have:(vs.toArray++bx (n-vs.toArray.size) undef).getD k undef=undef:=by
   rw[aI,Array.getElem?_append_right (by simp;omega),Array.getElem?_replicate]
   grind
  rw[this];exact Fg M μ
theorem Ch{nt:Nat}:∀ {f:List Nat} {args:List PV} {vs:List Value} {t d:T PV} {b:Array Value},B1 nt f args t=zo d->RepL M μ args vs->TmpsRep M μ t nt b ->
  f.length=vs.length/\TmpsRep M μ d nt ((f.zip vs).foldl (λb (x:Nat×Value)=>b.setIfInBounds x.1 x.2) b)
 |[],[],vs,t,d,b,e,hr,ht=>by
  simp[B1]at e;subst e;rw[hr.nil_inv]
  simp_all
 |[],_::_,vs,t,d,b,e,hr,ht=>by simp[B1]at e
 |_::_,[],vs,t,d,b,e,hr,ht=>by simp[B1]at e
 |p::f,a::args,vs,t,d,b,e,hr,ht=>by
  unfold B1 at e;replace e:=Ad e;obtain⟨g,e⟩:=e;obtain⟨x,k,rfl,h,c⟩:=hr.cons_inv;obtain⟨i,j⟩:=Ch e c (MZ ht (by simpa using g) h)
  simp_all
end
end
section
variable[Gl]
section
variable{P:Program}{sh:FuncId->Bool}{M:Ak}{μ:Mu}{h:Hp}{w:World}
theorem L8(P:Program):RecOK P (λ_ _ _ _=>zn):=by constructor<;>(simp_all)
theorem FG{b:CallKind}{cs a:List Frame}(d:b=.normal)(h:Tail b cs a):a=cs:=by
 rcases h with h|⟨c,_⟩<;>simp_all
theorem Nm{rec:GT}(R:RecOK P rec)(D:FJ P rec){F:Nat}{f:FuncId}{fn:Func}{c:Code}{up:Option UM}{args:List PV}{h h':Hp}{o:Out}{r:Option UM}(X:P.funcs[f]?=zo fn)(G:fn.body=zo c)
  (e:(match (bif ad args.length fn.ntmps&&ae fn.ntmps 1048575 then AY P sh rec F c { t:=Br 0 args .lf,nt:=fn.ntmps,ds:=[],up,ro:=zn } h else zn)with
   |some (.normal,fr,h)|some (.ret,fr,h)=>(match leave P rec fn F fr.ds .ret fr.t h with
    |some (o,h)=>zo (o,fr.up,h)
    |none=>zn)
   |some (.panic e,fr,h)=>(match leave P rec fn F fr.ds (.pan [{ v:=e,recovered:=zf }]) fr.t h with
    |some (o,h)=>zo (o,fr.up,h)
    |none=>zn)
   |_=>zn)=zo (o,r,h')) {M:Ak} {μ:Mu} {w:World} {vs:List Value} (s:Sim M μ h w) (W:RepL M μ args vs) (j:CallKind) (cs:List Frame) (K:Nj M μ j cs up) :
  ∃ l μ' w' fr cs',Sim l μ' h' w'/\Grow M μ w l μ' w'/\Steps P (lone (Frame.enter P f vs.toArray j) cs w) (lone fr cs' w')/\Tail j cs cs'/\Nj l μ' j cs' r/\fr.fn=f/\fr.kind=j/\RJ P l μ' fr w' o:=by
 let b:Frame:={ fn:=f,tmps:=#[],todo:=[],defers:=[],mode:=.run,kind:=j }
 have p:Frame.enter P f vs.toArray j=b.atR { tmps:=vs.toArray++bx (fn.ntmps-vs.toArray.size) undef,defers:=[] } [.code c]:=by
  grind [Frame.enter,Frame.atR]
 have Gn:∀ {c:Code} {fr n:Fr} {h h':Hp} {ex:Ex},AY P sh rec F c fr h=zo (ex,n,h') ->
   ∀ {M:Ak} {μ:Mu} {w:World} {b:Frame} {a:Act} {cs:List Frame} (k:List Item),Sim M μ h w->FrRep M μ fr b a cs->Ran P M μ w (lone (b.atR a (.code c::k)) cs w) b k cs ex n h':=(KT R D F).1
 have E:∀ {ex:Ex} {fr:Fr} {B:Hp},AY P sh rec F c { t:=Br 0 args .lf,nt:=fn.ntmps,ds:=[],up,ro:=zn } h=zo (ex,fr,B)->args.length<=fn.ntmps->fn.ntmps<1048575 ->
   ∀ {u:UM},((ex=.normal\/ex=.ret)/\u=.ret \/ ∃ v,ex=.panic v/\u=.pan [{ v,recovered:=zf }])->(match leave P rec fn F fr.ds u fr.t B with
    |some (o,h)=>zo (o,fr.up,h)
    |none=>zn)=zo (o,r,h') ->
   ∃ l μ' w' fr cs',Sim l μ' h' w'/\Grow M μ w l μ' w'/\Steps P (lone (Frame.enter P f vs.toArray j) cs w) (lone fr cs' w')/\Tail j cs cs'/\Nj l μ' j cs' r/\fr.fn=f/\fr.kind=j/\RJ P l μ' fr w' o:=by
  intro ex fr B z I J u Y e
  have S:FrRep M μ { t:=Br 0 args .lf,nt:=fn.ntmps,ds:=[],up,ro:=zn } b { tmps:=vs.toArray++bx (fn.ntmps-vs.toArray.size) undef,defers:=[] } cs:=
   ⟨Mz W I J,trivial,K,rfl⟩
  obtain⟨O,μ1,w1,A,y,s1,U,C,t1,arr⟩:=Gn z (b:=b) [] s S;rw[<- p]at arr;split at e
  ·rename_i o1 h2 q;cases e
   have L:∃ i:Frame,Steps P (lone (Frame.enter P f vs.toArray j) cs w) (lone i y w1)/\i.fn=f/\i.kind=j/\i.defers=A.defers/\i.tmps=A.tmps/\UMRep O μ1 u i.mode:=by
    rcases Y with⟨rfl|rfl,rfl⟩|⟨v,rfl,rfl⟩
    ·exact⟨{ b.atR A []with mode:=.returning },Steps.trans arr (.one (stepR_end rfl)),rfl,rfl,rfl,rfl,rfl⟩
    ·obtain⟨k1,arr⟩:=arr;exact⟨{ b.atR A (.code .ret::k1)with mode:=.returning },Steps.trans arr (.one (stepR_ret rfl)),rfl,rfl,rfl,rfl,rfl⟩
    ·obtain⟨todo,x,Z,arr⟩:=arr;exact⟨{ b.atR A todo with mode:=.panicking [{ v:=x,recovered:=zf }] },arr,rfl,rfl,rfl,rfl,_,rfl,Z,rfl,rfl,trivial⟩
   obtain⟨i,st,m1,m2,m3,m4,m5⟩:=L;obtain⟨l,μ',w',n,q1,N,q3,q4,q5,q6⟩:=Gu R F q (fr:=i) y s1 m5 (by rw[m3];exact C.d) (by rw[m4];exact C.t) (by simp_all);refine⟨l,μ',w',n,y,q1,U.trans N,st.trans q3,t1,?_,by rw[q4,m1],by rw[q5,m2],q6⟩;exact(C.mono N.m N.u).u
  ·cases e
 cases g:(ad args.length fn.ntmps&&ae fn.ntmps 1048575)with
 |false=>simp_all
 |true=>
  rw[g]at e;simp only[zb]at e;simp only[ac,Nat.ble_eq,bJ]at g;split at e
  ·grind
  ·grind
  ·rename_i v fr B z;exact E z g.1 g.2 (.inr ⟨v,rfl,rfl⟩) e
  ·cases e
theorem FE(s:Sim M μ h w){l:Nat}{r:Bk}{a:Option Code}{o:Out}{i:Option UM}{h':Hp}(n:μ l=zo r)(e:BB h l a=zo (o,i,h')) :
  ∃ w',(Instr.endRound r.b a).run P w=.ok (.bool a.isNone) w'/\o=.ret (.bool a.isNone)/\Sim M μ h' w'/\Grow M μ w M μ w':=by
 unfold BB at e;split at e
 ·rename_i L q nt t I u k d m;split at e
  ·rename_i G f;cases e;obtain⟨J,c,p,rd,j,C,D,E,x,y,z,A,B,g⟩:=s.blk l _ m;rw[n]at c;cases c;have K:=Ba (P:=P) (o':=.loop { p with state:=if a.isNone then .ready else .done,pending:=a }) j (by simp_all)
   obtain⟨s1,F⟩:=s.object (o':=.loop { p with state:=if a.isNone then .ready else .done,pending:=a }) m n trivial f j (by simp_all)
    ⟨_,rd,rfl,by cases a<;>rfl,(by grind),rfl,x,y,z,A,B,g⟩
   simp_all[Instr.endRound,Sem.run_bind,Cz,Result.andThen,Sem.run_pure]
  ·cases e
 ·cases e
theorem KI(PO:CG P)(hD:∀ rec,RecOK P rec->FJ P rec)(F:Nat){rec:GT}(R:RecOK P rec):RecOK P (Pn P sh F rec):=by
 have D:FJ P rec:=hD _ R
 have Gn:∀ {c:Code} {fr O:Fr} {h h':Hp} {ex:Ex},AY P sh rec F c fr h=zo (ex,O,h') ->
  ∀ {M:Ak} {μ:Mu} {w:World} {b:Frame} {a:Act} {cs:List Frame} (k:List Item),Sim M μ h w->FrRep M μ fr b a cs->Ran P M μ w (lone (b.atR a (.code c::k)) cs w) b k cs ex O h':=(KT R D F).1
 refine⟨?_,?_,?_⟩
 ·intro f args h o C h' e M μ w vs s K cs;simp only[Pn]at e;split at e
  ·rename_i p hp;obtain⟨⟨v,S⟩,hd,e⟩:=AA e;cases e;obtain⟨z,μ',w',fr,x,q1,q2,q3,q4,q5,q6⟩:=PO f p hp args h v S hd M μ w vs s K cs;exact⟨z,μ',w',fr,q1,q2,q3,q4,x,q5,q6⟩
  ·split at e
   ·rename_i fn I;split at e
    ·rename_i c hc;obtain⟨z,μ',w',fr,cs',q1,q2,q3,q4,q5,q6,q7,q8⟩:=Nm R D I hc e s K .normal cs rfl;have:=FG rfl q4;subst this;refine⟨z,μ',w',fr,q1,q2,q3,q6,?_⟩;cases o with
     |ret v=>obtain⟨x,hx,S,h2,G⟩:=q8;exact⟨x,hx,S,h2,q7,G⟩
     |pan ch=>exact q8
    ·cases e
   ·cases e
 ·intro f u args h o C h' e M μ w vs s K c cs hu;simp only[Pn]at e;split at e
  ·cases e
  split at e
  ·rename_i fn I;split at e
   ·rename_i c' hc;obtain⟨z,μ',w',fr,cs',q1,q2,q3,q4,q5,q6,q7,q8⟩:=Nm R D I hc e s K .deferred (c::cs) ⟨rfl,c,cs,rfl,hu⟩;cases C with
    |none=>cases q5
    |some u'=>
     obtain⟨_,c1,tl,rfl,hm⟩:=q5;rcases q4 with h0|⟨_,c2,tl2,m,S,h2⟩
     ·cases h0;refine⟨z,μ',w',fr,c.mode,u',q1,q2,q3,rfl,hm,q7,q8⟩
     grind
   ·cases e
  ·cases e
 ·intro l args h o C h' e M μ w vs r s K X c cs;simp only[Pn]at e;split at e
  ·rename_i st pend nt t ps A j d hb;split at e
   ·rename_i t1 hset;split at e
    ·rename_i fr1 S U;split at e
     ·rename_i pend2 nt2 t2 ps2 asg2 body2 d2 W;split at e
      ·rename_i h2 J;obtain⟨r',Y,n,rd,b1,b2,b3,b4,b5,b6,b7,b8,b9,b10⟩:=s.blk l _ hb;rw[X]at Y;cases Y;obtain⟨hlen,htm⟩:=Ch hset K b5
       have hy:(Instr.yield r.b vs.toArray).run P w=.ok (.round r.b n.fn ((n.params.zip vs.toArray).foldl (λtmps (t,a)=>tmps.setIfInBounds t a) n.tmps) n.assign n.body) w:=by
        simp_all[Instr.yield,Sem.run_bind,Cz,Result.andThen,zx]
       let b:Frame:={ fn:=n.fn,tmps:=#[],todo:=[],defers:=[],mode:=.run,kind:=.normal,roundOf:=zo r.b }
       have E:TmpsRep M μ t1 nt ((n.params.zip vs.toArray).foldl (λtmps (t,a)=>tmps.setIfInBounds t a) n.tmps):=by
        simp_all
       have hb0:∀ L,Frame.round r.b n.fn L n.assign n.body .normal=b.atR { tmps:=L,defers:=[] } [.code A,.beginRound,.code j]:=by
        grind [Frame.round,Frame.atR]
       generalize (n.params.zip vs.toArray).foldl (λtmps (t,a)=>tmps.setIfInBounds t a) n.tmps=L at hy E;have f0:FrRep M μ { t:=t1,nt,ds:=[],up:=zn,ro:=zo l } b { tmps:=L,defers:=[] } (c::cs):=⟨E,trivial,rfl,r,X,rfl⟩;obtain⟨M1,μ1,w1,a1,cs1,s1,g1,f1,t1',arr⟩:=Gn U (b:=b) [.beginRound,.code j] s f0;have:=FG rfl t1';subst this;rw[<- hb0]at arr;obtain⟨r2,Z,l2,rd2,c1,c2,c3,c4,c5,c6,c7,c8,c9,c10⟩:=s1.blk l _ W;rw[g1.u _ _ X]at Z;cases Z;have so:=Ba (P:=P) (o':=.loop { l2 with state:=.busy }) c1 (by simp_all)
       obtain⟨s2,g2⟩:=s1.object (o':=.loop { l2 with state:=.busy }) W (g1.u _ _ X) trivial J c1 (by simp_all)
        ⟨_,rd2,rfl,rfl,by decide,c4,c5,c6,c7,c8,c9,c10⟩
       have hbr:(Instr.beginRound r.b).run P w1=.ok () { w1 with heap:=w1.heap.setIfInBounds r.b (.loop { l2 with state:=.busy }) }:=by
        have:l2.state=.ready:=c2;simp only[Instr.beginRound,Sem.run_bind,Cz c1,Result.andThen,so,this,Sem.run_pure]
       have st1:Steps P (lone (Frame.round r.b n.fn L n.assign n.body .normal) (c::cs) w) (lone (b.atR a1 [.code j]) (c::cs) _):=Steps.trans arr (.one (stepR_beginRound rfl hbr));have f1':=f1.mono g2.m g2.u
       have N:∀ {ex:Ex} {B:Fr} {G:Hp} {i:Option Code},AY P sh rec F j fr1 h2=zo (ex,B,G) ->
         (ex=.normal/\i=zn\/ex=.ret/\i=zo .ret\/(∃ id,ex=.exit id/\i=zo (.exit id)) \/ ∃ id,ex=.goto id/\i=zo (.goto id))->BB G l i=zo (o,C,h') ->
         ∃ z μ' w' x v fn tmps A body,o=.ret v/\(Instr.yield r.b vs.toArray).run P w=.ok (.round r.b fn tmps A body) w/\Sim z μ' h' w'/\Grow M μ w z μ' w'/\Rep z μ' v x /\
          Steps P (lone (Frame.round r.b fn tmps A body .normal) (c::cs) w) (lone (c.finish x) cs w'):=by
        intro ex B G i y hj he;obtain⟨M3,μ3,w3,a3,cs3,s3,g3,f3,t3,g⟩:=Gn y (b:=b) [] s2 f1';have:=FG rfl t3;subst this;obtain⟨w4,q,ho,s4,g4⟩:=FE (P:=P) s3 (g3.u _ _ (g1.u _ _ X)) he;refine⟨M3,μ3,w4,.bool i.isNone,.bool i.isNone,n.fn,L,n.assign,n.body,ho,hy,s4,(g1.trans g2).trans (g3.trans g4),.bool _ _,st1.trans ?_⟩;rcases hj with⟨rfl,rfl⟩|⟨rfl,rfl⟩|⟨id,rfl,rfl⟩|⟨id,rfl,rfl⟩
        ·exact Steps.trans g (.one (stepR_round_end rfl rfl q))
        ·obtain⟨k1,g⟩:=g;exact Steps.trans g (.one (stepR_round_ret rfl rfl q))
        ·obtain⟨k1,hk,g⟩:=g;exact Steps.trans g (.one (stepR_round_exit rfl rfl (by rw[hk];rfl) q))
        ·obtain⟨k1,hk,g⟩:=g;exact Steps.trans g (.one (stepR_round_goto rfl rfl (by rw[hk];rfl) q))
       split at e
       ·grind
       ·grind
       ·rename_i id B G y;exact N y (.inr (.inr (.inl ⟨id,rfl,rfl⟩))) e
       ·rename_i id B G y;exact N y (.inr (.inr (.inr ⟨id,rfl,rfl⟩))) e
       ·cases e
      ·cases e
     ·cases e
    ·cases e
   ·cases e
  ·cases e
theorem Mt(a:CG P)(b:∀ rec,RecOK P rec->FJ P rec)(F:Nat):∀ n,RecOK P (B4 P sh F n)
 |0=>L8 P
 |n+1=>KI a b F (Mt a b F n)
end
end
section
variable[Gl]
section
variable{P:Program}{hs h h1 h2:Hp}{id:Nat}
def Er(hs h:Hp):Prop:=∀ x b,hs.get x=zo b->h.get x=zo b
structure Lay (hs h h1 h2:Hp) (id:Nat):Prop where
 get:∀ x,h2.get x=match h1.get x with
  |some b=>zo b
  |none=>h.get x
 keys:∀ x b,h1.get x=zo b->(∃ b0,hs.get x=zo b0)\/x=id
 up:∀ x,h1.get x=zn->hs.get x=zn
theorem Lay.refl(s:Er hs h)(id:Nat):Lay hs h hs h id:=⟨λx=>by
 cases e:hs.get x with
 |none=>rfl
 |some b=>exact s x b e,λx b e=>.inl ⟨b,e⟩,λ_ h=>h⟩
theorem Lay.sub(l:Lay hs h h1 h2 id):Er h1 h2:=λx b e=>by rw[l.get,e]
theorem Hp.set_some{h:Hp}{j:Nat}{b b':Blk}{h':Hp}(e:h.set j b=zo h')(g:Hp):∃ a,g.set j b'=zo a:=by
 grind [Hp.set]
theorem Lay.set(l:Lay hs h h1 h2 id){j:Nat}{b b0:Blk}{f:Hp}(m:h1.get j=zo b0)(e:h1.set j b=zo f):∃ a,h2.set j b=zo a/\Lay hs h f a id:=by
 obtain⟨a,e2⟩:=Hp.set_some (b':=b) e h2;have i:=(Hp.get_set e).1;have k:=(Hp.get_set e2).1
 refine⟨a,e2,⟨λx=> ?_,λx c d=> ?_,λx d=>l.up x (by
  grind)⟩⟩
 ·rw[i,k];by_cases d:x=j
  ·simp[d]
  ·simp only[zx d];exact l.get x
 ·rw[i]at d;by_cases g:x=j
  ·subst g;exact l.keys x b0 m
  ·rw[zx g]at d;exact l.keys x c d
theorem Lay.new(l:Lay hs h h1 h2 id)(g:hs.get id=zn->h.get id=zn){b:Blk}{f:Hp}(e:h1.new id b=zo f):∃ a,h2.new id b=zo a/\Lay hs h f a id:=by
 obtain⟨i,o,_⟩:=Hp.get_new e;have k:h2.get id=zn:=by rw[l.get,i];exact g (l.up id i)
 unfold Hp.new at e;have j:h1.m.get id=zn:=i;rw[j]at e;obtain⟨a,e2⟩:=Hp.set_some (b':=b) e h2;have q:=(Hp.get_set e2).1
 refine⟨a,?_,⟨λx=> ?_,λx c d=> ?_,λx d=>l.up x (by
  grind)⟩⟩
 ·unfold Hp.new;have p:h2.m.get id=zn:=k
  simp_all
 ·rw[o,q];by_cases d:x=id
  ·simp[d]
  ·simp only[zx d];exact l.get x
 ·rw[o]at d;by_cases n:x=id
  ·omega
  ·rw[zx n]at d;exact l.keys x c d
theorem CI{f g:PV->Option (PV×List Nat)}(c:∀ p r,f p=zo r->g p=zo r):∀ {d:List PV} {r:List PV×List Nat},AB f d=zo r->AB g d=zo r
 |[],r,e=>e
 |p::d,r,e=>by
  unfold AB at e ⊢;split at e
  ·rename_i q a j b h i;rw[c _ _ h,CI c i];exact e
  ·cases e
theorem K9(s:Er hs h):∀ (n:Nat) (p:PV) (r:PV×List Nat),AW hs n p=zo r->AW h n p=zo r
 |0,p,r,e=>by simp[AW]at e
 |n+1,p,r,e=>by
  have g:=K9 s n;cases p with
  |agg cs=>simp only[AW]at e ⊢;obtain⟨x,c,rfl⟩:=AA e;rw[CI g c];rfl
  |tup cs=>simp only[AW]at e ⊢;obtain⟨x,c,rfl⟩:=AA e;rw[CI g c];rfl
  |ifc t x=>simp only[AW]at e ⊢;obtain⟨y,m,rfl⟩:=AA e;grind
  |fn f a b=>
   grind [AW,CI]
  |own j off len=>
   simp only[AW]at e ⊢;split at e
   ·rename_i es ex fz d;rw[s j _ d];replace e:=Ad e;obtain⟨hc,e⟩:=e;obtain⟨x,c,rfl⟩:=AA e;simp only[hc,zb];rw[CI g c];rfl
   ·cases e
  |ptr j off=>
   simp only[AW]at e ⊢;split at e
   ·rename_i cs fz d;rw[s j _ d];replace e:=Ad e;obtain⟨hc,e⟩:=e;obtain⟨x,c,rfl⟩:=AA e;simp only[hc,zb];rw[CI g c];rfl
   ·cases e
  |ept j i off=>
   simp only[AW]at e ⊢;split at e
   ·rename_i es ex fz d;rw[s j _ d];dsimp only;split at e
    ·rename_i l k
     try rw[k]
     replace e:=Ad e;obtain⟨hc,e⟩:=e;obtain⟨x,c,rfl⟩:=AA e;simp only[hc,zb];rw[CI g c];rfl
    ·cases e
   ·cases e
  |yl _=>simp[AW]at e
  |mp _=>simp[AW]at e
  |_=>exact e
theorem I6(s:Er hs h):∀ {c:List PV} {r:List PV×List Nat},Ap hs c=zo r->Ap h c=zo r
 |[],r,e=>e
 |p::c,r,e=>by
  unfold Ap at e ⊢;split at e
  ·rename_i q a g b d f;rw[K9 s _ _ _ d,I6 s f];exact e
  ·cases e
theorem Je(s:Er hs h){p:PV}{es:List PV}(e:A2 hs p=zo es):A2 h p=zo es:=by
 unfold A2 at e ⊢;cases p with
 |own j off len=>
  simp only at e ⊢;split at e
  ·rename_i b ex fz a;rw[s j _ a];exact e
  ·rename_i cs fz a;rw[s j _ a];exact e
  ·cases e
 |_=>exact e
theorem Lay.freeze:∀ (L:List Nat) {f g b:Hp},Lay hs h f g id->Pi.freeze f L=zo b -> ∃ c,Pi.freeze g L=zo c/\Lay hs h b c id
 |[],f,g,b,l,e=>by simp_all[Pi.freeze]
 |j::L,f,g,b,l,e=>by
  unfold Pi.freeze at e ⊢;split at e
  ·rename_i cs fz d;rw[l.sub j _ d];split at e
   ·rename_i m a;obtain⟨n,i,k⟩:=l.set d a;dsimp only;rw[i];exact Lay.freeze L k e
   ·cases e
  ·rename_i es ex fz d;rw[l.sub j _ d];split at e
   ·rename_i m a;obtain⟨n,i,k⟩:=l.set d a;dsimp only;rw[i];exact Lay.freeze L k e
   ·cases e
  ·cases e
def CR(hs h:Hp)(id:Nat)(F:Option R):R->Prop
 |.val v b=>∃ a,F=zo (.val v a)/\Lay hs h b a id
 |.skip b=>∃ a,F=zo (.skip a)/\Lay hs h b a id
 |.call f args=>F=zo (.call f args)
 |_=>True
theorem AK(s:Er hs h){F:Option R}{v:PV}(e:F=zo (.val v h)):CR hs h id F (.val v hs):=⟨h,e,.refl s id⟩
theorem C9(s:Er hs h){o:Option PV}{r:R}(e:vl o hs=zo r):CR hs h id (vl o h) r:=by
 obtain⟨v,rfl,rfl⟩:=Dm e;exact AK s rfl
theorem Qc(s:Er hs h){c a b:PV}{r:R}(e:Do hs c a b=zo r):CR hs h id (Do h c a b) r:=by
 unfold Do at e ⊢;split at e<;>cases e<;>exact AK s rfl
theorem Ob(s:Er hs h)(a:hs.get id=zn->h.get id=zn){b:TypeId}{r:R}(e:Cq P hs id b=zo r):CR hs h id (Cq P h id b) r:=by
 unfold Cq at e ⊢;split at e
 ·obtain⟨g,d,rfl⟩:=AA e;obtain⟨c,e2,f⟩:=(Lay.refl s id).new a d;exact⟨c,by rw[e2];rfl,f⟩
 ·cases e
theorem RO(s:Er hs h)(a:hs.get id=zn->h.get id=zn){v:PV}{r:R}(e:Fo hs id v=zo r):CR hs h id (Fo h id v) r:=by
 unfold Fo at e ⊢;split at e
 ·cases e
 ·obtain⟨f,c,rfl⟩:=AA e;obtain⟨b,e2,d⟩:=(Lay.refl s id).new a c;exact⟨b,by rw[e2];rfl,d⟩
theorem Oh(s:Er hs h){ty:TypeId}{b:List (Nat×PV)}{r:R}(e:B0 P hs ty b=zo r):CR hs h id (B0 P h ty b) r:=by
 unfold B0 at e ⊢;split at e
 ·replace e:=Ad e;obtain⟨hc,e⟩:=e;split at e
  ·rename_i pl c;obtain⟨cs,a,rfl⟩:=AA e;refine AK s ?_<;>grind
  ·cases e
 ·split at e
  ·rename_i n d;replace e:=Ad e;obtain⟨hc,e⟩:=e;obtain⟨cs,a,rfl⟩:=AA e;refine AK s ?_<;>grind
  ·cases e
 ·cases e
theorem IT(s:Er hs h){ty:TypeId}{len:Nat}{c:List (Nat×PV)}{r:R}(e:Ah P hs ty len c=zo r):CR hs h id (Ah P h ty len c) r:=by
 unfold Ah at e ⊢;split at e
 ·split at e
  ·rename_i n o z i a k
   try rw[i,a,k]
   try dsimp only
   split at e
   ·rename_i t b
    try rw[b]
    replace e:=Bm e;obtain⟨hc,e⟩:=e;split at e
    ·rename_i es f;split at e
     ·rename_i q l j;obtain⟨p,g,rfl⟩:=AA e;obtain⟨d,e2,m⟩:=Lay.freeze l (Lay.refl s id) g;refine⟨d,?_,m⟩;simp only[hc,zj,I6 s j,e2,ay]
     ·cases e
    ·cases e
   ·cases e
  ·cases e
 ·cases e
theorem QH(s:Er hs h){ty:TypeId}{p:PV}{r:R}(e:CH P hs ty p=zo r):CR hs h id (CH P h ty p) r:=by
 unfold CH at e ⊢;split at e
 ·split at e
  ·rename_i cs fz a;rw[s _ _ a];exact C9 s e
  ·cases e
 ·exact C9 s e
 ·split at e
  ·rename_i es ex fz a;rw[s _ _ a];dsimp only;split at e
   ·rename_i c b;try rw[b]
    exact C9 s e
   ·cases e
  ·cases e
 ·cases e
theorem PS(s:Er hs h){ty:TypeId}{p v:PV}{r:R}(e:A3 P hs ty p v=zo r):CR hs h id (A3 P h ty p v) r:=by
 unfold A3 at e ⊢;split at e
 ·rename_i n o;replace e:=Bm e;obtain⟨hc,e⟩:=e;simp only[hc,zj];split at e
  ·split at e
   ·rename_i cs b;rw[s _ _ b];replace e:=Ad e;obtain⟨f,e⟩:=e;obtain⟨l,a,rfl⟩:=AA e;obtain⟨d,e2,g⟩:=(Lay.refl s id).set b a;exact⟨d,by grind,g⟩
   ·cases e
  ·split at e
   ·rename_i es ex b;rw[s _ _ b];dsimp only;split at e
    ·rename_i m j
     try rw[j]
     replace e:=Ad e;obtain⟨f,e⟩:=e;simp only[f,zb];split at e
     ·obtain⟨l,a,rfl⟩:=AA e;obtain⟨d,e2,g⟩:=(Lay.refl s id).set b a;exact⟨d,by simp_all,g⟩
     ·split at e
      ·rename_i c k
       try rw[k]
       replace e:=Ad e;obtain⟨i,e⟩:=e;simp only[i,zb];split at e
       ·cases e
       ·cases e
       ·obtain⟨l,a,rfl⟩:=AA e;obtain⟨d,e2,g⟩:=(Lay.refl s id).set b a;exact⟨d,by simp_all,g⟩
      ·cases e
    ·cases e
   ·cases e
  ·cases e
 ·cases e
end
end
section
variable[Gl]
section
variable{P:Program}{hs h h1 h2:Hp}{id:Nat}
theorem Ro(s:Er hs h){p:PV}{r:R}(e:E4 hs p=zo r):CR hs h id (E4 h p) r:=by
 unfold E4 at e ⊢;split at e<;>first|(cases e;exact AK s rfl)|cases e
theorem RN(s:Er hs h){a:BinOp}{ty:TypeId}{x y:Operand}{p q:PV}{r:R}(e:Dh P hs a ty x y p q=zo r):CR hs h id (Dh P h a ty x y p q) r:=by
 unfold Dh at e ⊢;split at e
 ·replace e:=Ad e;obtain⟨hc,e⟩:=e;simp only[hc,zb];exact C9 s e
 ·replace e:=Bm e;obtain⟨hc,e⟩:=e;simp only[hc,zj];exact C9 s e
 ·exact C9 s e
theorem Lc(s:Er hs h){b a:TypeId}{p:PV}{r:R}(e:BJ P hs b a p=zo r):CR hs h id (BJ P h b a p) r:=by
 unfold BJ at e ⊢;split at e
 ·cases e;exact AK s rfl
 ·cases e;exact AK s rfl
 ·split at e
  ·cases e;exact AK s rfl
  ·cases e
 ·cases e
theorem Ra(s:Er hs h){ty:TypeId}{p:PV}{r:R}(e:Em P hs ty p=zo r):CR hs h id (Em P h ty p) r:=by
 unfold Em at e ⊢;split at e<;>first|(cases e;exact AK s rfl)|cases e
theorem Kq(s:Er hs h){f:Fn}{a b:List PV}{r:R}(e:BG hs f a b=zo r):CR hs h id (BG h f a b) r:=by
 unfold BG at e ⊢;split at e<;>first|(cases e;exact AK s rfl)|cases e
theorem Lj(s:Er hs h){p:PV}{i:Nat}{r:R}(e:Bi hs p i=zo r):CR hs h id (Bi h p i) r:=by
 unfold Bi at e ⊢;split at e
 ·exact C9 s e
 ·cases e
theorem Oz(s:Er hs h){ty:TypeId}{p:PV}{f:Nat}{r:R}(e:CA P hs ty p f=zo r):CR hs h id (CA P h ty p f) r:=by
 unfold CA at e ⊢;split at e
 ·split at e
  ·rename_i b a
   try rw[a]
   exact C9 s e
  ·cases e
 ·cases e
theorem JG(s:Er hs h){ty:TypeId}{p:PV}{f:Nat}{r:R}(e:Ax P hs ty p f=zo r):CR hs h id (Ax P h ty p f) r:=by
 unfold Ax at e ⊢;split at e
 ·split at e
  ·rename_i c a;split at e
   ·rename_i n b;replace e:=Bm e;obtain⟨hc,e⟩:=e
    try simp only[a,b]
    simp only[hc,zj];split at e<;>first|(cases e;exact AK s rfl)|cases e
   ·cases e
  ·cases e
 ·cases e
theorem JI(s:Er hs h){ty:TypeId}{p q:PV}{r:R}(e:Aq P hs ty p q=zo r):CR hs h id (Aq P h ty p q) r:=by
 unfold Aq at e ⊢;split at e
 ·split at e
  ·rename_i n c
   try simp only[c]
   split at e
   ·split at e
    ·rename_i d a
     try simp only[a]
     replace e:=Ad e;obtain⟨hc,e⟩:=e;cases e;simp only[hc,zb];exact AK s rfl
    ·cases e
   ·replace e:=Ad e;obtain⟨hc,e⟩:=e;simp only[hc,zb];split at e
    ·rename_i es ex fz f;rw[s _ _ f]
     try dsimp only
     split at e
     ·rename_i d a
      try simp only[a]
      replace e:=Ad e;obtain⟨b,e⟩:=e;cases e;simp only[b,zb];exact AK s rfl
     ·cases e
    ·cases e
   ·cases e
  ·cases e
 ·split at e
  ·rename_i n c
   try simp only[c]
   replace e:=Ad e;obtain⟨hc,e⟩:=e;simp only[hc,zb];split at e<;>first|(cases e;exact AK s rfl)|cases e
  ·cases e
 ·cases e
theorem O4(s:Er hs h){ty:TypeId}{p q:PV}{r:R}(e:Bo P hs ty p q=zo r):CR hs h id (Bo P h ty p q) r:=by
 unfold Bo at e ⊢;split at e
 ·replace e:=Ad e;obtain⟨hc,e⟩:=e;simp only[hc,zb];split at e
  ·rename_i n c
   try simp only[c]
   exact C9 s e
  ·cases e
 ·split at e
  ·rename_i b a
   try simp only[a]
   cases e;exact AK s rfl
  ·cases e
 ·cases e
theorem Ml(s:Er hs h){ty:TypeId}{p:PV}{a:Bool}{r:R}(e:BK P hs ty p a=zo r):CR hs h id (BK P h ty p a) r:=by
 have z:∀ {r:R},(bif a then(match By P ty with
   |some z=>zo (R.val (.tup [z,.bool zf]) hs)
   |none=>zn)else zn)=zo r->CR hs h id (bif a then(match By P ty with
   |some z=>zo (R.val (.tup [z,.bool zf]) h)
   |none=>zn)else zn) r:=by
  intro r e;replace e:=Ad e;obtain⟨hc,e⟩:=e;simp only[hc,zb];split at e
  ·rename_i z c
   try simp only[c]
   cases e;exact AK s rfl
  ·cases e
 unfold BK at e ⊢;split at e
 ·split at e
  ·split at e
   ·rename_i i hi
    try simp only[hi]
    split at e
    ·rename_i b
     try simp only[b]
     cases e;exact AK s rfl
    grind
   ·cases e
  all_goals grind
 ·split at e
  ·cases hc:aa _ ty with
   |true=>rw[hc]at e;cases e;simp only[zb];exact AK s rfl
   |false=>grind
  all_goals grind
 ·cases e
theorem QO(s:Er hs h)(a:hs.get id=zn->h.get id=zn){ty:TypeId}{l c:PV}{r:R}(e:C5 P hs id ty l c=zo r):CR hs h id (C5 P h id ty l c) r:=by
 unfold C5 at e ⊢;split at e
 ·split at e
  ·rename_i n o z q g i j k
   try simp only[g,i,j,k]
   split at e
   ·rename_i t b
    try simp only[b]
    replace e:=Ad e;obtain⟨hc,e⟩:=e;obtain⟨p,f,rfl⟩:=AA e;obtain⟨d,e2,m⟩:=(Lay.refl s id).new a f;exact⟨d,by grind,m⟩
   ·cases e
  ·cases e
 ·cases e
theorem RP(s:Er hs h){j off len:Nat}{r:R}(e:Dg hs j off len=zo r):CR hs h id (Dg h j off len) r:=by
 unfold Dg at e ⊢;split at e
 ·rename_i f xs a d;rw[K9 s _ _ _ d];obtain⟨i,c,rfl⟩:=AA e;obtain⟨b,e2,g⟩:=Lay.freeze a (Lay.refl s id) c;exact⟨b,by simp_all,g⟩
 ·cases e
theorem PQ(s:Er hs h){ty:TypeId}{p:PV}{lo hi mx:Option PV}{r:R}(e:Ai P hs ty p lo hi mx=zo r):CR hs h id (Ai P h ty p lo hi mx) r:=by
 unfold Ai at e ⊢;split at e
 ·split at e
  ·rename_i hh l c d
   try simp only[c,d]
   replace e:=Ad e;obtain⟨hc,e⟩:=e;cases e;simp only[hc,zb];exact AK s rfl
  ·cases e
 ·split at e
  ·cases e
  ·rename_i n j
   try simp only[j]
   split at e
   ·split at e
    ·rename_i c d k
     try simp only[c,d,k]
     replace e:=Bm e;obtain⟨hc,e⟩:=e;cases e;simp only[hc,zj];exact AK s rfl
    ·cases e
   ·replace e:=Bm e;obtain⟨hc,e⟩:=e;simp only[hc,zj];split at e
    ·rename_i l hh c d
     try simp only[c,d]
     split at e
     ·replace e:=Ad e;obtain⟨a,e⟩:=e;cases e;simp only[a,zb];exact AK s rfl
     ·split at e
      ·rename_i m i
       try simp only[i]
       replace e:=Ad e;obtain⟨a,e⟩:=e;cases e;simp only[a,zb];exact AK s rfl
      ·cases e
    ·cases e
   ·split at e
    ·rename_i es ex fz f;rw[s _ _ f]
     try dsimp only
     replace e:=Bm e;obtain⟨hc,e⟩:=e;simp only[hc,zj];split at e
     ·rename_i l hh c d
      try simp only[c,d]
      replace e:=Bm e;obtain⟨g,e⟩:=e;simp only[g,zj];split at e
      ·cases b:ae _ es.length with
       |true=>rw[b]at e;cases e;simp only[zb];exact AK s rfl
       |false=>rw[b]at e;cases e;simp only[zj];exact AK s rfl
      ·split at e
       ·rename_i m i
        try simp only[i]
        generalize o:(hi.isSome&&ad hh m&&ex&&aa _ es.length)=A at e ⊢;cases A with
        |true=>
         simp only[zb]at e ⊢;cases b:ae _ es.length with
         |true=>rw[b]at e;cases e;simp only[zb];exact AK s rfl
         |false=>rw[b]at e;cases e;simp only[zj];exact AK s rfl
        |false=>
         simp only[zj]at e ⊢;replace e:=Ad e;obtain⟨a,e⟩:=e;simp only[a,zb];exact RP s e
       ·cases e
     ·cases e
    ·cases e
   ·cases e
 ·split at e
  ·unfold EM at e ⊢;split at e
   ·split at e
    ·rename_i cs fz f;rw[s _ _ f];simp only;replace e:=Ad e;obtain⟨hc,e⟩:=e;simp only[hc,zb];cases e;exact AK s rfl
    ·cases e
   ·cases e
  ·cases e
 ·cases e
theorem RL(s:Er hs h)(d:hs.get id=zn->h.get id=zn){t:TypeId}{p q:PV}{r:R}(e:EH P hs id t p q=zo r):CR hs h id (EH P h id t p q) r:=by
 unfold EH at e ⊢;split at e
 ·split at e
  ·rename_i B C new z n o u w;rw[Je s u]
   try simp only[n,o,w]
   replace e:=Bm e;obtain⟨hc,e⟩:=e;simp only[hc,zj]
   have fresh:∀ {row:Blk} {v:PV} {r:R},(hs.new id row).map (λh=>R.val v h)=zo r->CR hs h id ((h.new id row).map λh=>R.val v h) r:=by
    intro row v r e;obtain⟨l,k,rfl⟩:=AA e;obtain⟨g,e2,f⟩:=(Lay.refl s id).new d k;exact⟨g,by rw[e2];rfl,f⟩
   split at e
   ·cases a:new.isEmpty with
    |true=>rw[a]at e;cases e;simp only[zb];exact AK s rfl
    |false=>
     grind
   ·cases a:new.isEmpty with
    |true=>rw[a]at e;cases e;simp only[zb];exact AK s rfl
    |false=>
     grind
   ·split at e
    ·rename_i es ex fz i;rw[s _ _ i]
     try dsimp only
     replace e:=Bm e;obtain⟨j,e⟩:=e;simp only[j,zj];cases ex with
     |true=>
      simp only[zb]at e ⊢;cases a:new.isEmpty with
      |true=>rw[a]at e;cases e;simp only[zb];exact AK s rfl
      |false=>
      rw[a]at e;simp only[zj]at e ⊢;generalize ad _ es.length=A at e ⊢;cases A with
      |true=>
       simp only[zb]at e ⊢;replace e:=Bm e;obtain⟨c,e⟩:=e;simp only[c,zj];obtain⟨l,b,rfl⟩:=AA e;obtain⟨g,e2,f⟩:=(Lay.refl s id).set i b;exact⟨g,by rw[e2];rfl,f⟩
      |false=>
       grind
     |false=>
      simp only[zj]at e ⊢;replace e:=Ad e;obtain⟨c,e⟩:=e;simp only[c,zb];split at e
      ·rename_i y b;obtain⟨l,k,rfl⟩:=AA e;obtain⟨g,e2,f⟩:=(Lay.refl s id).set i b;obtain⟨m,e3,x⟩:=f.new d k;exact⟨m,by simp_all,x⟩
      ·cases e
    ·cases e
   ·cases e
  ·cases e
 ·cases e
theorem Dj{f:Fn}{a b args:List PV}{r:R}(e:CF P f a b args=zo r):∃ g c,r=.call g c:=by
 unfold CF at e;split at e
 ·grind
 ·split at e<;>grind
 ·cases e
end
end
section
variable[Gl]
section
variable{P:Program}{hs h h1 h2:Hp}{id:Nat}
def F3(t a:T PV)(l:List Operand):Prop:=∀ k,.tmp k∈l->t.get k=a.get k
theorem FT{t a:T PV}{l:List Operand}(b:F3 t a l){o:Operand}(c:o∈l):CT t o=CT a o:=by
 cases o with
 |tmp k=>simp only[CT,b k c]
 |_=>rfl
theorem HN{t c:T PV}{l:List Operand}(b:F3 t c l):∀ {a:List Operand},(∀ o∈a,o∈l)->Md t a=Md c a
 |[],_=>rfl
 |o::a,ho=>by
  unfold Md;rw[FT b (ho o (by simp)),HN b λx d=>ho x (by simp[d])]
theorem Du{t c:T PV}{l:List Operand}(b:F3 t c l):∀ {a:List (Nat×Operand)},(∀ o∈a,o.2∈l)->CE t a=CE c a
 |[],_=>rfl
 |(i,o)::os,ho=>by
  unfold CE;rw[FT b (ho (i,o) (by simp)),Du b λx d=>ho x (by simp[d])]
theorem Ox{t a:T PV}{l:List Operand}(b:F3 t a l){o:Option Operand}(c:∀ x∈o.toList,x∈l):Px t o=Px a o:=by
 cases o with
 |none=>rfl
 |some x=>grind [Px,FT]
theorem ES{t g:T PV}{o:Oper}(a:Av o.op=zt)(b:F3 t g (Az o.op)):AP P t h id o=AP P g h id o:=by
 unfold AP;generalize i:o.op=j at b a;have e:=λx d=>FT b (o:=x) d;cases j with
 |call c=>
  grind [Av,Az,HN,e1]
 |build ty k=>
  simp only[Az]at b;simp only;rw[Du b λx d=>bj.2 ⟨x,d,rfl⟩]
 |buildSlice ty n k=>
  simp only[Az]at b;simp only;rw[Du b λx d=>bj.2 ⟨x,d,rfl⟩]
 |makeFunc f x y=>
  grind [Az,HN,ax,List.mem_append_right]
 |slice ty x lo hi mx=>
  grind [Az,e1,Ox]
 |lookup _ _ _ _=>cases a
 |mapUpdate _ _ _ _=>cases a
 |insert _ _ _ _=>cases a
 |defer _=>cases a
 |panic _=>cases a
 |move x=>simp_all[Az]
 |assign x=>simp_all[Az]
 |pick c x y=>simp_all[Az,e3]
 |alloc _=>rfl
 |box _ x=>simp_all[Az,e1]
 |load _ x=>simp_all[Az,e1]
 |store _ x y=>simp_all[Az,e2]
 |nilCheck x=>simp_all[Az,e1]
 |binOp _ _ x y _=>simp_all[Az,e2]
 |unOp _ _ x=>simp_all[Az,e1]
 |convert _ _ x=>simp_all[Az,e1]
 |makeInterface _ x=>simp_all[Az,e1]
 |makeMap ty r=>cases r<;>rfl
 |makeSlice _ x y=>simp_all[Az,e2]
 |fieldAddr _ x _=>simp_all[Az,e1]
 |field _ x _=>simp_all[Az,e1]
 |indexAddr _ x y=>simp_all[Az,e2]
 |index _ x y=>simp_all[Az,e2]
 |typeAssert x _ _ _=>simp_all[Az,e1]
 |extract x _=>simp_all[Az,e1]
 |_=>rfl
theorem Aa{t:T PV}{x:Operand}{k:PV->Option R}{r:R}(e:e1 t x k=zo r):∃ p,CT t x=zo p/\k p=zo r:=by
 grind [e1]
theorem CW{t:T PV}{x y:Operand}{k:PV->PV->Option R}{r:R}(e:e2 t x y k=zo r):∃ p q,CT t x=zo p/\CT t y=zo q/\k p q=zo r:=by
 grind [e2]
theorem Nq{t:T PV}{x y z:Operand}{k:PV->PV->PV->Option R}{r:R}(e:e3 t x y z k=zo r):∃ p q s,CT t x=zo p/\CT t y=zo q/\CT t z=zo s/\k p q s=zo r:=by
 grind [e3]
theorem Lk(s:Er hs h){f:Int->Int->Int}{a:Int}{l:List PV}{k:IntKind}{r:R}(e:(CC f a l k).map (λm=>R.val (.int k m) hs)=zo r):CR hs h id ((CC f a l k).map λm=>R.val (.int k m) h) r:=by
 obtain⟨m,b,rfl⟩:=AA e;exact AK s (by rw[b];rfl)
theorem LW(s:Er hs h)(i:hs.get id=zn->h.get id=zn){b:Builtin}(n:b=.len\/b=.cap\/b=.append\/b=.copy\/b=.max\/b=.min){d:Array TypeId}{args:List PV}{r:R}(e:AH P hs id b d args=zo r) :
  CR hs h id (AH P h id b d args) r:=by
 rcases n with rfl|rfl|rfl|rfl|rfl|rfl
 ·simp only[AH]at e ⊢;split at e
  ·rename_i x t a
   try simp only[a]
   split at e
   ·split at e
    ·rename_i es c
     try simp only[c]
     rw[s _ _ c];cases e;exact AK s rfl
    ·cases e
   all_goals first|(cases e;done)|(cases e;exact AK s rfl)
  ·cases e
 ·simp only[AH]at e ⊢;split at e
  ·rename_i x t a
   try simp only[a]
   split at e
   ·split at e
    ·rename_i es fz c
     try simp only[c]
     rw[s _ _ c];cases e;exact AK s rfl
    ·cases e
   all_goals first|(cases e;done)|(cases e;exact AK s rfl)
  ·cases e
 ·simp only[AH]at e ⊢;split at e
  ·rename_i p q t B f
   try simp only[f]
   replace e:=Ad e;obtain⟨hc,e⟩:=e;simp only[hc,zb];exact RL s i e
  ·cases e
 ·simp only[AH]at e ⊢;split at e
  ·rename_i j off len x t a
   try simp only[a]
   split at e
   ·rename_i l es ex new u k w;simp only[u,s _ _ k,Je s w];split at e
    ·rename_i A o;replace e:=Bm e;obtain⟨hc,e⟩:=e;simp only[hc,zj];obtain⟨z,g,rfl⟩:=AA e;obtain⟨m,e2,y⟩:=(Lay.refl s id).set k g;exact⟨m,by simp_all,y⟩
    ·cases e
   ·cases e
  ·cases e
 ·simp only[AH]at e ⊢;split at e
  ·exact Lk s e
  ·cases e;exact AK s rfl
  ·cases e
 ·simp only[AH]at e ⊢;split at e
  ·exact Lk s e
  ·cases e;exact AK s rfl
  ·cases e
theorem J0{F:Option R}{r:R}(e:F=zo r)(hc:∃ g a,r=.call g a):CR hs h id F r:=by
 obtain⟨g,a,rfl⟩:=hc;exact e
theorem Cn(s:Er hs h)(i:hs.get id=zn->h.get id=zn){t:T PV}{o:Oper}(d:Av o.op=zt){r:R}(e:AP P t hs id o=zo r):CR hs h id (AP P t h id o) r:=by
 unfold AP at e ⊢;generalize w:o.op=E at d e ⊢;cases E with
 |lookup _ _ _ _=>cases d
 |mapUpdate _ _ _ _=>cases d
 |insert _ _ _ _=>cases d
 |defer _=>cases d
 |panic _=>cases d
 |move x=>exact C9 s e
 |assign x=>exact C9 s e
 |pick c x y=>obtain⟨p,q,u,a,g,l,e⟩:=Nq e;simp only[e3,a,g,l];exact Qc s e
 |alloc _=>exact Ob s i e
 |box _ x=>obtain⟨p,a,e⟩:=Aa e;simp only[e1,a];exact RO s i e
 |build ty F=>
  simp only at e ⊢;split at e
  ·rename_i p k;try simp only[k]
   exact Oh s e
  ·cases e
 |buildSlice ty n F=>
  simp only at e ⊢;split at e
  ·rename_i p k;try simp only[k]
   exact IT s e
  ·cases e
 |load _ x=>obtain⟨p,a,e⟩:=Aa e;simp only[e1,a];exact QH s e
 |store _ x y=>obtain⟨p,q,a,g,e⟩:=CW e;simp only[e2,a,g];exact PS s e
 |nilCheck x=>obtain⟨p,a,e⟩:=Aa e;simp only[e1,a];exact Ro s e
 |binOp _ _ x y _=>obtain⟨p,q,a,g,e⟩:=CW e;simp only[e2,a,g];exact RN s e
 |unOp _ _ x=>obtain⟨p,a,e⟩:=Aa e;simp only[e1,a];exact C9 s e
 |convert _ _ x=>obtain⟨p,a,e⟩:=Aa e;simp only[e1,a];exact Lc s e
 |makeInterface _ x=>obtain⟨p,a,e⟩:=Aa e;simp only[e1,a];exact Ra s e
 |makeFunc f x y=>
  simp only at e ⊢;split at e
  ·rename_i p q k z;try simp only[k,z]
   exact Kq s e
  ·cases e
 |makeMap ty rs=>
  cases rs with
  |none=>
   simp only at e ⊢;obtain⟨a,m,rfl⟩:=AA e;obtain⟨g,e2,D⟩:=(Lay.refl s id).new i m;exact⟨g,by rw[e2];rfl,D⟩
  |some _=>cases e
 |makeSlice _ x y=>obtain⟨p,q,a,g,e⟩:=CW e;simp only[e2,a,g];exact QO s i e
 |slice ty x lo hi mx=>
  simp only at e ⊢;split at e
  ·rename_i A B C;try simp only[A,B,C]
   obtain⟨p,a,e⟩:=Aa e;simp only[e1,a];exact PQ s e
  ·cases e
 |fieldAddr _ x _=>obtain⟨p,a,e⟩:=Aa e;simp only[e1,a];exact JG s e
 |field _ x _=>obtain⟨p,a,e⟩:=Aa e;simp only[e1,a];exact Oz s e
 |indexAddr _ x y=>obtain⟨p,q,a,g,e⟩:=CW e;simp only[e2,a,g];exact JI s e
 |index _ x y=>obtain⟨p,q,a,g,e⟩:=CW e;simp only[e2,a,g];exact O4 s e
 |typeAssert x _ _ _=>obtain⟨p,a,e⟩:=Aa e;simp only[e1,a];exact Ml s e
 |extract x _=>obtain⟨p,a,e⟩:=Aa e;simp only[e1,a];exact Lj s e
 |call c=>
  simp only at e ⊢;split at e
  ·rename_i args j
   try simp only[j]
   cases hc:c.callee with
   |builtin b=>
    simp only[hc]at e ⊢;simp only[Av,hc]at d;exact LW s i (by grind) e
   |value f=>
    simp only[hc]at e ⊢;obtain⟨p,a,e⟩:=Aa e;simp only[e1,a];unfold IC at e ⊢;split at e
    ·exact J0 e (Dj e)
    ·cases e;exact True.intro
    ·cases e
   |invoke I G=>
    simp only[hc]at e ⊢;obtain⟨p,a,e⟩:=Aa e;simp only[e1,a];exact J0 e (Dj e)
  ·cases e
 |_=>cases e
theorem Gj{t:T PV}{o:Oper}(d:quiet o.op=zt)(a:Av o.op=zt){v:PV}{i:Hp}(e:AP P t h id o=zo (.val v i)):i=h:=by
 have g:∀ {x:Option PV},vl x h=zo (.val v i)->i=h:=by
  intro x e;obtain⟨y,_,e⟩:=Dm e;cases e;rfl
 unfold AP at e;generalize l:o.op=n at a d e;cases n with
 |lookup _ _ _ _=>cases a
 |mapUpdate _ _ _ _=>cases a
 |insert _ _ _ _=>cases a
 |defer _=>cases a
 |panic _=>cases a
 |buildSlice _ _ _=>cases d
 |store _ _ _=>cases d
 |alloc _=>cases d
 |box _ _=>cases d
 |makeMap _ _=>cases d
 |makeSlice _ _ _=>cases d
 |move x=>exact g e
 |assign x=>exact g e
 |pick c x y=>
  obtain⟨p,q,u,_,_,_,e⟩:=Nq e;unfold Do at e
  grind
 |build ty s=>
  simp only at e;split at e
  ·unfold B0 at e;simp only[aA]at e
   repeat' split at e
   all_goals first|(cases e;done)|(obtain⟨cs,_,e⟩:=AA e;cases e;rfl)
  ·cases e
 |load _ x=>
  obtain⟨p,_,e⟩:=Aa e;unfold CH at e
  grind
 |nilCheck x=>
  obtain⟨p,_,e⟩:=Aa e;unfold E4 at e
  grind
 |binOp _ _ x y _=>
  obtain⟨p,q,_,_,e⟩:=CW e;unfold Dh at e
  grind
 |unOp _ _ x=>obtain⟨p,_,e⟩:=Aa e;exact g e
 |convert _ _ x=>
  obtain⟨p,_,e⟩:=Aa e;unfold BJ at e
  grind
 |makeInterface _ x=>
  obtain⟨p,_,e⟩:=Aa e
  grind [Em]
 |makeFunc f x y=>
  simp only at e;split at e
  ·unfold BG at e
   grind
  ·cases e
 |slice ty x lo hi mx=>
  simp only[quiet]at d;have j:mx=zn:=by simp_all
  subst j;simp only[Px]at e;split at e
  ·rename_i m;cases m;obtain⟨p,_,e⟩:=Aa e;unfold Ai EM at e;simp only[aA]at e
   repeat' split at e
   all_goals simp_all
  ·cases e
 |fieldAddr _ x _=>
  obtain⟨p,_,e⟩:=Aa e;unfold Ax at e
  grind
 |field _ x _=>
  obtain⟨p,_,e⟩:=Aa e;unfold CA at e
  grind
 |indexAddr _ x y=>
  obtain⟨p,q,_,_,e⟩:=CW e;unfold Aq at e;simp only[aA]at e
  repeat' split at e
  all_goals simp_all
 |index _ x y=>
  obtain⟨p,q,_,_,e⟩:=CW e;unfold Bo at e
  grind
 |typeAssert x _ _ _=>
  obtain⟨p,_,e⟩:=Aa e;unfold BK at e;simp only[aA]at e
  repeat' split at e
  all_goals simp_all
 |extract x _=>
  obtain⟨p,_,e⟩:=Aa e;unfold Bi at e
  grind
 |call c=>
  simp only[Av]at a;simp only[quiet]at d;simp only at e;split at e
  ·cases hc:c.callee with
   |builtin b=>
    simp only[hc]at e a d;have k:b=.len\/b=.cap\/b=.max\/b=.min:=by grind
    rcases k with rfl|rfl|rfl|rfl<;>simp only[AH]at e<;>(repeat' split at e)
    all_goals first|(cases e;done)|(cases e;rfl)|(obtain⟨cs,_,e⟩:=AA e;cases e;rfl)
   |value f=>simp_all
   |invoke w r=>simp_all
  ·cases e
 |_=>cases e
end
end
section
variable[Gl]
section
variable{P:Program}{rec:GT}{hs h h1 h2:Hp}{id:Nat}
theorem Fi:∀ (l:List Nat) (m:T Blk) (x:Nat),(H1 h l m).get x=if x∈l/\x<x+1/\(h.get x).isSome then h.get x else m.get x
 |[],m,x=>by simp[H1]
 |j::l,m,x=>by
  unfold H1;split
  ·rename_i b c;cases e:ae j (j+1)with
   |true=>
    simp only[zb];have a:j<j+1:=by omega
    rw[Fi l _ x,T.get_put (j+1) m j b x (O2 j)]
    grind
   |false=>
    simp only[zj];rw[Fi l m x]
    have d:¬ j<j+1:=by
     intro h;have:ae j (j+1)=zt:=by simp
     simp_all
    omega
  ·rename_i c;rw[Fi l m x]
   grind
theorem EQ(l:List Nat)(x:Nat):(h.cut l).get x=if x∈l/\x<x+1 then h.get x else zn:=by
 have:=Fi (h:=h) l .lf x;show(H1 h l .lf).get x=_;rw[this];by_cases a:x∈l/\x<x+1
 ·rw[zy a];cases c:h.get x with
  |none=>rw[zx (by simp)];rfl
  |some b=>simp_all
 ·rw[zx a,zx λh=>a ⟨h.1,h.2.1⟩];rfl
theorem D0{l:List Nat}{x:Nat}{b:Blk}(e:(h.cut l).get x=zo b):x∈l/\h.get x=zo b:=by
 simp_all[EQ]
theorem DW:∀ {l:List Nat} {h c:Hp},over h1 l h=zo c -> ∀ x,c.get x=if x∈l then(match h1.get x with
  |some b=>zo b
  |none=>h.get x)else h.get x
 |[],h,c,e,x=>by simp[over]at e;grind
 |j::l,h,c,e,x=>by
  unfold over at e;split at e
  ·rename_i b d;split at e
   ·rename_i f a;rw[DW e x,(Hp.get_set a).1 x]
    grind
   ·cases e
  ·rename_i d;rw[DW e x]
   grind
def Rc:Blk->Prop
 |.box _ fz=>fz=zt
 |.row _ _ fz=>fz=zt
 |_=>False
theorem B2:∀ {l:List Nat} {x:Nat},x∈l->x ∉ BC h l -> ∃ b,h.get x=zo b/\Rc b
 |[],x,hx,_=>by simp at hx
 |j::l,x,hx,hn=>by
  unfold BC at hn;simp only[ak]at hx;split at hn
  ·rename_i cs a;rcases hx with rfl|hx
   ·exact⟨_,a,rfl⟩
   ·exact B2 hx hn
  ·rename_i es ex a;rcases hx with rfl|hx
   ·exact⟨_,a,rfl⟩
   ·exact B2 hx hn
  ·simp only[ak,not_or]at hn;rcases hx with rfl|hx
   ·omega
   ·exact B2 hx hn.2
theorem Aj:∀ {l:List Nat} {x:Nat},x∈BC h l->x∈l
 |[],x,hx=>by simp[BC]at hx
 |j::l,x,hx=>by
  unfold BC at hx;split at hx
  ·simp[Aj hx]
  ·simp[Aj hx]
  ·simp only[ak]at hx;rcases hx with rfl|hx
   ·simp
   ·simp[Aj hx]
def Stays(hs a:Hp):Prop:=∀ x b,hs.get x=zo b->Rc b->a.get x=zo b
theorem Stays.refl(hs:Hp):Stays hs hs:=λ_ _ h _=>h
theorem Hk{b:Blk}(e:hs.new id b=zo h1):Stays hs h1:=by
 obtain⟨d,a,_⟩:=Hp.get_new e;intro x c f _
 grind
theorem Fj{j:Nat}{b b0:Blk}(d:hs.get j=zo b0)(e:hs.set j b=zo h1)(a:Rc b0->b=b0):Stays hs h1:=by
 have g:=(Hp.get_set e).1;intro x c h f
 grind
theorem Stays.trans{d:Hp}(a:Stays hs h1)(b:Stays h1 d):Stays hs d:=λx c f e=>b x c (a x c f e) e
theorem Ci:∀ (L:List Nat) {hs b:Hp},freeze hs L=zo b->Stays hs b
 |[],hs,b,e=>by simp[freeze]at e;subst e;exact .refl _
 |j::L,hs,b,e=>by
  unfold freeze at e;split at e
  ·rename_i cs fz c;split at e
   ·rename_i d a;exact(Fj c a λh=>by have h:fz=zt:=h;subst h;rfl).trans (Ci L e)
   ·cases e
  ·rename_i es ex fz c;split at e
   ·rename_i d a;exact(Fj c a λh=>by have h:fz=zt:=h;subst h;rfl).trans (Ci L e)
   ·cases e
  ·cases e
theorem Gk{t:T PV}{o:Oper}(a:Av o.op=zt)(d:En o.op=zf)(k:quiet o.op=zf){r:R}(e:AP P t hs id o=zo r):∀ i,((∃ v,r=.val v i)\/r=.skip i)->Stays hs i:=by
 intro i hr;unfold AP at e;generalize w:o.op=z at a k d e
 have nw:∀ {b:Blk} {v:PV},(hs.new id b).map (λh=>R.val v h)=zo r->Stays hs i:=by
  intro b v e;obtain⟨m,j,rfl⟩:=AA e;rcases hr with⟨l,hr⟩|hr<;>cases hr
  exact Hk j
 have fr:∀ {L:List Nat} {v:PV},(freeze hs L).map (λh=>R.val v h)=zo r->Stays hs i:=by
  intro L v e;obtain⟨m,j,rfl⟩:=AA e;rcases hr with⟨l,hr⟩|hr<;>cases hr
  exact Ci L j
 have same:∀ {v:PV},R.val v hs=r->Stays hs i:=by
  intro v e;subst e;rcases hr with⟨l,hr⟩|hr<;>cases hr
  exact .refl _
 cases z with
 |alloc _=>
  grind [Cq]
 |box _ x=>
  obtain⟨p,_,e⟩:=Aa e;unfold Fo at e
  grind
 |makeMap ty rs=>
  grind
 |makeSlice _ x y=>
  obtain⟨p,q,_,_,e⟩:=CW e;unfold C5 at e
  grind
 |buildSlice ty n B=>
  simp only at e;split at e
  ·unfold Ah at e;simp only[aA]at e
   repeat' split at e
   all_goals first|(cases e;done)|exact fr e
  ·cases e
 |slice ty x lo hi mx=>
  simp only at e;split at e
  ·obtain⟨p,_,e⟩:=Aa e;unfold Ai Dg EM at e;simp only[aA]at e
   repeat' split at e
   all_goals grind
  ·cases e
 |store _ x y=>
  obtain⟨p,q,_,_,e⟩:=CW e;unfold A3 at e;simp only[aA]at e
  repeat' split at e
  all_goals first|(cases e;done)|skip
  all_goals
   obtain⟨m,j,rfl⟩:=AA e;rcases hr with⟨l,hr⟩|hr<;>cases hr
   refine Fj (by assumption) j λh=> ?_;cases h
 |call c=>
  simp only[Av,En,quiet]at a d k;simp only at e;split at e
  ·cases hc:c.callee with
   |builtin b=>
    simp only[hc]at a d k;by_cases u:b=.copy
    ·subst u;simp only[hc]at e;simp only[AH,aA]at e
     repeat' split at e
     all_goals first|(cases e;done)|skip
     all_goals
      obtain⟨m,j,rfl⟩:=AA e;rcases hr with⟨l,hr⟩|hr<;>cases hr
      refine Fj (by assumption) j λh=> ?_;cases h
    grind
   |value f=>
    simp only[hc]at e;obtain⟨p,_,e⟩:=Aa e;unfold IC at e;split at e
    ·obtain⟨g,s,rfl⟩:=Dj e
     simp_all
    all_goals grind
   |invoke C A=>
    simp only[hc]at e;obtain⟨p,_,e⟩:=Aa e;obtain⟨g,s,rfl⟩:=Dj e
    simp_all
  ·cases e
 |lookup _ _ _ _=>cases a
 |mapUpdate _ _ _ _=>cases a
 |insert _ _ _ _=>cases a
 |defer _=>cases a
 |panic _=>cases a
 |_=>first|cases k|cases e
theorem IX(s:Er hs h)(d:hs.get id=zn->h.get id=zn){f:FuncId}{args:List PV}{v:PV}(e:A9 (λ_=>zf) rec id f args hs=zo (.ret v,h1)) :
  (∃ o,A9 (λ_=>zf) rec id f args h=zo (.ret v,o)/\Lay hs h h1 o id)/\(flat v=zt->h1=hs)/\Stays hs h1:=by
 unfold A9 at e ⊢;simp only[zj]at e ⊢;split at e
 ·rename_i B l y;rw[I6 s y];dsimp only;split at e
  ·rename_i r F h' g
   try simp only[g]
   obtain⟨⟨q,D⟩,a,e⟩:=AA e;cases e;unfold Ag at a ⊢;split at a
   ·rename_i len A ex x
    try dsimp only
    split at a
    ·rename_i C c;obtain⟨w,i,a⟩:=AA a;cases a;cases b:BT A with
     |true=>
      simp only[b,zb]at c ⊢;cases c;obtain⟨j,t,m⟩:=(Lay.refl s id).new d i;refine⟨⟨j,by simp_all,m⟩,(by intro h;cases h),Hk i⟩
     |false=>
      simp only[b,zj]at c ⊢;obtain⟨p,u,n⟩:=Lay.freeze l (Lay.refl s id) c;obtain⟨j,t,m⟩:=n.new d i;refine⟨⟨j,by simp_all,m⟩,(by intro h;cases h),(Ci l c).trans (Hk i)⟩
    ·cases a
   ·rename_i x
    try dsimp only
    split at a
    ·rename_i z E k
     try simp only[k]
     cases b:flat z with
     |true=>
      simp only[b,zb]at a ⊢;cases a;exact⟨⟨h,rfl,.refl s id⟩,λ_=>rfl,.refl _⟩
     |false=>
      simp only[b,zj]at a ⊢;obtain⟨w,c,a⟩:=AA a;cases a;obtain⟨p,u,n⟩:=Lay.freeze l (Lay.refl s id) c;exact⟨⟨p,by simp_all,n⟩,(by simp_all),Ci l c⟩
    ·cases a
  all_goals grind
 ·cases e
end
end
section
variable[Gl]
section
theorem Eu(m k:Nat):F4 m k=m.testBit k:=by
 unfold F4;show(!aa (m &&& 2 ^ k) 0)=m.testBit k;cases c:m.testBit k with
 |false=>
  have:m &&& 2 ^ k=0:=by
   apply Nat.eq_of_testBit_eq
   grind
  rw[this];rfl
 |true=>
  have:m &&& 2 ^ k≠0:=by
   intro a;have b:(m &&& 2 ^ k).testBit k=zt:=by grind
   simp_all
  rw[Fx this];rfl
theorem FO(a b k:Nat):F4 (bX a b) k=(F4 a k||F4 b k):=by
 simp_all[Eu]
theorem GX(j k:Nat):F4 (Nat.pow 2 j) k=decide (j=k):=by
 rw[Eu];exact Nat.testBit_two_pow
theorem IP{a b:Nat}(h:Es a b=zt)(k:Nat):¬ (F4 a k=zt/\F4 b k=zt):=by
 unfold Es at h;have e:a &&& b=0:=aj h;rintro⟨c,d⟩;rw[Eu]at c d;have:(a &&& b).testBit k=zt:=by grind
 simp_all
theorem H4:∀ {l:List Operand} {k:Nat},.tmp k∈l->F4 (Fk l) k=zt
 |[],k,h=>by simp at h
 |o::l,k,h=>by
  unfold Fk;rw[FO];simp only[ak]at h;rcases h with rfl|h
  ·simp only[Q5,GX];simp
  ·rw[H4 h];simp
theorem BE{a b:List Nat}(h:Cj a b=zf)(x:Nat):¬ (x∈a/\x∈b):=by
 induction a with
 |nil=>simp
 |cons y a d=>
  unfold Cj at h;simp only[ah]at h;rintro⟨h1,c⟩;simp only[ak]at h1;rcases h1 with rfl|h1
  ·rw[List.any_eq_false]at h;exact h.1 x c (by simp)
  simp_all
theorem Fb:∀ (a:List Nat),Cj a []=zf
 |[]=>rfl
 |x::a=>by unfold Cj;rw[Fb a];rfl
variable{P:Program}{rec:GT}
def JD(nt:Nat)(a:Option Nat)(v:PV)(t b:T PV):Prop:=match a with
 |none=>b=t
 |some d=>d<nt/\b=T.put 20 t d v
structure Tr where
 ts:Nat->T PV
 hp:Nat->Hp
 rd:Nat->List Nat
 wr:Nat->List Nat
def Tr.StepAt(P:Program)(rec:GT)(base nt:Nat)(opsl:List Oper)(a:Tr)(j:Nat)(o:Oper):Prop:=
 (A8 opsl (a.ts j) o.guard=zt /\ ∃ v,Ay P rec (a.ts j) (a.hp j) (base+j) o=zo (v,a.hp (j+1),a.rd j,a.wr j)/\JD nt o.dst v (a.ts j) (a.ts (j+1))) \/
 (A8 opsl (a.ts j) o.guard=zf/\a.hp (j+1)=a.hp j/\a.rd j=[]/\a.wr j=[]/\JD nt o.dst (.tup []) (a.ts j) (a.ts (j+1)))
def Tr.Clear(a:Tr)(b j k:Nat):Prop:=F4 b k=zt\/(Cj (a.wr k) (a.rd j)=zf/\Cj (a.wr j) (a.rd k)=zf)
theorem GG{b:Nat}{rd wr:List Nat}:∀ {a:List (Nat×List Nat×List Nat)},GF b rd wr a=zt -> ∀ k r w,(k,r,w)∈a->F4 b k=zt\/(Cj w rd=zf/\Cj wr r=zf)
 |[],_,k,r,w,h=>by simp at h
 |(k0,r0,w0)::a,e,k,r,w,h=>by
  unfold GF at e;simp only[ac,bE,aZ,ah]at e;simp only[ak]at h;rcases h with h|h
  ·simp_all
  ·exact GG e.2 k r w h
theorem Ln{base nt:Nat}{opsl:List Oper}{I:T PV}{h':Hp}:∀ (l:List Oper) (D:List Mk) (i:Nat) (b:List (Nat×List Nat×List Nat)) (t:T PV) (h:Hp),
  AX P rec base nt opsl i l D b t h=zo (I,h') -> ∀ (g n:Nat->List Nat),(∀ k,k<i->(k,g k,n k)∈b\/(g k=[]/\n k=[])) ->
  ∃ f:Tr,f.ts i=t/\f.hp i=h/\f.ts (i+l.length)=I/\f.hp (i+l.length)=h'/\(∀ k,k<i->f.rd k=g k/\f.wr k=n k) /\
   ∀ j o m,l[j]?=zo o->D[j]?=zo m->f.StepAt P rec base nt opsl (i+j) o /\ ∀ k,k<i+j->f.Clear m.bef (i+j) k
 |[],D,i,b,t,h,e,g,n,hpast=>by
  unfold AX at e;cases e;exact⟨⟨λ_=>I,λ_=>h',g,n⟩,rfl,rfl,rfl,rfl,λ_ _=>⟨rfl,rfl⟩,λj o m J=>by simp at J⟩
 |o::l,[],i,b,t,h,e,g,n,hpast=>by unfold AX at e;cases e
 |o::l,m::D,i,b,t,h,e,g,n,hpast=>by
  unfold AX at e
  have u:∀ {v:PV} {K:T PV} {E:Hp} {p q:List Nat} {c:List (Nat×List Nat×List Nat)},AX P rec base nt opsl (i+1) l D c K E=zo (I,h')->JD nt o.dst v t K ->
    (A8 opsl t o.guard=zt/\Ay P rec t h (base+i) o=zo (v,E,p,q)\/A8 opsl t o.guard=zf/\E=h/\p=[]/\q=[]/\v=.tup []) ->
    (∀ k r w,(k,r,w)∈b->(k,r,w)∈c)->((i,p,q)∈c\/(p=[]/\q=[]))->(∀ k r w,(k,r,w)∈b->F4 m.bef k=zt\/(Cj w p=zf/\Cj q r=zf)) ->
    ∃ f:Tr,f.ts i=t/\f.hp i=h/\f.ts (i+(o::l).length)=I/\f.hp (i+(o::l).length)=h'/\(∀ k,k<i->f.rd k=g k/\f.wr k=n k) /\
     ∀ j o' m',(o::l)[j]?=zo o'->(m::D)[j]?=zo m'->f.StepAt P rec base nt opsl (i+j) o' /\ ∀ k,k<i+j->f.Clear m'.bef (i+j) k:=by
   intro v K E p q c e1 AG B U hin z
   obtain⟨f,k1,k2,k3,k4,N,k6⟩:=Ln l D (i+1) c K E e1 (λk=>if k=i then p else g k) (λk=>if k=i then q else n k) (by
    grind)
   obtain⟨A,C⟩:=N i (by omega);simp only[if_true]at A C;refine⟨⟨λk=>if k=i then t else f.ts k,λk=>if k=i then h else f.hp k,f.rd,f.wr⟩,by simp,by simp,?_,?_,?_,?_⟩
   ·grind
   ·grind
   ·intro k S;have:=N k (by omega)
    grind
   ·intro j o' m' J G;cases j with
    |zero=>
     simp only[bg,Option.some.injEq]at J G;subst J;subst G;simp only[aN];constructor
     ·rcases B with⟨W,X⟩|⟨W,X,Y,Z,a5⟩
      ·refine .inl ⟨by grind,v,?_,?_⟩
       all_goals simp_all
      ·refine .inr ⟨by grind,?_,by rw[A,Y],by rw[C,Z],?_⟩
       all_goals simp_all
     ·intro k S;have x:=N k (by omega);simp only[zx (show k≠i by omega)]at x;unfold Tr.Clear;simp only[A,C,x.1,x.2];rcases hpast k S with s|⟨L,M⟩
      ·simp_all
      ·rw[L,M];exact .inr ⟨rfl,Fb _⟩
    |succ j=>
     obtain⟨q1,q2⟩:=k6 j o' m' (by grind) (by simp_all);rw[show i+(j+1)=i+1+j by omega];refine⟨?_,q2⟩;unfold Tr.StepAt at q1 ⊢
     grind
  cases F:A8 opsl t o.guard with
  |true=>
   simp only[F,zb]at e;split at e
   ·rename_i v E p q O;replace e:=Ad e;obtain⟨z,e⟩:=e;cases a:o.dst with
    |some d=>
     simp only[a]at e;replace e:=Ad e;obtain⟨y,e⟩:=e;exact u e (by rw[a];exact⟨by simpa using y,rfl⟩) (.inl ⟨F,O⟩) (λk r w s=>aC _ s) (.inl bS) (λk r w s=>GG z k r w s)
    |none=>
     simp only[a]at e;exact u e (by rw[a];exact rfl) (.inl ⟨F,O⟩) (λk r w s=>aC _ s) (.inl bS) (λk r w s=>GG z k r w s)
   ·cases e
  |false=>
   simp only[F,zj]at e;cases a:o.dst with
   |some d=>
    simp only[a]at e;replace e:=Ad e;obtain⟨y,e⟩:=e;exact u (v:=.tup []) e (by rw[a];exact⟨by simpa using y,rfl⟩) (.inr ⟨F,rfl,rfl,rfl,rfl⟩) (λk r w s=>s) (.inr ⟨rfl,rfl⟩) (λk r w s=>.inr ⟨Fb _,rfl⟩)
   |none=>
    simp only[a]at e;exact u (v:=.tup []) e (by rw[a];exact rfl) (.inr ⟨F,rfl,rfl,rfl,rfl⟩) (λk r w s=>s) (.inr ⟨rfl,rfl⟩) (λk r w s=>.inr ⟨Fb _,rfl⟩)
theorem Hz{m:Mk}:∀ {l:List Mk} {j:Nat},Gz m j l=zt -> ∀ k x,l[k]?=zo x->F4 m.bef (j+k)=zt\/(Es x.wr (bX m.rd m.wr)=zt/\Es x.rd m.wr=zt)
 |[],j,_,k,x,h=>by simp at h
 |y::l,j,e,k,x,h=>by
  unfold Gz at e;simp only[ac,bE]at e;cases k with
  |zero=>simp_all
  |succ k=>
   have:=Hz e.2 k x (by grind)
   grind
def LO(opsl:List Oper)(a:List Mk)(i:Nat)(o:Oper)(m:Mk):Prop:=
 m.rd=bX (Fk (Az o.op)) (E6 opsl o.guard)/\m.wr=HI o.dst/\m.bef=DL (a.take i) o.after.toList/\Gh i o.after.toList=zt/\Gz m 0 (a.take i)=zt
theorem L3{opsl:List Oper}:∀ (l:List Oper) (i:Nat) (a c:List Mk),Fa opsl i l a=zo c->a.length=i ->
  (∃ b,c=a++b/\b.length=l.length) /\ ∀ j o,l[j]?=zo o -> ∃ m,c[i+j]?=zo m/\LO opsl c (i+j) o m
 |[],i,a,c,e,hl=>by simp_all[Fa]
 |o::l,i,a,c,e,hl=>by
  unfold Fa at e;simp only at e;replace e:=Ad e;obtain⟨hc,e⟩:=e;simp only[ac]at hc;obtain⟨⟨b,f,d⟩,g⟩:=L3 l (i+1) _ c e (by simp[hl]);refine⟨⟨_::b,by rw[f,aV];rfl,by simp[d]⟩,λj o' h=> ?_⟩;cases j with
  |zero=>
   simp_all[LO,bg,Option.some.injEq,aV,aN]
  |succ j=>
   grind
theorem ER{a:List Mk}:∀ {es:List Edge} {k:Nat},F4 (DL a es) k=zt -> ∃ e∈es,Region.binds .any e=zt/\(e.on=k \/ ∃ m,a[e.on]?=zo m/\F4 m.bef k=zt)
 |[],k,h=>by rw[Eu]at h;simp[DL]at h
 |e::es,k,h=>by
  unfold DL at h;cases b:Region.binds .any e with
  |true=>
   simp only[b,zb]at h;rw[FO,FO,GX]at h;simp only[bE,decide_eq_true_eq]at h;rcases h with (h|h)|h
   ·simp_all
   ·grind [AM,Eu]
   ·obtain⟨c,d,f,g⟩:=ER h
    grind
  |false=>
   simp only[b,zj]at h;obtain⟨c,d,f,g⟩:=ER h
   grind
theorem E3{i:Nat}:∀ {es:List Edge},Gh i es=zt -> ∀ e∈es,Region.binds .any e=zt->e.on<i
 |[],_,e,he=>by simp at he
 |e0::es,h,e,he=>by
  unfold Gh at h;simp only[ac,bE,aZ,bJ]at h;intro a;simp only[ak]at he;rcases he with rfl|he
  ·simp_all
  ·exact E3 h.2 e he a
end
end
section
variable[Gl]
section
theorem C8:∀ (n:Nat) (l:List Nat),l.Nodup->(∀ x∈l,x<n)->l.length<=n
 |0,l,_,h=>by
  cases l with
  |nil=>simp
  |cons a l=>have:=h a (by simp);omega
 |n+1,l,hn,h=>by
  by_cases d:n∈l
  ·have c:=C8 n (l.erase n) (hn.erase n) (λx b=>by
    grind)
   simp_all
  ·have:=C8 n l hn (λx b=>by
    grind)
   omega
theorem EA:∀ (n:Nat) (l:List Nat),(∀ x,x<n->x∈l)->n<=l.length
 |0,l,_=>by omega
 |n+1,l,h=>by
  have a:=EA n (l.erase n) (λx b=>(List.mem_erase_of_ne (by omega)).2 (h x (by omega)))
  grind
def HD(ops:Array Oper)(l:List Nat):Prop:=∀ p i q,l=p++i::q -> ∀ o,ops[i]?=zo o -> ∀ e∈o.after.toList,Region.binds .any e=zt->e.on∈p
theorem Lv{ops:Array Oper}{l:List Nat}{i:Nat}(f:HD ops l)(hi:∀ o,ops[i]?=zo o -> ∀ e∈o.after.toList,Region.binds .any e=zt->e.on∈l):HD ops (l++[i]):=by
 intro p j q h o g e b d;rcases List.eq_nil_or_concat q with rfl|⟨c,z,rfl⟩
 ·simp_all
 ·have a:l++[i]=(p++j::c)++[z]:=by grind
  have:=List.append_inj' a (by simp);exact f p j c this.1 o g e b d
theorem QE{ops:Array Oper}(b:∀ i o,ops[i]?=zo o -> ∀ e∈o.after.toList,Region.binds .any e=zt->e.on<i) :
  ∀ (fuel t:Nat) (listed:Array Bool) (a:List Nat),fuel+a.length=ops.size->listed.size=ops.size->(∀ i,i<ops.size->listed[i]?=zo (decide (i∈a)))->a.Nodup->(∀ i∈a,i<ops.size)->HD ops a.reverse ->
  (Region.linearise.go .any ops fuel t listed a).Nodup/\(∀ i,i∈Region.linearise.go .any ops fuel t listed a<->i<ops.size)/\HD ops (Region.linearise.go .any ops fuel t listed a)
 |0,t,listed,a,hf,hs,hl,hn,hlt,hp=>by
  simp only[Region.linearise.go];refine⟨List.pairwise_reverse.2 (hn.imp λh=>Ne.symm h),λi=>⟨λh=>hlt i (by grind),λhi=> ?_⟩,hp⟩;rw[cQ];by_cases s:i∈a
  ·exact s
  ·have:=C8 ops.size (i::a) (bF.2 ⟨s,hn⟩) (λx C=>by
    grind)
   grind
 |fuel+1,t,listed,a,hf,hs,hl,hn,hlt,hp=>by
  simp only[Region.linearise.go];generalize q:(bh ops.size).filter (λi=> !listed.getD i zt&&((ops[i]?).map (λo=>o.after.all λe=> !Region.binds .any e||listed.getD e.on zf)).getD zf)=rs
  have r:∀ i,i∈rs<->i<ops.size/\i ∉ a /\ ∀ o,ops[i]?=zo o -> ∀ e∈o.after.toList,Region.binds .any e=zt->e.on∈a:=by
   intro i;rw[<- q,List.mem_filter,List.mem_range];constructor
   ·rintro⟨f,m⟩;simp only[ac,aZ]at m;have z:=hl i f;refine⟨f,?_,?_⟩
    ·grind [aI]
    ·intro o l e k g;rw[l]at m;simp only[ay,aD,bT]at m;have:=m.2 e (cv.1 k);rw[g]at this;simp only[ap,dc]at this;have n:=b i o l e k g;rw[aI,hl e.on (by omega)]at this
     simp_all
   ·rintro⟨f,m,B⟩;refine⟨f,?_⟩;simp only[ac,aZ];refine⟨by simp_all,?_⟩;rw[af f];simp only[ay,aD,bT];intro e k;cases g:Region.binds .any e with
    |false=>rfl
    |true=>
     simp only[ap,dc];have l:=af f;have n:=b i _ l e (cv.2 k) g;rw[aI,hl e.on (by omega)]
     simp_all
  have p:rs≠[]:=by
   intro A
   have all:∀ i,i<ops.size->i∈a:=by
    intro i
    induction i using db<;>grind
   have:=EA ops.size a all;omega
  have c:t % rs.length<rs.length:=cN _ (List.length_pos_iff.2 p);rw[ai c];simp only;obtain⟨u,w,y⟩:=(r _).1 (bL c);generalize rs[t % rs.length]=i at u w y;refine QE b fuel _ _ (i::a) (by simp only[bB];omega) (by simpa using hs) ?_ (bF.2 ⟨w,hn⟩) ?_ ?_
  ·intro j hj;rw[Array.getElem?_setIfInBounds];by_cases d:i=j
   ·subst d;rw[zy rfl,zy (by omega)];simp
   ·rw[zx d,hl j hj];simp[Ne.symm d]
  ·intro j hj;simp only[ak]at hj;rcases hj with rfl|hj
   ·exact u
   ·exact hlt j hj
  ·rw[List.reverse_cons];exact Lv hp λo l e k g=>by rw[cQ];exact y o l e k g
theorem Qw{ops:Array Oper}{mixed:Bool}(b:(mixed || !Region.departs ops)=zt)(a:∀ i o,ops[i]?=zo o -> ∀ e∈o.after.toList,Region.binds .any e=zt->e.on<i)(t:Nat) :
  (Region.schedule mixed ops t).Nodup/\(∀ i,i∈Region.schedule mixed ops t<->i<ops.size)/\HD ops (Region.schedule mixed ops t):=by
 unfold Region.schedule;rw[zy b];unfold Region.linearise;exact QE a ops.size t _ [] (by simp) (by simp) (λi hi=>by simp[hi]) List.nodup_nil (by simp) (by intro p i q h;simp at h)
theorem SS{ops:Array Oper}{n:List Mk}(l:∀ j o,ops.toList[j]?=zo o -> ∃ m,n[j]?=zo m/\LO ops.toList n j o m){σ:List Nat}(hσ:HD ops σ) :
  ∀ (i:Nat) (o:Oper) (m:Mk),ops[i]?=zo o->n[i]?=zo m -> ∀ p q,σ=p++i::q -> ∀ k,F4 m.bef k=zt->k∈p:=by
 intro i
 induction i using db with
 |_ i A=>
  intro o m y w p q s k r;obtain⟨m',f,a⟩:=l i o (by grind);rw[w]at f;cases f;rw[a.2.2.1]at r;obtain⟨e,b,c,g⟩:=ER r;have u:=E3 a.2.2.2.1 e b c;have d:=hσ p i q s o y e b c;rcases g with rfl|⟨B,x,t⟩
  ·exact d
  ·obtain⟨C,D,z⟩:=cF d
   grind
end
end
section
variable[Gl]
section
variable{P:Program}{rec:GT}
def RG(n:Nat)(ops:Array Oper)(b:Tr)(a:List Nat)(t:T PV):Prop:=
 ∀ k m,m<=n->(∀ j o,ops[j]?=zo o->o.dst=zo k->(j∈a<->j<m))->t.get k=(b.ts m).get k
def RF(n:Nat)(b:Tr)(a:List Nat)(h:Hp):Prop:=
 ∀ x m,m<=n->(∀ j,j<n->x∈b.wr j->(j∈a<->j<m))->h.get x=(b.hp m).get x
theorem Hq{t tS:T PV}{h hS h':Hp}{id:Nat}{o:Oper}{v:PV}{rd wr:List Nat}(e:Ay P rec t h id o=zo (v,h',rd,wr))(L:F3 t tS (Az o.op))(hh:∀ x∈rd,hS.get x=h.get x) :
  ∃ hS',((AP P tS hS id o=zo (.val v hS'))\/(AP P tS hS id o=zo (.skip hS')/\v=.tup []) \/ ∃ f args,AP P tS hS id o=zo (.call f args)/\A9 (λ_=>zf) rec id f args hS=zo (.ret v,hS')) /\
   (∀ x,x ∉ wr->hS'.get x=hS.get x/\h'.get x=h.get x)/\(∀ x,x∈wr->x∈rd/\hS'.get x=h'.get x):=by
 unfold Ay at e;simp only at e;replace e:=Bm e;obtain⟨hc,e⟩:=e;simp only[ah,au,bJ]at hc;obtain⟨j,w⟩:=hc
 have sub:∀ {l:List Nat},(∀ x∈l,x∈rd)->Er (h.cut l) hS:=by
  intro l g x b a;obtain⟨i,q⟩:=D0 a
  simp_all
 have r:∀ {l:List Nat},id∈l->(∀ x∈l,x∈rd)->(h.cut l).get id=zn->hS.get id=zn:=by
  intro l k g a;rw[EQ,zy ⟨k,w⟩]at a;rw[hh id (g id k)];exact a
 have F:∀ {l:List Nat} {x:Nat} {b:Blk},(h.cut l).get x=zo b->x∈l:=λa=>(D0 a).1
 have lay:∀ {l z:List Nat} {i hS':Hp},id∈l->(∀ x∈l,x∈rd)->Lay (h.cut l) hS i hS' id->over i l h=zo h'->(∀ x∈z,x∈l)->(∀ x∈l,x ∉ z -> ∃ b,h.get x=zo b/\Rc b)->Stays (h.cut l) i\/(∀ x∈l,x∈z) ->
   (∀ x,x ∉ z->hS'.get x=hS.get x/\h'.get x=h.get x)/\(∀ x,x∈z->x∈rd/\hS'.get x=h'.get x):=by
  intro l z i hS' k g m K M I hst;refine⟨λx a=> ?_,λx a=> ?_⟩
  ·by_cases n:x∈l
   ·rcases hst with hst|hst
    ·obtain⟨b,U,G⟩:=I x n a;have N:x<x+1 \/ ¬ x<x+1:=by omega
     rcases N with hlt|hge
     ·have A:=hst x b (by simp_all[EQ,zy]) G;refine⟨by rw[m.get,A,hh x (g x n),U],by rw[DW K,zy n,A,U]⟩
     omega
    simp_all
   ·have hn:i.get x=zn:=by
     cases J:i.get x with
     |none=>rfl
     |some c=>
      rcases m.keys x c J with⟨b0,Y⟩|rfl<;>simp_all
    exact⟨by rw[m.get,hn],by rw[DW K,zx n]⟩
  ·have n:=M x a;refine⟨g x n,?_⟩;rw[m.get,DW K,zy n]
   grind
 have same:∀ {l:List Nat} {hS':Hp},(∀ x∈l,x∈rd)->Lay (h.cut l) hS (h.cut l) hS' id->h'=h->(∀ x,x ∉ ([]:List Nat)->hS'.get x=hS.get x/\h'.get x=h.get x)/\(∀ x,x∈([]:List Nat)->x∈rd/\hS'.get x=h'.get x):=by
  intro l hS' g m Z;refine⟨λx _=>⟨?_,by rw[Z]⟩,λx a=>by simp at a⟩;rw[m.get];cases J:(h.cut l).get x with
  |none=>rfl
  |some b=>exact(sub g x b J).symm
 split at e
 ·rename_i E i d;rw[ES j L]at d;cases D:quiet o.op with
  |true=>
   simp only[D,zb,Option.some.injEq,Prod.mk.injEq]at e;obtain⟨rfl,rfl,rfl,rfl⟩:=e;have B:=Gj D j d;subst B;have g:∀ x∈id::Aw t h o.op,x∈id::Aw t h o.op:=λx a=>a;obtain⟨hS',e2,m⟩:=Cn (sub g) (r (by simp) g) j d
   grind
  |false=>
   simp only[D,zj]at e;obtain⟨q,p,e⟩:=AA e;simp only[Prod.mk.injEq]at e;obtain⟨rfl,rfl,rfl,rfl⟩:=e;have g:∀ x∈id::Aw t h o.op,x∈id::Aw t h o.op:=λx a=>a;obtain⟨hS',e2,m⟩:=Cn (sub g) (r (by simp) g) j d;refine⟨hS',.inl e2,?_⟩;cases X:En o.op with
   |true=>exact lay (by simp) g m p (λx a=>a) (λx i q=>absurd i q) (.inr λx a=>a)
   |false=>exact lay (by simp) g m p (λx a=>Aj a) (λx i q=>B2 i q) (.inl (Gk j X D d _ (.inl ⟨_,rfl⟩)))
 ·rename_i i d;rw[ES j L]at d;replace e:=Bm e;obtain⟨y,e⟩:=e;simp only[ah]at y;obtain⟨q,p,e⟩:=AA e;simp only[Prod.mk.injEq]at e;obtain⟨rfl,rfl,rfl,rfl⟩:=e;have g:∀ x∈id::Aw t h o.op,x∈id::Aw t h o.op:=λx a=>a;obtain⟨hS',e2,m⟩:=Cn (sub g) (r (by simp) g) j d;have hst:Stays (h.cut (id::Aw t h o.op)) i:=Gk j y.2 y.1 d _ (.inr rfl);exact⟨hS',.inr (.inl ⟨e2,rfl⟩),lay (by simp) g m p (λx a=>Aj a) (λx i q=>B2 i q) (.inl hst)⟩
 ·rename_i f args d;rw[ES j L]at d;split at e
  ·rename_i as l hp;split at e
   ·rename_i E i s
    have key:(∀ x∈id::Aw t h o.op,x∈rd) -> ∀ (g:∀ x∈id::l,x∈rd),∃ hS',AP P tS hS id o=zo (.call f args)/\A9 (λ_=>zf) rec id f args hS=zo (.ret E,hS')/\Lay (h.cut (id::l)) hS i hS' id/\(flat E=zt->i=h.cut (id::l))/\Stays (h.cut (id::l)) i:=by
     intro C g;have W:AP P tS hS id o=zo (.call f args):=Cn (sub C) (r (by simp) C) j d;obtain⟨⟨hS',e3,m⟩,O,S⟩:=IX (sub g) (r (by simp) g) s
     grind
    cases u:flat E with
    |true=>
     simp only[u,zb,Option.some.injEq,Prod.mk.injEq]at e;obtain⟨rfl,rfl,rfl,rfl⟩:=e
     have k:∀ x∈id::l,x∈(id::Aw t h o.op)++l:=λx a=>by
      grind
     obtain⟨hS',e2,e3,m,O,S⟩:=key (λx a=>ax _ a) k;have:=O u;subst this;exact⟨hS',.inr (.inr ⟨f,args,e2,e3⟩),same k m rfl⟩
    |false=>
     simp only[u,zj]at e;obtain⟨q,p,e⟩:=AA e;simp only[Prod.mk.injEq]at e;obtain⟨rfl,rfl,rfl,rfl⟩:=e
     have k:∀ x∈id::l,x∈(id::Aw t h o.op)++l:=λx a=>by
      grind
     obtain⟨hS',e2,e3,m,O,S⟩:=key (λx a=>ax _ a) k;exact⟨hS',.inr (.inr ⟨f,args,e2,e3⟩),lay (by simp) k m p (λx a=>Aj a) (λx i q=>B2 i q) (.inl S)⟩
   ·cases e
  ·cases e
 ·cases e
end
end
section
variable[Gl]
section
variable{P:Program}{rec:GT}
theorem Hf{nt:Nat}{a:Option Nat}{v:PV}{t b:T PV}(e:nt<=1048575)(h:JD nt a v t b){k:Nat}(g:a≠zo k):b.get k=t.get k:=by
 unfold JD at h;cases c:a with
 |none=>simp_all
 |some d=>
  rw[c]at h;obtain⟨f,rfl⟩:=h;rw[T.get_put 20 t d v k (by omega),zx (by grind)]
theorem MJ{nt d:Nat}{v:PV}{t a:T PV}(c:nt<=1048575)(h:JD nt (zo d) v t a):d<nt/\a.get d=zo v:=by
 obtain⟨b,rfl⟩:=h;exact⟨b,by rw[T.get_put 20 t d v d (by omega),zy rfl]⟩
theorem MX{base nt n:Nat}{opsl:List Oper}{c:Tr}(e:∀ j,j<n -> ∃ o,opsl[j]?=zo o/\c.StepAt P rec base nt opsl j o)
  (d:∀ j,j<n -> ∀ x,x ∉ c.wr j->(c.hp (j+1)).get x=(c.hp j).get x) {x a:Nat}:∀ b,a<=b->b<=n->(∀ j,a<=j->j<b->x ∉ c.wr j)->(c.hp b).get x=(c.hp a).get x
 |0,ha,_,_=>by simp_all
 |b+1,ha,hb,h=>by
  by_cases i:a=b+1
  ·grind
  ·rw[d b (by omega) x (h b (by omega) (by omega)),MX e d b (by omega) (by omega) λj f g=>h j f (by omega)]
theorem MY{n:Nat}{ops:Array Oper}{e:Tr}(d:∀ j o,j<n->ops[j]?=zo o -> ∀ k,o.dst≠zo k->(e.ts (j+1)).get k=(e.ts j).get k)(c:ops.size=n){k a:Nat}:∀ b,a<=b->b<=n->(∀ j o,a<=j->j<b->ops[j]?=zo o->o.dst≠zo k)->(e.ts b).get k=(e.ts a).get k
 |0,ha,_,_=>by simp_all
 |b+1,ha,hb,h=>by
  by_cases m:a=b+1
  ·subst m;rfl
  ·have f:=af (xs:=ops) (i:=b) (by omega);rw[d b _ (by omega) f k (h b _ (by omega) (by omega) f),MY d c b (by omega) (by omega) λj o g p l=>h j o g (by omega) l]
theorem Lp{ops:Array Oper}{t tS:T PV}{g:Option (Nat×Bool)}(h:∀ k,F4 (E6 ops.toList g) k=zt->tS.get k=t.get k):A8 ops.toList tS g=A8 ops.toList t g:=by
 unfold A8;cases g with
 |none=>rfl
 |some g=>
  grind [E6,HI,GX]
theorem E2(R:RecOK P rec):FJ P rec:=by
 intro ops base fr fr' h h' e hm M μ w b a cs k t s f;unfold drawn at e;split at e
 ·rename_i ms hmarks;split at e
  ·rename_i tE hE hgo;cases e
   let n:=ops.size
   obtain⟨⟨ms',hms',hmslen⟩,hms⟩:=L3 ops.toList 0 [] ms hmarks rfl;simp only[aS]at hms;obtain⟨g,k1,k2,k3,k4,_,k6⟩:=Ln ops.toList ms 0 [] fr.t h hgo (λ_=>[]) (λ_=>[]) (λk W=>by omega);simp only[aS,Array.length_toList]at k3 k4 k6;have hnt:fr.nt<=1048575:=by have:=f.t.1;omega
   have I:∀ j,j<n -> ∃ o m,ops[j]?=zo o/\ms[j]?=zo m/\LO ops.toList ms j o m/\g.StepAt P rec base fr.nt ops.toList j o /\ ∀ k,k<j->g.Clear m.bef j k:=by
    intro j F;have G:ops[j]?=zo ops[j]:=af F;obtain⟨m,hm1,hm2⟩:=hms j ops[j] (by simp)
    grind
   have hedge:∀ i o,ops[i]?=zo o -> ∀ e∈o.after.toList,Region.binds .any e=zt->e.on<i:=by
    intro i o G e U hb;obtain⟨m,_,hm2⟩:=hms i o (by grind);exact E3 hm2.2.2.2.1 e U hb
   obtain⟨sn,Z,spre⟩:=Qw (mixed:=P.follows .mixedOrders) hm hedge t;generalize Region.schedule (P.follows .mixedOrders) ops t=σ at sn Z spre;have befIn:=SS hms spre
   have tclear:∀ i o m,ops[i]?=zo o->ms[i]?=zo m->LO ops.toList ms i o m -> ∀ j o' m',ops[j]?=zo o'->ms[j]?=zo m'->LO ops.toList ms j o' m'->j<i ->
     F4 m.bef j=zt\/(Es m'.wr (bX m.rd m.wr)=zt/\Es m'.rd m.wr=zt):=by
    intro i o m G B z j o' m' c Y S X;have:=Hz z.2.2.2.2 j m' (by grind)
    grind
   have place:∀ {p:List Nat} {i:Nat} {q:List Nat},σ=p++i::q -> ∀ o m,ops[i]?=zo o->ms[i]?=zo m->LO ops.toList ms i o m ->
     i ∉ p/\(∀ j,F4 m.bef j=zt->j∈p)/\(∀ j o' m',ops[j]?=zo o'->ms[j]?=zo m'->F4 m'.bef i=zt->j ∉ p):=by
    intro p i q U o m G B z;rw[U]at sn
    have hip:i ∉ p:=by
     grind
    refine⟨hip,λj F=>befIn i o m G B p q U j F,?_⟩;intro j o' m' c Y hb A;obtain⟨p1,p2,hp⟩:=cF A;have:=befIn j o' m' c Y p1 (p2++i::q) (by grind) i hb
    grind
   have claimT:∀ {p:List Nat} {i:Nat} {q:List Nat},σ=p++i::q -> ∀ o m,ops[i]?=zo o->ms[i]?=zo m->LO ops.toList ms i o m -> ∀ d,(F4 m.rd d=zt\/F4 m.wr d=zt) ->
     ∀ j o',ops[j]?=zo o'->o'.dst=zo d->(j∈p<->j<i):=by
    intro p i q U o m G B z d N j o' c l;obtain⟨hip,hb1,hb2⟩:=place U o m G B z;have F:j<n:=(cd.1 c).1;obtain⟨o2,m',ho2,Y,S,_,_⟩:=I j F;rw[c]at ho2;cases ho2;have hwj:F4 m'.wr d=zt:=by rw[S.2.1,l];simp only[HI,GX];simp
    rcases cR j i with X|rfl|hgt
    ·refine⟨λ_=>X,λ_=> ?_⟩;rcases tclear i o m G B z j o' m' c Y S X with hb|⟨c1,_⟩
     ·grind
     ·exact absurd ⟨hwj,by rw[FO];grind⟩ (IP c1 d)
    ·grind
    ·refine⟨λA=> ?_,λh=>by omega⟩;rcases tclear j o' m' c Y S i o m G B z hgt with hb|⟨c1,c2⟩
     ·exact absurd A (hb2 j o' m' c Y hb)
     ·rcases N with h|h
      ·exact absurd ⟨h,hwj⟩ (IP c2 d)
      ·exact absurd ⟨h,by rw[FO,hwj];simp⟩ (IP c1 d)
   have claimH:∀ {p:List Nat} {i:Nat} {q:List Nat},σ=p++i::q->i<n -> ∀ x,x∈g.rd i -> ∀ j,j<n->x∈g.wr j->(j∈p<->j<i):=by
    intro p i q U hi x J j F D;obtain⟨o,m,G,B,z,C,hcl⟩:=I i hi;obtain⟨o',m',c,Y,S,hstep',hcl'⟩:=I j F;obtain⟨hip,hb1,hb2⟩:=place U o m G B z;rcases cR j i with X|rfl|hgt
    ·refine⟨λ_=>X,λ_=> ?_⟩;rcases hcl j X with hb|⟨c1,c2⟩
     ·grind
     ·exact absurd ⟨D,J⟩ (BE c1 x)
    ·grind
    ·refine⟨λA=> ?_,λh=>by omega⟩;rcases hcl' i hgt with hb|⟨c1,c2⟩
     ·exact absurd A (hb2 j o' m' c Y hb)
     ·exact absurd ⟨D,J⟩ (BE c2 x)
   have unH:∀ j,j<n->(∀ x,x ∉ g.wr j->(g.hp (j+1)).get x=(g.hp j).get x)/\(∀ x,x∈g.wr j->x∈g.rd j):=by
    intro j F;obtain⟨o,m,G,B,z,C,hcl⟩:=I j F;rcases C with⟨_,v,N,_⟩|⟨_,h1,_,h3,_⟩
    ·obtain⟨hS',_,c1,c2⟩:=Hq N (tS:=g.ts j) (hS:=g.hp j) (λ_ _=>rfl) (λ_ _=>rfl)
     grind
    grind
   have unT:∀ j o,j<n->ops[j]?=zo o -> ∀ k,o.dst≠zo k->(g.ts (j+1)).get k=(g.ts j).get k:=by
    intro j o F G k W;obtain⟨o2,m,ho2,B,z,C,hcl⟩:=I j F;rw[G]at ho2;cases ho2;rcases C with⟨_,v,_,hp⟩|⟨_,_,_,_,hp⟩
    ·exact Hf hnt hp W
    ·exact Hf hnt hp W
   have hp_eq:∀ {x a b:Nat},a<=b->b<=n->(∀ j,a<=j->j<b->x ∉ g.wr j)->(g.hp b).get x=(g.hp a).get x:=λh1 h2 h3=>
    MX (P:=P) (rec:=rec) (base:=base) (nt:=fr.nt) (opsl:=ops.toList) (n:=n) (λj F=>let ⟨o,_,G,_,_,hs,_⟩:=I j F;⟨o,by simpa using G,hs⟩) (λj F x J=>(unH j F).1 x J) _ h1 h2 h3
   have ts_eq:∀ {k a b:Nat},a<=b->b<=n->(∀ j o,a<=j->j<b->ops[j]?=zo o->o.dst≠zo k)->(g.ts b).get k=(g.ts a).get k:=λh1 h2 h3=>
    MY unT rfl _ h1 h2 h3
   have main:∀ (K E:List Nat) (tS:T PV) (hS:Hp),σ=E++K->RG n ops g E tS->RF n g E hS ->
     ∃ tE hE,AZ P (λ_=>zf) rec base ops.toList (K.map λi=>(i,(ops[i]?).getD default)) { fr with t:=tS } hS=zo (.normal,{ fr with t:=tE },hE)/\RG n ops g σ tE/\RF n g σ hE:=by
    intro K
    induction K with
    |nil=>
     intro E tS hS U hT hH;rw[List.append_nil]at U;subst U;exact⟨tS,hS,rfl,hT,hH⟩
    |cons i K ih=>
     intro E tS hS U hT hH;have hi:i<n:=(Z i).1 (by rw[U];simp);obtain⟨o,m,G,B,z,C,hcl⟩:=I i hi;have cT:=claimT U o m G B z;have cH:=claimH U hi;obtain⟨hip,_,_⟩:=place U o m G B z;have agT:∀ d,(F4 m.rd d=zt\/F4 m.wr d=zt)->tS.get d=(g.ts i).get d:=λd N=>hT d i (by omega) (λj o' c l=>cT d N j o' c l);have agH:∀ x,x∈g.rd i->hS.get x=(g.hp i).get x:=λx J=>hH x i (by omega) (λj F D=>cH x J j F D);have hrdbit:∀ d,F4 m.rd d=(F4 (Fk (Az o.op)) d||F4 (E6 ops.toList o.guard) d):=by intro d;rw[z.1,FO]
     have agO:F3 (g.ts i) tS (Az o.op):=λd N=>(agT d (.inl (by rw[hrdbit,H4 N];simp))).symm;have hwant:A8 ops.toList tS o.guard=A8 ops.toList (g.ts i) o.guard:=Lp λd N=>agT d (.inl (by rw[hrdbit,N];simp))
     have next:∀ {v:PV} {hS':Hp} {fr1:Fr},JD fr.nt o.dst v (g.ts i) (g.ts (i+1))->(∀ x,x ∉ g.wr i->hS'.get x=hS.get x)->(∀ x,x∈g.wr i->hS'.get x=(g.hp (i+1)).get x) ->
       ∃ y,JD fr.nt o.dst v tS y/\RG n ops g (E++[i]) y/\RF n g (E++[i]) hS':=by
      intro v hS' _ AG h1 h2
      have hH':RF n g (E++[i]) hS':=by
       intro x m' O hw;by_cases J:x∈g.wr i
       ·have him:i<m':=(hw i hi J).1 (by simp);rw[h2 x J];refine(hp_eq (by omega) O λj hj1 hj2 D=> ?_).symm;have hjn:j<n:=by omega
        have A:=(hw j hjn D).2 hj2;simp only[am,aq]at A;rcases A with A|rfl
        ·have:=(cH x ((unH i hi).2 x J) j hjn D).1 A;omega
        ·omega
       ·rw[h1 x J];refine hH x m' O λj F D=> ?_;have hji:j≠i:=by intro e;subst e;exact J D
        rw[<- hw j F D];simp[hji]
      have invT:∀ y,(∀ k,o.dst≠zo k->y.get k=tS.get k)->(∀ k,o.dst=zo k->y.get k=(g.ts (i+1)).get k)->RG n ops g (E++[i]) y:=by
       intro y g1 g2 k m' O hw;by_cases W:o.dst=zo k
       ·have him:i<m':=(hw i o G W).1 (by simp);rw[g2 k W];refine(ts_eq (by omega) O λj o' hj1 hj2 c l=> ?_).symm;have A:=(hw j o' c l).2 hj2;simp only[am,aq]at A;rcases A with A|rfl
        ·have:=(cT k (.inr (by rw[z.2.1,W];simp only[HI,GX];simp)) j o' c l).1 A;omega
        ·omega
       ·rw[g1 k W];refine hT k m' O λj o' c l=> ?_;have hji:j≠i:=by intro e;subst e;rw[G]at c;cases c;exact W l
        rw[<- hw j o' c l];simp[hji]
      cases N:o.dst with
      |none=>
       exact⟨tS,rfl,invT tS (λ_ _=>rfl) (λk W=>by rw[N]at W;cases W),hH'⟩
      |some d=>
       rw[N]at AG;obtain⟨X,hget⟩:=MJ hnt AG;have hp2:JD fr.nt (zo d) v tS (T.put 20 tS d v):=⟨X,rfl⟩;refine⟨T.put 20 tS d v,hp2,invT _ (λk W=>Hf hnt hp2 (by rw[<- N];exact W)) (λk W=> ?_),hH'⟩;rw[N]at W;cases W;rw[(MJ hnt hp2).2,hget]
     have hget:(ops[i]?).getD default=o:=by rw[G];rfl
     have L:∀ {v:PV} {y:T PV},JD fr.nt o.dst v tS y->({ fr with t:=tS }:Fr).put o.dst v=zo { fr with t:=y }:=by
      intro v y AG;unfold Fr.put;cases N:o.dst with
      |none=>rw[N]at AG;rw[show y=tS from AG]
      |some d=>
       rw[N]at AG;obtain⟨h1,rfl⟩:=AG;have:ae d fr.nt=zt:=by simpa using h1
       simp only[this,zb]
     have he2:σ=(E++[i])++K:=by rw[U];simp
     simp only[cw,hget];unfold AZ;rcases C with⟨hw1,v,N,AG⟩|⟨hw1,hh1,hrd,hwr,AG⟩
     ·simp only[hwant,hw1,zb];obtain⟨hS',hev,c1,c2⟩:=Hq N agO agH;obtain⟨y,p1,p2,p3⟩:=next (fr1:=fr) AG (λx J=>(c1 x J).1) (λx J=>(c2 x J).2)
      obtain⟨tE,hE,q1,q2,q3⟩:=ih (E++[i]) y hS' he2 p2 p3;refine⟨tE,hE,?_,q2,q3⟩;rcases hev with hev|⟨hev,rfl⟩|⟨fid,args,hev,hcall⟩
      ·simp only[hev,L p1,q1]
      ·simp only[hev,L p1,q1]
      ·simp only[hev,hcall,L p1,q1]
     ·simp only[hwant,hw1,zj];obtain⟨y,p1,p2,p3⟩:=next (fr1:=fr) (hS':=hS) AG (λx J=>rfl) (λx J=>by rw[hwr]at J;simp at J)
      obtain⟨tE,hE,q1,q2,q3⟩:=ih (E++[i]) y hS he2 p2 p3;exact⟨tE,hE,by simp only[L p1,q1],q2,q3⟩
   obtain⟨tE',hE',q1,q2,q3⟩:=main σ [] fr.t h rfl
    (λk m' O hw=>by
     rw[<- k1];refine(ts_eq (ba _) O λj o _ F G l=> ?_).symm;have:=(hw j o G l).2 F
     simp at this)
    (λx m' O hw=>by
     rw[<- k2];refine(hp_eq (ba _) O λj _ F D=> ?_).symm;have:=(hw j (by omega) D).2 F
     simp at this)
   have eT:∀ k,tE'.get k=tE.get k:=by
    intro k;rw[<- k3];exact q2 k n (ab _) λj o G _=>by rw[Z]
   have eH:∀ x,hE'.get x=h'.get x:=by
    intro x;rw[<- k4];exact q3 x n (ab _) λj F _=>by rw[Z]
   have hran:=Hi R (ops:=ops) (base:=base) _ q1 (λx J=>by
    obtain⟨i,hi,rfl⟩:=bj.1 J;have:=(Z i).1 hi
    simp[af this]) k s f
   have hσ:(σ.map λi=>(i,(ops[i]?).getD default)).map (·.1)=σ:=by simp[dh,Function.comp_def]
   rw[hσ]at hran;obtain⟨M',μ',w',a',cs',r1,r2,r3,r4,r5⟩:=hran
   exact⟨M',μ',w',a',cs',r1.nx (λx=>(eH x).symm),r2,⟨⟨r3.t.1,r3.t.2.1,λk=>by
    have:=r3.t.2.2 k;simp only at this;rw[eT k]at this
    exact this⟩,r3.d,r3.u,r3.r⟩,r4,r5⟩
  ·cases e
 ·cases e
end
end
section
variable[Gl]
end
section
open Go.RowKit
theorem WStays.kept{w w':World}(h:WStays w w')(S:MemPlace->Prop):w.keptBut w' S:=by
 refine⟨h.os,h.output,λi hi=> ?_⟩;rw[h.keep i hi];cases a:w.heap[i]? with
 |none=>trivial
 |some o=>cases o<;>first|exact⟨rfl,rfl,rfl,λ_ _=>rfl⟩|exact .inr ⟨rfl,rfl⟩|rfl
theorem WStays.frozen{w w':World}(h:WStays w w'){a:Addr}(b:a.block<w.heap.size):w'.frozen? a=w.frozen? a:=by simp only[World.frozen?,h.keep _ b]
theorem WStays.refl(w:World):WStays w w:=⟨rfl,rfl,rfl,ab _,ab _,λ_ _=>rfl⟩
end
section
variable[Gl]
section
variable{P:Program}{sh:FuncId->Bool}{M:Ak}{μ:Mu}{h:Hp}{w:World}
structure Kn where
 f:FuncId
 args:List PV
 q:PV
 h:Hp
def H5(e:PV->PV->Bool):List PV->List PV->Bool
 |[],[]=>zt
 |a::l,b::m=>e a b&&H5 e l m
 |_,_=>zf
theorem IB{e:PV->PV->Bool}(c:∀ a b,e a b=zt->a=b):∀ {l m:List PV},H5 e l m=zt->l=m
 |[],[],_=>rfl
 |a::l,b::m,h=>by
  simp only[H5,ac]at h;rw[c _ _ h.1,IB c h.2]
 |[],_::_,h=>by simp[H5]at h
 |_::_,[],h=>by simp[H5]at h
def Ot:List UInt8->List UInt8->Bool
 |[],[]=>zt
 |a::l,b::m=>aa a.toNat b.toNat&&Ot l m
 |_,_=>zf
theorem Ns:∀ {l m:List UInt8},Ot l m=zt->l=m
 |[],[],_=>rfl
 |a::l,b::m,h=>by
  simp only[Ot,ac]at h;rw[UInt8.toNat_inj.1 (aj h.1),Ns h.2]
 |[],_::_,h=>by simp[Ot]at h
 |_::_,[],h=>by simp[Ot]at h
def PU:Nat->PV->PV->Bool
 |0,_,_=>zf
 |n+1,a,b=>match a with
  |.bool x=>(match b with
   |.bool y=>x == y
   |_=>zf)
  |.int k x=>(match b with
   |.int c y=>k == c&&x == y
   |_=>zf)
  |.str x=>(match b with
   |.str y=>Ot x y
   |_=>zf)
  |.nilp=>(match b with
   |.nilp=>zt
   |_=>zf)
  |.nils=>(match b with
   |.nils=>zt
   |_=>zf)
  |.nilm=>(match b with
   |.nilm=>zt
   |_=>zf)
  |.nilf=>(match b with
   |.nilf=>zt
   |_=>zf)
  |.nili=>(match b with
   |.nili=>zt
   |_=>zf)
  |.agg x=>(match b with
   |.agg y=>H5 (PU n) x y
   |_=>zf)
  |.tup x=>(match b with
   |.tup y=>H5 (PU n) x y
   |_=>zf)
  |.lst f x=>(match b with
   |.lst g y=>f == g&&H5 (PU n) x y
   |_=>zf)
  |.ifc t x=>(match b with
   |.ifc u y=>aa t u&&PU n x y
   |_=>zf)
  |.own i x y=>(match b with
   |.own j u v=>aa i j&&(aa x u&&aa y v)
   |_=>zf)
  |_=>zf
theorem If:∀ (n:Nat) (a b:PV),PU n a b=zt->a=b
 |0,_,_,h=>by simp[PU]at h
 |n+1,a,b,h=>by
  have c:∀ {l m:List PV},H5 (PU n) l m=zt->l=m:=λh=>IB (If n) h
  cases a<;>cases b<;>simp only[PU,ac,beq_iff_eq,reduceCtorEq]at h<;>first
   |rfl
   |(rw[h])
   |(rw[h.1,h.2])
   |(rw[Ns h])
   |(rw[c h])
   |grind
   |(rw[aj h.1,If n _ _ h.2])
   |simp_all
def Ul(a b:Hp):Bool:=aa a.nx b.nx&&match a.m with
 |.lf=>(match b.m with
  |.lf=>zt
  |_=>zf)
 |.nd .lf (zo (.row es ex fz)) .lf=>(match b.m with
  |.nd .lf (zo (.row es' ex' fz')) .lf=>H5 (PU 60) es es'&&(ex == ex'&&fz == fz')
  |_=>zf)
 |_=>zf
theorem SY{a b:Hp}(h:Ul a b=zt):a=b:=by
 unfold Ul at h;rw[ac]at h;obtain⟨d,c⟩:=h;have d:=aj d;obtain⟨m,x⟩:=a;obtain⟨m',e⟩:=b;simp only at d c;subst d;split at c
 ·grind
 ·split at c
  ·simp only[ac,beq_iff_eq]at c
   grind [IB,If]
  ·cases c
 ·cases c
def look:List Kn->FuncId->List PV->Option (PV×Hp)
 |[],_,_=>zn
 |e::l,f,as=>bif aa e.f f&&H5 (PU 60) e.args as then zo (e.q,e.h)else look l f as
def Sn(L:List Kn)(rec:GT):GT:=λa up args h=>match a with
 |.fn f=>match up with
  |none=>match h.m with
   |.lf=>match look L f args with
    |some (q,h1)=>zo (.ret q,zn,h1)
    |none=>rec (.fn f) zn args h
   |.nd _ _ _=>rec (.fn f) zn args h
  |some u=>rec (.fn f) (zo u) args h
 |.yl l=>rec (.yl l) up args h
def Uk(P:Program)(sh:FuncId->Bool)(F:Nat)(L:List Kn):Nat->GT
 |0=>λ_ _ _ _=>zn
 |n+1=>Sn L (Pn P sh F (Uk P sh F L n))
def TW(P:Program)(sh:FuncId->Bool)(F:Nat)(L:List Kn)(n:Nat)(f:FuncId)(args:List PV):Option (PV×Hp):=
 match Pn P sh F (Uk P sh F L n) (.fn f) zn args { m:=.lf,nx:=0 }with
 |some (.ret r,_,h')=>Ag 0 [] { m:=.lf,nx:=0 } h' r
 |_=>zn
def Nl(P:Program)(sh:FuncId->Bool)(F:Nat)(L:List Kn)(n:Nat)(k:Kn):Bool:=match TW P sh F L n k.f k.args with
 |some (q,h)=>PU 60 q k.q&&Ul h k.h
 |none=>zf
theorem LS{P:Program}{sh:FuncId->Bool}{F:Nat}{L:List Kn}{n:Nat}{k:Kn}(e:Nl P sh F L n k=zt):TW P sh F L n k.f k.args=zo (k.q,k.h):=by
 unfold Nl at e;split at e
 ·rename_i q h a;rw[ac]at e;rw[a,If 60 _ _ e.1,SY e.2]
 ·cases e
def Mg(P:Program)(L:List Kn):Prop:=∀ e∈L,∃ rec,RecOK P rec /\ ∃ r up h',rec (.fn e.f) zn e.args { m:=.lf,nx:=0 }=zo (.ret r,up,h')/\Ag 0 [] { m:=.lf,nx:=0 } h' r=zo (e.q,e.h)
theorem N9:∀ {L:List Kn} {f:FuncId} {a:List PV} {q:PV} {b:Hp},look L f a=zo (q,b) -> ∃ e∈L,e.f=f/\e.args=a/\e.q=q/\e.h=b
 |[],_,_,_,_,h=>by cases h
 |e::l,f,a,q,b,h=>by
  unfold look at h;cases hc:aa e.f f&&H5 (PU 60) e.args a with
  |true=>
   rw[hc]at h;simp only[zb,Option.some.injEq,Prod.mk.injEq]at h;rw[ac]at hc;exact⟨e,bS ..,aj hc.1,IB (If 60) hc.2,h.1,h.2⟩
  |false=>
   rw[hc]at h;obtain⟨c,b,d⟩:=N9 h
   grind
theorem ID(M:Ak)(h:Hp)(μ:Mu)(w:World):Ht M h μ w []=M:=by
 grind [Ht,N5]
theorem Rl{L:List Kn}(K:Mg P L){rec:GT}(R:RecOK P rec):RecOK P (Sn L rec):=by
 refine⟨?_,?_,?_⟩
 ·intro f args h o a h' e M μ w vs s b cs;simp only[Sn]at e;split at e
  ·rename_i B;split at e
   ·rename_i q N A;cases e;obtain⟨e,z,rfl,rfl,rfl,rfl⟩:=N9 A;obtain⟨j,p,r,up,O,D,E⟩:=K e z;have i:∀ k,h.get k=zn:=λk=>by simp only[Hp.get,B];rfl
    have s0:Sim M μ { m:=.lf,nx:=0 } w:=s.nx λk=>by rw[i];rfl
    have hμ:μ=mu0:=by
     funext id
     cases hi:μ id with
     |none=>rfl
     |some r=>exact absurd (i id) (s.use id r hi).1
    subst hμ;obtain⟨J,μ2,I,fr,s2,t,G,c,x,C,d⟩:=p.nrm D s0 b cs;obtain⟨n,μ3,F,y,g⟩:=CN (L:=[]) s0 s2 (by rw[ID];exact t) C E;exact⟨n,μ3,I,fr,F,y,G,c,x,g,d⟩
   ·exact R.nrm e s b cs
  ·exact R.nrm e s b cs
 ·intro f u args h o a h' e;exact R.dfr e
 ·intro l args h o a h' e;exact R.yld e
theorem Ms(a:CG P){L:List Kn}(K:Mg P L)(F:Nat):∀ n,RecOK P (Uk P sh F L n)
 |0=>L8 P
 |n+1=>Rl K (KI a (λrec R=>E2 (P:=P) (rec:=rec) R) F (Ms a K F n))
theorem U2(P:Program):Mg P []:=λe a=>by cases a
theorem UV(a:CG P){L:List Kn}(K:Mg P L){F n:Nat}{k:Kn}(e:Nl P sh F L n k=zt):Mg P (k::L):=λc hk=>by
 rcases ak.1 hk with rfl|hk
 ·have e:=LS e;unfold TW at e;split at e
  ·rename_i r u h' b;exact⟨_,KI a (λrec R=>E2 (P:=P) (rec:=rec) R) F (Ms a K F n),r,u,h',b,e⟩
  ·cases e
 ·exact K c hk
theorem Rf(c:CG P){L:List Kn}(K:Mg P L){F n:Nat}{f:FuncId}{v:PV}{h:Hp}(e:TW P sh F L n f []=zo (v,h))(k:flat v=zt)(w:World)(g:GlW w) :
  Calls P f #[] w λe w'=>(∃ x,e=.returned x/\Rep (λ_=>zn) mu0 v x)/\WStays w w':=by
 intro cs;unfold TW at e;split at e
 ·rename_i r u h' i;have R:=KI (sh:=sh) c (λrec R=>E2 (P:=P) (rec:=rec) R) F (Ms (sh:=sh) c K F n);obtain⟨M0,s0⟩:=g.sim;obtain⟨o,μ',w',fr,s1,d,m,a,x,l,j⟩:=R.nrm i s0 (RepL.nil _ _) cs;obtain⟨p,μ3,s,q,b⟩:=CN (L:=[]) s0 s1 (by rw[ID];exact d) l e;exact⟨.returned x,w',fr,⟨⟨x,rfl,D6 k _ _ b⟩,d.stays⟩,m,a,j⟩
 ·cases e
end
end
section
variable[Gl]
def GV(r b:GT):Prop:=∀ a up args h x,r a up args h=zo x->b a up args h=zo x
section
variable{P:Program}{sh:FuncId->Bool}{rec rec':GT}
theorem JY(L:GV rec rec'){id:Nat}{f:FuncId}{args:List PV}{h:Hp}{x:Out×Hp}(e:A9 sh rec id f args h=zo x):A9 sh rec' id f args h=zo x:=by
 unfold A9 at e ⊢;cases hs:sh f with
 |true=>
  simp only[hs,zb]at e ⊢;cases b:rec (.fn f) zn args h with
  |none=>rw[b]at e;cases e
  |some y=>rw[b]at e;rw[L _ _ _ _ _ b];exact e
 |false=>
  simp only[hs,zj]at e ⊢;cases c:Ap h args with
  |none=>rw[c]at e;cases e
  |some a=>
   rw[c]at e;simp only at e ⊢;cases b:rec (.fn f) zn a.1 { m:=.lf,nx:=0 }with
   |none=>rw[b]at e;cases e
   |some y=>rw[b]at e;rw[L _ _ _ _ _ b];exact e
theorem J3(L:GV rec rec'){base:Nat}{ops:List Oper}:∀ {l:List (Nat×Oper)} {fr:Fr} {h:Hp} {x:Ex×Fr×Hp},AZ P sh rec base ops l fr h=zo x->AZ P sh rec' base ops l fr h=zo x
 |[],fr,h,x,e=>e
 |(i,o)::r,fr,h,x,e=>by
  unfold AZ at e ⊢
  have put:∀ {fr:Fr} {c:Option Nat} {v:PV} {h:Hp},(match fr.put c v with
    |some fr=>AZ P sh rec base ops r fr h
    |none=>zn)=zo x->(match fr.put c v with
    |some fr=>AZ P sh rec' base ops r fr h
    |none=>zn)=zo x:=by
   intro fr c v h e;split at e
   ·rename_i fr1 A;exact J3 L e
   ·cases e
  cases w:A8 ops fr.t o.guard with
  |false=>simp only[w,zj]at e ⊢;exact put (h:=h) e
  |true=>
   simp only[w,zb]at e ⊢;cases q:AP P fr.t h (base+i) o with
   |none=>rw[q]at e;cases e
   |some y=>
    rw[q]at e;cases y with
    |val v j=>exact put (h:=j) e
    |skip j=>exact put (h:=j) e
    |dfr d=>
     simp only at e ⊢;cases b:fr.ro with
     |none=>rw[b]at e;exact put e
     |some _=>rw[b]at e;cases e
    |call f args=>
     simp only at e ⊢;cases k:A9 sh rec (base+i) f args h with
     |none=>rw[k]at e;cases e
     |some z=>
      rw[k]at e;rw[JY L k];obtain⟨o',h'⟩:=z;cases o' with
      |ret v=>exact put (h:=h') e
      |pan g=>
       cases g with
       |nil=>cases e
       |cons a l=>
        obtain⟨v,p⟩:=a;cases l<;>cases p<;>first|exact e|cases e
    |yield l args=>
     simp only at e ⊢;cases m:rec (.yl l) zn args h with
     |none=>rw[m]at e;cases e
     |some z=>
      rw[m]at e;rw[L _ _ _ _ _ m];obtain⟨o',B,h'⟩:=z;cases o' with
      |ret v=>exact put e
      |pan g=>exact e
    |pan v=>exact e
    |rcv=>
     simp only at e ⊢;cases b:fr.ro with
     |some _=>rw[b]at e;cases e
     |none=>
      rw[b]at e;simp only at e ⊢;cases s:fr.up with
      |none=>rw[s]at e;exact put (h:=h) e
      |some u=>
       rw[s]at e;cases u with
       |ret=>exact put (h:=h) e
       |pan g=>
        cases g with
        |nil=>exact put (h:=h) e
        |cons a n=>
         obtain⟨v,p⟩:=a;cases p<;>exact put (h:=h) e
theorem Mw(L:GV rec rec'){t:T PV}{h:Hp}{id:Nat}{o:Oper}{x:PV×Hp×List Nat×List Nat}(e:Ay P rec t h id o=zo x):Ay P rec' t h id o=zo x:=by
 unfold Ay at e ⊢;dsimp only at e ⊢;cases hc : !Av o.op || !ae id (id+1)with
 |true=>rw[hc]at e;cases e
 |false=>
  rw[hc]at e;simp only[zj]at e ⊢;cases c:AP P t (h.cut (id::Aw t h o.op)) id o with
  |none=>rw[c]at e;cases e
  |some y=>
   rw[c]at e;cases y with
   |call f args=>
    simp only at e ⊢;cases d:Ap h args with
    |none=>rw[d]at e;cases e
    |some a=>
     rw[d]at e;simp only at e ⊢;cases b:A9 (λ_=>zf) rec id f args (h.cut (id::a.2))with
     |none=>rw[b]at e;cases e
     |some z=>rw[b]at e;rw[JY L b];exact e
   |_=>exact e
theorem DJ(L:GV rec rec'){base nt:Nat}{ops:List Oper}:∀ {l:List Oper} {i:Nat} {f:List Mk} {a:List (Nat×List Nat×List Nat)} {t:T PV} {h:Hp} {x:T PV×Hp},AX P rec base nt ops i l f a t h=zo x->AX P rec' base nt ops i l f a t h=zo x
 |[],i,f,a,t,h,x,e=>by unfold AX at e ⊢;exact e
 |o::l,i,[],a,t,h,x,e=>by unfold AX at e;cases e
 |o::l,i,m::f,a,t,h,x,e=>by
  unfold AX at e ⊢;cases j:A8 ops t o.guard with
  |true=>
   simp only[j,zb]at e ⊢;cases g:Ay P rec t h (base+i) o with
   |none=>rw[g]at e;cases e
   |some z=>
    rw[g]at e;rw[Mw L g];obtain⟨v,k,rd,wr⟩:=z;simp only at e ⊢;cases hh:GF m.bef rd wr a with
    |false=>rw[hh]at e;cases e
    |true=>
     simp only[hh,zb]at e ⊢;cases b:o.dst with
     |none=>rw[b]at e;exact DJ L e
     |some d=>
      rw[b]at e;simp only at e ⊢;cases c:ae d nt with
      |false=>rw[c]at e;cases e
      |true=>rw[c]at e;exact DJ L e
  |false=>
   simp only[j,zj]at e ⊢;cases b:o.dst with
   |none=>rw[b]at e;exact DJ L e
   |some d=>
    rw[b]at e;simp only at e ⊢;cases c:ae d nt with
    |false=>rw[c]at e;cases e
    |true=>rw[c]at e;exact DJ L e
theorem Po(L:GV rec rec'){base:Nat}{ops:List Oper}{fr:Fr}{h:Hp}{x:Fr×Hp}(e:drawn P rec base ops fr h=zo x):drawn P rec' base ops fr h=zo x:=by
 unfold drawn at e ⊢;split at e
 ·rename_i b c;cases a:AX P rec base fr.nt ops 0 ops b [] fr.t h with
  |none=>rw[a]at e;cases e
  |some z=>rw[a]at e;rw[DJ L a];exact e
 ·cases e
theorem Cr(L:GV rec rec'):∀ {n k:Nat} {c:Code} {fr:Fr} {h:Hp} {x:Ex×Fr×Hp},n<=k->AY P sh rec n c fr h=zo x->AY P sh rec' k c fr h=zo x
 |0,k,c,fr,h,x,j,e=>by unfold AY at e;cases e
 |n+1,k,c,fr,h,x,j,e=>by
  obtain⟨m,rfl⟩:∃ m,k=m+1:=⟨k-1,by omega⟩;have j:n<=m:=by omega
  unfold AY at e ⊢;cases c with
  |skip=>exact e
  |label _=>exact e
  |seq a b=>
   simp only at e ⊢;cases i:AY P sh rec n a fr h with
   |none=>rw[i]at e;cases e
   |some y=>
    rw[i]at e;rw[Cr L j i];obtain⟨ex,fr1,u⟩:=y;cases ex<;>first|exact Cr L j e|exact e
  |cond c a b=>
   simp only at e ⊢;cases hc:CT fr.t c with
   |none=>rw[hc]at e;cases e
   |some v=>
    rw[hc]at e;cases v with
    |bool b=>cases b<;>exact Cr L j e
    |_=>cases e
  |block id b=>
   simp only at e ⊢;cases i:AY P sh rec n b fr h with
   |none=>rw[i]at e;cases e
   |some y=>rw[i]at e;rw[Cr L j i];exact e
  |loop b=>
   simp only at e ⊢;cases i:AY P sh rec n b fr h with
   |none=>rw[i]at e;cases e
   |some y=>
    rw[i]at e;rw[Cr L j i];obtain⟨ex,fr1,u⟩:=y;cases ex<;>first|exact Cr L j e|exact e
  |scope b=>
   simp only at e ⊢;cases i:AY P sh rec n b fr h with
   |none=>rw[i]at e;cases e
   |some y=>rw[i]at e;rw[Cr L j i];exact e
  |exit _=>exact e
  |goto _=>exact e
  |ret=>exact e
  |refuse _=>exact e
  |region id ops l=>
   cases l with
   |false=>exact J3 L e
   |true=>
    simp only[zb]at e ⊢;cases w:P.follows .mixedOrders || !Region.departs ops with
    |false=>rw[w]at e;cases e
    |true=>
     simp only[w,zb]at e ⊢;cases q:drawn P rec h.nx ops.toList fr { h with nx:=h.nx+ops.size }with
     |none=>rw[q]at e;cases e
     |some z=>rw[q]at e;rw[Po L q];exact e
  |rangeFunc g F A s=>
   simp only at e ⊢;split at e
   ·rename_i f a b D
    try simp only[D]
    split at e
    ·rename_i d mark u E
     try simp only[E]
     split at e
     ·rename_i C p
      try simp only[p]
      split at e
      ·rename_i B args o
       try simp only[o]
       cases r:rec (.fn B) zn args { C with nx:=h.nx+1+1 }with
       |none=>rw[r]at e;cases e
       |some z=>rw[r]at e;rw[L _ _ _ _ _ r];exact e
      ·cases e
     ·cases e
    ·cases e
   ·cases e
theorem Gt(L:GV rec rec'){q:Func}:∀ {n j:Nat} {i:List DF} {u:UM} {t:T PV} {h:Hp} {x:Out×Hp},n<=j->leave P rec q n i u t h=zo x->leave P rec' q j i u t h=zo x
 |0,j,i,u,t,h,x,o,e=>by unfold leave at e;cases e
 |n+1,j,i,u,t,h,x,o,e=>by
  obtain⟨m,rfl⟩:∃ m,j=m+1:=⟨j-1,by omega⟩;have o:n<=m:=by omega
  unfold leave at e ⊢;cases i with
  |nil=>exact e
  |cons d i=>
   cases d with
   |col id=>
    simp only at e ⊢;split at e
    ·rename_i l B
     try simp only[B]
     split at e
     ·rename_i y hs
      try simp only[hs]
      exact Gt L o e
     ·cases e
    ·cases e
   |bi b s ty args=>
    simp only at e ⊢;split at e
    ·split at e
     ·rename_i v y A
      try simp only[A]
      exact Gt L o e
     ·cases e
    ·cases e
   |call f args=>
    simp only at e ⊢;split at e
    ·rename_i g a b;split at e
     ·rename_i w c k
      try simp only[k]
      cases p:rec (.fn w) (zo u) c h with
      |none=>rw[p]at e;cases e
      |some z=>
       rw[p]at e;rw[L _ _ _ _ _ p];obtain⟨o',r,h'⟩:=z;cases o' with
       |ret v=>
        cases r with
        |some r=>exact Gt L o e
        |none=>cases e
       |pan C=>cases e
     ·cases e
    ·cases e
theorem Pm{F j:Nat}(k:F<=j):∀ {n i:Nat},n<=i->GV (B4 P sh F n) (B4 P sh j i)
 |0,i,_=>λG up args h x e=>by cases e
 |n+1,i,hn=>λG up args h x e=>by
  obtain⟨m,rfl⟩:∃ m,i=m+1:=⟨i-1,by omega⟩;have L:GV (B4 P sh F n) (B4 P sh j m):=Pm k (by omega);unfold B4 Pn at e ⊢
  have tail:∀ {fn:Func} {fr:Fr} {ds:List DF} {u:UM} {h:Hp},(match leave P (B4 P sh F n) fn F ds u fr.t h with
    |some (o,h)=>zo (o,fr.up,h)
    |none=>zn)=zo x->(match leave P (B4 P sh j m) fn j ds u fr.t h with
    |some (o,h)=>zo (o,fr.up,h)
    |none=>zn)=zo x:=by
   intro fn fr ds u h e;cases A:leave P (B4 P sh F n) fn F ds u fr.t h with
   |none=>rw[A]at e;cases e
   |some z=>rw[A]at e;rw[Gt L k A];exact e
  cases G with
  |fn f=>
   simp only at e ⊢;split at e
   ·rename_i p B
    try simp only[B]
    exact e
   rename_i B
   try simp only[B]
   split at e
   ·rename_i fn s
    try simp only[s]
    split at e
    ·rename_i c hc
     try simp only[hc]
     cases D:ad args.length fn.ntmps&&ae fn.ntmps 1048575 with
     |false=>simp only[D,zj]at e;cases e
     |true=>
      simp only[D,zb]at e ⊢;cases b:AY P sh (B4 P sh F n) F c { t:=Br 0 args .lf,nt:=fn.ntmps,ds:=[],up,ro:=zn } h with
      |none=>rw[b]at e;cases e
      |some y=>
       rw[b]at e;rw[Cr L k b];obtain⟨ex,fr1,I⟩:=y;cases ex with
       |normal=>exact tail e
       |ret=>exact tail e
       |panic v=>exact tail e
       |_=>cases e
    ·cases e
   ·cases e
  |yl l=>
   simp only at e ⊢;split at e
   ·rename_i Y W nt t X q a d K
    try simp only[K]
    split at e
    ·rename_i S M
     try simp only[M]
     cases b:AY P sh (B4 P sh F n) F q { t:=S,nt,ds:=[],up:=zn,ro:=zo l } h with
     |none=>rw[b]at e;cases e
     |some y=>
      rw[b]at e;rw[Cr L k b];obtain⟨ex,fr1,I⟩:=y;cases ex with
      |normal=>
       simp only at e ⊢;split at e
       ·rename_i E N Z O C r U w
        try simp only[w]
        split at e
        ·rename_i J hs
         try simp only[hs]
         cases g:AY P sh (B4 P sh F n) F a fr1 J with
         |none=>rw[g]at e;cases e
         |some y2=>rw[g]at e;rw[Cr L k g];exact e
        ·cases e
       ·cases e
      |_=>cases e
    ·cases e
   ·cases e
end
end
section
variable[Gl]
open Go.RowKit
section
variable{P:Program}{M:Ak}{μ:Mu}{h:Hp}{w:World}
theorem Sim.junk(s:Sim M μ h w)(arr:Array Value)(ty:TypeId):∃ a,Sim a μ h (w.alloc (.cells arr ty))/\Grow M μ w a μ (w.alloc (.cells arr ty)):=
 have d:=s.data (w':=w.alloc (.cells arr ty)) (arr:=arr) (ty:=ty) rfl
 ⟨_,d.1,Grow.data (o:=.cells arr ty (0,0)) d.2 rfl rfl rfl ⟨rfl,ab _⟩⟩
theorem UD(s:Sim M μ h w){T:TypeId}{id off:Nat}{a:PV}{h':Hp}(e:A3 P h T (.ptr id off) a=zo (.skip h')){x:Value}(j:Rep M μ (.ptr id off) x) :
  ∃ b o k,x=.pointer (zo ⟨b,o,zn⟩)/\w.cell? ⟨b,o,zn⟩=zo k/\w.frozen? ⟨b,o,zn⟩=zf:=by
 unfold A3 at e;split at e
 ·rename_i n y;replace e:=Bm e;obtain⟨hc,e⟩:=e;simp only at e;split at e
  ·rename_i cs m;replace e:=Ad e;obtain⟨d,e⟩:=e;have d:=ao d;simp only[ah,au]at hc;have q:0<n:=by have:=hc.1;simpa using this
   cases j with
   |ptr _ _ _ r j=>
    obtain⟨z,f,g⟩:=s.blk id _ m;rw[j]at f;cases f;obtain⟨c,arr,ty,l,p,t,u⟩:=g;have c:=c.1;have i:off<arr.size:=by omega
    refine⟨r.b,r.base+off,arr[off],rfl,?_,?_⟩
    ·rw[cell?_eq (a:=⟨r.b,r.base+off,zn⟩) l rfl,c];simp[i]
    ·simp[World.frozen?,l]
  ·cases e
 ·cases e
theorem Gl.handle(c:GlOK M){g a b o:Nat}(e:Gl.g g=zo [.ifc a (.agg [.adr b o])]):M ⟨g,0,zn⟩=zo (.iface a (.agg #[.pointer (zo ⟨b,o,zn⟩)])):=by
 obtain⟨x,d,_,f⟩:=c g _ e;rw[d 0 _ rfl];have:=f 0 _ rfl;generalize x 0=v at this;cases this with
 |ifc _ _ _ y hy=>
  cases hy with
  |agg _ _ vs hl _ hv=>
   obtain⟨z,h⟩:∃ z,vs = #[z]:=by
    obtain⟨l⟩:=vs
    match l,hl with
    |[z],_=>exact⟨z,rfl⟩
   subst h;have:=hv 0 _ z rfl rfl;cases this;rfl
theorem UA{c:PV}{μ:Mu}{x:Value}(a:Rep M μ (.agg [c]) x):∃ z,x=.agg #[z]/\z.oneCell'=zt/\Rep M μ c z:=by
 cases a with
 |agg _ _ vs hl h1 hv=>
  obtain⟨z,b⟩:∃ z,vs = #[z]:=by
   obtain⟨l⟩:=vs
   match l,hl with
   |[z],_=>exact⟨z,rfl⟩
  subst b;exact⟨z,rfl,h1 0 z rfl,hv 0 _ z rfl rfl⟩
def ED(w:World):Ak:=λa=>if a.spot=zn then w.cell? a else zn
theorem Ur{w:World}(hc:∀ (g:Nat) (cs:List PV),Gl.g g=zo cs -> ∀ (j:Nat) (c:PV),cs[j]?=zo c -> ∃ x,w.cell? ⟨g,j,zn⟩=zo x/\x.oneCell'=zt/\Rep (ED w) mu0 c x):GlW w:=by
 refine⟨ED w,λg cs e=> ?_,λa v e=> ?_⟩
 ·have H:=hc g cs e;refine⟨λj=>match w.cell? ⟨g,j,zn⟩with|some x=>x|none=>.nilIface,λj c h=> ?_,λj c h=> ?_,λj c h=> ?_⟩
  all_goals obtain⟨x,b,d,f⟩:=H j c h
  ·unfold ED;simp only[zy,b]
  ·simp only[b];exact d
  ·simp only[b];exact f
 ·unfold ED at e;by_cases hs:a.spot=zn
  ·rw[zy hs]at e;exact⟨hs,e⟩
  ·rw[zx hs]at e;cases e
theorem UY{f:FuncId}{vs:List Value}{v:Value}{Q:World->Prop}(hc:Calls P f vs.toArray w λe w'=>e=.returned v/\Q w')(cs:List Frame) :
  ∃ w' fr,Q w'/\Steps P (lone (Frame.enter P f vs.toArray .normal) cs w) (lone fr cs w')/\fr.fn=f/\fr.leaving P w' (.returned v):=by
 obtain⟨e,w',fr,⟨rfl,d⟩,a,b,c⟩:=hc cs;exact⟨w',fr,d,a,b,c⟩
theorem Ek:∀ (a b:List UInt8),(bif Op.bytesLess a b then(-1:Int)else bif a == b then 0 else 1)=Lib.compareBytes a b
 |[],[]=>rfl
 |[],_::_=>rfl
 |_::_,[]=>rfl
 |a::as,b::bs=>by
  unfold Lib.compareBytes;have k:=Ek as bs;by_cases h:a<b
  ·simp[Op.bytesLess,h]
  ·by_cases c:b<a
   ·have d:a≠b:=by intro e;subst e;exact absurd c h
    have i:(a == b)=zf:=by simpa using d
    simp[Op.bytesLess,h,c,i]
   ·have j:a=b:=by
     have f:=dg.1 h;have g:=dg.1 c;exact UInt8.le_antisymm g f
    subst j;simp only[h,if_false];rw[<- k];simp[Op.bytesLess,UInt8.lt_irrefl]
end
end
section
open Go.RowKit
@[reducible] def Lm(G:Gl)(a:FuncId)(p:Pr):Gl:=⟨G.g,λf=>bif aa f a then zo p else G.pr f⟩
section
variable{G:Gl}{P:Program}{M:Ak}{μ:Mu}{h:Hp}{w:World}{f0:FuncId}{p0:Pr}
theorem S4(s : @Sim G M μ h w) : @Sim (Lm G f0 p0) M μ h w:=@Sim.mk (Lm G f0 p0) M μ h w s.glb s.mem s.blk s.use s.inj s.sep
theorem Qx(s : @Sim (Lm G f0 p0) M μ h w) : @Sim G M μ h w:=by
 obtain⟨a,b,c,d,e,f⟩:=s;exact @Sim.mk G M μ h w a b c d e f
theorem J5[Gl](s:Sim M μ h w){w':World}(hs:w.heap.size<=w'.heap.size)(i:∀ b,b<w.heap.size->w'.heap[b]?=w.heap[b]?):Sim M μ h w':=by
 refine⟨s.glb,λa v e=> ?_,λid b k=> ?_,λid r c=> ?_,s.inj,s.sep⟩
 ·obtain⟨j,g⟩:=s.mem a v e;refine⟨j,?_⟩
  have f:a.block<w.heap.size:=by
   rcases dj a.block w.heap.size with h|h
   ·exact h
   ·simp[World.cell?,Array.getElem?_eq_none h]at g
  rw[<- g];simp only[World.cell?,i _ f]
 ·obtain⟨r,c,d⟩:=s.blk id b k;exact⟨r,c,by rw[i _ (s.use id r c).2];exact d⟩
 ·exact⟨(s.use id r c).1,Nat.lt_of_lt_of_le (s.use id r c).2 hs⟩
theorem Ip[Gl]{w':World}(hs:WStays w w'):Grow M μ w M μ w':=⟨.refl _,.refl _,λ_ _ h=>.inl h,λid r h=>.inl ⟨id,r,h,rfl⟩,hs.size,λb a _=>hs.keep b a,hs.os,hs.output,hs.tape,hs.dr⟩
theorem K5(i : @CG G P)(H:∀ (args:List PV) (h:Hp) (v:PV) (h':Hp),JM P p0 args h=zo (v,h') -> ∀ (M:Ak) (μ:Mu) (w:World) (vs:List Value),@Sim G M μ h w->RepL M μ args vs -> ∀ cs,∃ a μ' w' fr x,@Sim G a μ' h' w'/\Grow M μ w a μ' w' /\
  Steps P (lone (Frame.enter P f0 vs.toArray .normal) cs w) (lone fr cs w')/\fr.fn=f0/\Rep a μ' v x/\fr.leaving P w' (.returned x)) : @CG (Lm G f0 p0) P:=by
 intro f p D7 args h v h' g M μ w vs s e cs;have b:(bif aa f f0 then zo p0 else G.pr f)=zo p:=D7
 have c:∀ {d:FuncId},f=d->(∃ a μ' w' fr x,@Sim G a μ' h' w'/\Grow M μ w a μ' w'/\Steps P (lone (Frame.enter P d vs.toArray .normal) cs w) (lone fr cs w')/\fr.fn=d/\Rep a μ' v x/\fr.leaving P w' (.returned x)) ->
   ∃ a μ' w' fr x,@Sim (Lm G f0 p0) a μ' h' w'/\Grow M μ w a μ' w'/\Steps P (lone (Frame.enter P f vs.toArray .normal) cs w) (lone fr cs w')/\fr.fn=f/\Rep a μ' v x/\fr.leaving P w' (.returned x):=by
  rintro d rfl ⟨a,μ',w',fr,x,s',r⟩;exact⟨a,μ',w',fr,x,S4 s',r⟩
 cases e1:aa f f0 with
 |true=>
  rw[e1]at b;simp only[zb,Option.some.injEq]at b;subst b;exact c (aj e1) (H args h v h' g M μ w vs (Qx s) e cs)
 |false=>
  rw[e1]at b;simp only[zj]at b;exact c rfl (i f p b args h v h' g M μ w vs (Qx s) e cs)
theorem UX(c : @CG G P){L:List Kn}(K : @Mg G P L){sh:FuncId->Bool}{F n:Nat}{b:Bool}(e : @Nl G P sh F L n ⟨f0,[],.bool b,⟨.lf,0⟩⟩=zt) : @CG (Lm G f0 (.kn b)) P:=by
 refine K5 c λargs h v h' d M μ w vs s f cs=> ?_;cases args with
 |cons _ _=>cases d
 |nil=>
  cases d;cases f.nil_inv;obtain⟨l,w',fr,⟨⟨x,g,j⟩,hs⟩,k,a,i⟩:=@Rf G P sh c L K F n f0 (.bool b) ⟨.lf,0⟩ (@LS G P sh F L n _ e) rfl w ⟨M,s.glb,s.mem⟩ cs;cases j;subst g;exact⟨M,μ,w',fr,.bool b,@J5 _ _ _ _ G s w' hs.size hs.keep,Ip hs,k,a,.bool _ _,i⟩
end
end
section
open Go.ChangeShapes Go.WideShapes
section
variable{H:Type}{DN:TypeId×Value->H}{P:Program}
theorem Ss{f:Func}{s:ChangeSpec}{Es fresh d i:Bool}{W l:World}{args:Array Value}{v:Value}{m n:List (DataW H)}{c pa pv:List MemPlace}
  (w:DataW.Whole DN P f.params.toList s.vars Es W args.toList m n c)
  (h:∀ (b:Nat) (k:Nat->Bool) (D:Bool),DataW.TrodAll DN P l b k D f.resultTypes.toList (v.resultList f.resultTypes.size) (s.fn H (m++n)).results [])
  (e:∀ k:Nat->Bool,(∀ p∈c,k p.block=zt)->DataW.TrodAll DN P l 0 k zt f.params.toList args.toList (s.fn H (m++n)).args pa)
  (g:∀ k:Nat->Bool,(∀ p∈c,k p.block=zt)->DataW.TrodVars DN P l k s.vars (s.fn H (m++n)).vars pv)
  (q:c=pa++pv) (A:WStays W l)
  (y:∀ (j:Nat) (t:TypeId) (r:Value),f.resultTypes[j]?=zo t->(v.resultList f.resultTypes.size)[j]?=zo r->Value.okWide P l .any 0 t r) :
  s.post DN P f Es fresh d i W args v l:=by
 have B:=w.lt;have x:=w;have u:∀ p∈c,(λb=>decide (b<W.heap.size)) p.block=zt:=λp o=>decide_eq_true (B p o);have all:∀ p:MemPlace,p∈([]++pa)++pv<->p∈c:=λp=>by rw[q,List.nil_append]
 obtain⟨_,_,_,_,_,F,E⟩:=w;refine⟨m,n,c,[],pa,pv,?_,h _ _ _,e _ u,g _ u,A.kept _,λ_=>⟨y,_,_,([]++pa)++pv,⟨[]++pa,pv,trodAll_append (e _ λ_ _=>rfl) (h _ _ _),g _ λ_ _=>rfl,rfl,λb off o=> ?_,λC=> ?_⟩,λp o _=>(all p).1 o⟩⟩
 ·exact x
 ·have z:=(all _).1 o;rw[A.frozen (a:=⟨b,off,zn⟩) (B _ z)];exact F b off z
 ·have:=E C;rw[q]at this;simpa using this
end
end
section
open Go.RowKit Go.Shelf Go.Sort Go.Proofs
open Sv (Ty)
section
variable[Gl]{P:Program}{M:Ak}{μ:Mu}{h:Hp}{w:World}
def Bs:(c:Ty)->c.den->List Value
 |.int k,n=>[.int k n]
 |.bool,b=>[.bool b]
 |.str,s=>[.string ⟨s.toArray⟩]
 |.unit,_=>[]
 |.pair a b,x=>Bs a x.1++Bs b x.2
 |.sl _ _,_=>[]
def BP:Ty->Nat
 |.pair a b=>BP a+BP b
 |.unit | .sl _ _=>0
 |_=>1
theorem D4:∀ (c:Ty) (x:c.den),(Bs c x).length=BP c
 |.int _,_ | .bool,_ | .str,_ | .unit,_ | .sl _ _,_=>rfl
 |.pair a b,x=>by simp[Bs,BP,D4 a,D4 b]
theorem B9:∀ (c:Ty) (x:c.den),(DN c x).length=BP c
 |.int _,_ | .bool,_ | .str,_ | .unit,_ | .sl _ _,_=>rfl
 |.pair a b,x=>by simp[DN,BP,B9 a,B9 b]
theorem D5:∀ (c:Ty) (x:c.den),∀ v∈Bs c x,v.oneCell'=zt
 |.int _,_,v,h | .bool,_,v,h | .str,_,v,h=>by cases aq.1 h;rfl
 |.unit,_,v,h | .sl _ _,_,v,h=>by cases h
 |.pair a b,x,v,h=>(am.1 h).elim (D5 a x.1 v) (D5 b x.2 v)
theorem IA:∀ (c:Ty) (x:c.den),RepL M μ (DN c x) (Bs c x)
 |.int k,n=>RepL.cons (.int _ _ _) (RepL.nil _ _)
 |.bool,b=>RepL.cons (.bool _ _) (RepL.nil _ _)
 |.str,s=>RepL.cons (by have:=Rep.str (M:=M) μ ⟨s.toArray⟩;simpa using this) (RepL.nil _ _)
 |.unit,_ | .sl _ _,_=>RepL.nil _ _
 |.pair a b,x=>(IA a x.1).append (IA b x.2)
theorem KN:∀ (c:Ty) (x:c.den) {vs:List Value},RepL M μ (DN c x) vs->vs=Bs c x
 |.int k,n,vs,h=>by
  obtain⟨v,l,rfl,e,d⟩:=h.cons_inv;cases e;cases d.nil_inv;rfl
 |.bool,b,vs,h=>by
  obtain⟨v,l,rfl,e,d⟩:=h.cons_inv;cases e;cases d.nil_inv;rfl
 |.str,s,vs,h=>by
  obtain⟨v,l,rfl,e,d⟩:=h.cons_inv;cases d.nil_inv;cases e;simp[Bs]
 |.unit,_,vs,h=>h.nil_inv
 |.sl _ _,_,vs,h=>h.nil_inv
 |.pair a b,x,vs,h=>by
  have f:=KN a x.1 (vs:=vs.take (BP a)) (by have:=h.take (BP a);rwa [show(DN (.pair a b) x).take (BP a)=DN a x.1 from by simp[DN,<- B9 a x.1]]at this);have g:=KN b x.2 (vs:=vs.drop (BP a)) (by have:=h.drop (BP a);rwa [show(DN (.pair a b) x).drop (BP a)=DN b x.2 from by simp[DN,<- B9 a x.1]]at this);rw[<- List.take_append_drop (BP a) vs,f,g];rfl
theorem Ng:∀ (c:Ty) {d r:List PV} {x:c.den},unc c d=zo (x,r)->d=DN c x++r
 |.int k,[],r,x,e=>by cases e
 |.int k,p::d,r,x,e=>by
  cases p
  case int k' n=>
   simp only[unc]at e;cases f:k == k' with
   |false=>rw[f]at e;cases e
   |true=>rw[f]at e;cases e;rw[eq_of_beq f];rfl
  all_goals cases e
 |.bool,[],r,x,e=>by cases e
 |.bool,p::d,r,x,e=>by cases p<;>cases e;rfl
 |.str,[],r,x,e=>by cases e
 |.str,p::d,r,x,e=>by cases p<;>cases e;rfl
 |.unit,d,r,x,e=>by
  unfold unc at e;cases e;rfl
 |.sl _ _,d,r,x,e=>by
  unfold unc at e;cases e
 |.pair a b,d,r,x,e=>by
  simp only[unc]at e;split at e
  ·rename_i y q g;split at e
   ·rename_i z i h;cases e;rw[Ng a g,Ng b h,<- aV];rfl
   ·cases e
  ·cases e
theorem Q7(c:Ty):∀ {es:List PV} {l:List c.den},TF c es=zo l->es=l.map λx=>.agg (DN c x)
 |[],l,e=>by cases e;rfl
 |p::es,l,e=>by
  unfold TF at e;split at e
  ·rename_i h;cases h
  ·rename_i cs l' hh;cases hh;split at e
   ·rename_i x r a b;cases e;rw[Q7 c b,Ng c a];simp
   ·cases e
  ·cases e
theorem RV(c:Ty){V:c.den->Prop}[Inhabited {x:c.den // V x}](d:Array {x:c.den // V x}):FlatRep M μ (BP c) (d.toList.map λx=>PV.agg (DN c x.1)) (flatK (λx=>Bs c x.1) (BP c) d):=by
 refine⟨by simp,λi e a=> ?_,λi e j p a g=> ?_⟩
 ·rw[aX]at a;cases h:d.toList[i]? with
  |none=>rw[h]at a;cases a
  |some x=>rw[h]at a;cases a;exact B9 c x.1
 ·rw[aX]at a;cases h:d.toList[i]? with
  |none=>rw[h]at a;cases a
  |some x=>
   rw[h]at a;cases a;have g:(DN c x.1)[j]?=zo p:=g;have m:j<BP c:=by rw[<- B9 c x.1];exact(al.1 g).1
   have hi:i<d.size:=by simpa using(al.1 h).1
   have o:d[i]!=x:=by rw[getElem!_pos d i hi];have:=(al.1 h).2;simpa using this
   have f:i*BP c+j<d.size*BP c:=by
    have:=az (BP c) (show i+1<=d.size from hi);rw[aO,Nat.one_mul]at this;omega
   have l:=get_flatK (λx:{x:c.den // V x}=>Bs c x.1) (BP c) d _ f;have k:(i*BP c+j) / BP c=i:=by rw[bO,Nat.mul_add_div (by omega),Nat.div_eq_of_lt m];rfl
   have n:(i*BP c+j) % BP c=j:=by rw[bO,Nat.mul_add_mod,Nat.mod_eq_of_lt m]
   rw[k,n,o]at l;have b:j<(Bs c x.1).length:=by rw[D4];exact m
   rw[getElem!_pos (Bs c x.1) j b]at l;refine⟨(Bs c x.1)[j],?_,D5 c x.1 _ (bL b),(IA c x.1).2 j p _ g (ai b)⟩;rw[af (by simpa using f),<- l,getElem!_pos _ _ (by simpa using f)]
theorem Lr{c:Ty}{V:c.den->Prop}[Inhabited {x:c.den // V x}](d:Array {x:c.den // V x})(s:Sim M μ h w){id off len:Nat}{es:List PV}{ex:Bool}{r:Bk}(W:μ id=zo r)(L:h.get id=zo (.row es ex zf))(U:off+len<=es.length)
  (g:(es.drop off).take len=d.toList.map λx=>PV.agg (DN c x.1)):HoldsK (λx:{x:c.den // V x}=>Bs c x.1) (BP c) w r.b (r.base+off*r.esz) d:=by
 obtain⟨r',o,arr,ty,E,F,Y,Z,h5,J,K⟩:=s.blk id _ L;rw[W]at o;cases o
 have N:d.size=len:=by
  have:=congrArg cy g;simp at this;omega
 intro t y;rw[size_flatK]at y
 have S:0<BP c:=by
  rcases bK (BP c)with h|h
  ·rw[h]at y;simp at y
  ·exact h
 have hi:t / BP c<d.size:=Nat.div_lt_of_lt_mul (by rwa [bO]at y);have I:t % BP c<BP c:=cN _ S;have X:d.toList[t / BP c]?=zo d[t / BP c]:=by rw[cq];exact af hi
 have G:es[off+t / BP c]?=zo (PV.agg (DN c d[t / BP c].1)):=by
  have:=congrArg (·[t / BP c]?) g;simp only[aX,X,ay]at this
  rwa [bf (by omega),aJ]at this
 have l:r.esz=BP c:=by rw[<- J _ _ G];exact B9 c _
 have O:t % BP c<(DN c d[t / BP c].1).length:=by rw[B9];exact I
 have f:r.base+(off+t / BP c)*r.esz+t % BP c<arr.size:=by
  have A:off+t / BP c+1<=r.cap:=by omega
  have B:=az r.esz A;rw[aO,Nat.one_mul,l]at B;rw[l];rw[l]at F;omega
 have u:∀ j p,(DN c d[t / BP c].1)[j]?=zo p -> ∃ v,arr[r.base+(off+t / BP c)*r.esz+j]?=zo v/\Rep M μ p v:=λj p z=>by
  have P:j<BP c:=by rw[<- B9 c d[t / BP c].1];exact(al.1 z).1
  have e:r.base+(off+t / BP c)*r.esz+j<arr.size:=by
   have A:off+t / BP c+1<=r.cap:=by omega
   have B:=az r.esz A;rw[aO,Nat.one_mul,l]at B;rw[l]at F ⊢;omega
  exact⟨_,af e,(K _ _ j p _ G z (af e)).2⟩
 have n:(bh (BP c)).map (λj=>arr[r.base+(off+t / BP c)*r.esz+j]!)=Bs c d[t / BP c].1:=KN (M:=M) (μ:=μ) c _ ⟨by simp[B9],λi p v z k=>by
  obtain⟨v',e1,e2⟩:=u i p z;rw[aX]at k;cases C:(bh (BP c))[i]? with
  |none=>rw[C]at k;cases k
  |some q=>
   rw[C]at k;obtain⟨_,rfl⟩:=al.1 C;simp only[List.getElem_range,ay,Option.some.injEq]at k;subst k;obtain⟨e,rfl⟩:=cd.1 e1
   rw[getElem!_pos arr _ e];exact e2⟩
 have m:r.base+off*r.esz+t=r.base+(off+t / BP c)*r.esz+t % BP c:=by
  rw[aO,l];have:=Nat.div_add_mod t (BP c);rw[bO]at this;omega
 refine⟨?_,?_⟩
 ·rw[cell?_eq (a:=⟨r.b,r.base+off*r.esz+t,zn⟩) E rfl,get_flatK _ _ _ _ y,getElem!_pos d _ hi];simp only;rw[m,<- n,af f];have D:t % BP c<((bh (BP c)).map (λj=>arr[r.base+(off+t / BP c)*r.esz+j]!)).length:=by simp[I]
  rw[getElem!_pos ((bh (BP c)).map (λj=>arr[r.base+(off+t / BP c)*r.esz+j]!)) _ D];simp[f]
 ·simp[World.frozen?,E]
theorem Nb(P:Program){c:Ty}{V:c.den->Prop}[Inhabited {x:c.den // V x}]{d a:Array {x:c.den // V x}}(g:a.size=d.size)(s:Sim M μ h w){id off len:Nat}{es:List PV}{ex:Bool}{r:Bk}(A:μ id=zo r)(k:h.get id=zo (.row es ex zf))(y:off+len<=es.length)
  (f:(es.drop off).take len=d.toList.map λx=>PV.agg (DN c x.1)) {h':Hp} (o:h.set id (.row (BD es off (a.toList.map λx=>PV.agg (DN c x.1))) ex zf)=zo h') (n:Nat) (q:Array Obj) :
  Sim M μ h' (sortWorldK (λx:{x:c.den // V x}=>Bs c x.1) (BP c) w r.b (r.base+off*r.esz) n a q)/\Grow M μ w M μ (sortWorldK (λx:{x:c.den // V x}=>Bs c x.1) (BP c) w r.b (r.base+off*r.esz) n a q):=by
 have G:=Lr d s A k y f
 have O:d.size=len:=by
  have:=congrArg cy f;simp at this;omega
 obtain⟨r',m,arr,ty,h1,h2,h3,h4,h5,L,h7⟩:=s.blk id _ k;rw[A]at m;cases m
 have l:(a.toList.map λx=>PV.agg (DN c x.1))≠[]->r.esz=BP c:=λz=>by
  have K:0<d.size:=by
   rcases bK d.size with h|h
   ·exact absurd (by rw[<- g]at h;simp[Array.size_eq_zero_iff.1 h]) z
   ·exact h
  have S:es[off]?=zo (PV.agg (DN c d[0].1)):=by
   have:=congrArg (·[0]?) f;simp only[aX,cq,af K,ay]at this
   rwa [bf (by omega),aJ,aN]at this
  rw[<- L _ _ S];exact B9 c _
 obtain⟨w1,k1,D,E⟩:=EL (P:=P) s A k (pos:=off) (new:=a.toList.map λx=>PV.agg (DN c x.1)) (n:=BP c) (news:=(flatK (λx:{x:c.den // V x}=>Bs c x.1) (BP c) a).toList) (by rw[Array.toArray_toList];exact RV c a) l (by omega) (by simp;omega) (λ_=>by simp;omega) (λh=>by cases h) o
 have p:=stores_of_holds P G 0 (flatK (λx:{x:c.den // V x}=>Bs c x.1) (BP c) a).toList (by simp[g]) (λv Z=>by
  obtain⟨t,W,rfl⟩:=List.mem_iff_getElem.1 Z;have i:t<a.size*BP c:=by simpa using W
  have U:0<BP c:=by
   rcases bK (BP c)with h|h
   ·rw[h]at i;simp at i
   ·exact h
  have:=get_flatK (λx:{x:c.den // V x}=>Bs c x.1) (BP c) a t i;rw[getElem!_pos _ _ (by simpa using i)]at this;rw[Array.getElem_toList,this];have I:t % BP c<(Bs c a[t / BP c]!.1).length:=by rw[D4];exact cN _ U
  rw[getElem!_pos (Bs c a[t / BP c]!.1) _ I]
  exact D5 c _ _ (bL I))
 rw[aN]at p
 have C:w1=w.setCells r.b (r.base+off*r.esz) (flatK (λx:{x:c.den // V x}=>Bs c x.1) (BP c) a).toList:=by
  have:=k1.symm.trans p;injection this
 have AG:w.setCells r.b (r.base+off*r.esz) (flatK (λx:{x:c.den // V x}=>Bs c x.1) (BP c) a).toList=putRowK (λx:{x:c.den // V x}=>Bs c x.1) (BP c) w r.b (r.base+off*r.esz) a:=by
  have u:=setCells_putRow w r.b (r.base+off*r.esz) (flatK (λx:{x:c.den // V x}=>Bs c x.1) (BP c) a).toList 0 (flatK (λx:{x:c.den // V x}=>Bs c x.1) (BP c) d) (by simp[g]);rw[aN]at u
  have N:putRow _root_.id w r.b (r.base+off*r.esz) (flatK (λx:{x:c.den // V x}=>Bs c x.1) (BP c) d)=w:=by
   have:=sortWorldK_start (λx:{x:c.den // V x}=>Bs c x.1) (BP c) w r.b (r.base+off*r.esz) d G;exact this
  rw[N]at u;rw[u];unfold putRowK
  congr 1
  apply Array.ext
  ·simp[g]
  ·intro t B j;have e1:∀ (X:Array Value) (h:t<X.size),X[t]=X[t]!:=λX h=>(getElem!_pos X t h).symm;have e2:∀ (Y:List Value) (h:t<Y.length),Y[t]!=Y[t]:=λY h=>getElem!_pos Y t h;rw[e1 _ B,get_setMany _ _ _ t (by simpa[g]using j),zy ⟨ba _,by simpa using j⟩,Nat.sub_zero,e2 _ (by simpa using j)];simp
 rw[C,AG]at D E;have e:sortWorldK (λx:{x:c.den // V x}=>Bs c x.1) (BP c) w r.b (r.base+off*r.esz) n a q=grow ((putRowK (λx:{x:c.den // V x}=>Bs c x.1) (BP c) w r.b (r.base+off*r.esz) a).drewN n) q:=rfl;rw[e];generalize putRowK (λx:{x:c.den // V x}=>Bs c x.1) (BP c) w r.b (r.base+off*r.esz) a=J at D E ⊢;have F:WStays J (grow (J.drewN n) q):=⟨rfl,rfl,rfl,Nat.le_add_right _ _,by simp[grow,World.drewN],λb k=>by simp[grow,World.drewN,cc k]⟩;exact⟨J5 D F.size F.keep,E.trans (Ip F)⟩
end
end
section
open Go.RowKit Go.Shelf Go.Sort Go.Proofs
open Sv (Ty)
theorem WStays.grown{w w':World}(h:WStays w w'):∃ q b,w'=grow (w.drewN q) b:=by
 obtain⟨c,d,e,k,l,f⟩:=h;refine⟨w'.drawn-w.drawn,w'.heap.extract w.heap.size w'.heap.size,?_⟩
 have hh:w'.heap=w.heap++w'.heap.extract w.heap.size w'.heap.size:=by
  apply Array.ext
  ·simp;omega
  ·intro i a j;rcases dj i w.heap.size with h|h
   ·have:=f i h;rw[af a,af h]at this;rw[Array.getElem_append_left h];exact Option.some.inj this
   ·rw[Array.getElem_append_right h];simp[show w.heap.size+(i-w.heap.size)=i by omega]
 have g:w'.drawn=w.drawn+(w'.drawn-w.drawn):=by omega
 cases w;cases w';simp only[grow,World.drewN,World.mk.injEq]at *;exact⟨hh,e,g,c,d⟩
theorem Jo{α:Type}{V:α->Prop}:∀ (l:List α),(∀ x∈l,V x) -> ∃ d:List {x:α // V x},d.map (·.1)=l
 |[],_=>⟨[],rfl⟩
 |a::l,h=>by
  obtain⟨d,b⟩:=Jo l λx c=>h x (.tail _ c);exact⟨⟨a,h a (.head _)⟩::d,by simp[b]⟩
theorem Rt{α:Type}[Inhabited α]{d a:Array α}(h:PermIn 0 d.size d a):a.toList.Perm d.toList:=by
 obtain⟨c,_,b⟩:=h;have:a.extract 0 d.size=a:=by rw[<- c];simp
 rw[this]at b;simpa using b
theorem Rr{α:Type}[Inhabited α]{f:α->α->Bool}{c:Array α}{n:Nat}(g:c.size=n)(h:SortedIn f 0 n c):c.toList.Pairwise λa b=>f b a=zf:=by
 rw[List.pairwise_iff_getElem];intro i j hi e d;have:=h i j (ba _) d (by rw[<- g];simpa using e);rw[getElem!_pos c i (by simpa using hi),getElem!_pos c j (by simpa using e)]at this;simpa using this
@[reducible] def UR:Gl:=⟨λ_=>zn,λ_=>zn⟩
theorem Tc{P:Program}{f:FuncId}(hc:∀ (a b:ByteArray) (w:World),Calls P f #[.string a,.string b] w λe w'=>e=.returned (.int .i64 (Lib.compareBytes a.data.toList b.data.toList))/\w'=w) : @CG (Lm UR f .cmp) P:=by
 refine @K5 UR P f .cmp (@MF UR P λ_=>rfl) λargs h v h' d M μ w vs s j cs=> ?_
 letI:=UR
 rcases args with _|⟨e,_|⟨t,_|⟨_,_⟩⟩⟩<;>try (cases d;done)
 replace d:(Qd e t).map (λn=>(PV.int .i64 n,h))=zo (v,h'):=d;obtain⟨n,c,hh⟩:=AA d;cases hh;unfold Qd at c;split at c<;>try (cases c;done)
 cases c;obtain⟨x,q,rfl,k,g⟩:=j.cons_inv;obtain⟨y,r,rfl,l,i⟩:=g.cons_inv;cases i.nil_inv;cases k with
 |str _ x=>cases l with
  |str _ y=>
   obtain⟨e,w',fr,⟨rfl,rfl⟩,m,o,p⟩:=hc x y w cs;exact⟨M,μ,_,fr,_,s,.refl _ _ _,m,o,by rw[Ek];exact .int _ _ _,p⟩
theorem UK[Gl]{M:Ak}{μ:Mu}(c:Ty)(x:c.den):Rep M μ (.agg (DN c x)) (.agg (Bs c x).toArray):=
 .agg _ _ _ (by simp[B9,D4]) (λi v h=>D5 c x v (by
  rw[List.getElem?_toArray]at h
  exact List.mem_of_getElem? h)) λi p v a b=>(IA c x).2 i p v a (by simpa using b)
theorem R6[Gl]{P:Program}{g:FuncId}{c:Ty}{F:List c.den->Option (List c.den)}{b:∀ l l',F l=zo l'->l'.length=l.length}{args:List PV}{h h':Hp}{v:PV}(e:JM P (.srt g c F b) args h=zo (v,h')):∃ p,args=[p,.fn (.func g) [] []]/\Fz c F p h=zo (v,h'):=by
 match args,e with
 |[p,.fn (.func g') [] []],e=>
  replace e:(bif aa g g' then Fz c F p h else zn)=zo (v,h'):=e
  cases a:aa g g' with
  |false=>rw[a]at e;cases e
  |true=>rw[a]at e;rw[<- aj a];exact⟨p,rfl,e⟩
theorem R7[Gl]{c:Ty}{F:List c.den->Option (List c.den)}{id off len:Nat}{h h':Hp}{v:PV}(e:Fz c F (.own id off len) h=zo (v,h')) :
  v=.tup [] /\ ∃ es ex l l',h.get id=zo (.row es ex zf)/\off+len<=es.length/\TF c ((es.drop off).take len)=zo l/\F l=zo l'/\h.set id (.row (BD es off (l'.map λx=>.agg (DN c x))) ex zf)=zo h':=by
 simp only[Fz]at e;split at e
 ·rename_i es ex i;cases a:ad (off+len) es.length with
  |false=>rw[a]at e;cases e
  |true=>
   rw[a]at e;simp only[zb]at e;split at e
   ·rename_i l b;split at e
    ·rename_i l' d;obtain⟨j,f,g⟩:=AA e;cases g;exact⟨rfl,es,ex,l,l',i,ao a,b,d,f⟩
    ·cases e
   ·cases e
 ·cases e
def Rd[Gl]:Option (Out×Option UM×Hp)->Bool
 |some (.ret (.tup []),_,_)=>zt
 |_=>zf
theorem N6[Gl]{x:Option (Out×Option UM×Hp)}(h:Rd x=zt):∃ u h,x=zo (.ret (.tup []),u,h):=by
 unfold Rd at h;split at h
 ·exact⟨_,_,rfl⟩
 ·cases h
theorem UC[G:Gl]{P:Program}(PO:CG P){ρ:Ren}(L:SlLaysF0.n6 P ρ){g:FuncId}{c:Ty}{F:List c.den->Option (List c.den)}{hF:∀ l l',F l=zo l'->l'.length=l.length}
  (aE:∀ w,(isAgg (ρ.t 24)).run P w=.ok zt w) (zE:∀ w,(Go.sizeOf (ρ.t 24)).run P w=.ok (BP c) w) {V:c.den->Prop} (x0:{x:c.den // V x}) (cf:c.den->c.den->Int)
  (hO:SWO (ltOf λ(x y:{x:c.den // V x})=>cf x.1 y.1)) (eg:∀ args w,(callFunc g args).run P w=.ok (.enter g args) w)
  (W:∀ x y,V x->V y -> ∀ w,Calls P g #[.agg (Bs c x).toArray,.agg (Bs c y).toArray] w λe w'=>e=.returned (.int .i64 (cf x y))/\WStays w w')
  (hFs:∀ l l',F l=zo l'->l.length<4611686018427387904/\(∀ x∈l,V x) /\ ∀ m:List c.den,m.Perm l->(m.Pairwise λa b=>¬ cf b a<0)->m=l')
  {sh:FuncId->Bool} {Fu n:Nat}
  (D:Rd (B4 P sh Fu n (.fn (ρ.f 6)) zn [.nils,.fn (.func g) [] []] { m:=.lf,nx:=0 })=zt)
  (E:Rd (B4 P sh Fu n (.fn (ρ.f 6)) zn [.lst zf [],.fn (.func g) [] []] { m:=.lf,nx:=0 })=zt) :
  @CG (Lm G (ρ.f 6) (.srt g c F hF)) P:=by
 obtain⟨u1,O,D⟩:=N6 D;obtain⟨u2,h2,E⟩:=N6 E;have R:=Mt (sh:=sh) PO (λrec R=>E2 (P:=P) (rec:=rec) R) Fu n;refine K5 PO λargs h v h' hd M μ w vs s ha cs=> ?_
 have d:∀ {p:PV} {u:Option UM} {O:Hp},B4 P sh Fu n (.fn (ρ.f 6)) zn [p,.fn (.func g) [] []] { m:=.lf,nx:=0 }=zo (.ret (.tup []),u,O)->(∀ vs,RepL M μ [p,.fn (.func g) [] []] vs->RepL M mu0 [p,.fn (.func g) [] []] vs)->RepL M μ [p,.fn (.func g) [] []] vs ->
   ∃ J μ' w' fr x,Sim J μ' h w'/\Grow M μ w J μ' w'/\Steps P (lone (Frame.enter P (ρ.f 6) vs.toArray .normal) cs w) (lone fr cs w')/\fr.fn=ρ.f 6/\Rep J μ' (.tup []) x/\fr.leaving P w' (.returned x):=by
  intro p u O hn k ha;have s0:=s.empty [];rw[ID]at s0;obtain⟨J,μ',w',fr,s1,g1,st,j,x,q,Y⟩:=R.nrm hn s0 (k vs ha) cs;obtain⟨j1,j2⟩:=D8 s g1;refine⟨M,μ,w',fr,x,j1,j2,st,j,?_,Y⟩;cases q with
  |tup _ _ vs' hz _=>exact .tup _ _ _ hz λi c v e=>by simp at e
 have K:∀ {v:Value},Rep M μ (.fn (.func g) [] []) v->v=.func (.func g) #[] #[]:=fun {v} k=>by
  cases k with
  |fn _ _ _ _ va vb _ hla hlb _ _=>
   have O:va = #[]:=Array.eq_empty_of_size_eq_zero hla.symm;have h2:vb = #[]:=Array.eq_empty_of_size_eq_zero hlb.symm;rw[O,h2]
 have N:Rep M mu0 (.fn (.func g) [] []) (.func (.func g) #[] #[]):=.fn _ _ _ _ _ _ (λl e=>by cases e) rfl rfl (λi c v e=>by simp at e) (λi c v e=>by simp at e);obtain⟨p,rfl,e⟩:=R6 hd;clear hd;obtain⟨x,l1,rfl,q,B⟩:=ha.cons_inv;obtain⟨f,l2,rfl,hf,C⟩:=B.cons_inv;cases C.nil_inv;cases K hf;cases p<;>try (simp only[Fz]at e;cases e;done)
 case nils=>
  cases e;cases q
  exact d D (λvs k=>by
   obtain⟨x,l1,rfl,q,B⟩:=k.cons_inv;obtain⟨f,l2,rfl,hf,C⟩:=B.cons_inv;cases C.nil_inv;cases K hf;cases q
   exact .cons (.nils _) (.cons N (.nil _ _))) ha
 case lst full es=>
  cases es with
  |cons _ _=>simp only[Fz]at e;cases e
  |nil=>
   cases e
   have k:Rep M mu0 (.lst zf []) x:=by
    cases q with
    |lst0 _ _ a cap hf=>exact .lst0 _ _ _ _ λh=>by cases h
    |lst _ _ _ b off esz cap x _ _ _ _ _ _=>exact .lst0 _ _ _ _ λh=>by cases h
   have hr2:RepL M mu0 [.lst zf [],.fn (.func g) [] []] [x,.func (.func g) #[] #[]]:=.cons k (.cons N (.nil _ _));have s0:=s.empty [];rw[ID]at s0;obtain⟨J,μ',w',fr,s1,g1,st,j,x,q,Y⟩:=R.nrm E s0 hr2 cs;obtain⟨j1,j2⟩:=D8 s g1;refine⟨M,μ,w',fr,x,j1,j2,st,j,?_,Y⟩;cases q with
   |tup _ _ vs' hz _=>exact .tup _ _ _ hz λi c v e=>by simp at e
 case own id off len=>
  obtain⟨rfl,es,ex,l,l',hb,Z,hu,hFl,hset⟩:=R7 e;obtain⟨z,hV,huq⟩:=hFs l l' hFl;obtain⟨dl,A⟩:=Jo l hV;cases q with
  |own _ _ _ _ r k hc=>
   haveI:Inhabited {x:c.den // V x}:=⟨x0⟩
   have o:(es.drop off).take len=dl.toArray.toList.map λx=>PV.agg (DN c x.1):=by
    rw[Q7 c hu,<- A];simp
   have hsz:dl.toArray.size=len:=by
    have:=congrArg cy o;simp at this;simp;omega
   have hH:=Lr dl.toArray s k hb Z o;have S:r.b<w.heap.size:=(s.use id r k).2
   have U:=AnyQ.slices_SortFunc L (BP c) aE zE (λx:{x:c.den // V x}=>Bs c x.1) (λx=>D4 c x.1) (λx=>D5 c x.1) (λx y=>cf x.1 y.1) hO g #[] r.b (r.base+off*r.esz) (r.cap-off) dl.toArray w eg
    (λm os dk hs x y=>(W x.1 y.1 x.2 y.2 _).mono λ_ _ ⟨he,hw⟩=>⟨he,hw.grown⟩) hH S (by simp[<- A]at z;simpa using z)
   rw[hsz]at U;obtain⟨e,w',fr,⟨rfl,d',n',os,hp,hso,rfl⟩,st,j,Y⟩:=U cs;rw[<- hsz]at hp hso;have X:=hp.1
   have hm:=huq (d'.toList.map (·.1)) (by rw[<- A];have:=(Rt hp).map (λx:{x:c.den // V x}=>x.1);simpa using this) (by
    rw[List.pairwise_map];refine(Rr X hso).imp fun {a b} h=> ?_
    simpa[ltOf]using h)
   have I:h.set id (.row (BD es off (d'.toList.map λx=>.agg (DN c x.1))) ex zf)=zo h':=by
    rw[<- hset,<- hm];simp
   obtain⟨q1,q2⟩:=Nb P X s k hb Z o I n' os;exact⟨M,μ,_,fr,_,q1,q2,st,j,.tup _ _ _ rfl λi c v e=>by simp at e,Y⟩
end
end Go.Proofs.YtoefnfbpoabinaaGreatDoor.Pi
