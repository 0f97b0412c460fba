/- A part of the evaluator of the model's code for any program, and of the proof that it is sound. No condition. -/
import Derived.Test.YtanppfoapnaeaaaGreatPp1
import Derived.RowKit3
set_option linter.all false
open List renaming append_assoc->bc, append_inj'->cZ, append_of_mem->cO, getElem?_cons_zero->aZ, getElem?_eq_getElem->ad, getElem?_take->aB, length_cons->aV, length_erase_of_mem->cv, map_cons->cC, map_map->dv, mem_append->ao, mem_append_left->ak, mem_cons->ae, mem_cons_of_mem->aw, mem_cons_self->cQ, mem_map->bo, mem_reverse->c0, mem_singleton->ax, nodup_cons->aT, range->bY
open Nat renaming add_zero->bl, beq->aa, ble->af, blt->ah, blt_eq->bW, eq_of_beq_eq_true->al, le_refl->ac, lor->bX, lt_trichotomy->da, strongRecOn->dm, testBit_and->co, testBit_two_pow->ca, zero_add->aQ, zero_le->bF
open Array renaming all_eq_true_iff_forall_mem->cb, getD_eq_getD_getElem?->aE, getElem?_eq_getElem->an, getElem?_eq_some_iff->bG, mem_toList_iff->bA, replicate->bB
open Option renaming getD_some->aC, map_some->ap
open Bool renaming and_eq_true->ai, cond_eq_ite->aA, false_or->dt, not_eq_true'->bh, not_true->au, or_eq_false_iff->am, or_eq_true->bE
namespace Go.Proofs.YtanppfoapnaeaaaGreat.Pi
section
variable[Gl]
def E1(P:Program)(rec:HM):Prop:=∀ {ops:Array Oper} {base:Nat} {fr c:Fr} {h h':Hp},drawn P rec base ops.toList fr h=some (c,h')->(P.follows .mixedOrders || !Region.departs ops)=true ->
 ∀ {M:Ap} {μ:Mu} {w:World} {b:Frame} {a:Act} {cs:List Frame} (k:List Item) (t:Nat),Sim M μ h w->FrRep M μ fr b a cs->Ran P M μ w (lone (b.atR a (.inRegion ops (Region.schedule (P.follows .mixedOrders) ops t)::k)) cs w) b k cs .normal c h'
section
variable{P:Program}{sh:FuncId->Bool}{rec:HM}
theorem NB{α:Type}:∀ (l:List α) (n:Nat),(G5 n l).map (·.1)=(bY l.length).map (n+·)
 |[],n=>rfl
 |a::l,n=>by
  simp only[G5,cC,aV,List.range_succ_eq_map,dv];rw[NB l (n+1)];simp only[bl,List.cons.injEq,true_and];apply List.map_congr_left;intro x _;simp only[Function.comp];omega
theorem NC{α:Type}:∀ (l:List α) (n:Nat),∀ x∈G5 n l,n<=x.1/\l[x.1-n]?=some x.2
 |[],n,x,hx=>by simp[G5]at hx
 |a::l,n,x,hx=>by
  simp only[G5,ae]at hx;rcases hx with rfl|hx
  ·simp
  ·obtain⟨c,b⟩:=NC l (n+1) x hx;refine⟨by omega,?_⟩;rw[show x.1-n=(x.1-(n+1))+1 by omega];simpa using b
section
variable{M:Ap}{μ:Mu}{h h':Hp}{w:World}{b:Frame}{a:Act}{cs:List Frame}{k:List Item}{fr fr':Fr}{ex:Ex}{m:Machine}
theorem Ran.step{a:Machine}(hs:step P m=.next a)(c:Ran P M μ w a b k cs ex fr' h'):Ran P M μ w m b k cs ex fr' h':=
 let ⟨M',μ',w',a',cs',q1,q2,q3,q4,q5⟩:=c
 ⟨M',μ',w',a',cs',q1,q2,q3,q4,.of_steps (.one hs) q5⟩
theorem Ran.then{fr1:Fr}{g:Hp}{h:List Item}(p:Ran P M μ w m b h cs .normal fr1 g)
  (o:∀ {c μ1 d e a},Sim c μ1 g d->FrRep c μ1 fr1 b e a->Ran P c μ1 d (lone (b.atR e h) a d) b k a ex fr' h'):Ran P M μ w m b k cs ex fr' h':=by
 obtain⟨c,μ1,d,e,a,s1,n,l,y,x⟩:=p;obtain⟨i,μ',w',j,f,q,r,s,t,u⟩:=o s1 l;exact⟨i,μ',w',j,f,q,n.trans r,s,y.trans t,.of_steps x u⟩
theorem Ran.pass{x:Item}(q:x.plain=true)(f:ex ≠ .normal)(j:Ran P M μ w m b (x::k) cs ex fr' h'):Ran P M μ w m b k cs ex fr' h':=by
 obtain⟨h,μ',w',i,c,l,n,o,p,a⟩:=j;refine⟨h,μ',w',i,c,l,n,o,p,?_⟩;cases ex with
 |normal=>exact absurd rfl f
 |exit id=>obtain⟨g,d,e⟩:=a;exact⟨g,by rw[d];cases x<;>simp_all[exitTo,Item.plain],e⟩
 |goto id=>obtain⟨g,d,e⟩:=a;exact⟨g,by rw[d];cases x<;>simp_all[gotoIn,Item.plain],e⟩
 |ret=>exact a
 |panic v=>exact a
end
theorem Cp{r:Nat}{l:Loop}{w:World}(a:w.heap[r]?=some (.loop l)):(Instr.getLoop r).run P w=.ok l w:=by
 simp[Instr.getLoop,getObj,Sem.run,a]
theorem Jr(R:RecOK P rec)(D:E1 P rec):∀ (n:Nat),
  (∀ {c:Code} {fr C:Fr} {h h':Hp} {ex:Ex},exec P sh rec n c fr h=some (ex,C,h') ->
   ∀ {M:Ap} {μ:Mu} {w:World} {b:Frame} {a:Act} {cs:List Frame} (k:List Item),Sim M μ h w->FrRep M μ fr b a cs->Ran P M μ w (lone (b.atR a (.code c::k)) cs w) b k cs ex C h') /\
  (∀ {c:Code} {fr C:Fr} {h h':Hp} {ex:Ex},exec P sh rec n (.loop c) fr h=some (ex,C,h') ->
   ∀ {M:Ap} {μ:Mu} {w:World} {b:Frame} {a:Act} {cs:List Frame} (k:List Item),Sim M μ h w->FrRep M μ fr b a cs->Ran P M μ w (lone (b.atR a (.inLoop c::k)) cs w) b k cs ex C h')
 |0=>⟨λe=>by simp[exec]at e,λe=>by simp[exec]at e⟩
 |n+1=>by
  obtain⟨L,ihB⟩:=Jr R D n
  have G:∀ {c:Code} {fr C:Fr} {h h':Hp} {ex:Ex},exec P sh rec (n+1) (.loop c) fr h=some (ex,C,h') ->
    ∀ {M:Ap} {μ:Mu} {w:World} {b:Frame} {a:Act} {cs:List Frame} (k:List Item),Sim M μ h w->FrRep M μ fr b a cs->Ran P M μ w (lone (b.atR a (.code c :: .inLoop c::k)) cs w) b k cs ex C h':=by
   intro c fr C h h' ex e M μ w b a cs k s f;simp only[exec]at e;cases hc:exec P sh rec n c fr h with
   |none=>rw[hc]at e;cases e
   |some r=>
    obtain⟨I,fr1,h1⟩:=r;rw[hc]at e;have B:=L hc (.inLoop c::k) s f;cases I with
    |normal=>exact B.then λs1 f1=>ihB e k s1 f1
    |exit id=>cases e;exact B.pass rfl (by intro h;cases h)
    |goto id=>cases e;exact B.pass rfl (by intro h;cases h)
    |ret=>cases e;exact B.pass rfl (by intro h;cases h)
    |panic v=>cases e;exact B.pass rfl (by intro h;cases h)
  refine⟨?_,λe M μ w b a cs k s f=>(G e k s f).step stepR_inLoop⟩;intro c fr C h h' ex e M μ w b a cs k s f;cases c with
  |skip=>simp only[exec]at e;cases e;exact⟨M,μ,w,a,cs,s,.refl _ _ _,f,.refl _,.one stepR_skip⟩
  |label l=>simp only[exec]at e;cases e;exact⟨M,μ,w,a,cs,s,.refl _ _ _,f,.refl _,.one stepR_label⟩
  |refuse _=>simp[exec]at e
  |exit id=>simp only[exec]at e;cases e;exact⟨M,μ,w,a,cs,s,.refl _ _ _,f,.refl _,k,rfl,.refl _ _⟩
  |goto id=>simp only[exec]at e;cases e;exact⟨M,μ,w,a,cs,s,.refl _ _ _,f,.refl _,k,rfl,.refl _ _⟩
  |ret=>simp only[exec]at e;cases e;exact⟨M,μ,w,a,cs,s,.refl _ _ _,f,.refl _,k,.refl _ _⟩
  |seq x y=>
   simp only[exec]at e;refine Ran.step stepR_seq ?_;cases hc:exec P sh rec n x fr h with
   |none=>rw[hc]at e;cases e
   |some r=>
    obtain⟨I,fr1,h1⟩:=r;rw[hc]at e;have B:=L hc (.code y::k) s f;cases I with
    |normal=>exact B.then λs1 f1=>L e k s1 f1
    |exit id=>cases e;exact B.pass rfl (by intro h;cases h)
    |goto id=>cases e;exact B.pass rfl (by intro h;cases h)
    |ret=>cases e;exact B.pass rfl (by intro h;cases h)
    |panic v=>cases e;exact B.pass rfl (by intro h;cases h)
  |cond x y z=>
   simp only[exec]at e;split at e
   ·rename_i hx;have hv:=CN s.glb f.t hx;generalize W:a.eval x=v at hv;cases hv;exact(L e k s f).step (by rw[stepR_cond W];rfl)
   ·rename_i hx;have hv:=CN s.glb f.t hx;generalize W:a.eval x=v at hv;cases hv;exact(L e k s f).step (by rw[stepR_cond W];rfl)
   ·cases e
  |block id x=>
   simp only[exec]at e;refine Ran.step stepR_block ?_;cases hc:exec P sh rec n x fr h with
   |none=>rw[hc]at e;cases e
   |some r=>
    obtain⟨I,fr1,h1⟩:=r;rw[hc]at e;have B:=L hc (.inBlock id::k) s f;cases I with
    |normal=>cases e;exact B.then λs1 f1=>⟨_,_,_,_,_,s1,.refl _ _ _,f1,.refl _,.one stepR_inBlock⟩
    |exit j=>
     obtain⟨M',μ',w',a',F,q1,q2,q3,q4,k1,q5,q6⟩:=B;simp only at e;cases hj:aa j id with
     |true=>
      simp only[hj,cond_true]at e;cases e;have:=al hj;subst this;exact⟨M',μ',w',a',F,q1,q2,q3,q4,q6.trans (.one (stepR_exit (by rw[q5];simp[exitTo])))⟩
     |false=>
      simp only[hj,cond_false]at e;cases e;refine⟨M',μ',w',a',F,q1,q2,q3,q4,k1,?_,q6⟩;rw[q5]
      have:(id == j)=false:=by
       cases hij:id == j with
       |false=>rfl
       |true=>
        have:id=j:=by simpa using hij
        subst this;simp at hj
      simp[exitTo,this]
    |goto j=>
     cases e;obtain⟨M',μ',w',a',F,q1,q2,q3,q4,k1,q5,q6⟩:=B;exact⟨M',μ',w',a',F,q1,q2,q3,q4,k1,by rw[q5];simp[gotoIn],q6⟩
    |ret=>cases e;exact B
    |panic v=>cases e;exact B
  |loop x=>exact(G e k s f).step stepR_loop
  |scope x=>
   simp only[exec]at e;refine Ran.step Lq ?_;cases hc:exec P sh rec n x fr h with
   |none=>rw[hc]at e;cases e
   |some r=>
    obtain⟨I,fr1,h1⟩:=r;rw[hc]at e;have B:=L hc (.inScope x::k) s f;cases I with
    |normal=>cases e;exact B.then λs1 f1=>⟨_,_,_,_,_,s1,.refl _ _ _,f1,.refl _,.one Is⟩
    |exit j=>
     cases e;obtain⟨M',μ',w',a',F,q1,q2,q3,q4,k1,q5,q6⟩:=B;exact⟨M',μ',w',a',F,q1,q2,q3,q4,k1,by rw[q5];simp[exitTo],q6⟩
    |goto j=>cases e
    |ret=>cases e;exact B
    |panic v=>cases e;exact B
  |region id ops draw=>
   simp only[exec]at e;have s0:Sim M μ { h with nx:=h.nx+ops.size } w:=s.nx λ_=>rfl
   cases draw with
   |false=>
    simp only[cond_false]at e;refine Ran.step stepR_region ?_
    have:=HJ R _ e (λx hx=>by
     obtain⟨h1,h2⟩:=NC _ _ x hx
     simpa using h2) k s0 f
    have hidx:(G5 0 ops.toList).map (·.1)=bY ops.size:=by rw[NB];simp
    rwa [hidx]at this
   |true=>
    simp only[cond_true]at e;replace e:=Ac e;obtain⟨hm,e⟩:=e;split at e
    ·rename_i fr1 h1 hd;cases e;refine Ran.step stepR_region_draw ?_;have s1:Sim M μ { h with nx:=h.nx+ops.size } { w with drawn:=w.drawn+1 }:=s0.drawn rfl
     obtain⟨M',μ',w',a',F,q1,q2,q3,q4,q5⟩:=D hd hm k (w.tape w.drawn (.order b.fn id)) s1 f;exact⟨M',μ',w',a',F,q1,(Grow.drawn (w:=w) (w':={ w with drawn:=w.drawn+1 }) rfl rfl rfl rfl).trans q2,q3,q4,q5⟩
    ·cases e
  |rangeFunc g ps asg body=>
   simp only[exec]at e;split at e
   ·rename_i fn va0 vb0 hg;have hv:=CN s.glb f.t hg;generalize W:a.eval g=v at hv;cases hv with
    |fn _ _ _ _ va vb hf hla hlb h2 h3=>
    split at e
    ·rename_i d mark hd K;split at e
     ·rename_i hl hnewl;split at e
      ·rename_i fid args hinv;split at e
       ·rename_i rv u1 hc hcall;split at e
        ·rename_i st pend nt t pl as bd dd hgl;replace e:=Bo e;obtain⟨hst,e⟩:=e;have hst:st≠1:=by intro h;subst h;simp at hst
         split at e
         ·rename_i hs hset
          have enter:∃ (w1:World) (μ1:Mu) (A:Bk) (mk:List Deferred) (lid:Nat),(Instr.enterLoop b.fn a.tmps ps asg body b.roundOf).run P w=.ok (A.b,mk) w1/\Sim M μ1 hl w1/\Grow M μ w M μ1 w1/\lid=h.nx+1/\μ1 lid=some A/\DefsRep M μ1 mark mk:=by
           obtain⟨O,hgs,_⟩:=Hp.get_new hnewl;split at K
           ·rename_i hro;have J:b.roundOf=none:=by have:=f.r;unfold Iv at this;rw[hro]at this;exact this
            split at K
            ·rename_i hd1 hnewd;cases K;obtain⟨dget,dgs,_⟩:=Hp.get_new hnewd
             let rd:Bk:=⟨w.heap.size,0,0,0⟩
             obtain⟨s1,μd⟩:=s.fresh (w':=w.alloc (.deferred (some []))) (r:=rd) (o:=.deferred (some [])) dget dgs rfl rfl ⟨some [],rfl,trivial⟩;have g1:=Grow.newBlk (M:=M) (μ:=μ) (w:=w) (w':=w.alloc (.deferred (some []))) (r:=rd) (o:=.deferred (some [])) μd rfl rfl rfl rfl rfl (λ_ _ _ h=>by cases h)
             let N:Loop:={ state:=.ready,pending:=none,fn:=b.fn,tmps:=a.tmps,params:=ps,assign:=asg,body:=body,defers:=w.heap.size }
             let A:Bk:=⟨(w.alloc (.deferred (some []))).heap.size,0,0,0⟩
             have μl0:DO μ h.nx rd (h.nx+1)=none:=by
              cases hm:DO μ h.nx rd (h.nx+1)with
              |none=>rfl
              |some x=>exact absurd O (s1.use _ x hm).1
             have E:=Dn (r:=A) μl0
             obtain⟨s2,μl⟩:=s1.fresh (w':=(w.alloc (.deferred (some []))).alloc (.loop N)) (r:=A) (o:=.loop N) O hgs rfl rfl
              ⟨N,rd,rfl,rfl,by decide,rfl,f.t.mono (.refl _) (g1.u.trans E),by simp[N],rfl,rfl,E _ _ (by simp[DO]),rfl⟩
             have U:=Grow.newBlk (M:=M) (w:=w.alloc (.deferred (some []))) (w':=(w.alloc (.deferred (some []))).alloc (.loop N)) (r:=A) (o:=.loop N) μl rfl rfl rfl rfl rfl (λ_ _ _ h=>by cases h);refine⟨_,_,A,[{ target:=.collected w.heap.size,args:=#[] }],_,?_,s2,g1.trans U,rfl,by simp[DO],⟨⟨rd,E _ _ (by simp[DO]),rfl,rfl⟩,trivial⟩⟩;rw[J];simp[Instr.enterLoop,N,A]
            ·cases K
           ·rename_i l0 hro;have J:=f.r;unfold Iv at J;rw[hro]at J;obtain⟨rb,hrb,J⟩:=J;split at K
            ·rename_i st0 pend0 nt0 t0 ps0 asg0 body0 d0 hb0;cases K;obtain⟨r',Y,Z,rd,b1,b2,b3,b4,b5,b6,b7,b8,b9,b10⟩:=s.blk l0 _ hb0;rw[hrb]at Y;cases Y
             let N:Loop:={ state:=.ready,pending:=none,fn:=b.fn,tmps:=a.tmps,params:=ps,assign:=asg,body:=body,defers:=rd.b }
             let A:Bk:=⟨w.heap.size,0,0,0⟩
             have μl0:μ (h.nx+1)=none:=by
              cases hm:μ (h.nx+1)with
              |none=>rfl
              |some x=>exact absurd O (s.use _ x hm).1
             have E:=Dn (r:=A) μl0
             obtain⟨s2,μl⟩:=s.fresh (w':=w.alloc (.loop N)) (r:=A) (o:=.loop N) O hgs rfl rfl
              ⟨N,rd,rfl,rfl,by decide,rfl,f.t.mono (.refl _) E,by simp[N],rfl,rfl,E _ _ b9,rfl⟩
             have U:=Grow.newBlk (M:=M) (w:=w) (w':=w.alloc (.loop N)) (r:=A) (o:=.loop N) μl rfl rfl rfl rfl rfl (λ_ _ _ h=>by cases h);refine⟨_,_,A,[],_,?_,s2,U,rfl,by simp[DO],trivial⟩;rw[J];simp[Instr.enterLoop,N,A,Cp b1,b10]
            ·cases K
          obtain⟨w1,μ1,A,mk,lid,hent,s1,g1,rfl,hrl,hdm⟩:=enter;have hyl:Rep M μ1 (.yl (h.nx+1)) (.func (.yield A.b) #[] #[]):=.yl _ _ A hrl
          obtain⟨k1,g0,as0,k2⟩:=FD (P:=P) (w:=w1) (vf:=va.toList) (vc:=vb.toList) (va:=[.func (.yield A.b) #[] #[]])
           ⟨by simpa using hla,λi c v p q=>(h2 i c v p (by simpa using q)).mono (.refl _) g1.u⟩ ⟨by simpa using hlb,λi c v p q=>(h3 i c v p (by simpa using q)).mono (.refl _) g1.u⟩ (RepL.cons hyl (RepL.nil _ _)) hinv
          obtain⟨vs,hrun,hargs,fn1,c1,hfn1,hbody1⟩:=k1
          have hres:(resolve a.eval (rangeCall g A.b) 0).run P w1=.ok { target:=.fn fn vb,args:=va ++ #[.func (.yield A.b) #[] #[]] } w1:=by
           show Sem.run P (Deferred.ofValue (a.eval g) (#[Operand.const (.func (.yield A.b) #[] #[])].map a.eval)) w1=_;have hm1 : #[Operand.const (.func (.yield A.b) #[] #[])].map a.eval = #[Value.func (.yield A.b) #[] #[]]:=by simp[Act.eval]
           rw[W,hm1];rfl
          have hcat:(va.toList++[Value.func (.yield A.b) #[] #[]]).toArray=va ++ #[.func (.yield A.b) #[] #[]]:=by apply Array.ext';simp
          have hstep:=stepR_rangeFunc (P:=P) (b:=b) (a:=a) (k:=k) (cs:=cs) hent hres (by rw[hcat]at hrun;exact hrun);have s1n:Sim M μ1 { hl with nx:=h.nx+1+1 } w1:=s1.nx λ_=>rfl
          obtain⟨M2,μ2,w2,fr2,s2,U,st2,hfn2,x2,hx2,hl2⟩:=R.nrm hcall s1n hargs (b.atR { a with defers:=mk++a.defers } (.inRangeFunc A.b::k)::cs)
          obtain⟨r',Y,Z,rd,b1,b2,b3,b4,b5,b6,b7,b8,b9,b10⟩:=s2.blk _ _ hgl;rw[U.u _ _ hrl]at Y;cases Y;subst b4
          have hnb:(Z.state == LoopState.busy)=false:=by
           rw[b2]
           match st,hst,b3 with
           |0,_,_=>rfl
           |2,_,_=>rfl
           |3,_,_=>rfl
          have hnb2:¬ ((Z.state == LoopState.busy)=true):=by rw[hnb];exact Bool.false_ne_true
          have so:=BZ (P:=P) (o':=.loop { Z with state:=.exhausted }) b1 (by intro a t f hc;cases hc)
          have hend:(Instr.endLoop A.b).run P w2=.ok Z.pending { w2 with heap:=w2.heap.setIfInBounds A.b (.loop { Z with state:=.exhausted }) }:=by
           simp only[Instr.endLoop,Sem.run_bind,Cp b1,Result.andThen,if_neg hnb2,so,Sem.run_pure]
          obtain⟨s3,g3⟩:=s2.object (o':=.loop { Z with state:=.exhausted }) hgl (U.u _ _ hrl) trivial hset b1 (by intro a t f hc;cases hc)
           ⟨_,rd,rfl,rfl,by decide,rfl,b5,b6,b7,b8,b9,b10⟩
          have f3:FrRep M2 μ2 { fr with ds:=mark++fr.ds } b { a with defers:=mk++a.defers } cs:=by
           have f2:=f.mono (g1.m.trans U.m) (g1.u.trans U.u);refine⟨f2.t,?_,f2.u,f2.r⟩;have hdm2:=hdm.mono U.m U.u
           have app:∀ {x:List DF} {y:List Deferred},DefsRep M2 μ2 x y->DefsRep M2 μ2 (x++fr.ds) (y++a.defers):=by
            intro x
            induction x with
            |nil=>intro y hy;cases y with
             |nil=>exact f2.d
             |cons _ _=>exact hy.elim
            |cons d0 x ih=>intro y hy;cases y with
             |nil=>exact hy.elim
             |cons _ _=>exact⟨hy.1,ih hy.2⟩
           exact app hdm2
          have X:=(g1.trans U).trans g3
          have S:Steps P (lone (b.atR a (.code (.rangeFunc g ps asg body)::k)) cs w) (lone (b.atR { a with defers:=mk++a.defers } ((Z.pending.map Item.code).toList++k)) cs { w2 with heap:=w2.heap.setIfInBounds A.b (.loop { Z with state:=.exhausted }) }):=by
           refine .head hstep (st2.trans (.head ?_ (.one (stepR_endRangeFunc hend))));rw[<- finish_atR_inRangeFunc A.b x2];exact step_leave_returned hl2
          clear hend so g3;generalize ({ w2 with heap:=w2.heap.setIfInBounds A.b (.loop { Z with state:=.exhausted }) }:World)=w3 at s3 X S
          split at e<;>rename_i hpd<;>(try rw[hpd]at S)
          ·cases e;exact⟨M2,μ2,_,_,cs,s3,X,f3,.refl _,S⟩
          ·cases e;exact⟨M2,μ2,_,_,cs,s3,X,f3,.refl _,k,S⟩
          ·cases e;exact⟨M2,μ2,_,_,cs,s3,X,f3,.refl _,k,rfl,S⟩
          ·cases e;exact⟨M2,μ2,_,_,cs,s3,X,f3,.refl _,k,rfl,S⟩
          ·cases e
         ·cases e
        ·cases e
       ·cases e
      ·cases e
     ·cases e
    ·cases e
   ·cases e
end
end
section
variable[Gl]
section
variable{P:Program}{sh:FuncId->Bool}{rec:HM}{M:Ap}{μ:Mu}{h:Hp}{w:World}
theorem Qz(s:Sim M μ h w){t:T PV}{nt:Nat}{b:Array Value}(d:TmpsRep M μ t nt b){r:ResultVar}{p:PV}(e:Pu P h t r=some p) :
  ∃ x,(match r with
   |.tmp t=>pure (b.getD t undef)
   |.cell a t=>do loadVar t (<- asAddr (b.getD a undef)):Sem Value).run P w=.ok x w/\Rep M μ p x:=by
 unfold Pu at e;split at e
 ·rename_i k;cases e;exact⟨_,rfl,d.2.2 k⟩
 ·rename_i a ty;split at e
  ·rename_i j off l;split at e
   ·rename_i cs fz i;have c:=d.2.2 a;rw[l]at c;simp only[aC]at c;obtain⟨r,m,hc⟩:=JN s (off:=off) i;obtain⟨v,f,g⟩:=EI (P:=P) hc e;generalize n:b.getD a undef=x at c;cases c with
    |ptr _ _ _ r' hr'=>
     rw[m]at hr';cases hr';refine⟨v,?_,g⟩;simp only[n];simpa[asAddr]using f
   ·cases e
  ·cases e
theorem FN(s:Sim M μ h w){t:T PV}{nt:Nat}{b:Array Value}(f:TmpsRep M μ t nt b):∀ {l:List ResultVar} {c:List PV},Ip P h t l=some c ->
  ∃ xs:List Value,(l.mapM (fun | .tmp t=>pure (b.getD t undef) | .cell a t=>do loadVar t (<- asAddr (b.getD a undef)):ResultVar->Sem Value)).run P w=.ok xs w/\RepL M μ c xs
 |[],c,e=>by simp[Ip]at e;subst e;exact⟨[],by simp,RepL.nil _ _⟩
 |r::l,c,e=>by
  unfold Ip at e;split at e
  ·rename_i p n m d;cases e;obtain⟨x,g,i⟩:=Qz s f m;obtain⟨xs,j,k⟩:=FN s f d;refine⟨x::xs,?_,RepL.cons i k⟩;rw[List.mapM_cons];simp only[Sem.run_bind,g,Result.andThen,j,Sem.run_pure]
  ·cases e
theorem F8(s:Sim M μ h w){k:Func}{t:T PV}{nt:Nat}{d:Array Value}(u:TmpsRep M μ t nt d){v:PV}(e:results P k h t=some v):∃ x,(Go.results k d).run P w=.ok x w/\Rep M μ v x:=by
 unfold results at e
 have key:∀ {l:List PV},Ip P h t k.results.toList=some l -> ∃ xs:Array Value,(k.results.mapM (fun | .tmp t=>pure (d.getD t undef) | .cell a t=>do loadVar t (<- asAddr (d.getD a undef)):ResultVar->Sem Value)).run P w=.ok xs w/\RepL M μ l xs.toList:=by
  intro l f;obtain⟨xs,m,g⟩:=FN s u f;refine⟨xs.toArray,?_,by simpa using g⟩;rw[Array.mapM_eq_mapM_toList];simp only[Sem.run_map,m];rfl
 have j:(Go.results k d).run P w=((k.results.mapM (fun | .tmp t=>pure (d.getD t undef) | .cell a t=>do loadVar t (<- asAddr (d.getD a undef)):ResultVar->Sem Value)) >>= λvs=>(pure (if h:vs.size=1 then vs[0]else .tuple vs):Sem Value)).run P w:=rfl
 rw[j];split at e
 ·rename_i z f;cases e;obtain⟨xs,m,g⟩:=key f;obtain⟨x,y,r⟩:=Kl g rfl;have q:xs = #[x]:=by rw[<- Array.toArray_toList (xs:=xs),y]
  subst q;exact⟨x,by simp only[Sem.run_bind,m,Result.andThen,Sem.run_pure];rfl,r⟩
 ·rename_i l n f;cases e;obtain⟨xs,m,g⟩:=key f
  have o:xs.size≠1:=by
   intro h;have:l.length=1:=by rw[g.1];simpa using h
   match l,this with
   |[p],_=>exact n p rfl
  refine⟨.tuple xs,by simp only[Sem.run_bind,m,Result.andThen,Sem.run_pure,dif_neg o],.tup _ _ _ (by simpa using g.1) λi c v a b=>g.2 i c v a (by simpa using b)⟩
 ·cases e
theorem HK{u:UM}{m:FrameMode}(b:UMRep M μ u m):UMRep M μ (Ka u) (settle m):=by
 cases u with
 |ret=>have b:m=.returning:=b;subst b;rfl
 |pan j=>
  obtain⟨a,rfl,hc⟩:=b;cases j with
  |nil=>cases a with
   |nil=>exact⟨[],rfl,trivial⟩
   |cons _ _=>exact hc.elim
  |cons e d=>
   cases a with
   |nil=>exact hc.elim
   |cons p r=>
    obtain⟨i,f,g,h⟩:=hc;obtain⟨ev,o⟩:=e;obtain⟨pv,t,s⟩:=p;simp only at f g;subst f;subst g;cases o with
    |false=>exact⟨_,rfl,i,rfl,rfl,h⟩
    |true=>
     have drop:∀ {l:List PE} {m:List PanicEntry},ChRep M μ l m->m.dropWhile (!·.goexit)=[]:=by
      intro l
      induction l with
      |nil=>intro m c;cases m with
       |nil=>rfl
       |cons _ _=>exact c.elim
      |cons _ _ ih=>intro m c;cases m with
       |nil=>rfl
       |cons q w=>
        obtain⟨_,_,k,n⟩:=c;simp[k,ih n]
     have:=drop h;show settle (.panicking ({ v:=pv,recovered:=true }::r))=.returning;simp[settle,this]
theorem KC{u:UM}{m:FrameMode}(a:UMRep M μ u m):m ≠ .run:=by
 cases u with
 |ret=>have a:m=.returning:=a;subst a;intro h;cases h
 |pan c=>obtain⟨b,rfl,_⟩:=a;intro h;cases h
theorem Ol{x y:List DF}{X Y:List Deferred}(a:DefsRep M μ x X)(b:DefsRep M μ y Y):DefsRep M μ (x++y) (X++Y):=by
 induction x generalizing X with
 |nil=>cases X with
  |nil=>exact b
  |cons _ _=>exact a.elim
 |cons d x c=>cases X with
  |nil=>exact a.elim
  |cons _ _=>exact⟨a.1,c a.2⟩
theorem GV(R:RecOK P rec){fn:Func}{t:T PV}{nt:Nat}:∀ (n:Nat) {J:List DF} {u:UM} {h h':Hp} {o:Out},leave P rec fn n J u t h=some (o,h') ->
  ∀ {M:Ap} {μ:Mu} {w:World} {fr:Frame} (cs:List Frame),Sim M μ h w->UMRep M μ u fr.mode->DefsRep M μ J fr.defers->TmpsRep M μ t nt fr.tmps->P.funcs[fr.fn]?=some fn ->
  ∃ B μ' w' k,Sim B μ' h' w'/\Grow M μ w B μ' w'/\Steps P (lone fr cs w) (lone k cs w')/\k.fn=fr.fn/\k.kind=fr.kind/\QK P B μ' k w' o
 |0,_,_,_,_,_,e,_,_,_,_,_,_,_,_,_,_=>by simp[leave]at e
 |n+1,J,u,h,h',o,e,M,μ,w,fr,cs,s,hu,hd,ht,hfn=>by
  unfold leave at e;split at e
  ·have L:fr.defers=[]:=by
    cases i:fr.defers with
    |nil=>rfl
    |cons _ _=>rw[i]at hd;exact hd.elim
   split at e
   ·split at e
    ·rename_i v hv;cases e;obtain⟨x,K,h2⟩:=F8 s ht hv;exact⟨M,μ,w,fr,s,.refl _ _ _,.refl _ _,rfl,rfl,x,h2,hu,L,fn,hfn,K⟩
    ·cases e
   ·rename_i ch;cases e;obtain⟨F,K,h2⟩:=hu;exact⟨M,μ,w,fr,s,.refl _ _ _,.refl _ _,rfl,rfl,F,h2,K,L,fn,hfn⟩
  ·rename_i id J;cases i:fr.defers with
   |nil=>rw[i]at hd;exact hd.elim
   |cons D E=>
    rw[i]at hd;obtain⟨⟨r,hr,j,d⟩,z⟩:=hd;obtain⟨Dt,Da⟩:=D;simp only at j d;subst j;subst d;split at e
    ·rename_i l hb;split at e
     ·rename_i K S;obtain⟨r',N,dd,b1,b2⟩:=s.blk id _ hb;rw[hr]at N;cases N;cases dd with
      |none=>exact b2.elim
      |some q=>
       have so:=BZ (P:=P) (o':=.deferred none) b1 (by intro a t f hc;cases hc);obtain⟨s1,y⟩:=s.object (o':=.deferred none) hb hr trivial S b1 (by intro a t f hc;cases hc) ⟨none,rfl,trivial⟩
       have p:(Instr.takeDeferred r.b).run P w=.ok q { w with heap:=w.heap.setIfInBounds r.b (.deferred none) }:=by
        have hg:(getObj r.b).run P w=.ok (.deferred (some q)) w:=by simp[getObj,Sem.run,b1]
        simp only[Instr.takeDeferred,Sem.run_bind,hg,Result.andThen,so,Sem.run_pure]
       have st:=Kd (P:=P) (cs:=cs) (KC hu) i p;obtain⟨B,μ',w',k,U,W,X,Y,Z,q6⟩:=GV R n e (fr:={ fr with defers:=q++E }) cs s1 hu (Ol b2 z) ht hfn
       exact⟨B,μ',w',k,U,y.trans W,.head st X,Y,Z,q6⟩
     ·cases e
    ·cases e
  ·rename_i b ats ty args J;cases i:fr.defers with
   |nil=>rw[i]at hd;exact hd.elim
   |cons D E=>
    rw[i]at hd;obtain⟨⟨C,va,j,d,I⟩,z⟩:=hd;obtain⟨Dt,Da⟩:=D;simp only at j d;subst j;subst d;split at e
    ·split at e
     ·rename_i v K hbt;obtain⟨M1,μ1,w1,x,p,s1,y,hx⟩:=H3 (ty:=ty) (cs:=C) s I hbt;have st:=Gn (P:=P) (cs:=cs) (KC hu) i p;obtain⟨B,μ',w',k,U,W,X,Y,Z,q6⟩:=GV R n e (fr:={ fr with defers:=E }) cs s1 (hu.mono y.m y.u) (z.mono y.m y.u) (ht.mono y.m y.u) hfn
      exact⟨B,μ',w',k,U,y.trans W,.head st X,Y,Z,q6⟩
     ·cases e
    ·cases e
  ·rename_i f args J;cases i:fr.defers with
   |nil=>rw[i]at hd;exact hd.elim
   |cons D E=>
    rw[i]at hd;obtain⟨⟨fv,first,cap,vf,vc,va,hfe,hny,j,d,I,hrb,hrc⟩,z⟩:=hd
    obtain⟨Dt,Da⟩:=D;simp only at j d;subst j;subst d;subst hfe;cases fv with
    |func g=>
     simp only at e;cases A:CA P (.func g) first cap args with
     |none=>rw[A]at e;cases e
     |some rr=>
      rw[A]at e;obtain⟨O,g',args',rfl⟩:=FD (P:=P) (w:=w) I hrb hrc A;obtain⟨vs,p,hvs,_⟩:=O;simp only at e;split at e
      ·rename_i rv u1 K G;obtain⟨M1,μ1,w1,frX,m1,u1',s1,y,st1,hup,hum,hkX,x,hx,hgo⟩:=R.dfr G s hvs { fr with defers:=E } cs hu
       cases hup;have st:=step_defer (P:=P) (cs:=cs) (KC hu) i rfl p;have st2:=step_going_returned (c:={ { fr with defers:=E }with mode:=m1 }) (cs:=cs) hkX hgo
       obtain⟨B,μ',w',k,U,W,X,Y,Z,q6⟩:=GV R n e (fr:={ { { fr with defers:=E }with mode:=m1 }with mode:=settle m1 }) cs s1 (HK hum) (z.mono y.m y.u) (ht.mono y.m y.u) hfn
       exact⟨B,μ',w',k,U,y.trans W,.head st (st1.trans (.head st2 X)),Y,Z,q6⟩
      ·cases e
    |_=>cases e
theorem He:∀ (l:List PV) (i:Nat) (t:T PV) (k:Nat),i + l.length <= 1048575 -> (Bl i l t).get k=if i <= k /\ k < i + l.length then l[k - i]? else t.get k
  |[],i,t,k,_=>by simp[Bl];intro a b;omega
  |a :: l,i,t,k,hle=>by
    simp only[aV]at hle;unfold Bl
    rw [He l (i + 1) _ k (by omega), T.get_put 20 t i a k (by have : (2 : Nat) ^ 20 - 1 = 1048575 := by decide
                                                              omega)]
    by_cases hk:k=i
    · subst hk;rw[if_neg (by omega),if_pos rfl,if_pos (by simp)];simp
    · by_cases h1:i + 1 <= k /\ k < i + 1 + l.length
      · rw[if_pos h1,if_pos (by simp;omega),show k - i=(k - (i + 1)) + 1 by omega];simp
      · rw[if_neg h1,if_neg hk,if_neg (by simp;omega)]
theorem MD{args:List PV}{vs:List Value}(a:RepL M μ args vs){n:Nat}(f:args.length<=n)(c:n<1048575):TmpsRep M μ (Bl 0 args .lf) n (vs.toArray++bB (n-vs.toArray.size) undef):=by
 have g:=a.1;refine⟨c,by simp;omega,λk=> ?_⟩;rw[He args 0 .lf k (by omega)];by_cases b:k<args.length
 ·rw[if_pos (by omega)];obtain⟨v,e,d⟩:=a.get (i:=k) (ad b)
  have:(vs.toArray++bB (n-vs.toArray.size) undef).getD k undef=v:=by
   rw[aE,Array.getElem?_append_left (by simp;omega)];simp[e]
  rw[this];simpa[ad b]using d
 ·rw[if_neg (by omega)]
  have:(vs.toArray++bB (n-vs.toArray.size) undef).getD k undef=undef:=by
   rw[aE,Array.getElem?_append_right (by simp;omega),Array.getElem?_replicate];split<;>rfl
  rw[this];exact FM M μ
theorem CX{nt:Nat}:∀ {f:List Nat} {args:List PV} {vs:List Value} {t d:T PV} {b:Array Value},Bx nt f args t=some d->RepL M μ args vs->TmpsRep M μ t nt b ->
  f.length=vs.length/\TmpsRep M μ d nt ((f.zip vs).foldl (λb (x:Nat×Value)=>b.setIfInBounds x.1 x.2) b)
 |[],[],vs,t,d,b,e,hr,ht=>by
  simp[Bx]at e;subst e;rw[hr.nil_inv];exact⟨rfl,ht⟩
 |[],_::_,vs,t,d,b,e,hr,ht=>by simp[Bx]at e
 |_::_,[],vs,t,d,b,e,hr,ht=>by simp[Bx]at e
 |p::f,a::args,vs,t,d,b,e,hr,ht=>by
  unfold Bx at e;replace e:=Ac e;obtain⟨i,e⟩:=e;obtain⟨x,k,rfl,j,c⟩:=hr.cons_inv;obtain⟨g,h⟩:=CX e c (Lu ht (by simpa using i) j);exact⟨by simp[g],by simpa using h⟩
end
end
section
variable[Gl]
section
variable{P:Program}{sh:FuncId->Bool}{M:Ap}{μ:Mu}{h:Hp}{w:World}
theorem PW(P:Program):RecOK P (λ_ _ _ _=>none):=by constructor<;>(intros;contradiction)
theorem Ez{c:CallKind}{cs a:List Frame}(d:c=.normal)(h:Tail c cs a):a=cs:=by
 rcases h with h|⟨b,_⟩
 ·exact h
 ·rw[d]at b;cases b
theorem My{rec:HM}(R:RecOK P rec)(D:E1 P rec){F:Nat}{f:FuncId}{fn:Func}{c:Code}{up:Option UM}{args:List PV}{h h':Hp}{o:Out}{y:Option UM}(G:P.funcs[f]?=some fn)(B:fn.body=some c)
  (e:(match (bif af args.length fn.ntmps&&ah fn.ntmps 1048575 then exec P sh rec F c { t:=Bl 0 args .lf,nt:=fn.ntmps,ds:=[],up,ro:=none } h else none)with
   |some (.normal,fr,h)|some (.ret,fr,h)=>(match leave P rec fn F fr.ds .ret fr.t h with
    |some (o,h)=>some (o,fr.up,h)
    |none=>none)
   |some (.panic e,fr,h)=>(match leave P rec fn F fr.ds (.pan [{ v:=e,recovered:=false }]) fr.t h with
    |some (o,h)=>some (o,fr.up,h)
    |none=>none)
   |_=>none)=some (o,y,h')) {M:Ap} {μ:Mu} {w:World} {vs:List Value} (s:Sim M μ h w) (Y:RepL M μ args vs) (l:CallKind) (cs:List Frame) (L:Mv M μ l cs up) :
  ∃ n μ' w' fr cs',Sim n μ' h' w'/\Grow M μ w n μ' w'/\Steps P (lone (Frame.enter P f vs.toArray l) cs w) (lone fr cs' w')/\Tail l cs cs'/\Mv n μ' l cs' y/\fr.fn=f/\fr.kind=l/\QK P n μ' fr w' o:=by
 let b:Frame:={ fn:=f,tmps:=#[],todo:=[],defers:=[],mode:=.run,kind:=l }
 have q:Frame.enter P f vs.toArray l=b.atR { tmps:=vs.toArray++bB (fn.ntmps-vs.toArray.size) undef,defers:=[] } [.code c]:=by
  simp[Frame.enter,Frame.atR,G,B,b]
 have GR:∀ {c:Code} {fr p:Fr} {h h':Hp} {ex:Ex},exec P sh rec F c fr h=some (ex,p,h') ->
   ∀ {M:Ap} {μ:Mu} {w:World} {b:Frame} {a:Act} {cs:List Frame} (k:List Item),Sim M μ h w->FrRep M μ fr b a cs->Ran P M μ w (lone (b.atR a (.code c::k)) cs w) b k cs ex p h':=(Jr R D F).1
 have A:∀ {ex:Ex} {fr:Fr} {C:Hp},exec P sh rec F c { t:=Bl 0 args .lf,nt:=fn.ntmps,ds:=[],up,ro:=none } h=some (ex,fr,C)->args.length<=fn.ntmps->fn.ntmps<1048575 ->
   ∀ {u:UM},((ex=.normal\/ex=.ret)/\u=.ret \/ ∃ v,ex=.panic v/\u=.pan [{ v,recovered:=false }])->(match leave P rec fn F fr.ds u fr.t C with
    |some (o,h)=>some (o,fr.up,h)
    |none=>none)=some (o,y,h') ->
   ∃ n μ' w' fr cs',Sim n μ' h' w'/\Grow M μ w n μ' w'/\Steps P (lone (Frame.enter P f vs.toArray l) cs w) (lone fr cs' w')/\Tail l cs cs'/\Mv n μ' l cs' y/\fr.fn=f/\fr.kind=l/\QK P n μ' fr w' o:=by
  intro ex fr C j J K u Z e
  have W:FrRep M μ { t:=Bl 0 args .lf,nt:=fn.ntmps,ds:=[],up,ro:=none } b { tmps:=vs.toArray++bB (fn.ntmps-vs.toArray.size) undef,defers:=[] } cs:=
   ⟨MD Y J K,trivial,L,rfl⟩
  obtain⟨U,μ1,w1,E,z,s1,X,I,t1,arr⟩:=GR j (b:=b) [] s W;rw[<- q]at arr;split at e
  ·rename_i o1 h2 r;cases e
   have N:∃ i:Frame,Steps P (lone (Frame.enter P f vs.toArray l) cs w) (lone i z w1)/\i.fn=f/\i.kind=l/\i.defers=E.defers/\i.tmps=E.tmps/\UMRep U μ1 u i.mode:=by
    rcases Z with⟨rfl|rfl,rfl⟩|⟨v,rfl,rfl⟩
    ·exact⟨{ b.atR E []with mode:=.returning },Steps.trans arr (.one (stepR_end rfl)),rfl,rfl,rfl,rfl,rfl⟩
    ·obtain⟨k1,arr⟩:=arr;exact⟨{ b.atR E (.code .ret::k1)with mode:=.returning },Steps.trans arr (.one (stepR_ret rfl)),rfl,rfl,rfl,rfl,rfl⟩
    ·obtain⟨todo,x,hx,arr⟩:=arr;exact⟨{ b.atR E todo with mode:=.panicking [{ v:=x,recovered:=false }] },arr,rfl,rfl,rfl,rfl,_,rfl,hx,rfl,rfl,trivial⟩
   obtain⟨i,st,S,m2,m3,m4,m5⟩:=N;obtain⟨n,μ',w',p,q1,O,q3,q4,q5,q6⟩:=GV R F r (fr:=i) z s1 m5 (by rw[m3];exact I.d) (by rw[m4];exact I.t) (by rw[S];exact G);refine⟨n,μ',w',p,z,q1,X.trans O,st.trans q3,t1,?_,by rw[q4,S],by rw[q5,m2],q6⟩;exact(I.mono O.m O.u).u
  ·cases e
 cases g:(af args.length fn.ntmps&&ah fn.ntmps 1048575)with
 |false=>rw[g]at e;cases e
 |true=>
  rw[g]at e;simp only[cond_true]at e;simp only[ai,Nat.ble_eq,bW]at g;split at e
  ·rename_i fr C j;exact A j g.1 g.2 (.inl ⟨.inl rfl,rfl⟩) e
  ·rename_i fr C j;exact A j g.1 g.2 (.inl ⟨.inr rfl,rfl⟩) e
  ·rename_i v fr C j;exact A j g.1 g.2 (.inr ⟨v,rfl,rfl⟩) e
  ·cases e
theorem Ey(s:Sim M μ h w){l:Nat}{r:Bk}{c:Option Code}{o:Out}{m:Option UM}{h':Hp}(q:μ l=some r)(e:A7 h l c=some (o,m,h')) :
  ∃ w',(Instr.endRound r.b c).run P w=.ok (.bool c.isNone) w'/\o=.ret (.bool c.isNone)/\Sim M μ h' w'/\Grow M μ w M μ w':=by
 unfold A7 at e;split at e
 ·rename_i O x nt t L y n d p;split at e
  ·rename_i K i;cases e;obtain⟨N,g,u,rd,j,G,I,J,z,A,B,C,D,k⟩:=s.blk l _ p;rw[q]at g;cases g;have F:=BZ (P:=P) (o':=.loop { u with state:=if c.isNone then .ready else .done,pending:=c }) j (by intro a t f hc;cases hc)
   obtain⟨s1,E⟩:=s.object (o':=.loop { u with state:=if c.isNone then .ready else .done,pending:=c }) p q trivial i j (by intro a t f hc;cases hc)
    ⟨_,rd,rfl,by cases c<;>rfl,(by cases c;exact(by decide:0<4);exact(by decide:2<4)),rfl,z,A,B,C,D,k⟩
   refine⟨_,?_,rfl,s1,E⟩;simp only[Instr.endRound,Sem.run_bind,Cp j,Result.andThen,F,Sem.run_pure]
  ·cases e
 ·cases e
theorem RS(PO:Jd P)(hD:∀ rec,RecOK P rec->E1 P rec)(F:Nat){rec:HM}(R:RecOK P rec):RecOK P (QR P sh F rec):=by
 have D:E1 P rec:=hD _ R
 have GR:∀ {c:Code} {fr X:Fr} {h h':Hp} {ex:Ex},exec P sh rec F c fr h=some (ex,X,h') ->
  ∀ {M:Ap} {μ:Mu} {w:World} {b:Frame} {a:Act} {cs:List Frame} (k:List Item),Sim M μ h w->FrRep M μ fr b a cs->Ran P M μ w (lone (b.atR a (.code c::k)) cs w) b k cs ex X h':=(Jr R D F).1
 refine⟨?_,?_,?_⟩
 ·intro f args h o G h' e M μ w vs s O cs;simp only[QR]at e;split at e
  ·rename_i p hp;obtain⟨⟨v,N⟩,hd,e⟩:=AA e;cases e;obtain⟨A,μ',w',fr,x,S,U,W,q4,q5,q6⟩:=PO f p hp args h v N hd M μ w vs s O cs;exact⟨A,μ',w',fr,S,U,W,q4,x,q5,q6⟩
  ·split at e
   ·rename_i fn J;split at e
    ·rename_i c hc;obtain⟨A,μ',w',fr,cs',S,U,W,q4,q5,q6,q7,q8⟩:=My R D J hc e s O .normal cs rfl;have:=Ez rfl q4;subst this;refine⟨A,μ',w',fr,S,U,W,q6,?_⟩;cases o with
     |ret v=>obtain⟨x,hx,N,Y,E⟩:=q8;exact⟨x,hx,N,Y,q7,E⟩
     |pan ch=>exact q8
    ·cases e
   ·cases e
 ·intro f u args h o G h' e M μ w vs s O c cs hu;simp only[QR]at e;split at e
  ·cases e
  split at e
  ·rename_i fn J;split at e
   ·rename_i c' hc;obtain⟨A,μ',w',fr,cs',S,U,W,q4,q5,q6,q7,q8⟩:=My R D J hc e s O .deferred (c::cs) ⟨rfl,c,cs,rfl,hu⟩;cases G with
    |none=>cases q5
    |some u'=>
     obtain⟨_,c1,tl,rfl,hm⟩:=q5;rcases q4 with h0|⟨_,c2,tl2,m,N,Y⟩
     ·cases h0;refine⟨A,μ',w',fr,c.mode,u',S,U,W,rfl,hm,q7,q8⟩
     ·cases N;cases Y;exact⟨A,μ',w',fr,m,u',S,U,W,rfl,hm,q7,q8⟩
   ·cases e
  ·cases e
 ·intro l args h o G h' e M μ w vs r s O hr c cs;simp only[QR]at e;split at e
  ·rename_i st pend nt t ps B n d hb;split at e
   ·rename_i t1 hset;split at e
    ·rename_i fr1 N Z;split at e
     ·rename_i pend2 nt2 t2 ps2 asg2 body2 d2 hb2;split at e
      ·rename_i Y K;obtain⟨r',hr',j,rd,b1,b2,b3,b4,b5,b6,b7,b8,b9,b10⟩:=s.blk l _ hb;rw[hr]at hr';cases hr';obtain⟨hlen,htm⟩:=CX hset O b5
       have hy:(Instr.yield r.b vs.toArray).run P w=.ok (.round r.b j.fn ((j.params.zip vs.toArray).foldl (λtmps (t,a)=>tmps.setIfInBounds t a) j.tmps) j.assign j.body) w:=by
        have:¬ (vs.toArray.size≠j.params.size):=by rw[b6];simp[hlen]
        simp only[Instr.yield,Sem.run_bind,Cp b1,Result.andThen,if_neg this,Sem.run_pure]
       let b:Frame:={ fn:=j.fn,tmps:=#[],todo:=[],defers:=[],mode:=.run,kind:=.normal,roundOf:=some r.b }
       have I:TmpsRep M μ t1 nt ((j.params.zip vs.toArray).foldl (λtmps (t,a)=>tmps.setIfInBounds t a) j.tmps):=by
        rw[b6];simpa using htm
       have hb0:∀ L,Frame.round r.b j.fn L j.assign j.body .normal=b.atR { tmps:=L,defers:=[] } [.code B,.beginRound,.code n]:=by
        intro L;simp[Frame.round,Frame.atR,b,b7,b8]
       generalize (j.params.zip vs.toArray).foldl (λtmps (t,a)=>tmps.setIfInBounds t a) j.tmps=L at hy I;have f0:FrRep M μ { t:=t1,nt,ds:=[],up:=none,ro:=some l } b { tmps:=L,defers:=[] } (c::cs):=⟨I,trivial,rfl,r,hr,rfl⟩;obtain⟨M1,μ1,w1,a1,cs1,s1,g1,f1,t1',arr⟩:=GR Z (b:=b) [.beginRound,.code n] s f0;have:=Ez rfl t1';subst this;rw[<- hb0]at arr;obtain⟨r2,hr2,l2,rd2,c1,c2,c3,c4,c5,c6,c7,c8,c9,c10⟩:=s1.blk l _ hb2;rw[g1.u _ _ hr]at hr2;cases hr2;have so:=BZ (P:=P) (o':=.loop { l2 with state:=.busy }) c1 (by intro a t f hc;cases hc)
       obtain⟨s2,g2⟩:=s1.object (o':=.loop { l2 with state:=.busy }) hb2 (g1.u _ _ hr) trivial K c1 (by intro a t f hc;cases hc)
        ⟨_,rd2,rfl,rfl,by decide,c4,c5,c6,c7,c8,c9,c10⟩
       have hbr:(Instr.beginRound r.b).run P w1=.ok () { w1 with heap:=w1.heap.setIfInBounds r.b (.loop { l2 with state:=.busy }) }:=by
        have:l2.state=.ready:=c2;simp only[Instr.beginRound,Sem.run_bind,Cp c1,Result.andThen,so,this,Sem.run_pure]
       have st1:Steps P (lone (Frame.round r.b j.fn L j.assign j.body .normal) (c::cs) w) (lone (b.atR a1 [.code n]) (c::cs) _):=Steps.trans arr (.one (stepR_beginRound rfl hbr));have f1':=f1.mono g2.m g2.u
       have C:∀ {ex:Ex} {z:Fr} {E:Hp} {i:Option Code},exec P sh rec F n fr1 Y=some (ex,z,E) ->
         (ex=.normal/\i=none\/ex=.ret/\i=some .ret\/(∃ id,ex=.exit id/\i=some (.exit id)) \/ ∃ id,ex=.goto id/\i=some (.goto id))->A7 E l i=some (o,G,h') ->
         ∃ A μ' w' x v fn tmps B body,o=.ret v/\(Instr.yield r.b vs.toArray).run P w=.ok (.round r.b fn tmps B body) w/\Sim A μ' h' w'/\Grow M μ w A μ' w'/\Rep A μ' v x /\
          Steps P (lone (Frame.round r.b fn tmps B body .normal) (c::cs) w) (lone (c.finish x) cs w'):=by
        intro ex z E i q hj he;obtain⟨M3,μ3,w3,a3,cs3,s3,g3,f3,t3,g⟩:=GR q (b:=b) [] s2 f1';have:=Ez rfl t3;subst this;obtain⟨w4,y,ho,s4,g4⟩:=Ey (P:=P) s3 (g3.u _ _ (g1.u _ _ hr)) he;refine⟨M3,μ3,w4,.bool i.isNone,.bool i.isNone,j.fn,L,j.assign,j.body,ho,hy,s4,(g1.trans g2).trans (g3.trans g4),.bool _ _,st1.trans ?_⟩;rcases hj with⟨rfl,rfl⟩|⟨rfl,rfl⟩|⟨id,rfl,rfl⟩|⟨id,rfl,rfl⟩
        ·exact Steps.trans g (.one (stepR_round_end rfl rfl y))
        ·obtain⟨k1,g⟩:=g;exact Steps.trans g (.one (stepR_round_ret rfl rfl y))
        ·obtain⟨k1,hk,g⟩:=g;exact Steps.trans g (.one (stepR_round_exit rfl rfl (by rw[hk];rfl) y))
        ·obtain⟨k1,hk,g⟩:=g;exact Steps.trans g (.one (stepR_round_goto rfl rfl (by rw[hk];rfl) y))
       split at e
       ·rename_i z E q;exact C q (.inl ⟨rfl,rfl⟩) e
       ·rename_i z E q;exact C q (.inr (.inl ⟨rfl,rfl⟩)) e
       ·rename_i id z E q;exact C q (.inr (.inr (.inl ⟨id,rfl,rfl⟩))) e
       ·rename_i id z E q;exact C q (.inr (.inr (.inr ⟨id,rfl,rfl⟩))) e
       ·cases e
      ·cases e
     ·cases e
    ·cases e
   ·cases e
  ·cases e
theorem On(a:Jd P)(b:∀ rec,RecOK P rec->E1 P rec)(F:Nat):∀ n,RecOK P (B3 P sh F n)
 |0=>PW P
 |n+1=>RS a b F (On a b F n)
end
end
section
variable[Gl]
section
variable{P:Program}{hs h h1 h2:Hp}{id:Nat}
def Eb(hs h:Hp):Prop:=∀ x b,hs.get x=some b->h.get x=some b
structure Lay (hs h h1 h2:Hp) (id:Nat):Prop where
 get:∀ x,h2.get x=match h1.get x with
  |some b=>some b
  |none=>h.get x
 keys:∀ x b,h1.get x=some b->(∃ b0,hs.get x=some b0)\/x=id
 up:∀ x,h1.get x=none->hs.get x=none
theorem Lay.refl(s:Eb hs h)(id:Nat):Lay hs h hs h id:=⟨λx=>by
 cases e:hs.get x with
 |none=>rfl
 |some b=>exact s x b e,λx b e=>.inl ⟨b,e⟩,λ_ h=>h⟩
theorem Lay.sub(l:Lay hs h h1 h2 id):Eb h1 h2:=λx b e=>by rw[l.get,e]
theorem Hp.set_some{h:Hp}{j:Nat}{b b':Blk}{h':Hp}(e:h.set j b=some h')(g:Hp):∃ a,g.set j b'=some a:=by
 unfold Hp.set at e ⊢;cases c:ah j (j+1)with
 |false=>rw[c]at e;cases e
 |true=>exact⟨_,rfl⟩
theorem Lay.set(l:Lay hs h h1 h2 id){j:Nat}{b b0:Blk}{g:Hp}(m:h1.get j=some b0)(e:h1.set j b=some g):∃ f,h2.set j b=some f/\Lay hs h g f id:=by
 obtain⟨f,e2⟩:=Hp.set_some (b':=b) e h2;have i:=(Hp.get_set e).1;have k:=(Hp.get_set e2).1
 refine⟨f,e2,⟨λx=> ?_,λx c a=> ?_,λx a=>l.up x (by
  rw[i]at a;by_cases d:x=j
  ·rw[if_pos d]at a;cases a
  ·rw[if_neg d]at a;exact a)⟩⟩
 ·rw[i,k];by_cases a:x=j
  ·simp[a]
  ·simp only[if_neg a];exact l.get x
 ·rw[i]at a;by_cases d:x=j
  ·subst d;exact l.keys x b0 m
  ·rw[if_neg d]at a;exact l.keys x c a
theorem Lay.new(l:Lay hs h h1 h2 id)(k:hs.get id=none->h.get id=none){b:Blk}{g:Hp}(e:h1.new id b=some g):∃ f,h2.new id b=some f/\Lay hs h g f id:=by
 obtain⟨n,j,_⟩:=Hp.get_new e;have p:h2.get id=none:=by rw[l.get,n];exact k (l.up id n)
 unfold Hp.new at e;have o:h1.m.get id=none:=n;rw[o]at e;obtain⟨f,e2⟩:=Hp.set_some (b':=b) e h2;have q:=(Hp.get_set e2).1
 refine⟨f,?_,⟨λx=> ?_,λx c a=> ?_,λx a=>l.up x (by
  rw[j]at a;by_cases d:x=id
  ·rw[if_pos d]at a;cases a
  ·rw[if_neg d]at a;exact a)⟩⟩
 ·unfold Hp.new;have i:h2.m.get id=none:=p;rw[i];exact e2
 ·rw[j,q];by_cases a:x=id
  ·simp[a]
  ·simp only[if_neg a];exact l.get x
 ·rw[j]at a;by_cases d:x=id
  ·exact .inr d
  ·rw[if_neg d]at a;exact l.keys x c a
theorem Bs{f g:PV->Option (PV×List Nat)}(c:∀ p r,f p=some r->g p=some r):∀ {d:List PV} {r:List PV×List Nat},AB f d=some r->AB g d=some r
 |[],r,e=>e
 |p::d,r,e=>by
  unfold AB at e ⊢;split at e
  ·rename_i q a j b h i;rw[c _ _ h,Bs c i];exact e
  ·cases e
theorem KU(s:Eb hs h):∀ (n:Nat) (p:PV) (r:PV×List Nat),AX hs n p=some r->AX h n p=some r
 |0,p,r,e=>by simp[AX]at e
 |n+1,p,r,e=>by
  have d:=KU s n;cases p with
  |agg cs=>simp only[AX]at e ⊢;obtain⟨x,c,rfl⟩:=AA e;rw[Bs d c];rfl
  |tup cs=>simp only[AX]at e ⊢;obtain⟨x,c,rfl⟩:=AA e;rw[Bs d c];rfl
  |ifc t x=>simp only[AX]at e ⊢;obtain⟨y,u,rfl⟩:=AA e;rw[d _ _ u];rfl
  |fn f a b=>
   simp only[AX]at e ⊢;split at e
   ·rename_i x l y m o q;rw[Bs d o,Bs d q];exact e
   ·cases e
  |own j off len=>
   simp only[AX]at e ⊢;split at e
   ·rename_i es ex fz g;rw[s j _ g];replace e:=Ac e;obtain⟨hc,e⟩:=e;obtain⟨x,c,rfl⟩:=AA e;simp only[hc,cond_true];rw[Bs d c];rfl
   ·cases e
  |ptr j off=>
   simp only[AX]at e ⊢;split at e
   ·rename_i cs fz g;rw[s j _ g];replace e:=Ac e;obtain⟨hc,e⟩:=e;obtain⟨x,c,rfl⟩:=AA e;simp only[hc,cond_true];rw[Bs d c];rfl
   ·cases e
  |ept j i off=>
   simp only[AX]at e ⊢;split at e
   ·rename_i es ex fz g;rw[s j _ g];dsimp only;split at e
    ·rename_i w k
     try rw[k]
     replace e:=Ac e;obtain⟨hc,e⟩:=e;obtain⟨x,c,rfl⟩:=AA e;simp only[hc,cond_true];rw[Bs d c];rfl
    ·cases e
   ·cases e
  |yl _=>simp[AX]at e
  |mp _=>simp[AX]at e
  |_=>exact e
theorem IV(s:Eb hs h):∀ {c:List PV} {r:List PV×List Nat},Ao hs c=some r->Ao h c=some r
 |[],r,e=>e
 |p::c,r,e=>by
  unfold Ao at e ⊢;split at e
  ·rename_i q a g b d f;rw[KU s _ _ _ d,IV s f];exact e
  ·cases e
theorem I7(s:Eb hs h){p:PV}{es:List PV}(e:BW hs p=some es):BW h p=some es:=by
 unfold BW at e ⊢;cases p with
 |own j off len=>
  simp only at e ⊢;split at e
  ·rename_i a ex fz b;rw[s j _ b];exact e
  ·cases e
 |_=>exact e
theorem Lay.freeze:∀ (L:List Nat) {g c b:Hp},Lay hs h g c id->Pi.freeze g L=some b -> ∃ d,Pi.freeze c L=some d/\Lay hs h b d id
 |[],g,c,b,l,e=>by simp[Pi.freeze]at e;subst e;exact⟨c,rfl,l⟩
 |j::L,g,c,b,l,e=>by
  unfold Pi.freeze at e ⊢;split at e
  ·rename_i cs fz f;rw[l.sub j _ f];split at e
   ·rename_i m a;obtain⟨n,i,k⟩:=l.set f a;dsimp only;rw[i];exact Lay.freeze L k e
   ·cases e
  ·rename_i es ex fz f;rw[l.sub j _ f];split at e
   ·rename_i m a;obtain⟨n,i,k⟩:=l.set f a;dsimp only;rw[i];exact Lay.freeze L k e
   ·cases e
  ·cases e
def CI(hs h:Hp)(id:Nat)(F:Option R):R->Prop
 |.val v b=>∃ a,F=some (.val v a)/\Lay hs h b a id
 |.skip b=>∃ a,F=some (.skip a)/\Lay hs h b a id
 |.call f args=>F=some (.call f args)
 |_=>True
theorem AL(s:Eb hs h){F:Option R}{v:PV}(e:F=some (.val v h)):CI hs h id F (.val v hs):=⟨h,e,.refl s id⟩
theorem C2(s:Eb hs h){o:Option PV}{r:R}(e:vl o hs=some r):CI hs h id (vl o h) r:=by
 obtain⟨v,rfl,rfl⟩:=De e;exact AL s rfl
theorem Ph(s:Eb hs h){c a b:PV}{r:R}(e:Dg hs c a b=some r):CI hs h id (Dg h c a b) r:=by
 unfold Dg at e ⊢;split at e<;>cases e<;>exact AL s rfl
theorem Ng(s:Eb hs h)(a:hs.get id=none->h.get id=none){b:TypeId}{r:R}(e:Ci P hs id b=some r):CI hs h id (Ci P h id b) r:=by
 unfold Ci at e ⊢;split at e
 ·obtain⟨g,d,rfl⟩:=AA e;obtain⟨c,e2,f⟩:=(Lay.refl s id).new a d;exact⟨c,by rw[e2];rfl,f⟩
 ·cases e
theorem QP(s:Eb hs h)(a:hs.get id=none->h.get id=none){v:PV}{r:R}(e:FU hs id v=some r):CI hs h id (FU h id v) r:=by
 unfold FU at e ⊢;split at e
 ·cases e
 ·obtain⟨f,c,rfl⟩:=AA e;obtain⟨b,e2,d⟩:=(Lay.refl s id).new a c;exact⟨b,by rw[e2];rfl,d⟩
theorem Nm(s:Eb hs h){ty:TypeId}{b:List (Nat×PV)}{r:R}(e:Bv P hs ty b=some r):CI hs h id (Bv P h ty b) r:=by
 unfold Bv at e ⊢;split at e
 ·replace e:=Ac e;obtain⟨hc,e⟩:=e;split at e
  ·rename_i pl c;obtain⟨cs,a,rfl⟩:=AA e;refine AL s ?_;simp only[hc,cond_true,a,ap]
  ·cases e
 ·split at e
  ·rename_i n d;replace e:=Ac e;obtain⟨hc,e⟩:=e;obtain⟨cs,a,rfl⟩:=AA e;refine AL s ?_;simp only[hc,cond_true,a,ap]
  ·cases e
 ·cases e
theorem H0(s:Eb hs h){ty:TypeId}{len:Nat}{c:List (Nat×PV)}{r:R}(e:Ag P hs ty len c=some r):CI hs h id (Ag P h ty len c) r:=by
 unfold Ag at e ⊢;split at e
 ·split at e
  ·rename_i n o z i a k
   try rw[i,a,k]
   try dsimp only
   split at e
   ·rename_i t b
    try rw[b]
    replace e:=Bo e;obtain⟨hc,e⟩:=e;split at e
    ·rename_i es f;split at e
     ·rename_i q l j;obtain⟨p,g,rfl⟩:=AA e;obtain⟨d,e2,m⟩:=Lay.freeze l (Lay.refl s id) g;refine⟨d,?_,m⟩;simp only[hc,cond_false,IV s j,e2,ap]
     ·cases e
    ·cases e
   ·cases e
  ·cases e
 ·cases e
theorem PM(s:Eb hs h){ty:TypeId}{p:PV}{r:R}(e:CB P hs ty p=some r):CI hs h id (CB P h ty p) r:=by
 unfold CB at e ⊢;split at e
 ·split at e
  ·rename_i cs fz a;rw[s _ _ a];exact C2 s e
  ·cases e
 ·exact C2 s e
 ·split at e
  ·rename_i es ex fz a;rw[s _ _ a];dsimp only;split at e
   ·rename_i c b;try rw[b]
    exact C2 s e
   ·cases e
  ·cases e
 ·cases e
theorem OW(s:Eb hs h){ty:TypeId}{p v:PV}{r:R}(e:BE P hs ty p v=some r):CI hs h id (BE P h ty p v) r:=by
 unfold BE at e ⊢;split at e
 ·rename_i n o;replace e:=Bo e;obtain⟨hc,e⟩:=e;simp only[hc,cond_false];split at e
  ·split at e
   ·rename_i cs d;rw[s _ _ d];replace e:=Ac e;obtain⟨b,e⟩:=e;obtain⟨l,a,rfl⟩:=AA e;obtain⟨f,e2,g⟩:=(Lay.refl s id).set d a;exact⟨f,by simp only[b,cond_true,e2,ap],g⟩
   ·cases e
  ·split at e
   ·rename_i es ex d;rw[s _ _ d];dsimp only;split at e
    ·rename_i m j
     try rw[j]
     replace e:=Ac e;obtain⟨b,e⟩:=e;simp only[b,cond_true];split at e
     ·obtain⟨l,a,rfl⟩:=AA e;obtain⟨f,e2,g⟩:=(Lay.refl s id).set d a;exact⟨f,by simp only[e2,ap],g⟩
     ·split at e
      ·rename_i c k
       try rw[k]
       replace e:=Ac e;obtain⟨i,e⟩:=e;simp only[i,cond_true];split at e
       ·cases e
       ·cases e
       ·obtain⟨l,a,rfl⟩:=AA e;obtain⟨f,e2,g⟩:=(Lay.refl s id).set d a;exact⟨f,by simp only[e2,ap],g⟩
      ·cases e
    ·cases e
   ·cases e
  ·cases e
 ·cases e
end
end
section
variable[Gl]
section
variable{P:Program}{hs h h1 h2:Hp}{id:Nat}
theorem Ql(s:Eb hs h){p:PV}{r:R}(e:Em hs p=some r):CI hs h id (Em h p) r:=by
 unfold Em at e ⊢;split at e<;>first|(cases e;exact AL s rfl)|cases e
theorem QO(s:Eb hs h){a:BinOp}{ty:TypeId}{x y:Operand}{p q:PV}{r:R}(e:DY P hs a ty x y p q=some r):CI hs h id (DY P h a ty x y p q) r:=by
 unfold DY at e ⊢;split at e
 ·replace e:=Ac e;obtain⟨hc,e⟩:=e;simp only[hc,cond_true];exact C2 s e
 ·replace e:=Bo e;obtain⟨hc,e⟩:=e;simp only[hc,cond_false];exact C2 s e
 ·exact C2 s e
theorem Kw(s:Eb hs h){b a:TypeId}{p:PV}{r:R}(e:BH P hs b a p=some r):CI hs h id (BH P h b a p) r:=by
 unfold BH at e ⊢;split at e
 ·cases e;exact AL s rfl
 ·cases e;exact AL s rfl
 ·split at e
  ·cases e;exact AL s rfl
  ·cases e
 ·cases e
theorem Qa(s:Eb hs h){ty:TypeId}{p:PV}{r:R}(e:EW P hs ty p=some r):CI hs h id (EW P h ty p) r:=by
 unfold EW at e ⊢;split at e<;>first|(cases e;exact AL s rfl)|cases e
theorem J9(s:Eb hs h){f:Fn}{a b:List PV}{r:R}(e:BD hs f a b=some r):CI hs h id (BD h f a b) r:=by
 unfold BD at e ⊢;split at e<;>first|(cases e;exact AL s rfl)|cases e
theorem K2(s:Eb hs h){p:PV}{i:Nat}{r:R}(e:Be hs p i=some r):CI hs h id (Be h p i) r:=by
 unfold Be at e ⊢;split at e
 ·exact C2 s e
 ·cases e
theorem N5(s:Eb hs h){ty:TypeId}{p:PV}{f:Nat}{r:R}(e:B5 P hs ty p f=some r):CI hs h id (B5 P h ty p f) r:=by
 unfold B5 at e ⊢;split at e
 ·split at e
  ·rename_i b a
   try rw[a]
   exact C2 s e
  ·cases e
 ·cases e
theorem Ig(s:Eb hs h){ty:TypeId}{p:PV}{f:Nat}{r:R}(e:Av P hs ty p f=some r):CI hs h id (Av P h ty p f) r:=by
 unfold Av at e ⊢;split at e
 ·split at e
  ·rename_i c a;split at e
   ·rename_i n b;replace e:=Bo e;obtain⟨hc,e⟩:=e
    try simp only[a,b]
    simp only[hc,cond_false];split at e<;>first|(cases e;exact AL s rfl)|cases e
   ·cases e
  ·cases e
 ·cases e
theorem Ii(s:Eb hs h){ty:TypeId}{p q:PV}{r:R}(e:Aq P hs ty p q=some r):CI hs h id (Aq P h ty p q) r:=by
 unfold Aq at e ⊢;split at e
 ·split at e
  ·rename_i n c
   try simp only[c]
   split at e
   ·split at e
    ·rename_i d a
     try simp only[a]
     replace e:=Ac e;obtain⟨hc,e⟩:=e;cases e;simp only[hc,cond_true];exact AL s rfl
    ·cases e
   ·replace e:=Ac e;obtain⟨hc,e⟩:=e;simp only[hc,cond_true];split at e
    ·rename_i es ex fz f;rw[s _ _ f]
     try dsimp only
     split at e
     ·rename_i d a
      try simp only[a]
      replace e:=Ac e;obtain⟨b,e⟩:=e;cases e;simp only[b,cond_true];exact AL s rfl
     ·cases e
    ·cases e
   ·cases e
  ·cases e
 ·split at e
  ·rename_i n c
   try simp only[c]
   replace e:=Ac e;obtain⟨hc,e⟩:=e;simp only[hc,cond_true];split at e<;>first|(cases e;exact AL s rfl)|cases e
  ·cases e
 ·cases e
theorem OA(s:Eb hs h){ty:TypeId}{p q:PV}{r:R}(e:Bw P hs ty p q=some r):CI hs h id (Bw P h ty p q) r:=by
 unfold Bw at e ⊢;split at e
 ·replace e:=Ac e;obtain⟨hc,e⟩:=e;simp only[hc,cond_true];split at e
  ·rename_i n c
   try simp only[c]
   exact C2 s e
  ·cases e
 ·split at e
  ·rename_i b a
   try simp only[a]
   cases e;exact AL s rfl
  ·cases e
 ·cases e
theorem L4(s:Eb hs h){ty:TypeId}{p:PV}{a:Bool}{r:R}(e:BI P hs ty p a=some r):CI hs h id (BI P h ty p a) r:=by
 have z:∀ {r:R},(bif a then(match Bt P ty with
   |some z=>some (R.val (.tup [z,.bool false]) hs)
   |none=>none)else none)=some r->CI hs h id (bif a then(match Bt P ty with
   |some z=>some (R.val (.tup [z,.bool false]) h)
   |none=>none)else none) r:=by
  intro r e;replace e:=Ac e;obtain⟨hc,e⟩:=e;simp only[hc,cond_true];split at e
  ·rename_i z c
   try simp only[c]
   cases e;exact AL s rfl
  ·cases e
 unfold BI at e ⊢;split at e
 ·split at e
  ·split at e
   ·rename_i i hi
    try simp only[hi]
    split at e
    ·rename_i b
     try simp only[b]
     cases e;exact AL s rfl
    ·rename_i d b
     try simp only[b]
     exact z e
   ·cases e
  ·exact z e
  ·cases e
 ·split at e
  ·cases hc:aa _ ty with
   |true=>rw[hc]at e;cases e;simp only[cond_true];exact AL s rfl
   |false=>rw[hc]at e;simp only[cond_false]at e ⊢;exact z e
  ·exact z e
  ·cases e
 ·cases e
theorem PS(s:Eb hs h)(a:hs.get id=none->h.get id=none){ty:TypeId}{l c:PV}{r:R}(e:Cy P hs id ty l c=some r):CI hs h id (Cy P h id ty l c) r:=by
 unfold Cy at e ⊢;split at e
 ·split at e
  ·rename_i n o z q g i j k
   try simp only[g,i,j,k]
   split at e
   ·rename_i t b
    try simp only[b]
    replace e:=Ac e;obtain⟨hc,e⟩:=e;obtain⟨p,f,rfl⟩:=AA e;obtain⟨d,e2,m⟩:=(Lay.refl s id).new a f;exact⟨d,by simp only[hc,cond_true,e2,ap],m⟩
   ·cases e
  ·cases e
 ·cases e
theorem QQ(s:Eb hs h){j off len:Nat}{r:R}(e:DU hs j off len=some r):CI hs h id (DU h j off len) r:=by
 unfold DU at e ⊢;split at e
 ·rename_i f xs a d;rw[KU s _ _ _ d];obtain⟨i,c,rfl⟩:=AA e;obtain⟨b,e2,g⟩:=Lay.freeze a (Lay.refl s id) c;exact⟨b,by simp only[e2,ap],g⟩
 ·cases e
theorem OU(s:Eb hs h){ty:TypeId}{p:PV}{lo hi mx:Option PV}{r:R}(e:Ak P hs ty p lo hi mx=some r):CI hs h id (Ak P h ty p lo hi mx) r:=by
 unfold Ak at e ⊢;split at e
 ·split at e
  ·rename_i hh l c d
   try simp only[c,d]
   replace e:=Ac e;obtain⟨hc,e⟩:=e;cases e;simp only[hc,cond_true];exact AL s rfl
  ·cases e
 ·split at e
  ·cases e
  ·rename_i n j
   try simp only[j]
   split at e
   ·split at e
    ·rename_i c d k
     try simp only[c,d,k]
     replace e:=Bo e;obtain⟨hc,e⟩:=e;cases e;simp only[hc,cond_false];exact AL s rfl
    ·cases e
   ·replace e:=Bo e;obtain⟨hc,e⟩:=e;simp only[hc,cond_false];split at e
    ·rename_i l hh c d
     try simp only[c,d]
     split at e
     ·replace e:=Ac e;obtain⟨a,e⟩:=e;cases e;simp only[a,cond_true];exact AL s rfl
     ·split at e
      ·rename_i m g
       try simp only[g]
       replace e:=Ac e;obtain⟨a,e⟩:=e;cases e;simp only[a,cond_true];exact AL s rfl
      ·cases e
    ·cases e
   ·split at e
    ·rename_i es ex fz i;rw[s _ _ i]
     try dsimp only
     replace e:=Bo e;obtain⟨hc,e⟩:=e;simp only[hc,cond_false];split at e
     ·rename_i l hh c d
      try simp only[c,d]
      replace e:=Bo e;obtain⟨f,e⟩:=e;simp only[f,cond_false];split at e
      ·cases b:ah _ es.length with
       |true=>rw[b]at e;cases e;simp only[cond_true];exact AL s rfl
       |false=>rw[b]at e;cases e;simp only[cond_false];exact AL s rfl
      ·split at e
       ·rename_i m g
        try simp only[g]
        generalize o:(hi.isSome&&af hh m&&ex&&aa _ es.length)=A at e ⊢;cases A with
        |true=>
         simp only[cond_true]at e ⊢;cases b:ah _ es.length with
         |true=>rw[b]at e;cases e;simp only[cond_true];exact AL s rfl
         |false=>rw[b]at e;cases e;simp only[cond_false];exact AL s rfl
        |false=>
         simp only[cond_false]at e ⊢;replace e:=Ac e;obtain⟨a,e⟩:=e;simp only[a,cond_true];exact QQ s e
       ·cases e
     ·cases e
    ·cases e
   ·cases e
 ·cases e
theorem QM(s:Eb hs h)(f:hs.get id=none->h.get id=none){t:TypeId}{p q:PV}{r:R}(e:Ea P hs id t p q=some r):CI hs h id (Ea P h id t p q) r:=by
 unfold Ea at e ⊢;split at e
 ·split at e
  ·rename_i B C new z n o u w;rw[I7 s u]
   try simp only[n,o,w]
   replace e:=Bo e;obtain⟨hc,e⟩:=e;simp only[hc,cond_false]
   have fresh:∀ {row:Blk} {v:PV} {r:R},(hs.new id row).map (λh=>R.val v h)=some r->CI hs h id ((h.new id row).map λh=>R.val v h) r:=by
    intro row v r e;obtain⟨l,k,rfl⟩:=AA e;obtain⟨i,e2,g⟩:=(Lay.refl s id).new f k;exact⟨i,by rw[e2];rfl,g⟩
   split at e
   ·cases a:new.isEmpty with
    |true=>rw[a]at e;cases e;simp only[cond_true];exact AL s rfl
    |false=>
     rw[a]at e;simp only[cond_false]at e ⊢;replace e:=Ac e;obtain⟨b,e⟩:=e;simp only[b,cond_true];exact fresh e
   ·cases a:new.isEmpty with
    |true=>rw[a]at e;cases e;simp only[cond_true];exact AL s rfl
    |false=>
     rw[a]at e;simp only[cond_false]at e ⊢;replace e:=Ac e;obtain⟨b,e⟩:=e;simp only[b,cond_true];exact fresh e
   ·split at e
    ·rename_i es ex fz j;rw[s _ _ j]
     try dsimp only
     replace e:=Bo e;obtain⟨b,e⟩:=e;simp only[b,cond_false];cases ex with
     |true=>
      simp only[cond_true]at e ⊢;cases a:new.isEmpty with
      |true=>rw[a]at e;cases e;simp only[cond_true];exact AL s rfl
      |false=>
      rw[a]at e;simp only[cond_false]at e ⊢;generalize af _ es.length=A at e ⊢;cases A with
      |true=>
       simp only[cond_true]at e ⊢;replace e:=Bo e;obtain⟨d,e⟩:=e;simp only[d,cond_false];obtain⟨l,c,rfl⟩:=AA e;obtain⟨i,e2,g⟩:=(Lay.refl s id).set j c;exact⟨i,by rw[e2];rfl,g⟩
      |false=>
       simp only[cond_false]at e ⊢;exact fresh e
     |false=>
      simp only[cond_false]at e ⊢;replace e:=Ac e;obtain⟨d,e⟩:=e;simp only[d,cond_true];split at e
      ·rename_i y c;obtain⟨l,k,rfl⟩:=AA e;obtain⟨i,e2,g⟩:=(Lay.refl s id).set j c;obtain⟨m,e3,x⟩:=g.new f k;exact⟨m,by simp only[e2,e3,ap],x⟩
      ·cases e
    ·cases e
   ·cases e
  ·cases e
 ·cases e
theorem Dc{f:Fn}{a b args:List PV}{r:R}(e:CA P f a b args=some r):∃ g c,r=.call g c:=by
 unfold CA at e;split at e
 ·obtain⟨rfl,_⟩:=Og e;exact⟨_,_,rfl⟩
 ·split at e
  ·split at e
   ·split at e
    ·split at e
     ·obtain⟨rfl,_⟩:=Hk e;exact⟨_,_,rfl⟩
     ·cases e
     ·obtain⟨rfl,_⟩:=Hk e;exact⟨_,_,rfl⟩
     ·cases e
    ·cases e
   ·cases e
  ·cases e
 ·cases e
end
end
section
variable[Gl]
section
variable{P:Program}{hs h h1 h2:Hp}{id:Nat}
def Fg(t a:T PV)(l:List Operand):Prop:=∀ k,.tmp k∈l->t.get k=a.get k
theorem E9{t a:T PV}{l:List Operand}(b:Fg t a l){o:Operand}(c:o∈l):CM t o=CM a o:=by
 cases o with
 |tmp k=>simp only[CM,b k c]
 |_=>rfl
theorem C7{t c:T PV}{l:List Operand}(b:Fg t c l):∀ {a:List Operand},(∀ o∈a,o∈l)->Lx t a=Lx c a
 |[],_=>rfl
 |o::a,ho=>by
  unfold Lx;rw[E9 b (ho o (by simp)),C7 b λx d=>ho x (by simp[d])]
theorem Dl{t c:T PV}{l:List Operand}(b:Fg t c l):∀ {a:List (Nat×Operand)},(∀ o∈a,o.2∈l)->B9 t a=B9 c a
 |[],_=>rfl
 |(i,o)::os,ho=>by
  unfold B9;rw[E9 b (ho (i,o) (by simp)),Dl b λx d=>ho x (by simp[d])]
theorem Gy{t a:T PV}{l:List Operand}(b:Fg t a l){o:Option Operand}(c:∀ x∈o.toList,x∈l):QG t o=QG a o:=by
 cases o with
 |none=>rfl
 |some x=>simp only[QG,E9 b (c x (by simp))]
theorem EB{t j:T PV}{o:Oper}(d:As o.op=true)(a:Fg t j (Az o.op)):AQ P t h id o=AQ P j h id o:=by
 unfold AQ;generalize k:o.op=l at a d;have e:=λx i=>E9 a (o:=x) i;cases l with
 |call c=>
  simp only[As]at d;simp only[Az]at a e;cases hc:c.callee with
  |builtin b=>
   rw[hc]at a;simp only[hc];rw[C7 a λx i=>i]
  |value f=>
   rw[hc]at a e;simp only[hc,e1];rw[C7 a λx i=>by simp[i],e f (by simp)]
  |invoke r p=>
   rw[hc]at a e;simp only[hc,e1];rw[C7 a λx i=>by simp[i],e r (by simp)]
 |build ty m=>
  simp only[Az]at a;simp only;rw[Dl a λx i=>bo.2 ⟨x,i,rfl⟩]
 |buildSlice ty n m=>
  simp only[Az]at a;simp only;rw[Dl a λx i=>bo.2 ⟨x,i,rfl⟩]
 |makeFunc f x y=>
  simp only[Az]at a;simp only;rw[C7 a λz g=>ak _ g,C7 a λz g=>List.mem_append_right _ g]
 |slice ty x lo hi mx=>
  simp only[Az]at a e;simp only[e1];rw[Gy (o:=lo) a λz g=>by simp at g ⊢;simp[g],Gy (o:=hi) a λz g=>by simp at g ⊢;simp[g],Gy (o:=mx) a λz g=>by simp at g ⊢;simp[g],e x (by simp)]
 |lookup _ _ _ _=>cases d
 |mapUpdate _ _ _ _=>cases d
 |insert _ _ _ _=>cases d
 |defer _=>cases d
 |panic _=>cases d
 |move x=>simp only[Az]at e;simp only[e x (by simp)]
 |assign x=>simp only[Az]at e;simp only[e x (by simp)]
 |pick c x y=>simp only[Az]at e;simp only[e3,e c (by simp),e x (by simp),e y (by simp)]
 |alloc _=>rfl
 |box _ x=>simp only[Az]at e;simp only[e1,e x (by simp)]
 |load _ x=>simp only[Az]at e;simp only[e1,e x (by simp)]
 |store _ x y=>simp only[Az]at e;simp only[e2,e x (by simp),e y (by simp)]
 |nilCheck x=>simp only[Az]at e;simp only[e1,e x (by simp)]
 |binOp _ _ x y _=>simp only[Az]at e;simp only[e2,e x (by simp),e y (by simp)]
 |unOp _ _ x=>simp only[Az]at e;simp only[e1,e x (by simp)]
 |convert _ _ x=>simp only[Az]at e;simp only[e1,e x (by simp)]
 |makeInterface _ x=>simp only[Az]at e;simp only[e1,e x (by simp)]
 |makeMap ty r=>cases r<;>rfl
 |makeSlice _ x y=>simp only[Az]at e;simp only[e2,e x (by simp),e y (by simp)]
 |fieldAddr _ x _=>simp only[Az]at e;simp only[e1,e x (by simp)]
 |field _ x _=>simp only[Az]at e;simp only[e1,e x (by simp)]
 |indexAddr _ x y=>simp only[Az]at e;simp only[e2,e x (by simp),e y (by simp)]
 |index _ x y=>simp only[Az]at e;simp only[e2,e x (by simp),e y (by simp)]
 |typeAssert x _ _ _=>simp only[Az]at e;simp only[e1,e x (by simp)]
 |extract x _=>simp only[Az]at e;simp only[e1,e x (by simp)]
 |_=>rfl
theorem Aa{t:T PV}{x:Operand}{k:PV->Option R}{r:R}(e:e1 t x k=some r):∃ p,CM t x=some p/\k p=some r:=by
 unfold e1 at e;split at e
 ·rename_i p a;exact⟨p,a,e⟩
 ·cases e
theorem CL{t:T PV}{x y:Operand}{k:PV->PV->Option R}{r:R}(e:e2 t x y k=some r):∃ p q,CM t x=some p/\CM t y=some q/\k p q=some r:=by
 unfold e2 at e;split at e
 ·rename_i p q a b;exact⟨p,q,a,b,e⟩
 ·cases e
theorem M4{t:T PV}{x y z:Operand}{k:PV->PV->PV->Option R}{r:R}(e:e3 t x y z k=some r):∃ p q s,CM t x=some p/\CM t y=some q/\CM t z=some s/\k p q s=some r:=by
 unfold e3 at e;split at e
 ·rename_i p q s a b hs;exact⟨p,q,s,a,b,hs,e⟩
 ·cases e
theorem K3(s:Eb hs h){f:Int->Int->Int}{a:Int}{l:List PV}{k:IntKind}{r:R}(e:(B7 f a l k).map (λm=>R.val (.int k m) hs)=some r):CI hs h id ((B7 f a l k).map λm=>R.val (.int k m) h) r:=by
 obtain⟨m,b,rfl⟩:=AA e;exact AL s (by rw[b];rfl)
theorem Kq(s:Eb hs h)(i:hs.get id=none->h.get id=none){b:Builtin}(n:b=.len\/b=.cap\/b=.append\/b=.copy\/b=.max\/b=.min){d:Array TypeId}{args:List PV}{r:R}(e:AH P hs id b d args=some r) :
  CI hs h id (AH P h id b d args) r:=by
 rcases n with rfl|rfl|rfl|rfl|rfl|rfl
 ·simp only[AH]at e ⊢;split at e
  ·rename_i x t a
   try simp only[a]
   split at e
   ·split at e
    ·rename_i es c
     try simp only[c]
     rw[s _ _ c];cases e;exact AL s rfl
    ·cases e
   all_goals first|(cases e;done)|(cases e;exact AL s rfl)
  ·cases e
 ·simp only[AH]at e ⊢;split at e
  ·rename_i x t a
   try simp only[a]
   split at e
   ·split at e
    ·rename_i es fz c
     try simp only[c]
     rw[s _ _ c];cases e;exact AL s rfl
    ·cases e
   all_goals first|(cases e;done)|(cases e;exact AL s rfl)
  ·cases e
 ·simp only[AH]at e ⊢;split at e
  ·rename_i p q t B f
   try simp only[f]
   replace e:=Ac e;obtain⟨hc,e⟩:=e;simp only[hc,cond_true];exact QM s i e
  ·cases e
 ·simp only[AH]at e ⊢;split at e
  ·rename_i j off len x t a
   try simp only[a]
   split at e
   ·rename_i l es ex new u k w;simp only[u,s _ _ k,I7 s w];split at e
    ·rename_i A o;replace e:=Bo e;obtain⟨hc,e⟩:=e;simp only[hc,cond_false];obtain⟨z,g,rfl⟩:=AA e;obtain⟨m,e2,y⟩:=(Lay.refl s id).set k g;exact⟨m,by simp only[e2,ap],y⟩
    ·cases e
   ·cases e
  ·cases e
 ·simp only[AH]at e ⊢;split at e
  ·exact K3 s e
  ·cases e;exact AL s rfl
  ·cases e
 ·simp only[AH]at e ⊢;split at e
  ·exact K3 s e
  ·cases e;exact AL s rfl
  ·cases e
theorem JS{F:Option R}{r:R}(e:F=some r)(hc:∃ g a,r=.call g a):CI hs h id F r:=by
 obtain⟨g,a,rfl⟩:=hc;exact e
theorem Ce(s:Eb hs h)(i:hs.get id=none->h.get id=none){t:T PV}{o:Oper}(d:As o.op=true){r:R}(e:AQ P t hs id o=some r):CI hs h id (AQ P t h id o) r:=by
 unfold AQ at e ⊢;generalize w:o.op=E at d e ⊢;cases E with
 |lookup _ _ _ _=>cases d
 |mapUpdate _ _ _ _=>cases d
 |insert _ _ _ _=>cases d
 |defer _=>cases d
 |panic _=>cases d
 |move x=>exact C2 s e
 |assign x=>exact C2 s e
 |pick c x y=>obtain⟨p,q,u,a,g,l,e⟩:=M4 e;simp only[e3,a,g,l];exact Ph s e
 |alloc _=>exact Ng s i e
 |box _ x=>obtain⟨p,a,e⟩:=Aa e;simp only[e1,a];exact QP s i e
 |build ty F=>
  simp only at e ⊢;split at e
  ·rename_i p k;try simp only[k]
   exact Nm s e
  ·cases e
 |buildSlice ty n F=>
  simp only at e ⊢;split at e
  ·rename_i p k;try simp only[k]
   exact H0 s e
  ·cases e
 |load _ x=>obtain⟨p,a,e⟩:=Aa e;simp only[e1,a];exact PM s e
 |store _ x y=>obtain⟨p,q,a,g,e⟩:=CL e;simp only[e2,a,g];exact OW s e
 |nilCheck x=>obtain⟨p,a,e⟩:=Aa e;simp only[e1,a];exact Ql s e
 |binOp _ _ x y _=>obtain⟨p,q,a,g,e⟩:=CL e;simp only[e2,a,g];exact QO s e
 |unOp _ _ x=>obtain⟨p,a,e⟩:=Aa e;simp only[e1,a];exact C2 s e
 |convert _ _ x=>obtain⟨p,a,e⟩:=Aa e;simp only[e1,a];exact Kw s e
 |makeInterface _ x=>obtain⟨p,a,e⟩:=Aa e;simp only[e1,a];exact Qa s e
 |makeFunc f x y=>
  simp only at e ⊢;split at e
  ·rename_i p q k z;try simp only[k,z]
   exact J9 s e
  ·cases e
 |makeMap ty rs=>
  cases rs with
  |none=>
   simp only at e ⊢;obtain⟨a,m,rfl⟩:=AA e;obtain⟨g,e2,D⟩:=(Lay.refl s id).new i m;exact⟨g,by rw[e2];rfl,D⟩
  |some _=>cases e
 |makeSlice _ x y=>obtain⟨p,q,a,g,e⟩:=CL e;simp only[e2,a,g];exact PS s i e
 |slice ty x lo hi mx=>
  simp only at e ⊢;split at e
  ·rename_i A B C;try simp only[A,B,C]
   obtain⟨p,a,e⟩:=Aa e;simp only[e1,a];exact OU s e
  ·cases e
 |fieldAddr _ x _=>obtain⟨p,a,e⟩:=Aa e;simp only[e1,a];exact Ig s e
 |field _ x _=>obtain⟨p,a,e⟩:=Aa e;simp only[e1,a];exact N5 s e
 |indexAddr _ x y=>obtain⟨p,q,a,g,e⟩:=CL e;simp only[e2,a,g];exact Ii s e
 |index _ x y=>obtain⟨p,q,a,g,e⟩:=CL e;simp only[e2,a,g];exact OA s e
 |typeAssert x _ _ _=>obtain⟨p,a,e⟩:=Aa e;simp only[e1,a];exact L4 s e
 |extract x _=>obtain⟨p,a,e⟩:=Aa e;simp only[e1,a];exact K2 s e
 |call c=>
  simp only at e ⊢;split at e
  ·rename_i args j
   try simp only[j]
   cases hc:c.callee with
   |builtin b=>
    simp only[hc]at e ⊢;simp only[As,hc]at d;exact Kq s i (by cases b<;>simp_all) e
   |value f=>
    simp only[hc]at e ⊢;obtain⟨p,a,e⟩:=Aa e;simp only[e1,a];unfold Hl at e ⊢;split at e
    ·exact JS e (Dc e)
    ·cases e;exact True.intro
    ·cases e
   |invoke I G=>
    simp only[hc]at e ⊢;obtain⟨p,a,e⟩:=Aa e;simp only[e1,a];exact JS e (Dc e)
  ·cases e
 |_=>cases e
theorem GO{t:T PV}{o:Oper}(g:quiet o.op=true)(a:As o.op=true){v:PV}{i:Hp}(e:AQ P t h id o=some (.val v i)):i=h:=by
 have d:∀ {x:Option PV},vl x h=some (.val v i)->i=h:=by
  intro x e;obtain⟨y,_,e⟩:=De e;cases e;rfl
 unfold AQ at e;generalize l:o.op=n at a g e;cases n with
 |lookup _ _ _ _=>cases a
 |mapUpdate _ _ _ _=>cases a
 |insert _ _ _ _=>cases a
 |defer _=>cases a
 |panic _=>cases a
 |buildSlice _ _ _=>cases g
 |store _ _ _=>cases g
 |alloc _=>cases g
 |box _ _=>cases g
 |makeMap _ _=>cases g
 |makeSlice _ _ _=>cases g
 |move x=>exact d e
 |assign x=>exact d e
 |pick c x y=>
  obtain⟨p,q,u,_,_,_,e⟩:=M4 e;unfold Dg at e;split at e<;>cases e<;>rfl
 |build ty s=>
  simp only at e;split at e
  ·unfold Bv at e;simp only[aA]at e
   repeat' split at e
   all_goals first|(cases e;done)|(obtain⟨cs,_,e⟩:=AA e;cases e;rfl)
  ·cases e
 |load _ x=>
  obtain⟨p,_,e⟩:=Aa e;unfold CB at e
  repeat' split at e
  all_goals first|(cases e;done)|exact d e
 |nilCheck x=>
  obtain⟨p,_,e⟩:=Aa e;unfold Em at e;split at e<;>first|(cases e;done)|(cases e;rfl)
 |binOp _ _ x y _=>
  obtain⟨p,q,_,_,e⟩:=CL e;unfold DY at e;simp only[aA]at e
  repeat' split at e
  all_goals first|(cases e;done)|exact d e
 |unOp _ _ x=>obtain⟨p,_,e⟩:=Aa e;exact d e
 |convert _ _ x=>
  obtain⟨p,_,e⟩:=Aa e;unfold BH at e
  repeat' split at e
  all_goals first|(cases e;done)|(cases e;rfl)
 |makeInterface _ x=>
  obtain⟨p,_,e⟩:=Aa e;unfold EW at e;split at e<;>first|(cases e;done)|(cases e;rfl)
 |makeFunc f x y=>
  simp only at e;split at e
  ·unfold BD at e;split at e<;>first|(cases e;done)|(cases e;rfl)
  ·cases e
 |slice ty x lo hi mx=>
  simp only[quiet]at g
  have j:mx=none:=by cases mx with
   |none=>rfl
   |some _=>cases g
  subst j;simp only[QG]at e;split at e
  ·rename_i m;cases m;obtain⟨p,_,e⟩:=Aa e;unfold Ak at e;simp only[aA]at e
   repeat' split at e
   all_goals first|(cases e;done)|(cases e;rfl)|(simp at *;done)
  ·cases e
 |fieldAddr _ x _=>
  obtain⟨p,_,e⟩:=Aa e;unfold Av at e;simp only[aA]at e
  repeat' split at e
  all_goals first|(cases e;done)|(cases e;rfl)
 |field _ x _=>
  obtain⟨p,_,e⟩:=Aa e;unfold B5 at e
  repeat' split at e
  all_goals first|(cases e;done)|exact d e
 |indexAddr _ x y=>
  obtain⟨p,q,_,_,e⟩:=CL e;unfold Aq at e;simp only[aA]at e
  repeat' split at e
  all_goals first|(cases e;done)|(cases e;rfl)
 |index _ x y=>
  obtain⟨p,q,_,_,e⟩:=CL e;unfold Bw at e;simp only[aA]at e
  repeat' split at e
  all_goals first|(cases e;done)|exact d e|(cases e;rfl)
 |typeAssert x _ _ _=>
  obtain⟨p,_,e⟩:=Aa e;unfold BI at e;simp only[aA]at e
  repeat' split at e
  all_goals first|(cases e;done)|(cases e;rfl)
 |extract x _=>
  obtain⟨p,_,e⟩:=Aa e;unfold Be at e;split at e
  ·exact d e
  ·cases e
 |call c=>
  simp only[As]at a;simp only[quiet]at g;simp only at e;split at e
  ·cases hc:c.callee with
   |builtin b=>
    simp only[hc]at e a g;have k:b=.len\/b=.cap\/b=.max\/b=.min:=by cases b<;>simp_all
    rcases k with rfl|rfl|rfl|rfl<;>simp only[AH]at e<;>(repeat' split at e)
    all_goals first|(cases e;done)|(cases e;rfl)|(obtain⟨cs,_,e⟩:=AA e;cases e;rfl)
   |value f=>simp only[hc]at g;cases g
   |invoke w r=>simp only[hc]at g;cases g
  ·cases e
 |_=>cases e
end
end
section
variable[Gl]
section
variable{P:Program}{rec:HM}{hs h h1 h2:Hp}{id:Nat}
theorem FO:∀ (l:List Nat) (m:T Blk) (x:Nat),(Hc h l m).get x=if x∈l/\x<x+1/\(h.get x).isSome then h.get x else m.get x
 |[],m,x=>by simp[Hc]
 |j::l,m,x=>by
  unfold Hc;split
  ·rename_i b i;cases f:ah j (j+1)with
   |true=>
    simp only[cond_true];have g:j<j+1:=by omega
    rw[FO l _ x,T.get_put (j+1) m j b x (N8 j)];by_cases d:x∈l/\x<x+1/\(h.get x).isSome
    ·rw[if_pos d,if_pos ⟨by simp[d.1],d.2⟩]
    ·rw[if_neg d];by_cases e:x=j
     ·subst e;rw[if_pos rfl,if_pos ⟨by simp,g,by simp[i]⟩,i]
     ·rw[if_neg e,if_neg];rintro⟨a,b,c⟩;simp only[ae]at a;rcases a with a|a
      ·exact e a
      ·exact d ⟨a,b,c⟩
   |false=>
    simp only[cond_false];rw[FO l m x]
    have k:¬ j<j+1:=by
     intro h;have:ah j (j+1)=true:=by simp
     rw[this]at f;cases f
    by_cases d:x∈l/\x<x+1/\(h.get x).isSome
    ·rw[if_pos d,if_pos ⟨by simp[d.1],d.2⟩]
    ·rw[if_neg d,if_neg];rintro⟨a,b,c⟩;simp only[ae]at a;rcases a with a|a
     ·subst a;exact k b
     ·exact d ⟨a,b,c⟩
  ·rename_i i;rw[FO l m x];by_cases d:x∈l/\x<x+1/\(h.get x).isSome
   ·rw[if_pos d,if_pos ⟨by simp[d.1],d.2⟩]
   ·rw[if_neg d,if_neg];rintro⟨a,b,c⟩;simp only[ae]at a;rcases a with a|a
    ·subst a;rw[i]at c;cases c
    ·exact d ⟨a,b,c⟩
theorem DV(l:List Nat)(x:Nat):(h.cut l).get x=if x∈l/\x<x+1 then h.get x else none:=by
 have:=FO (h:=h) l .lf x;show(Hc h l .lf).get x=_;rw[this];by_cases a:x∈l/\x<x+1
 ·rw[if_pos a];cases c:h.get x with
  |none=>rw[if_neg (by simp)];rfl
  |some b=>rw[if_pos ⟨a.1,a.2,by simp⟩]
 ·rw[if_neg a,if_neg λh=>a ⟨h.1,h.2.1⟩];rfl
theorem Dq{l:List Nat}{x:Nat}{b:Blk}(e:(h.cut l).get x=some b):x∈l/\h.get x=some b:=by
 rw[DV]at e;split at e
 ·rename_i a;exact⟨a.1,e⟩
 ·cases e
theorem Ct:∀ {l:List Nat} {h f:Hp},over h1 l h=some f -> ∀ x,f.get x=if x∈l then(match h1.get x with
  |some b=>some b
  |none=>h.get x)else h.get x
 |[],h,f,e,x=>by simp[over]at e;subst e;simp
 |j::l,h,f,e,x=>by
  unfold over at e;split at e
  ·rename_i b g;split at e
   ·rename_i i d;rw[Ct e x,(Hp.get_set d).1 x];by_cases a:x=j
    ·subst a;simp[g]
    ·by_cases c:x∈l
     ·rw[if_pos c,if_pos (show x∈j::l by simp[c]),if_neg a]
     ·rw[if_neg c,if_neg (show ¬ x∈j::l by simp[a,c]),if_neg a]
   ·cases e
  ·rename_i g;rw[Ct e x];by_cases a:x=j
   ·subst a;simp[g]
   ·by_cases c:x∈l
    ·rw[if_pos c,if_pos (show x∈j::l by simp[c])]
    ·rw[if_neg c,if_neg (show ¬ x∈j::l by simp[a,c])]
def Qc:Blk->Prop
 |.box _ fz=>fz=true
 |.row _ _ fz=>fz=true
 |_=>False
theorem By:∀ {l:List Nat} {x:Nat},x∈l->x ∉ A8 h l -> ∃ b,h.get x=some b/\Qc b
 |[],x,hx,_=>by simp at hx
 |j::l,x,hx,hn=>by
  unfold A8 at hn;simp only[ae]at hx;split at hn
  ·rename_i cs a;rcases hx with rfl|hx
   ·exact⟨_,a,rfl⟩
   ·exact By hx hn
  ·rename_i es ex a;rcases hx with rfl|hx
   ·exact⟨_,a,rfl⟩
   ·exact By hx hn
  ·simp only[ae,not_or]at hn;rcases hx with rfl|hx
   ·exact absurd rfl hn.1
   ·exact By hx hn.2
theorem Ah:∀ {l:List Nat} {x:Nat},x∈A8 h l->x∈l
 |[],x,hx=>by simp[A8]at hx
 |j::l,x,hx=>by
  unfold A8 at hx;split at hx
  ·simp[Ah hx]
  ·simp[Ah hx]
  ·simp only[ae]at hx;rcases hx with rfl|hx
   ·simp
   ·simp[Ah hx]
def Stays(hs a:Hp):Prop:=∀ x b,hs.get x=some b->Qc b->a.get x=some b
theorem Stays.refl(hs:Hp):Stays hs hs:=λ_ _ h _=>h
theorem HL{b:Blk}(e:hs.new id b=some h1):Stays hs h1:=by
 obtain⟨f,d,_⟩:=Hp.get_new e;intro x c a _;rw[d,if_neg (by intro h;subst h;rw[f]at a;cases a)];exact a
theorem FP{j:Nat}{b b0:Blk}(g:hs.get j=some b0)(e:hs.set j b=some h1)(f:Qc b0->b=b0):Stays hs h1:=by
 have i:=(Hp.get_set e).1;intro x c d h;rw[i];by_cases a:x=j
 ·subst a;rw[g]at d;cases d;rw[if_pos rfl,f h]
 ·rw[if_neg a];exact d
theorem Stays.trans{d:Hp}(a:Stays hs h1)(b:Stays h1 d):Stays hs d:=λx c f e=>b x c (a x c f e) e
theorem CY:∀ (L:List Nat) {hs b:Hp},freeze hs L=some b->Stays hs b
 |[],hs,b,e=>by simp[freeze]at e;subst e;exact .refl _
 |j::L,hs,b,e=>by
  unfold freeze at e;split at e
  ·rename_i cs fz c;split at e
   ·rename_i d a;exact(FP c a λh=>by have h:fz=true:=h;subst h;rfl).trans (CY L e)
   ·cases e
  ·rename_i es ex fz c;split at e
   ·rename_i d a;exact(FP c a λh=>by have h:fz=true:=h;subst h;rfl).trans (CY L e)
   ·cases e
  ·cases e
theorem GP{t:T PV}{o:Oper}(a:As o.op=true)(d:EX o.op=false)(l:quiet o.op=false){r:R}(e:AQ P t hs id o=some r):∀ i,((∃ v,r=.val v i)\/r=.skip i)->Stays hs i:=by
 intro i hr;unfold AQ at e;generalize w:o.op=z at a l d e
 have nw:∀ {b:Blk} {v:PV},(hs.new id b).map (λh=>R.val v h)=some r->Stays hs i:=by
  intro b v e;obtain⟨m,j,rfl⟩:=AA e;rcases hr with⟨k,hr⟩|hr<;>cases hr
  exact HL j
 have fr:∀ {L:List Nat} {v:PV},(freeze hs L).map (λh=>R.val v h)=some r->Stays hs i:=by
  intro L v e;obtain⟨m,j,rfl⟩:=AA e;rcases hr with⟨k,hr⟩|hr<;>cases hr
  exact CY L j
 have same:∀ {v:PV},R.val v hs=r->Stays hs i:=by
  intro v e;subst e;rcases hr with⟨k,hr⟩|hr<;>cases hr
  exact .refl _
 cases z with
 |alloc _=>
  simp only at e;unfold Ci at e;split at e
  ·exact nw e
  ·cases e
 |box _ x=>
  obtain⟨p,_,e⟩:=Aa e;unfold FU at e;split at e
  ·cases e
  ·exact nw e
 |makeMap ty rs=>
  cases rs with
  |none=>exact nw e
  |some _=>cases e
 |makeSlice _ x y=>
  obtain⟨p,q,_,_,e⟩:=CL e;unfold Cy at e;simp only[aA]at e
  repeat' split at e
  all_goals first|(cases e;done)|exact nw e
 |buildSlice ty n B=>
  simp only at e;split at e
  ·unfold Ag at e;simp only[aA]at e
   repeat' split at e
   all_goals first|(cases e;done)|exact fr e
  ·cases e
 |slice ty x lo hi mx=>
  simp only at e;split at e
  ·obtain⟨p,_,e⟩:=Aa e;unfold Ak DU at e;simp only[aA]at e
   repeat' split at e
   all_goals first|(cases e;done)|exact fr e|exact same (Option.some.inj e)
  ·cases e
 |store _ x y=>
  obtain⟨p,q,_,_,e⟩:=CL e;unfold BE at e;simp only[aA]at e
  repeat' split at e
  all_goals first|(cases e;done)|skip
  all_goals
   obtain⟨m,j,rfl⟩:=AA e;rcases hr with⟨k,hr⟩|hr<;>cases hr
   refine FP (by assumption) j λh=> ?_;cases h
 |call c=>
  simp only[As,EX,quiet]at a d l;simp only at e;split at e
  ·cases hc:c.callee with
   |builtin b=>
    simp only[hc]at a d l;by_cases u:b=.copy
    ·subst u;simp only[hc]at e;simp only[AH,aA]at e
     repeat' split at e
     all_goals first|(cases e;done)|skip
     all_goals
      obtain⟨m,j,rfl⟩:=AA e;rcases hr with⟨k,hr⟩|hr<;>cases hr
      refine FP (by assumption) j λh=> ?_;cases h
    ·cases b<;>simp_all
   |value f=>
    simp only[hc]at e;obtain⟨p,_,e⟩:=Aa e;unfold Hl at e;split at e
    ·obtain⟨g,s,rfl⟩:=Dc e;rcases hr with⟨k,hr⟩|hr<;>cases hr
    ·cases e;rcases hr with⟨k,hr⟩|hr<;>cases hr
    ·cases e
   |invoke C A=>
    simp only[hc]at e;obtain⟨p,_,e⟩:=Aa e;obtain⟨g,s,rfl⟩:=Dc e;rcases hr with⟨k,hr⟩|hr<;>cases hr
  ·cases e
 |lookup _ _ _ _=>cases a
 |mapUpdate _ _ _ _=>cases a
 |insert _ _ _ _=>cases a
 |defer _=>cases a
 |panic _=>cases a
 |_=>first|cases l|cases e
theorem H4(s:Eb hs h)(d:hs.get id=none->h.get id=none){f:FuncId}{args:List PV}{v:PV}(e:A6 (λ_=>false) rec id f args hs=some (.ret v,h1)) :
  (∃ t,A6 (λ_=>false) rec id f args h=some (.ret v,t)/\Lay hs h h1 t id)/\(flat v=true->h1=hs)/\Stays hs h1:=by
 unfold A6 at e ⊢;simp only[cond_false]at e ⊢;split at e
 ·rename_i B l y;rw[IV s y];dsimp only;split at e
  ·rename_i r F h' g
   try simp only[g]
   obtain⟨⟨q,D⟩,a,e⟩:=AA e;cases e;unfold Al at a ⊢;split at a
   ·rename_i len A ex x
    try dsimp only
    split at a
    ·rename_i C c;obtain⟨w,i,a⟩:=AA a;cases a;cases b:BJ A with
     |true=>
      simp only[b,cond_true]at c ⊢;cases c;obtain⟨m,j,o⟩:=(Lay.refl s id).new d i;refine⟨⟨m,by simp only[j,ap],o⟩,(by intro h;cases h),HL i⟩
     |false=>
      simp only[b,cond_false]at c ⊢;obtain⟨u,k,p⟩:=Lay.freeze l (Lay.refl s id) c;obtain⟨m,j,o⟩:=p.new d i;refine⟨⟨m,by simp only[k,j,ap],o⟩,(by intro h;cases h),(CY l c).trans (HL i)⟩
    ·cases a
   ·rename_i x
    try dsimp only
    split at a
    ·rename_i z E n
     try simp only[n]
     cases b:flat z with
     |true=>
      simp only[b,cond_true]at a ⊢;cases a;exact⟨⟨h,rfl,.refl s id⟩,λ_=>rfl,.refl _⟩
     |false=>
      simp only[b,cond_false]at a ⊢;obtain⟨w,c,a⟩:=AA a;cases a;obtain⟨u,k,p⟩:=Lay.freeze l (Lay.refl s id) c;exact⟨⟨u,by simp only[k,ap],p⟩,(by intro h;rw[b]at h;cases h),CY l c⟩
    ·cases a
  ·split at e
   ·replace e:=Ac e;cases e.2
   ·cases e
  ·cases e
 ·cases e
end
end
section
variable[Gl]
section
theorem Ed(m k:Nat):Fh m k=m.testBit k:=by
 unfold Fh;show(!aa (m &&& 2 ^ k) 0)=m.testBit k;cases b:m.testBit k with
 |false=>
  have:m &&& 2 ^ k=0:=by
   apply Nat.eq_of_testBit_eq;intro j;rw[co,ca,Nat.zero_testBit];by_cases c:k=j
   ·subst c;simp[b]
   ·simp[c]
  rw[this];rfl
 |true=>
  have:m &&& 2 ^ k≠0:=by
   intro d;have a:(m &&& 2 ^ k).testBit k=true:=by rw[co,b,ca];simp
   rw[d]at a;simp at a
  rw[Fc this];rfl
theorem E6(a b k:Nat):Fh (bX a b) k=(Fh a k||Fh b k):=by
 simp only[Ed];exact Nat.testBit_or a b k
theorem GC(j k:Nat):Fh (Nat.pow 2 j) k=decide (j=k):=by
 rw[Ed];exact ca
theorem Hx{a b:Nat}(h:HN a b=true)(k:Nat):¬ (Fh a k=true/\Fh b k=true):=by
 unfold HN at h;have e:a &&& b=0:=al h;rintro⟨c,d⟩;rw[Ed]at c d;have:(a &&& b).testBit k=true:=by rw[co,c,d];rfl
 rw[e]at this;simp at this
theorem Hf:∀ {l:List Operand} {k:Nat},.tmp k∈l->Fh (ES l) k=true
 |[],k,h=>by simp at h
 |o::l,k,h=>by
  unfold ES;rw[E6];simp only[ae]at h;rcases h with rfl|h
  ·simp only[P7,GC];simp
  ·rw[Hf h];simp
theorem BB{a b:List Nat}(h:CZ a b=false)(x:Nat):¬ (x∈a/\x∈b):=by
 induction a with
 |nil=>simp
 |cons y a d=>
  unfold CZ at h;simp only[am]at h;rintro⟨h1,c⟩;simp only[ae]at h1;rcases h1 with rfl|h1
  ·rw[List.any_eq_false]at h;exact h.1 x c (by simp)
  ·exact d h.2 ⟨h1,c⟩
theorem FH:∀ (a:List Nat),CZ a []=false
 |[]=>rfl
 |x::a=>by unfold CZ;rw[FH a];rfl
variable{P:Program}{rec:HM}
def Ic(nt:Nat)(a:Option Nat)(v:PV)(t b:T PV):Prop:=match a with
 |none=>b=t
 |some d=>d<nt/\b=T.put 20 t d v
structure Tr where
 ts:Nat->T PV
 hp:Nat->Hp
 rd:Nat->List Nat
 wr:Nat->List Nat
def Tr.StepAt(P:Program)(rec:HM)(base nt:Nat)(opsl:List Oper)(a:Tr)(j:Nat)(o:Oper):Prop:=
 (A4 opsl (a.ts j) o.guard=true /\ ∃ v,Aw P rec (a.ts j) (a.hp j) (base+j) o=some (v,a.hp (j+1),a.rd j,a.wr j)/\Ic nt o.dst v (a.ts j) (a.ts (j+1))) \/
 (A4 opsl (a.ts j) o.guard=false/\a.hp (j+1)=a.hp j/\a.rd j=[]/\a.wr j=[]/\Ic nt o.dst (.tup []) (a.ts j) (a.ts (j+1)))
def Tr.Clear(a:Tr)(b j k:Nat):Prop:=Fh b k=true\/(CZ (a.wr k) (a.rd j)=false/\CZ (a.wr j) (a.rd k)=false)
theorem Fv{b:Nat}{rd wr:List Nat}:∀ {a:List (Nat×List Nat×List Nat)},Fu b rd wr a=true -> ∀ k r w,(k,r,w)∈a->Fh b k=true\/(CZ w rd=false/\CZ wr r=false)
 |[],_,k,r,w,h=>by simp at h
 |(k0,r0,w0)::a,e,k,r,w,h=>by
  unfold Fu at e;simp only[ai,bE,bh,am]at e;simp only[ae]at h;rcases h with h|h
  ·cases h;exact e.1
  ·exact Fv e.2 k r w h
theorem K5{base nt:Nat}{opsl:List Oper}{K:T PV}{h':Hp}:∀ (l:List Oper) (D:List Mk) (i:Nat) (b:List (Nat×List Nat×List Nat)) (t:T PV) (h:Hp),
  AY P rec base nt opsl i l D b t h=some (K,h') -> ∀ (g n:Nat->List Nat),(∀ k,k<i->(k,g k,n k)∈b\/(g k=[]/\n k=[])) ->
  ∃ f:Tr,f.ts i=t/\f.hp i=h/\f.ts (i+l.length)=K/\f.hp (i+l.length)=h'/\(∀ k,k<i->f.rd k=g k/\f.wr k=n k) /\
   ∀ j o m,l[j]?=some o->D[j]?=some m->f.StepAt P rec base nt opsl (i+j) o /\ ∀ k,k<i+j->f.Clear m.bef (i+j) k
 |[],D,i,b,t,h,e,g,n,hpast=>by
  unfold AY at e;cases e;exact⟨⟨λ_=>K,λ_=>h',g,n⟩,rfl,rfl,rfl,rfl,λ_ _=>⟨rfl,rfl⟩,λj o m G=>by simp at G⟩
 |o::l,[],i,b,t,h,e,g,n,hpast=>by unfold AY at e;cases e
 |o::l,m::D,i,b,t,h,e,g,n,hpast=>by
  unfold AY at e
  have s:∀ {v:PV} {M:T PV} {E:Hp} {p q:List Nat} {c:List (Nat×List Nat×List Nat)},AY P rec base nt opsl (i+1) l D c M E=some (K,h')->Ic nt o.dst v t M ->
    (A4 opsl t o.guard=true/\Aw P rec t h (base+i) o=some (v,E,p,q)\/A4 opsl t o.guard=false/\E=h/\p=[]/\q=[]/\v=.tup []) ->
    (∀ k r w,(k,r,w)∈b->(k,r,w)∈c)->((i,p,q)∈c\/(p=[]/\q=[]))->(∀ k r w,(k,r,w)∈b->Fh m.bef k=true\/(CZ w p=false/\CZ q r=false)) ->
    ∃ f:Tr,f.ts i=t/\f.hp i=h/\f.ts (i+(o::l).length)=K/\f.hp (i+(o::l).length)=h'/\(∀ k,k<i->f.rd k=g k/\f.wr k=n k) /\
     ∀ j o' L,(o::l)[j]?=some o'->(m::D)[j]?=some L->f.StepAt P rec base nt opsl (i+j) o' /\ ∀ k,k<i+j->f.Clear L.bef (i+j) k:=by
   intro v M E p q c e1 AG C J S u
   obtain⟨f,k1,k2,k3,k4,Y,k6⟩:=K5 l D (i+1) c M E e1 (λk=>if k=i then p else g k) (λk=>if k=i then q else n k) (by
    intro k U;by_cases I:k=i
    ·subst I;simpa using S
    ·simp only[if_neg I];rcases hpast k (by omega)with hp|hp
     ·exact .inl (J _ _ _ hp)
     ·exact .inr hp)
   obtain⟨x,y⟩:=Y i (by omega);simp only[if_true]at x y;refine⟨⟨λk=>if k=i then t else f.ts k,λk=>if k=i then h else f.hp k,f.rd,f.wr⟩,by simp,by simp,?_,?_,?_,?_⟩
   ·simp only[aV];rw[if_neg (by omega),show i+(l.length+1)=i+1+l.length by omega];exact k3
   ·simp only[aV];rw[if_neg (by omega),show i+(l.length+1)=i+1+l.length by omega];exact k4
   ·intro k U;have:=Y k (by omega);simp only[if_neg (show k≠i by omega)]at this;exact this
   ·intro j o' L G B;cases j with
    |zero=>
     simp only[aZ,Option.some.injEq]at G B;subst G;subst B;simp only[bl];constructor
     ·rcases C with⟨N,O⟩|⟨N,O,a3,a4,a5⟩
      ·refine .inl ⟨by simpa using N,v,?_,?_⟩
       ·simp only[if_true,if_neg (show i+1≠i by omega)];rw[k2,x,y];exact O
       ·simp only[if_true,if_neg (show i+1≠i by omega)];rw[k1];exact AG
      ·refine .inr ⟨by simpa using N,?_,by rw[x,a3],by rw[y,a4],?_⟩
       ·simp only[if_true,if_neg (show i+1≠i by omega)];rw[k2,O]
       ·simp only[if_true,if_neg (show i+1≠i by omega)];rw[k1,<- a5];exact AG
     ·intro k U;have z:=Y k (by omega);simp only[if_neg (show k≠i by omega)]at z;unfold Tr.Clear;simp only[x,y,z.1,z.2];rcases hpast k U with hp|⟨W,X⟩
      ·exact u _ _ _ hp
      ·rw[W,X];exact .inr ⟨rfl,FH _⟩
    |succ j=>
     obtain⟨q1,q2⟩:=k6 j o' L (by simpa using G) (by simpa using B);rw[show i+(j+1)=i+1+j by omega];refine⟨?_,q2⟩;unfold Tr.StepAt at q1 ⊢;simp only[if_neg (show i+1+j≠i by omega),if_neg (show i+1+j+1≠i by omega)];exact q1
  cases F:A4 opsl t o.guard with
  |true=>
   simp only[F,cond_true]at e;split at e
   ·rename_i v E p q Z;replace e:=Ac e;obtain⟨u,e⟩:=e;cases a:o.dst with
    |some d=>
     simp only[a]at e;replace e:=Ac e;obtain⟨A,e⟩:=e;exact s e (by rw[a];exact⟨by simpa using A,rfl⟩) (.inl ⟨F,Z⟩) (λk r w hp=>aw _ hp) (.inl cQ) (λk r w hp=>Fv u k r w hp)
    |none=>
     simp only[a]at e;exact s e (by rw[a];exact rfl) (.inl ⟨F,Z⟩) (λk r w hp=>aw _ hp) (.inl cQ) (λk r w hp=>Fv u k r w hp)
   ·cases e
  |false=>
   simp only[F,cond_false]at e;cases a:o.dst with
   |some d=>
    simp only[a]at e;replace e:=Ac e;obtain⟨A,e⟩:=e;exact s (v:=.tup []) e (by rw[a];exact⟨by simpa using A,rfl⟩) (.inr ⟨F,rfl,rfl,rfl,rfl⟩) (λk r w hp=>hp) (.inr ⟨rfl,rfl⟩) (λk r w hp=>.inr ⟨FH _,rfl⟩)
   |none=>
    simp only[a]at e;exact s (v:=.tup []) e (by rw[a];exact rfl) (.inr ⟨F,rfl,rfl,rfl,rfl⟩) (λk r w hp=>hp) (.inr ⟨rfl,rfl⟩) (λk r w hp=>.inr ⟨FH _,rfl⟩)
theorem HZ{m:Mk}:∀ {l:List Mk} {j:Nat},GZ m j l=true -> ∀ k x,l[k]?=some x->Fh m.bef (j+k)=true\/(HN x.wr (bX m.rd m.wr)=true/\HN x.rd m.wr=true)
 |[],j,_,k,x,h=>by simp at h
 |y::l,j,e,k,x,h=>by
  unfold GZ at e;simp only[ai,bE]at e;cases k with
  |zero=>simp only[aZ,Option.some.injEq]at h;subst h;exact e.1
  |succ k=>
   have:=HZ e.2 k x (by simpa using h)
   rwa [show j+1+k=j+(k+1) by omega]at this
def Ki(opsl:List Oper)(a:List Mk)(i:Nat)(o:Oper)(m:Mk):Prop:=
 m.rd=bX (ES (Az o.op)) (Dv opsl o.guard)/\m.wr=Fp o.dst/\m.bef=Co (a.take i) o.after.toList/\GM i o.after.toList=true/\GZ m 0 (a.take i)=true
theorem LM{opsl:List Oper}:∀ (l:List Oper) (i:Nat) (a c:List Mk),FG opsl i l a=some c->a.length=i ->
  (∃ b,c=a++b/\b.length=l.length) /\ ∀ j o,l[j]?=some o -> ∃ m,c[i+j]?=some m/\Ki opsl c (i+j) o m
 |[],i,a,c,e,hl=>by simp[FG]at e;subst e;exact⟨⟨[],by simp,rfl⟩,λj o h=>by simp at h⟩
 |o::l,i,a,c,e,hl=>by
  unfold FG at e;simp only at e;replace e:=Ac e;obtain⟨hc,e⟩:=e;simp only[ai]at hc;obtain⟨⟨b,d,k⟩,f⟩:=LM l (i+1) _ c e (by simp[hl]);refine⟨⟨_::b,by rw[d,bc];rfl,by simp[k]⟩,λj o' n=> ?_⟩;cases j with
  |zero=>
   simp only[aZ,Option.some.injEq]at n;subst n;have g:c.take i=a:=by rw[d,bc,<- hl];simp
   refine⟨{ rd:=bX (ES (Az o.op)) (Dv opsl o.guard),wr:=Fp o.dst,bef:=Co a o.after.toList },?_,?_⟩
   ·rw[d,<- hl];simp
   ·rw[bl];unfold Ki;rw[g];exact⟨rfl,rfl,rfl,hc.1,hc.2⟩
  |succ j=>
   obtain⟨m,p,q⟩:=f j o' (by simpa using n);rw[show i+(j+1)=i+1+j by omega];exact⟨m,p,q⟩
theorem EA{a:List Mk}:∀ {es:List Edge} {k:Nat},Fh (Co a es) k=true -> ∃ e∈es,Region.binds .any e=true/\(e.on=k \/ ∃ m,a[e.on]?=some m/\Fh m.bef k=true)
 |[],k,h=>by rw[Ed]at h;simp[Co]at h
 |e::es,k,h=>by
  unfold Co at h;cases b:Region.binds .any e with
  |true=>
   simp only[b,cond_true]at h;rw[E6,E6,GC]at h;simp only[bE,decide_eq_true_eq]at h;rcases h with (h|h)|h
   ·exact⟨e,by simp,b,.inl h⟩
   ·rw[AN]at h;cases i:a[e.on]? with
    |none=>rw[i,Ed]at h;simp at h
    |some m=>rw[i]at h;exact⟨e,by simp,b,.inr ⟨m,i,h⟩⟩
   ·obtain⟨c,d,f,g⟩:=EA h;exact⟨c,by simp[d],f,g⟩
  |false=>
   simp only[b,cond_false]at h;obtain⟨c,d,f,g⟩:=EA h;exact⟨c,by simp[d],f,g⟩
theorem El{i:Nat}:∀ {es:List Edge},GM i es=true -> ∀ e∈es,Region.binds .any e=true->e.on<i
 |[],_,e,he=>by simp at he
 |e0::es,h,e,he=>by
  unfold GM at h;simp only[ai,bE,bh,bW]at h;intro a;simp only[ae]at he;rcases he with rfl|he
  ·rcases h.1 with h1|h1
   ·rw[a]at h1;cases h1
   ·exact h1
  ·exact El h.2 e he a
end
end
section
variable[Gl]
section
theorem C1:∀ (n:Nat) (l:List Nat),l.Nodup->(∀ x∈l,x<n)->l.length<=n
 |0,l,_,h=>by
  cases l with
  |nil=>simp
  |cons a l=>have:=h a (by simp);omega
 |n+1,l,hn,h=>by
  by_cases d:n∈l
  ·have f:=C1 n (l.erase n) (hn.erase n) (λx b=>by
    have c:=(hn.mem_erase_iff).1 b;have:=h x c.2;have:=c.1
    omega)
   rw[cv d]at f;omega
  ·have:=C1 n l hn (λx b=>by
    have c:=h x b;have:x≠n:=by intro e;subst e;exact d b
    omega)
   omega
theorem Dx:∀ (n:Nat) (l:List Nat),(∀ x,x<n->x∈l)->n<=l.length
 |0,l,_=>by omega
 |n+1,l,h=>by
  have b:=Dx n (l.erase n) (λx c=>(List.mem_erase_of_ne (by omega)).2 (h x (by omega)));have a:=h n (by omega);rw[cv a]at b;have:0<l.length:=List.length_pos_of_mem a;omega
def Gq(ops:Array Oper)(l:List Nat):Prop:=∀ p i q,l=p++i::q -> ∀ o,ops[i]?=some o -> ∀ e∈o.after.toList,Region.binds .any e=true->e.on∈p
theorem LC{ops:Array Oper}{l:List Nat}{i:Nat}(k:Gq ops l)(hi:∀ o,ops[i]?=some o -> ∀ e∈o.after.toList,Region.binds .any e=true->e.on∈l):Gq ops (l++[i]):=by
 intro p j q f o g e a d;rcases List.eq_nil_or_concat q with rfl|⟨h,z,rfl⟩
 ·have:=cZ f (by simp);obtain⟨rfl,c⟩:=this;simp only[List.cons.injEq,and_true]at c;subst c;exact hi o g e a d
 ·have b:l++[i]=(p++j::h)++[z]:=by rw[f];simp
  have:=cZ b (by simp);exact k p j h this.1 o g e a d
theorem PJ{ops:Array Oper}(b:∀ i o,ops[i]?=some o -> ∀ e∈o.after.toList,Region.binds .any e=true->e.on<i) :
  ∀ (fuel t:Nat) (listed:Array Bool) (a:List Nat),fuel+a.length=ops.size->listed.size=ops.size->(∀ i,i<ops.size->listed[i]?=some (decide (i∈a)))->a.Nodup->(∀ i∈a,i<ops.size)->Gq ops a.reverse ->
  (Region.linearise.go .any ops fuel t listed a).Nodup/\(∀ i,i∈Region.linearise.go .any ops fuel t listed a<->i<ops.size)/\Gq ops (Region.linearise.go .any ops fuel t listed a)
 |0,t,listed,a,hf,hs,hl,hn,hlt,hp=>by
  simp only[Region.linearise.go];refine⟨List.pairwise_reverse.2 (hn.imp λh=>Ne.symm h),λi=>⟨λh=>hlt i (by simpa using h),λhi=> ?_⟩,hp⟩;rw[c0];by_cases n:i∈a
  ·exact n
  ·have:=C1 ops.size (i::a) (aT.2 ⟨n,hn⟩) (λx hx=>by
    simp only[ae]at hx;rcases hx with rfl|hx
    ·exact hi
    ·exact hlt x hx)
   simp only[aV]at this;omega
 |fuel+1,t,listed,a,hf,hs,hl,hn,hlt,hp=>by
  simp only[Region.linearise.go];generalize u:(bY ops.size).filter (λi=> !listed.getD i true&&((ops[i]?).map (λo=>o.after.all λe=> !Region.binds .any e||listed.getD e.on false)).getD false)=rs
  have q:∀ i,i∈rs<->i<ops.size/\i ∉ a /\ ∀ o,ops[i]?=some o -> ∀ e∈o.after.toList,Region.binds .any e=true->e.on∈a:=by
   intro i;rw[<- u,List.mem_filter,List.mem_range];constructor
   ·rintro⟨l,g⟩;simp only[ai,bh]at g;have r:=hl i l;refine⟨l,?_,?_⟩
    ·intro n;rw[aE,r]at g;simp[n]at g
    ·intro o f e d c;rw[f]at g;simp only[ap,aC,cb]at g;have:=g.2 e (bA.1 d);rw[c]at this;simp only[au,dt]at this;have p:=b i o f e d c;rw[aE,hl e.on (by omega)]at this;simpa using this
   ·rintro⟨l,g,B⟩;refine⟨l,?_⟩;simp only[ai,bh];refine⟨by rw[aE,hl i l];simpa using g,?_⟩;rw[an l];simp only[ap,aC,cb];intro e d;cases c:Region.binds .any e with
    |false=>rfl
    |true=>
     simp only[au,dt];have f:=an l;have p:=b i _ f e (bA.2 d) c;rw[aE,hl e.on (by omega)];simpa using B _ f e (bA.2 d) c
  have s:rs≠[]:=by
   intro A
   have all:∀ i,i<ops.size->i∈a:=by
    intro i
    induction i using dm with
    |_ i C=>
     intro hi;by_cases n:i∈a
     ·exact n
     ·have:i∈rs:=(q i).2 ⟨hi,n,λo f e d c=>C e.on (b i o f e d c) (by have:=b i o f e d c;omega)⟩;rw[A]at this;simp at this
   have:=Dx ops.size a all;omega
  have k:t % rs.length<rs.length:=Nat.mod_lt _ (List.length_pos_iff.2 s);rw[ad k];simp only;obtain⟨w,y,z⟩:=(q _).1 (List.getElem_mem k);generalize rs[t % rs.length]=i at w y z;refine PJ b fuel _ _ (i::a) (by simp only[aV];omega) (by simpa using hs) ?_ (aT.2 ⟨y,hn⟩) ?_ ?_
  ·intro j hj;rw[Array.getElem?_setIfInBounds];by_cases m:i=j
   ·subst m;rw[if_pos rfl,if_pos (by omega)];simp
   ·rw[if_neg m,hl j hj];simp[Ne.symm m]
  ·intro j hj;simp only[ae]at hj;rcases hj with rfl|hj
   ·exact w
   ·exact hlt j hj
  ·rw[List.reverse_cons];exact LC hp λo f e d c=>by rw[c0];exact z o f e d c
theorem P2{ops:Array Oper}{mixed:Bool}(b:(mixed || !Region.departs ops)=true)(a:∀ i o,ops[i]?=some o -> ∀ e∈o.after.toList,Region.binds .any e=true->e.on<i)(t:Nat) :
  (Region.schedule mixed ops t).Nodup/\(∀ i,i∈Region.schedule mixed ops t<->i<ops.size)/\Gq ops (Region.schedule mixed ops t):=by
 unfold Region.schedule;rw[if_pos b];unfold Region.linearise;exact PJ a ops.size t _ [] (by simp) (by simp) (λi hi=>by simp[hi]) List.nodup_nil (by simp) (by intro p i q h;simp at h)
theorem RP{ops:Array Oper}{w:List Mk}(s:∀ j o,ops.toList[j]?=some o -> ∃ m,w[j]?=some m/\Ki ops.toList w j o m){σ:List Nat}(hσ:Gq ops σ) :
  ∀ (i:Nat) (o:Oper) (m:Mk),ops[i]?=some o->w[i]?=some m -> ∀ p q,σ=p++i::q -> ∀ k,Fh m.bef k=true->k∈p:=by
 intro i
 induction i using dm with
 |_ i B=>
  intro o m t A p q x k y;obtain⟨F,g,a⟩:=s i o (by simpa using t);rw[A]at g;cases g;rw[a.2.2.1]at y;obtain⟨e,b,c,n⟩:=EA y;have f:=El a.2.2.2.1 e b c;have d:=hσ p i q x o t e b c;rcases n with rfl|⟨C,l,r⟩
  ·exact d
  ·obtain⟨D,E,z⟩:=cO d;rw[aB,if_pos f]at l;have hi:i<ops.size:=(bG.1 t).1;have u:=an (xs:=ops) (i:=e.on) (by omega);have:=B e.on f _ C u l D (E++i::q) (by rw[x,z];simp) k r;rw[z];simp[this]
end
end
section
variable[Gl]
section
variable{P:Program}{rec:HM}
def QI(n:Nat)(ops:Array Oper)(b:Tr)(a:List Nat)(t:T PV):Prop:=
 ∀ k m,m<=n->(∀ j o,ops[j]?=some o->o.dst=some k->(j∈a<->j<m))->t.get k=(b.ts m).get k
def QH(n:Nat)(b:Tr)(a:List Nat)(h:Hp):Prop:=
 ∀ x m,m<=n->(∀ j,j<n->x∈b.wr j->(j∈a<->j<m))->h.get x=(b.hp m).get x
theorem HR{t tS:T PV}{h hS h':Hp}{id:Nat}{o:Oper}{v:PV}{rd wr:List Nat}(e:Aw P rec t h id o=some (v,h',rd,wr))(W:Fg t tS (Az o.op))(hh:∀ x∈rd,hS.get x=h.get x) :
  ∃ hS',((AQ P tS hS id o=some (.val v hS'))\/(AQ P tS hS id o=some (.skip hS')/\v=.tup []) \/ ∃ f args,AQ P tS hS id o=some (.call f args)/\A6 (λ_=>false) rec id f args hS=some (.ret v,hS')) /\
   (∀ x,x ∉ wr->hS'.get x=hS.get x/\h'.get x=h.get x)/\(∀ x,x∈wr->x∈rd/\hS'.get x=h'.get x):=by
 unfold Aw at e;simp only at e;replace e:=Bo e;obtain⟨hc,e⟩:=e;simp only[am,Bool.not_eq_false',bW]at hc;obtain⟨j,r⟩:=hc
 have sub:∀ {l:List Nat},(∀ x∈l,x∈rd)->Eb (h.cut l) hS:=by
  intro l g x b hx;obtain⟨d,p⟩:=Dq hx;rw[hh x (g x d)];exact p
 have q:∀ {l:List Nat},id∈l->(∀ x∈l,x∈rd)->(h.cut l).get id=none->hS.get id=none:=by
  intro l k g hx;rw[DV,if_pos ⟨k,r⟩]at hx;rw[hh id (g id k)];exact hx
 have u:∀ {l:List Nat} {x:Nat} {b:Blk},(h.cut l).get x=some b->x∈l:=λhx=>(Dq hx).1
 have lay:∀ {l A:List Nat} {d hS':Hp},id∈l->(∀ x∈l,x∈rd)->Lay (h.cut l) hS d hS' id->over d l h=some h'->(∀ x∈A,x∈l)->(∀ x∈l,x ∉ A -> ∃ b,h.get x=some b/\Qc b)->Stays (h.cut l) d\/(∀ x∈l,x∈A) ->
   (∀ x,x ∉ A->hS'.get x=hS.get x/\h'.get x=h.get x)/\(∀ x,x∈A->x∈rd/\hS'.get x=h'.get x):=by
  intro l A d hS' k g m I X S hst;refine⟨λx hx=> ?_,λx hx=> ?_⟩
  ·by_cases a:x∈l
   ·rcases hst with hst|hst
    ·obtain⟨b,N,O⟩:=S x a hx;have Y:x<x+1 \/ ¬ x<x+1:=by omega
     rcases Y with U|hge
     ·have B:=hst x b (by rw[DV,if_pos ⟨a,U⟩];exact N) O;refine⟨by rw[m.get,B,hh x (g x a),N],by rw[Ct I,if_pos a,B,N]⟩
     ·have G:d.get x=none:=by
       cases E:d.get x with
       |none=>rfl
       |some c=>
        rcases m.keys x c E with⟨b0,s⟩|rfl
        ·rw[DV,if_neg (λh=>hge h.2)]at s;cases s
        ·exact absurd r hge
      exact⟨by rw[m.get,G],by rw[Ct I,if_pos a,G]⟩
    ·exact absurd (hst x a) hx
   ·have G:d.get x=none:=by
     cases E:d.get x with
     |none=>rfl
     |some c=>
      rcases m.keys x c E with⟨b0,s⟩|rfl
      ·exact absurd (u s) a
      ·exact absurd k a
    exact⟨by rw[m.get,G],by rw[Ct I,if_neg a]⟩
  ·have a:=X x hx;refine⟨g x a,?_⟩;rw[m.get,Ct I,if_pos a];cases d.get x with
   |some b=>rfl
   |none=>exact hh x (g x a)
 have same:∀ {l:List Nat} {hS':Hp},(∀ x∈l,x∈rd)->Lay (h.cut l) hS (h.cut l) hS' id->h'=h->(∀ x,x ∉ ([]:List Nat)->hS'.get x=hS.get x/\h'.get x=h.get x)/\(∀ x,x∈([]:List Nat)->x∈rd/\hS'.get x=h'.get x):=by
  intro l hS' g m he;refine⟨λx _=>⟨?_,by rw[he]⟩,λx hx=>by simp at hx⟩;rw[m.get];cases E:(h.cut l).get x with
  |none=>rfl
  |some b=>exact(sub g x b E).symm
 split at e
 ·rename_i M d i;rw[EB j W]at i;cases J:quiet o.op with
  |true=>
   simp only[J,cond_true,Option.some.injEq,Prod.mk.injEq]at e;obtain⟨rfl,rfl,rfl,rfl⟩:=e;have C:=GO J j i;subst C;have g:∀ x∈id::Au t h o.op,x∈id::Au t h o.op:=λx hx=>hx;obtain⟨hS',e2,m⟩:=Ce (sub g) (q (by simp) g) j i;exact⟨hS',.inl e2,same g m rfl⟩
  |false=>
   simp only[J,cond_false]at e;obtain⟨p,n,e⟩:=AA e;simp only[Prod.mk.injEq]at e;obtain⟨rfl,rfl,rfl,rfl⟩:=e;have g:∀ x∈id::Au t h o.op,x∈id::Au t h o.op:=λx hx=>hx;obtain⟨hS',e2,m⟩:=Ce (sub g) (q (by simp) g) j i;refine⟨hS',.inl e2,?_⟩;cases Z:EX o.op with
   |true=>exact lay (by simp) g m n (λx hx=>hx) (λx d p=>absurd d p) (.inr λx hx=>hx)
   |false=>exact lay (by simp) g m n (λx hx=>Ah hx) (λx d p=>By d p) (.inl (GP j Z J i _ (.inl ⟨_,rfl⟩)))
 ·rename_i d i;rw[EB j W]at i;replace e:=Bo e;obtain⟨z,e⟩:=e;simp only[am]at z;obtain⟨p,n,e⟩:=AA e;simp only[Prod.mk.injEq]at e;obtain⟨rfl,rfl,rfl,rfl⟩:=e;have g:∀ x∈id::Au t h o.op,x∈id::Au t h o.op:=λx hx=>hx;obtain⟨hS',e2,m⟩:=Ce (sub g) (q (by simp) g) j i;have hst:Stays (h.cut (id::Au t h o.op)) d:=GP j z.2 z.1 i _ (.inr rfl);exact⟨hS',.inr (.inl ⟨e2,rfl⟩),lay (by simp) g m n (λx hx=>Ah hx) (λx d p=>By d p) (.inl hst)⟩
 ·rename_i f args i;rw[EB j W]at i;split at e
  ·rename_i as l hp;split at e
   ·rename_i M d w
    have key:(∀ x∈id::Au t h o.op,x∈rd) -> ∀ (g:∀ x∈id::l,x∈rd),∃ hS',AQ P tS hS id o=some (.call f args)/\A6 (λ_=>false) rec id f args hS=some (.ret M,hS')/\Lay (h.cut (id::l)) hS d hS' id/\(flat M=true->d=h.cut (id::l))/\Stays (h.cut (id::l)) d:=by
     intro F g;have D:AQ P tS hS id o=some (.call f args):=Ce (sub F) (q (by simp) F) j i;obtain⟨⟨hS',e3,m⟩,K,L⟩:=H4 (sub g) (q (by simp) g) w;exact⟨hS',D,e3,m,K,L⟩
    cases y:flat M with
    |true=>
     simp only[y,cond_true,Option.some.injEq,Prod.mk.injEq]at e;obtain⟨rfl,rfl,rfl,rfl⟩:=e
     have k:∀ x∈id::l,x∈(id::Au t h o.op)++l:=λx hx=>by
      simp only[ae,ao]at hx ⊢;rcases hx with rfl|hx
      ·exact .inl (.inl rfl)
      ·exact .inr hx
     obtain⟨hS',e2,e3,m,K,L⟩:=key (λx hx=>ak _ hx) k;have:=K y;subst this;exact⟨hS',.inr (.inr ⟨f,args,e2,e3⟩),same k m rfl⟩
    |false=>
     simp only[y,cond_false]at e;obtain⟨p,n,e⟩:=AA e;simp only[Prod.mk.injEq]at e;obtain⟨rfl,rfl,rfl,rfl⟩:=e
     have k:∀ x∈id::l,x∈(id::Au t h o.op)++l:=λx hx=>by
      simp only[ae,ao]at hx ⊢;rcases hx with rfl|hx
      ·exact .inl (.inl rfl)
      ·exact .inr hx
     obtain⟨hS',e2,e3,m,K,L⟩:=key (λx hx=>ak _ hx) k;exact⟨hS',.inr (.inr ⟨f,args,e2,e3⟩),lay (by simp) k m n (λx hx=>Ah hx) (λx d p=>By d p) (.inl L)⟩
   ·cases e
  ·cases e
 ·cases e
end
end
section
variable[Gl]
section
variable{P:Program}{rec:HM}
theorem HG{nt:Nat}{dst:Option Nat}{v:PV}{t t':T PV}(hnt:nt <= 1048575)(h:Ic nt dst v t t'){k:Nat}(hk:dst ≠ some k):t'.get k=t.get k:=by
  unfold Ic at h;cases hd:dst with
  |none=>rw[hd]at h;rw[show t'=t from h]
  |some d=>
    rw[hd]at h;obtain⟨h1,rfl⟩:=h
    rw [T.get_put 20 t d v k (by have : (2 : Nat) ^ 20 - 1 = 1048575 := by decide
                                 omega),if_neg (by intro e;subst e;exact hk hd)]
theorem Ld{nt d:Nat}{v:PV}{t t':T PV}(hnt:nt <= 1048575)(h:Ic nt (some d) v t t'):d < nt /\ t'.get d=some v:=by
  obtain⟨h1,rfl⟩:=h
  exact ⟨h1, by rw [T.get_put 20 t d v d (by have : (2 : Nat) ^ 20 - 1 = 1048575 := by decide
                                             omega),if_pos rfl]⟩
theorem Ls {base nt n : Nat} {opsl : List Oper} {tr : Tr} (hst : ∀ j, j < n -> ∃ o, opsl[j]? = some o /\ tr.StepAt P rec base nt opsl j o)
    (hun:∀ j,j < n -> ∀ x,x ∉ tr.wr j -> (tr.hp (j + 1)).get x=(tr.hp j).get x) {x a:Nat}:∀ b,a <= b -> b <= n -> (∀ j,a <= j -> j < b -> x ∉ tr.wr j) -> (tr.hp b).get x=(tr.hp a).get x
  | 0, ha, _, _ => by have : a = 0 := by omega
                      subst this;rfl
  |b + 1,ha,hb,h=>by
    by_cases he:a=b + 1
    · subst he;rfl
    · rw[hun b (by omega) x (h b (by omega) (by omega)),Ls hst hun b (by omega) (by omega) fun j h1 h2=>h j h1 (by omega)]
theorem Lt{n:Nat}{ops:Array Oper}{tr:Tr}(hun:∀ j o,j < n -> ops[j]?=some o -> ∀ k,o.dst ≠ some k -> (tr.ts (j + 1)).get k=(tr.ts j).get k)(hops:ops.size=n){k a:Nat}:∀ b,a <= b -> b <= n -> (∀ j o,a <= j -> j < b -> ops[j]?=some o -> o.dst ≠ some k) -> (tr.ts b).get k=(tr.ts a).get k
  | 0, ha, _, _ => by have : a = 0 := by omega
                      subst this;rfl
  |b + 1,ha,hb,h=>by
    by_cases he:a=b + 1
    · subst he;rfl
    · have ho:=an (xs:=ops) (i:=b) (by omega)
      rw[hun b _ (by omega) ho k (h b _ (by omega) (by omega) ho),Lt hun hops b (by omega) (by omega) fun j o h1 h2 h3=>h j o h1 (by omega) h3]
theorem K6{ops:Array Oper}{t tS:T PV}{g:Option (Nat×Bool)}(h:∀ k,Fh (Dv ops.toList g) k=true->tS.get k=t.get k):A4 ops.toList tS g=A4 ops.toList t g:=by
 unfold A4;cases g with
 |none=>rfl
 |some g=>
  obtain⟨j,a⟩:=g;simp only;cases c:lget ops.toList j with
  |none=>rfl
  |some o=>
   simp only;cases b:o.dst with
   |none=>rfl
   |some d=>
    simp only;rw[h d (by simp only[Dv,c,b,Fp,GC];simp)]
theorem Oq(R:RecOK P rec):E1 P rec:=by
 intro ops base fr fr' h h' e hm M μ w b a cs k t s f;unfold drawn at e;split at e
 ·rename_i ms hmarks;split at e
  ·rename_i tE hE hgo;cases e
   let n:=ops.size
   obtain⟨⟨ms',hms',hmslen⟩,hms⟩:=LM ops.toList 0 [] ms hmarks rfl;simp only[aQ]at hms;obtain⟨g,k1,k2,k3,k4,_,k6⟩:=K5 ops.toList ms 0 [] fr.t h hgo (λ_=>[]) (λ_=>[]) (λk Z=>by omega);simp only[aQ,Array.length_toList]at k3 k4 k6;have hnt:fr.nt<=1048575:=by have:=f.t.1;omega
   have K:∀ j,j<n -> ∃ o m,ops[j]?=some o/\ms[j]?=some m/\Ki ops.toList ms j o m/\g.StepAt P rec base fr.nt ops.toList j o /\ ∀ k,k<j->g.Clear m.bef j k:=by
    intro j J;have E:ops[j]?=some ops[j]:=an J;obtain⟨m,hm1,hm2⟩:=hms j ops[j] (by simp);obtain⟨q1,q2⟩:=k6 j ops[j] m (by simp) hm1;exact⟨_,m,E,hm1,hm2,q1,q2⟩
   have hedge:∀ i o,ops[i]?=some o -> ∀ e∈o.after.toList,Region.binds .any e=true->e.on<i:=by
    intro i o E e X hb;obtain⟨m,_,hm2⟩:=hms i o (by simpa using E);exact El hm2.2.2.2.1 e X hb
   obtain⟨sn,smem,spre⟩:=P2 (mixed:=P.follows .mixedOrders) hm hedge t;generalize Region.schedule (P.follows .mixedOrders) ops t=σ at sn smem spre;have befIn:=RP hms spre
   have tclear:∀ i o m,ops[i]?=some o->ms[i]?=some m->Ki ops.toList ms i o m -> ∀ j o' F,ops[j]?=some o'->ms[j]?=some F->Ki ops.toList ms j o' F->j<i ->
     Fh m.bef j=true\/(HN F.wr (bX m.rd m.wr)=true/\HN F.rd m.wr=true):=by
    intro i o m E C A j o' F c W Y S;have:=HZ A.2.2.2.2 j F (by rw[aB,if_pos S];exact W);simpa using this
   have place:∀ {p:List Nat} {i:Nat} {q:List Nat},σ=p++i::q -> ∀ o m,ops[i]?=some o->ms[i]?=some m->Ki ops.toList ms i o m ->
     i ∉ p/\(∀ j,Fh m.bef j=true->j∈p)/\(∀ j o' F,ops[j]?=some o'->ms[j]?=some F->Fh F.bef i=true->j ∉ p):=by
    intro p i q X o m E C A;rw[X]at sn
    have hip:i ∉ p:=by
     intro y;have:=(List.nodup_append.1 sn).2.2 i y i (by simp);exact this rfl
    refine⟨hip,λj J=>befIn i o m E C p q X j J,?_⟩;intro j o' F c W hb y;obtain⟨p1,p2,hp⟩:=cO y;have:=befIn j o' F c W p1 (p2++i::q) (by rw[X,hp];simp) i hb;exact hip (by rw[hp];simp[this])
   have claimT:∀ {p:List Nat} {i:Nat} {q:List Nat},σ=p++i::q -> ∀ o m,ops[i]?=some o->ms[i]?=some m->Ki ops.toList ms i o m -> ∀ d,(Fh m.rd d=true\/Fh m.wr d=true) ->
     ∀ j o',ops[j]?=some o'->o'.dst=some d->(j∈p<->j<i):=by
    intro p i q X o m E C A d L j o' c l;obtain⟨hip,hb1,hb2⟩:=place X o m E C A;have J:j<n:=(bG.1 c).1;obtain⟨o2,F,ho2,W,Y,_,_⟩:=K j J;rw[c]at ho2;cases ho2;have hwj:Fh F.wr d=true:=by rw[Y.2.1,l];simp only[Fp,GC];simp
    rcases da j i with S|rfl|hgt
    ·refine⟨λ_=>S,λ_=> ?_⟩;rcases tclear i o m E C A j o' F c W Y S with hb|⟨c1,_⟩
     ·exact hb1 j hb
     ·exact absurd ⟨hwj,by rw[E6];rcases L with h|h<;>simp[h]⟩ (Hx c1 d)
    ·exact⟨λh=>absurd h hip,λh=>by omega⟩
    ·refine⟨λy=> ?_,λh=>by omega⟩;rcases tclear j o' F c W Y i o m E C A hgt with hb|⟨c1,c2⟩
     ·exact absurd y (hb2 j o' F c W hb)
     ·rcases L with h|h
      ·exact absurd ⟨h,hwj⟩ (Hx c2 d)
      ·exact absurd ⟨h,by rw[E6,hwj];simp⟩ (Hx c1 d)
   have claimH:∀ {p:List Nat} {i:Nat} {q:List Nat},σ=p++i::q->i<n -> ∀ x,x∈g.rd i -> ∀ j,j<n->x∈g.wr j->(j∈p<->j<i):=by
    intro p i q X hi x B j J G;obtain⟨o,m,E,C,A,D,hcl⟩:=K i hi;obtain⟨o',F,c,W,Y,hstep',hcl'⟩:=K j J;obtain⟨hip,hb1,hb2⟩:=place X o m E C A;rcases da j i with S|rfl|hgt
    ·refine⟨λ_=>S,λ_=> ?_⟩;rcases hcl j S with hb|⟨c1,c2⟩
     ·exact hb1 j hb
     ·exact absurd ⟨G,B⟩ (BB c1 x)
    ·exact⟨λh=>absurd h hip,λh=>by omega⟩
    ·refine⟨λy=> ?_,λh=>by omega⟩;rcases hcl' i hgt with hb|⟨c1,c2⟩
     ·exact absurd y (hb2 j o' F c W hb)
     ·exact absurd ⟨G,B⟩ (BB c2 x)
   have unH:∀ j,j<n->(∀ x,x ∉ g.wr j->(g.hp (j+1)).get x=(g.hp j).get x)/\(∀ x,x∈g.wr j->x∈g.rd j):=by
    intro j J;obtain⟨o,m,E,C,A,D,hcl⟩:=K j J;rcases D with⟨_,v,L,_⟩|⟨_,h1,_,h3,_⟩
    ·obtain⟨hS',_,c1,c2⟩:=HR L (tS:=g.ts j) (hS:=g.hp j) (λ_ _=>rfl) (λ_ _=>rfl);exact⟨λx B=>(c1 x B).2,λx B=>(c2 x B).1⟩
    ·exact⟨λx _=>by rw[h1],λx B=>by rw[h3]at B;simp at B⟩
   have unT:∀ j o,j<n->ops[j]?=some o -> ∀ k,o.dst≠some k->(g.ts (j+1)).get k=(g.ts j).get k:=by
    intro j o J E k Z;obtain⟨o2,m,ho2,C,A,D,hcl⟩:=K j J;rw[E]at ho2;cases ho2;rcases D with⟨_,v,_,hp⟩|⟨_,_,_,_,hp⟩
    ·exact HG hnt hp Z
    ·exact HG hnt hp Z
   have hp_eq:∀ {x a b:Nat},a<=b->b<=n->(∀ j,a<=j->j<b->x ∉ g.wr j)->(g.hp b).get x=(g.hp a).get x:=λh1 h2 h3=>
    Ls (P:=P) (rec:=rec) (base:=base) (nt:=fr.nt) (opsl:=ops.toList) (n:=n) (λj J=>let ⟨o,_,E,_,_,hs,_⟩:=K j J;⟨o,by simpa using E,hs⟩) (λj J x B=>(unH j J).1 x B) _ h1 h2 h3
   have ts_eq:∀ {k a b:Nat},a<=b->b<=n->(∀ j o,a<=j->j<b->ops[j]?=some o->o.dst≠some k)->(g.ts b).get k=(g.ts a).get k:=λh1 h2 h3=>
    Lt unT rfl _ h1 h2 h3
   have main:∀ (N I:List Nat) (tS:T PV) (hS:Hp),σ=I++N->QI n ops g I tS->QH n g I hS ->
     ∃ tE hE,AZ P (λ_=>false) rec base ops.toList (N.map λi=>(i,(ops[i]?).getD default)) { fr with t:=tS } hS=some (.normal,{ fr with t:=tE },hE)/\QI n ops g σ tE/\QH n g σ hE:=by
    intro N
    induction N with
    |nil=>
     intro I tS hS X hT hH;rw[List.append_nil]at X;subst X;exact⟨tS,hS,rfl,hT,hH⟩
    |cons i N ih=>
     intro I tS hS X hT hH;have hi:i<n:=(smem i).1 (by rw[X];simp);obtain⟨o,m,E,C,A,D,hcl⟩:=K i hi;have cT:=claimT X o m E C A;have cH:=claimH X hi;obtain⟨hip,_,_⟩:=place X o m E C A;have agT:∀ d,(Fh m.rd d=true\/Fh m.wr d=true)->tS.get d=(g.ts i).get d:=λd L=>hT d i (by omega) (λj o' c l=>cT d L j o' c l);have agH:∀ x,x∈g.rd i->hS.get x=(g.hp i).get x:=λx B=>hH x i (by omega) (λj J G=>cH x B j J G);have hrdbit:∀ d,Fh m.rd d=(Fh (ES (Az o.op)) d||Fh (Dv ops.toList o.guard) d):=by intro d;rw[A.1,E6]
     have agO:Fg (g.ts i) tS (Az o.op):=λd L=>(agT d (.inl (by rw[hrdbit,Hf L];simp))).symm;have hwant:A4 ops.toList tS o.guard=A4 ops.toList (g.ts i) o.guard:=K6 λd L=>agT d (.inl (by rw[hrdbit,L];simp))
     have next:∀ {v:PV} {hS':Hp} {fr1:Fr},Ic fr.nt o.dst v (g.ts i) (g.ts (i+1))->(∀ x,x ∉ g.wr i->hS'.get x=hS.get x)->(∀ x,x∈g.wr i->hS'.get x=(g.hp (i+1)).get x) ->
       ∃ z,Ic fr.nt o.dst v tS z/\QI n ops g (I++[i]) z/\QH n g (I++[i]) hS':=by
      intro v hS' _ AG h1 h2
      have hH':QH n g (I++[i]) hS':=by
       intro x F U hw;by_cases B:x∈g.wr i
       ·have him:i<F:=(hw i hi B).1 (by simp);rw[h2 x B];refine(hp_eq (by omega) U λj hj1 hj2 G=> ?_).symm;have hjn:j<n:=by omega
        have y:=(hw j hjn G).2 hj2;simp only[ao,ax]at y;rcases y with y|rfl
        ·have:=(cH x ((unH i hi).2 x B) j hjn G).1 y;omega
        ·omega
       ·rw[h1 x B];refine hH x F U λj J G=> ?_;have hji:j≠i:=by intro e;subst e;exact B G
        rw[<- hw j J G];simp[hji]
      have invT:∀ z,(∀ k,o.dst≠some k->z.get k=tS.get k)->(∀ k,o.dst=some k->z.get k=(g.ts (i+1)).get k)->QI n ops g (I++[i]) z:=by
       intro z g1 g2 k F U hw;by_cases Z:o.dst=some k
       ·have him:i<F:=(hw i o E Z).1 (by simp);rw[g2 k Z];refine(ts_eq (by omega) U λj o' hj1 hj2 c l=> ?_).symm;have y:=(hw j o' c l).2 hj2;simp only[ao,ax]at y;rcases y with y|rfl
        ·have:=(cT k (.inr (by rw[A.2.1,Z];simp only[Fp,GC];simp)) j o' c l).1 y;omega
        ·omega
       ·rw[g1 k Z];refine hT k F U λj o' c l=> ?_;have hji:j≠i:=by intro e;subst e;rw[E]at c;cases c;exact Z l
        rw[<- hw j o' c l];simp[hji]
      cases L:o.dst with
      |none=>
       exact⟨tS,rfl,invT tS (λ_ _=>rfl) (λk Z=>by rw[L]at Z;cases Z),hH'⟩
      |some d=>
       rw[L]at AG;obtain⟨S,hget⟩:=Ld hnt AG;have hp2:Ic fr.nt (some d) v tS (T.put 20 tS d v):=⟨S,rfl⟩;refine⟨T.put 20 tS d v,hp2,invT _ (λk Z=>HG hnt hp2 (by rw[<- L];exact Z)) (λk Z=> ?_),hH'⟩;rw[L]at Z;cases Z;rw[(Ld hnt hp2).2,hget]
     have hget:(ops[i]?).getD default=o:=by rw[E];rfl
     have O:∀ {v:PV} {z:T PV},Ic fr.nt o.dst v tS z->({ fr with t:=tS }:Fr).put o.dst v=some { fr with t:=z }:=by
      intro v z AG;unfold Fr.put;cases L:o.dst with
      |none=>rw[L]at AG;rw[show z=tS from AG]
      |some d=>
       rw[L]at AG;obtain⟨h1,rfl⟩:=AG;have:ah d fr.nt=true:=by simpa using h1
       simp only[this,cond_true]
     have he2:σ=(I++[i])++N:=by rw[X];simp
     simp only[cC,hget];unfold AZ;rcases D with⟨hw1,v,L,AG⟩|⟨hw1,hh1,hrd,hwr,AG⟩
     ·simp only[hwant,hw1,cond_true];obtain⟨hS',hev,c1,c2⟩:=HR L agO agH;obtain⟨z,p1,p2,p3⟩:=next (fr1:=fr) AG (λx B=>(c1 x B).1) (λx B=>(c2 x B).2)
      obtain⟨tE,hE,q1,q2,q3⟩:=ih (I++[i]) z hS' he2 p2 p3;refine⟨tE,hE,?_,q2,q3⟩;rcases hev with hev|⟨hev,rfl⟩|⟨fid,args,hev,hcall⟩
      ·simp only[hev,O p1,q1]
      ·simp only[hev,O p1,q1]
      ·simp only[hev,hcall,O p1,q1]
     ·simp only[hwant,hw1,cond_false];obtain⟨z,p1,p2,p3⟩:=next (fr1:=fr) (hS':=hS) AG (λx B=>rfl) (λx B=>by rw[hwr]at B;simp at B)
      obtain⟨tE,hE,q1,q2,q3⟩:=ih (I++[i]) z hS he2 p2 p3;exact⟨tE,hE,by simp only[O p1,q1],q2,q3⟩
   obtain⟨tE',hE',q1,q2,q3⟩:=main σ [] fr.t h rfl
    (λk F U hw=>by
     rw[<- k1];refine(ts_eq (bF _) U λj o _ J E l=> ?_).symm;have:=(hw j o E l).2 J
     simp at this)
    (λx F U hw=>by
     rw[<- k2];refine(hp_eq (bF _) U λj _ J G=> ?_).symm;have:=(hw j (by omega) G).2 J
     simp at this)
   have eT:∀ k,tE'.get k=tE.get k:=by
    intro k;rw[<- k3];exact q2 k n (ac _) λj o E _=>by rw[smem]
   have eH:∀ x,hE'.get x=h'.get x:=by
    intro x;rw[<- k4];exact q3 x n (ac _) λj J _=>by rw[smem]
   have hran:=HJ R (ops:=ops) (base:=base) _ q1 (λx B=>by
    obtain⟨i,hi,rfl⟩:=bo.1 B;have:=(smem i).1 hi
    simp[an this]) k s f
   have hσ:(σ.map λi=>(i,(ops[i]?).getD default)).map (·.1)=σ:=by simp[dv,Function.comp_def]
   rw[hσ]at hran;obtain⟨M',μ',w',a',cs',r1,r2,r3,r4,r5⟩:=hran
   exact⟨M',μ',w',a',cs',r1.nx (λx=>(eH x).symm),r2,⟨⟨r3.t.1,r3.t.2.1,λk=>by
    have:=r3.t.2.2 k;simp only at this;rw[eT k]at this
    exact this⟩,r3.d,r3.u,r3.r⟩,r4,r5⟩
  ·cases e
 ·cases e
end
end
section
variable[Gl]
end
section
variable[Gl]
open Go.RowKit
end
section
variable[Gl]
section
variable{P:Program}{sh:FuncId->Bool}{M:Ap}{μ:Mu}{h:Hp}{w:World}
structure Kn where
 f:FuncId
 args:List PV
 q:PV
 h:Hp
open Go.RowKit in
end
end
section
variable[Gl]
def GB(r b:HM):Prop:=∀ a up args h x,r a up args h=some x->b a up args h=some x
section
variable{P:Program}{sh:FuncId->Bool}{rec rec':HM}
theorem I0(L:GB rec rec'){id:Nat}{f:FuncId}{args:List PV}{h:Hp}{x:Out×Hp}(e:A6 sh rec id f args h=some x):A6 sh rec' id f args h=some x:=by
 unfold A6 at e ⊢;cases hs:sh f with
 |true=>
  simp only[hs,cond_true]at e ⊢;cases b:rec (.fn f) none args h with
  |none=>rw[b]at e;cases e
  |some y=>rw[b]at e;rw[L _ _ _ _ _ b];exact e
 |false=>
  simp only[hs,cond_false]at e ⊢;cases c:Ao h args with
  |none=>rw[c]at e;cases e
  |some a=>
   rw[c]at e;simp only at e ⊢;cases b:rec (.fn f) none a.1 { m:=.lf,nx:=0 }with
   |none=>rw[b]at e;cases e
   |some y=>rw[b]at e;rw[L _ _ _ _ _ b];exact e
theorem JV(L:GB rec rec'){base:Nat}{ops:List Oper}:∀ {l:List (Nat×Oper)} {fr:Fr} {h:Hp} {x:Ex×Fr×Hp},AZ P sh rec base ops l fr h=some x->AZ P sh rec' base ops l fr h=some x
 |[],fr,h,x,e=>e
 |(i,o)::r,fr,h,x,e=>by
  unfold AZ at e ⊢
  have put:∀ {fr:Fr} {c:Option Nat} {v:PV} {h:Hp},(match fr.put c v with
    |some fr=>AZ P sh rec base ops r fr h
    |none=>none)=some x->(match fr.put c v with
    |some fr=>AZ P sh rec' base ops r fr h
    |none=>none)=some x:=by
   intro fr c v h e;split at e
   ·rename_i fr1 A;exact JV L e
   ·cases e
  cases w:A4 ops fr.t o.guard with
  |false=>simp only[w,cond_false]at e ⊢;exact put (h:=h) e
  |true=>
   simp only[w,cond_true]at e ⊢;cases q:AQ P fr.t h (base+i) o with
   |none=>rw[q]at e;cases e
   |some y=>
    rw[q]at e;cases y with
    |val v j=>exact put (h:=j) e
    |skip j=>exact put (h:=j) e
    |dfr d=>
     simp only at e ⊢;cases b:fr.ro with
     |none=>rw[b]at e;exact put e
     |some _=>rw[b]at e;cases e
    |call f args=>
     simp only at e ⊢;cases k:A6 sh rec (base+i) f args h with
     |none=>rw[k]at e;cases e
     |some z=>
      rw[k]at e;rw[I0 L k];obtain⟨o',h'⟩:=z;cases o' with
      |ret v=>exact put (h:=h') e
      |pan g=>
       cases g with
       |nil=>cases e
       |cons a l=>
        obtain⟨v,p⟩:=a;cases l<;>cases p<;>first|exact e|cases e
    |yield l args=>
     simp only at e ⊢;cases m:rec (.yl l) none args h with
     |none=>rw[m]at e;cases e
     |some z=>
      rw[m]at e;rw[L _ _ _ _ _ m];obtain⟨o',B,h'⟩:=z;cases o' with
      |ret v=>exact put e
      |pan g=>exact e
    |pan v=>exact e
    |rcv=>
     simp only at e ⊢;cases b:fr.ro with
     |some _=>rw[b]at e;cases e
     |none=>
      rw[b]at e;simp only at e ⊢;cases s:fr.up with
      |none=>rw[s]at e;exact put (h:=h) e
      |some u=>
       rw[s]at e;cases u with
       |ret=>exact put (h:=h) e
       |pan g=>
        cases g with
        |nil=>exact put (h:=h) e
        |cons a n=>
         obtain⟨v,p⟩:=a;cases p<;>exact put (h:=h) e
theorem MB(L:GB rec rec'){t:T PV}{h:Hp}{id:Nat}{o:Oper}{x:PV×Hp×List Nat×List Nat}(e:Aw P rec t h id o=some x):Aw P rec' t h id o=some x:=by
 unfold Aw at e ⊢;dsimp only at e ⊢;cases hc : !As o.op || !ah id (id+1)with
 |true=>rw[hc]at e;cases e
 |false=>
  rw[hc]at e;simp only[cond_false]at e ⊢;cases c:AQ P t (h.cut (id::Au t h o.op)) id o with
  |none=>rw[c]at e;cases e
  |some y=>
   rw[c]at e;cases y with
   |call f args=>
    simp only at e ⊢;cases d:Ao h args with
    |none=>rw[d]at e;cases e
    |some a=>
     rw[d]at e;simp only at e ⊢;cases b:A6 (λ_=>false) rec id f args (h.cut (id::a.2))with
     |none=>rw[b]at e;cases e
     |some z=>rw[b]at e;rw[I0 L b];exact e
   |_=>exact e
theorem DD(L:GB rec rec'){base nt:Nat}{ops:List Oper}:∀ {l:List Oper} {i:Nat} {f:List Mk} {a:List (Nat×List Nat×List Nat)} {t:T PV} {h:Hp} {x:T PV×Hp},AY P rec base nt ops i l f a t h=some x->AY P rec' base nt ops i l f a t h=some x
 |[],i,f,a,t,h,x,e=>by unfold AY at e ⊢;exact e
 |o::l,i,[],a,t,h,x,e=>by unfold AY at e;cases e
 |o::l,i,m::f,a,t,h,x,e=>by
  unfold AY at e ⊢;cases j:A4 ops t o.guard with
  |true=>
   simp only[j,cond_true]at e ⊢;cases g:Aw P rec t h (base+i) o with
   |none=>rw[g]at e;cases e
   |some z=>
    rw[g]at e;rw[MB L g];obtain⟨v,k,rd,wr⟩:=z;simp only at e ⊢;cases hh:Fu m.bef rd wr a with
    |false=>rw[hh]at e;cases e
    |true=>
     simp only[hh,cond_true]at e ⊢;cases b:o.dst with
     |none=>rw[b]at e;exact DD L e
     |some d=>
      rw[b]at e;simp only at e ⊢;cases c:ah d nt with
      |false=>rw[c]at e;cases e
      |true=>rw[c]at e;exact DD L e
  |false=>
   simp only[j,cond_false]at e ⊢;cases b:o.dst with
   |none=>rw[b]at e;exact DD L e
   |some d=>
    rw[b]at e;simp only at e ⊢;cases c:ah d nt with
    |false=>rw[c]at e;cases e
    |true=>rw[c]at e;exact DD L e
theorem Oo(L:GB rec rec'){base:Nat}{ops:List Oper}{fr:Fr}{h:Hp}{x:Fr×Hp}(e:drawn P rec base ops fr h=some x):drawn P rec' base ops fr h=some x:=by
 unfold drawn at e ⊢;split at e
 ·rename_i b c;cases a:AY P rec base fr.nt ops 0 ops b [] fr.t h with
  |none=>rw[a]at e;cases e
  |some z=>rw[a]at e;rw[DD L a];exact e
 ·cases e
theorem Cj(L:GB rec rec'):∀ {n k:Nat} {c:Code} {fr:Fr} {h:Hp} {x:Ex×Fr×Hp},n<=k->exec P sh rec n c fr h=some x->exec P sh rec' k c fr h=some x
 |0,k,c,fr,h,x,j,e=>by unfold exec at e;cases e
 |n+1,k,c,fr,h,x,j,e=>by
  obtain⟨m,rfl⟩:∃ m,k=m+1:=⟨k-1,by omega⟩;have j:n<=m:=by omega
  unfold exec at e ⊢;cases c with
  |skip=>exact e
  |label _=>exact e
  |seq a b=>
   simp only at e ⊢;cases i:exec P sh rec n a fr h with
   |none=>rw[i]at e;cases e
   |some y=>
    rw[i]at e;rw[Cj L j i];obtain⟨ex,fr1,u⟩:=y;cases ex<;>first|exact Cj L j e|exact e
  |cond c a b=>
   simp only at e ⊢;cases hc:CM fr.t c with
   |none=>rw[hc]at e;cases e
   |some v=>
    rw[hc]at e;cases v with
    |bool b=>cases b<;>exact Cj L j e
    |_=>cases e
  |block id b=>
   simp only at e ⊢;cases i:exec P sh rec n b fr h with
   |none=>rw[i]at e;cases e
   |some y=>rw[i]at e;rw[Cj L j i];exact e
  |loop b=>
   simp only at e ⊢;cases i:exec P sh rec n b fr h with
   |none=>rw[i]at e;cases e
   |some y=>
    rw[i]at e;rw[Cj L j i];obtain⟨ex,fr1,u⟩:=y;cases ex<;>first|exact Cj L j e|exact e
  |scope b=>
   simp only at e ⊢;cases i:exec P sh rec n b fr h with
   |none=>rw[i]at e;cases e
   |some y=>rw[i]at e;rw[Cj L j i];exact e
  |exit _=>exact e
  |goto _=>exact e
  |ret=>exact e
  |refuse _=>exact e
  |region id ops l=>
   cases l with
   |false=>exact JV L e
   |true=>
    simp only[cond_true]at e ⊢;cases w:P.follows .mixedOrders || !Region.departs ops with
    |false=>rw[w]at e;cases e
    |true=>
     simp only[w,cond_true]at e ⊢;cases q:drawn P rec h.nx ops.toList fr { h with nx:=h.nx+ops.size }with
     |none=>rw[q]at e;cases e
     |some z=>rw[q]at e;rw[Oo L q];exact e
  |rangeFunc g F A s=>
   simp only at e ⊢;split at e
   ·rename_i f a b D
    try simp only[D]
    split at e
    ·rename_i d mark u E
     try simp only[E]
     split at e
     ·rename_i C p
      try simp only[p]
      split at e
      ·rename_i B args o
       try simp only[o]
       cases r:rec (.fn B) none args { C with nx:=h.nx+1+1 }with
       |none=>rw[r]at e;cases e
       |some z=>rw[r]at e;rw[L _ _ _ _ _ r];exact e
      ·cases e
     ·cases e
    ·cases e
   ·cases e
theorem GU(L:GB rec rec'){q:Func}:∀ {n j:Nat} {i:List DF} {u:UM} {t:T PV} {h:Hp} {x:Out×Hp},n<=j->leave P rec q n i u t h=some x->leave P rec' q j i u t h=some x
 |0,j,i,u,t,h,x,o,e=>by unfold leave at e;cases e
 |n+1,j,i,u,t,h,x,o,e=>by
  obtain⟨m,rfl⟩:∃ m,j=m+1:=⟨j-1,by omega⟩;have o:n<=m:=by omega
  unfold leave at e ⊢;cases i with
  |nil=>exact e
  |cons d i=>
   cases d with
   |col id=>
    simp only at e ⊢;split at e
    ·rename_i l B
     try simp only[B]
     split at e
     ·rename_i y hs
      try simp only[hs]
      exact GU L o e
     ·cases e
    ·cases e
   |bi b s ty args=>
    simp only at e ⊢;split at e
    ·split at e
     ·rename_i v y A
      try simp only[A]
      exact GU L o e
     ·cases e
    ·cases e
   |call f args=>
    simp only at e ⊢;split at e
    ·rename_i g a b;split at e
     ·rename_i w c k
      try simp only[k]
      cases p:rec (.fn w) (some u) c h with
      |none=>rw[p]at e;cases e
      |some z=>
       rw[p]at e;rw[L _ _ _ _ _ p];obtain⟨o',r,h'⟩:=z;cases o' with
       |ret v=>
        cases r with
        |some r=>exact GU L o e
        |none=>cases e
       |pan C=>cases e
     ·cases e
    ·cases e
theorem Om{F j:Nat}(k:F<=j):∀ {n i:Nat},n<=i->GB (B3 P sh F n) (B3 P sh j i)
 |0,i,_=>λG up args h x e=>by cases e
 |n+1,i,hn=>λG up args h x e=>by
  obtain⟨m,rfl⟩:∃ m,i=m+1:=⟨i-1,by omega⟩;have L:GB (B3 P sh F n) (B3 P sh j m):=Om k (by omega);unfold B3 QR at e ⊢
  have tail:∀ {fn:Func} {fr:Fr} {ds:List DF} {u:UM} {h:Hp},(match leave P (B3 P sh F n) fn F ds u fr.t h with
    |some (o,h)=>some (o,fr.up,h)
    |none=>none)=some x->(match leave P (B3 P sh j m) fn j ds u fr.t h with
    |some (o,h)=>some (o,fr.up,h)
    |none=>none)=some x:=by
   intro fn fr ds u h e;cases A:leave P (B3 P sh F n) fn F ds u fr.t h with
   |none=>rw[A]at e;cases e
   |some z=>rw[A]at e;rw[GU L k A];exact e
  cases G with
  |fn f=>
   simp only at e ⊢;split at e
   ·rename_i p B
    try simp only[B]
    exact e
   rename_i B
   try simp only[B]
   split at e
   ·rename_i fn s
    try simp only[s]
    split at e
    ·rename_i c hc
     try simp only[hc]
     cases D:af args.length fn.ntmps&&ah fn.ntmps 1048575 with
     |false=>simp only[D,cond_false]at e;cases e
     |true=>
      simp only[D,cond_true]at e ⊢;cases b:exec P sh (B3 P sh F n) F c { t:=Bl 0 args .lf,nt:=fn.ntmps,ds:=[],up,ro:=none } h with
      |none=>rw[b]at e;cases e
      |some y=>
       rw[b]at e;rw[Cj L k b];obtain⟨ex,fr1,I⟩:=y;cases ex with
       |normal=>exact tail e
       |ret=>exact tail e
       |panic v=>exact tail e
       |_=>cases e
    ·cases e
   ·cases e
  |yl l=>
   simp only at e ⊢;split at e
   ·rename_i Y W nt t X q a d K
    try simp only[K]
    split at e
    ·rename_i S M
     try simp only[M]
     cases b:exec P sh (B3 P sh F n) F q { t:=S,nt,ds:=[],up:=none,ro:=some l } h with
     |none=>rw[b]at e;cases e
     |some y=>
      rw[b]at e;rw[Cj L k b];obtain⟨ex,fr1,I⟩:=y;cases ex with
      |normal=>
       simp only at e ⊢;split at e
       ·rename_i E N Z O C r U w
        try simp only[w]
        split at e
        ·rename_i J hs
         try simp only[hs]
         cases g:exec P sh (B3 P sh F n) F a fr1 J with
         |none=>rw[g]at e;cases e
         |some y2=>rw[g]at e;rw[Cj L k g];exact e
        ·cases e
       ·cases e
      |_=>cases e
    ·cases e
   ·cases e
end
end
end Go.Proofs.YtanppfoapnaeaaaGreat.Pi
