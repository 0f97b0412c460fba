/- A part of the evaluator of the model's code for any program, and of the proof that it is sound. No condition. -/
import Derived.Test.YtiehjicadcamiaaGreatPp1
import Derived.RowKit3
set_option linter.all false
open List renaming append_assoc->a9, append_of_mem->cr, getElem?_cons_zero->a8, getElem?_eq_getElem->af, length_cons->bp, map_cons->cg, map_map->cW, mem_append->ak, mem_append_left->aw, mem_cons->aj, mem_cons_of_mem->aB, mem_cons_self->cu, mem_map->ba, mem_reverse->cE, mem_singleton->aq, nodup_cons->bx, range->bT
open Nat renaming add_zero->aZ, beq->aa, ble->ac, blt->ae, blt_eq->bH, eq_of_beq_eq_true->al, le_refl->ab, lor->bN, lt_trichotomy->cF, strongRecOn->cS, zero_add->aO, zero_le->bz
open Array renaming all_eq_true_iff_forall_mem->bK, getD_eq_getD_getElem?->aG, getElem?_eq_getElem->ai, mem_toList_iff->cf, replicate->bn
open Option renaming getD_some->aD, map_some->aC
open Bool renaming and_eq_true->ad, cond_eq_ite->ay, false_or->cU, not_eq_true'->aU, not_true->ao, or_eq_false_iff->ah, or_eq_true->bw
open Option renaming some->zo, none->zn
open Bool renaming true->zt, false->zf
namespace Go.Proofs.YtiehjicadcamiaaGreat.Pi
section
variable[Gl]
def E1(P:Program)(rec:HR):Prop:=∀ {ops:Array Oper} {base:Nat} {fr c:Fr} {h h':Hp},drawn P rec base ops.toList fr h=zo (c,h')->(P.follows .mixedOrders || !Region.departs ops)=zt ->
 ∀ {M:Ao} {μ:Mu} {w:World} {b:Frame} {a:Act} {cs:List Frame} (k:List Item) (t:Nat),Sim M μ h w->FrRep M μ fr b a cs->Ran P M μ w (lone (b.atR a (.inRegion ops (Region.schedule (P.follows .mixedOrders) ops t)::k)) cs w) b k cs .normal c h'
section
variable{P:Program}{sh:FuncId->Bool}{rec:HR}
theorem NE{α:Type}:∀ (l:List α) (n:Nat),(Hb n l).map (·.1)=(bT l.length).map (n+·)
 |[],n=>rfl
 |a::l,n=>by
  simp only[Hb,cg,bp,List.range_succ_eq_map,cW];rw[NE l (n+1)];simp only[aZ,List.cons.injEq,true_and];apply List.map_congr_left
  grind
theorem NF{α:Type}:∀ (l:List α) (n:Nat),∀ x∈Hb n l,n<=x.1/\l[x.1-n]?=zo x.2
 |[],n,x,hx=>by simp[Hb]at hx
 |a::l,n,x,hx=>by
  simp only[Hb,aj]at hx;rcases hx with rfl|hx
  ·simp
  ·obtain⟨b,c⟩:=NF l (n+1) x hx
   grind
section
variable{M:Ao}{μ:Mu}{h h':Hp}{w:World}{b:Frame}{a:Act}{cs:List Frame}{k:List Item}{fr fr':Fr}{ex:Ex}{m:Machine}
theorem Ran.step{a:Machine}(hs:step P m=.next a)(c:Ran P M μ w a b k cs ex fr' h'):Ran P M μ w m b k cs ex fr' h':=
 let ⟨M',μ',w',a',cs',q1,q2,q3,q4,q5⟩:=c
 ⟨M',μ',w',a',cs',q1,q2,q3,q4,.of_steps (.one hs) q5⟩
theorem Ran.then{fr1:Fr}{g:Hp}{h:List Item}(p:Ran P M μ w m b h cs .normal fr1 g)
  (o:∀ {c μ1 d e a},Sim c μ1 g d->FrRep c μ1 fr1 b e a->Ran P c μ1 d (lone (b.atR e h) a d) b k a ex fr' h'):Ran P M μ w m b k cs ex fr' h':=by
 obtain⟨c,μ1,d,e,a,s1,n,l,y,x⟩:=p;obtain⟨i,μ',w',j,f,q,r,s,t,u⟩:=o s1 l;exact⟨i,μ',w',j,f,q,n.trans r,s,y.trans t,.of_steps x u⟩
theorem Ran.pass{x:Item}(q:x.plain=zt)(i:ex ≠ .normal)(j:Ran P M μ w m b (x::k) cs ex fr' h'):Ran P M μ w m b k cs ex fr' h':=by
 obtain⟨g,μ',w',h,c,l,n,o,p,a⟩:=j;refine⟨g,μ',w',h,c,l,n,o,p,?_⟩;cases ex with
 |normal=>simp_all
 |exit id=>obtain⟨f,d,e⟩:=a;exact⟨f,by rw[d];cases x<;>simp_all[exitTo,Item.plain],e⟩
 |goto id=>obtain⟨f,d,e⟩:=a;exact⟨f,by rw[d];cases x<;>simp_all[gotoIn,Item.plain],e⟩
 |ret=>exact a
 |panic v=>exact a
end
theorem Cq{r:Nat}{l:Loop}{w:World}(a:w.heap[r]?=zo (.loop l)):(Instr.getLoop r).run P w=.ok l w:=by
 simp[Instr.getLoop,getObj,Sem.run,a]
theorem Jw(R:RecOK P rec)(D:E1 P rec):∀ (n:Nat),
  (∀ {c:Code} {fr C:Fr} {h h':Hp} {ex:Ex},AY P sh rec n c fr h=zo (ex,C,h') ->
   ∀ {M:Ao} {μ:Mu} {w:World} {b:Frame} {a:Act} {cs:List Frame} (k:List Item),Sim M μ h w->FrRep M μ fr b a cs->Ran P M μ w (lone (b.atR a (.code c::k)) cs w) b k cs ex C h') /\
  (∀ {c:Code} {fr C:Fr} {h h':Hp} {ex:Ex},AY P sh rec n (.loop c) fr h=zo (ex,C,h') ->
   ∀ {M:Ao} {μ:Mu} {w:World} {b:Frame} {a:Act} {cs:List Frame} (k:List Item),Sim M μ h w->FrRep M μ fr b a cs->Ran P M μ w (lone (b.atR a (.inLoop c::k)) cs w) b k cs ex C h')
 |0=>⟨λe=>by simp[AY]at e,λe=>by simp[AY]at e⟩
 |n+1=>by
  obtain⟨L,ihB⟩:=Jw R D n
  have G:∀ {c:Code} {fr C:Fr} {h h':Hp} {ex:Ex},AY P sh rec (n+1) (.loop c) fr h=zo (ex,C,h') ->
    ∀ {M:Ao} {μ:Mu} {w:World} {b:Frame} {a:Act} {cs:List Frame} (k:List Item),Sim M μ h w->FrRep M μ fr b a cs->Ran P M μ w (lone (b.atR a (.code c :: .inLoop c::k)) cs w) b k cs ex C h':=by
   intro c fr C h h' ex e M μ w b a cs k s f;simp only[AY]at e;cases hc:AY P sh rec n c fr h with
   |none=>simp_all
   |some r=>
    obtain⟨I,fr1,h1⟩:=r;rw[hc]at e;have B:=L hc (.inLoop c::k) s f;cases I with
    |normal=>exact B.then λs1 f1=>ihB e k s1 f1
    |exit id=>cases e;exact B.pass rfl (by simp_all)
    |goto id=>cases e;exact B.pass rfl (by simp_all)
    |ret=>cases e;exact B.pass rfl (by simp_all)
    |panic v=>cases e;exact B.pass rfl (by simp_all)
  refine⟨?_,λe M μ w b a cs k s f=>(G e k s f).step stepR_inLoop⟩;intro c fr C h h' ex e M μ w b a cs k s f;cases c with
  |skip=>simp only[AY]at e;cases e;exact⟨M,μ,w,a,cs,s,.refl _ _ _,f,.refl _,.one stepR_skip⟩
  |label l=>simp only[AY]at e;cases e;exact⟨M,μ,w,a,cs,s,.refl _ _ _,f,.refl _,.one stepR_label⟩
  |refuse _=>simp[AY]at e
  |exit id=>simp only[AY]at e;cases e;exact⟨M,μ,w,a,cs,s,.refl _ _ _,f,.refl _,k,rfl,.refl _ _⟩
  |goto id=>simp only[AY]at e;cases e;exact⟨M,μ,w,a,cs,s,.refl _ _ _,f,.refl _,k,rfl,.refl _ _⟩
  |ret=>simp only[AY]at e;cases e;exact⟨M,μ,w,a,cs,s,.refl _ _ _,f,.refl _,k,.refl _ _⟩
  |seq x y=>
   simp only[AY]at e;refine Ran.step stepR_seq ?_;cases hc:AY P sh rec n x fr h with
   |none=>simp_all
   |some r=>
    obtain⟨I,fr1,h1⟩:=r;rw[hc]at e;have B:=L hc (.code y::k) s f;cases I with
    |normal=>exact B.then λs1 f1=>L e k s1 f1
    |exit id=>cases e;exact B.pass rfl (by simp_all)
    |goto id=>cases e;exact B.pass rfl (by simp_all)
    |ret=>cases e;exact B.pass rfl (by simp_all)
    |panic v=>cases e;exact B.pass rfl (by simp_all)
  |cond x y z=>
   simp only[AY]at e;split at e
   ·rename_i hx;have hv:=CP s.glb f.t hx;generalize W:a.eval x=v at hv;cases hv;exact(L e k s f).step (by rw[stepR_cond W];rfl)
   ·rename_i hx;have hv:=CP s.glb f.t hx;generalize W:a.eval x=v at hv;cases hv;exact(L e k s f).step (by rw[stepR_cond W];rfl)
   ·cases e
  |block id x=>
   simp only[AY]at e;refine Ran.step stepR_block ?_;cases hc:AY P sh rec n x fr h with
   |none=>simp_all
   |some r=>
    obtain⟨I,fr1,h1⟩:=r;rw[hc]at e;have B:=L hc (.inBlock id::k) s f;cases I with
    |normal=>cases e;exact B.then λs1 f1=>⟨_,_,_,_,_,s1,.refl _ _ _,f1,.refl _,.one stepR_inBlock⟩
    |exit j=>
     obtain⟨M',μ',w',a',F,q1,q2,q3,q4,k1,q5,q6⟩:=B;simp only at e;cases hj:aa j id with
     |true=>
      simp only[hj,zb]at e;cases e;have:=al hj;subst this;exact⟨M',μ',w',a',F,q1,q2,q3,q4,q6.trans (.one (stepR_exit (by rw[q5];simp[exitTo])))⟩
     |false=>
      simp only[hj,zj]at e;cases e;refine⟨M',μ',w',a',F,q1,q2,q3,q4,k1,?_,q6⟩;rw[q5]
      have:(id == j)=zf:=by
       cases hij:id == j<;>simp_all
      simp[exitTo,this]
    |goto j=>
     cases e;obtain⟨M',μ',w',a',F,q1,q2,q3,q4,k1,q5,q6⟩:=B;exact⟨M',μ',w',a',F,q1,q2,q3,q4,k1,by rw[q5];rfl,q6⟩
    |ret=>cases e;exact B
    |panic v=>cases e;exact B
  |loop x=>exact(G e k s f).step stepR_loop
  |scope x=>
   simp only[AY]at e;refine Ran.step Lu ?_;cases hc:AY P sh rec n x fr h with
   |none=>simp_all
   |some r=>
    obtain⟨I,fr1,h1⟩:=r;rw[hc]at e;have B:=L hc (.inScope x::k) s f;cases I with
    |normal=>cases e;exact B.then λs1 f1=>⟨_,_,_,_,_,s1,.refl _ _ _,f1,.refl _,.one Iy⟩
    |exit j=>
     cases e;obtain⟨M',μ',w',a',F,q1,q2,q3,q4,k1,q5,q6⟩:=B;exact⟨M',μ',w',a',F,q1,q2,q3,q4,k1,by rw[q5];rfl,q6⟩
    |goto j=>cases e
    |ret=>cases e;exact B
    |panic v=>cases e;exact B
  |region id ops draw=>
   simp only[AY]at e;have s0:Sim M μ { h with nx:=h.nx+ops.size } w:=s.nx λ_=>rfl
   cases draw with
   |false=>
    simp only[zj]at e;refine Ran.step stepR_region ?_
    have:=HO R _ e (λx hx=>by
     obtain⟨h1,h2⟩:=NF _ _ x hx
     grind) k s0 f
    simp_all[NE]
   |true=>
    simp only[zb]at e;replace e:=Af e;obtain⟨hm,e⟩:=e;split at e
    ·rename_i fr1 h1 hd;cases e;refine Ran.step stepR_region_draw ?_;have s1:Sim M μ { h with nx:=h.nx+ops.size } { w with drawn:=w.drawn+1 }:=s0.drawn rfl
     obtain⟨M',μ',w',a',F,q1,q2,q3,q4,q5⟩:=D hd hm k (w.tape w.drawn (.order b.fn id)) s1 f;exact⟨M',μ',w',a',F,q1,(Grow.drawn (w:=w) (w':={ w with drawn:=w.drawn+1 }) rfl rfl rfl rfl).trans q2,q3,q4,q5⟩
    ·cases e
  |rangeFunc g ps asg body=>
   simp only[AY]at e;split at e
   ·rename_i fn va0 vb0 hg;have hv:=CP s.glb f.t hg;generalize W:a.eval g=v at hv;cases hv with
    |fn _ _ _ _ va vb hf hla hlb h2 h3=>
    split at e
    ·rename_i d mark hd K;split at e
     ·rename_i hl hnewl;split at e
      ·rename_i fid args hinv;split at e
       ·rename_i rv u1 hc hcall;split at e
        ·rename_i st pend nt t pl as bd dd hgl;replace e:=Bq e;obtain⟨hst,e⟩:=e;have hst:st≠1:=by intro h;simp_all
         split at e
         ·rename_i hs hset
          have enter:∃ (w1:World) (μ1:Mu) (A:Bk) (mk:List Deferred) (lid:Nat),(Instr.enterLoop b.fn a.tmps ps asg body b.roundOf).run P w=.ok (A.b,mk) w1/\Sim M μ1 hl w1/\Grow M μ w M μ1 w1/\lid=h.nx+1/\μ1 lid=zo A/\DefsRep M μ1 mark mk:=by
           obtain⟨N,hgs,_⟩:=Hp.get_new hnewl;split at K
           ·rename_i hro;have J:b.roundOf=zn:=by have:=f.r;simp_all[I1]
            split at K
            ·rename_i hd1 hnewd;cases K;obtain⟨dget,dgs,_⟩:=Hp.get_new hnewd
             let rd:Bk:=⟨w.heap.size,0,0,0⟩
             obtain⟨s1,μd⟩:=s.fresh (w':=w.alloc (.deferred (zo []))) (r:=rd) (o:=.deferred (zo [])) dget dgs rfl rfl ⟨zo [],rfl,trivial⟩;have g1:=Grow.newBlk (M:=M) (μ:=μ) (w:=w) (w':=w.alloc (.deferred (zo []))) (r:=rd) (o:=.deferred (zo [])) μd rfl rfl rfl rfl rfl (λ_ _ _ h=>by cases h)
             let O:Loop:={ state:=.ready,pending:=zn,fn:=b.fn,tmps:=a.tmps,params:=ps,assign:=asg,body:=body,defers:=w.heap.size }
             let A:Bk:=⟨(w.alloc (.deferred (zo []))).heap.size,0,0,0⟩
             have μl0:DO μ h.nx rd (h.nx+1)=zn:=by
              cases hm:DO μ h.nx rd (h.nx+1)with
              |none=>rfl
              |some x=>exact absurd N (s1.use _ x hm).1
             have E:=Dm (r:=A) μl0
             obtain⟨s2,μl⟩:=s1.fresh (w':=(w.alloc (.deferred (zo []))).alloc (.loop O)) (r:=A) (o:=.loop O) N hgs rfl rfl
              ⟨O,rd,rfl,rfl,by decide,rfl,f.t.mono (.refl _) (g1.u.trans E),by simp[O],rfl,rfl,E _ _ (by simp[DO]),rfl⟩
             have U:=Grow.newBlk (M:=M) (w:=w.alloc (.deferred (zo []))) (w':=(w.alloc (.deferred (zo []))).alloc (.loop O)) (r:=A) (o:=.loop O) μl rfl rfl rfl rfl rfl (λ_ _ _ h=>by cases h);refine⟨_,_,A,[{ target:=.collected w.heap.size,args:=#[] }],_,?_,s2,g1.trans U,rfl,by simp[DO],⟨⟨rd,E _ _ (by simp[DO]),rfl,rfl⟩,trivial⟩⟩;rw[J];rfl
            ·cases K
           ·rename_i l0 hro;have J:=f.r;unfold I1 at J;rw[hro]at J;obtain⟨rb,hrb,J⟩:=J;split at K
            ·rename_i st0 pend0 nt0 t0 ps0 asg0 body0 d0 hb0;cases K;obtain⟨r',Y,Z,rd,b1,b2,b3,b4,b5,b6,b7,b8,b9,b10⟩:=s.blk l0 _ hb0;rw[hrb]at Y;cases Y
             let O:Loop:={ state:=.ready,pending:=zn,fn:=b.fn,tmps:=a.tmps,params:=ps,assign:=asg,body:=body,defers:=rd.b }
             let A:Bk:=⟨w.heap.size,0,0,0⟩
             have μl0:μ (h.nx+1)=zn:=by
              cases hm:μ (h.nx+1)with
              |none=>rfl
              |some x=>exact absurd N (s.use _ x hm).1
             have E:=Dm (r:=A) μl0
             obtain⟨s2,μl⟩:=s.fresh (w':=w.alloc (.loop O)) (r:=A) (o:=.loop O) N hgs rfl rfl
              ⟨O,rd,rfl,rfl,by decide,rfl,f.t.mono (.refl _) E,by simp[O],rfl,rfl,E _ _ b9,rfl⟩
             have U:=Grow.newBlk (M:=M) (w:=w) (w':=w.alloc (.loop O)) (r:=A) (o:=.loop O) μl rfl rfl rfl rfl rfl (λ_ _ _ h=>by cases h);refine⟨_,_,A,[],_,?_,s2,U,rfl,by simp[DO],trivial⟩;rw[J];simp[Instr.enterLoop,O,A,Cq b1,b10]
            ·cases K
          obtain⟨w1,μ1,A,mk,lid,hent,s1,g1,rfl,hrl,hdm⟩:=enter;have hyl:Rep M μ1 (.yl (h.nx+1)) (.func (.yield A.b) #[] #[]):=.yl _ _ A hrl
          obtain⟨k1,g0,as0,k2⟩:=FE (P:=P) (w:=w1) (vf:=va.toList) (vc:=vb.toList) (va:=[.func (.yield A.b) #[] #[]])
           ⟨by omega,λi c v p q=>(h2 i c v p (by grind)).mono (.refl _) g1.u⟩ ⟨by omega,λi c v p q=>(h3 i c v p (by grind)).mono (.refl _) g1.u⟩ (RepL.cons hyl (RepL.nil _ _)) hinv
          obtain⟨vs,hrun,hargs,fn1,c1,hfn1,hbody1⟩:=k1
          have hres:(resolve a.eval (rangeCall g A.b) 0).run P w1=.ok { target:=.fn fn vb,args:=va ++ #[.func (.yield A.b) #[] #[]] } w1:=by
           show Sem.run P (Deferred.ofValue (a.eval g) (#[Operand.const (.func (.yield A.b) #[] #[])].map a.eval)) w1=_;have hm1 : #[Operand.const (.func (.yield A.b) #[] #[])].map a.eval = #[Value.func (.yield A.b) #[] #[]]:=by simp[Act.eval]
           rw[W,hm1];rfl
          have hcat:(va.toList++[Value.func (.yield A.b) #[] #[]]).toArray=va ++ #[.func (.yield A.b) #[] #[]]:=by apply Array.ext';simp
          have hstep:=stepR_rangeFunc (P:=P) (b:=b) (a:=a) (k:=k) (cs:=cs) hent hres (by rw[hcat]at hrun;exact hrun);have s1n:Sim M μ1 { hl with nx:=h.nx+1+1 } w1:=s1.nx λ_=>rfl
          obtain⟨M2,μ2,w2,fr2,s2,U,st2,hfn2,x2,hx2,hl2⟩:=R.nrm hcall s1n hargs (b.atR { a with defers:=mk++a.defers } (.inRangeFunc A.b::k)::cs)
          obtain⟨r',Y,Z,rd,b1,b2,b3,b4,b5,b6,b7,b8,b9,b10⟩:=s2.blk _ _ hgl;rw[U.u _ _ hrl]at Y;cases Y;subst b4
          have hnb:(Z.state == LoopState.busy)=zf:=by
           rw[b2]
           match st,hst,b3 with
           |0,_,_=>rfl
           |2,_,_=>rfl
           |3,_,_=>rfl
          have hnb2:¬ ((Z.state == LoopState.busy)=zt):=by simp_all
          have so:=BZ (P:=P) (o':=.loop { Z with state:=.exhausted }) b1 (by simp_all)
          have hend:(Instr.endLoop A.b).run P w2=.ok Z.pending { w2 with heap:=w2.heap.setIfInBounds A.b (.loop { Z with state:=.exhausted }) }:=by
           simp_all[Instr.endLoop,Sem.run_bind,Cq,Result.andThen,zx]
          obtain⟨s3,g3⟩:=s2.object (o':=.loop { Z with state:=.exhausted }) hgl (U.u _ _ hrl) trivial hset b1 (by simp_all)
           ⟨_,rd,rfl,rfl,by decide,rfl,b5,b6,b7,b8,b9,b10⟩
          have f3:FrRep M2 μ2 { fr with ds:=mark++fr.ds } b { a with defers:=mk++a.defers } cs:=by
           have f2:=f.mono (g1.m.trans U.m) (g1.u.trans U.u);refine⟨f2.t,?_,f2.u,f2.r⟩;have hdm2:=hdm.mono U.m U.u
           have app:∀ {x:List DF} {y:List Deferred},DefsRep M2 μ2 x y->DefsRep M2 μ2 (x++fr.ds) (y++a.defers):=by
            intro x
            induction x with
            |nil=>intro y hy;cases y with
             |nil=>exact f2.d
             |cons _ _=>exact hy.elim
            |cons d0 x ih=>intro y hy;cases y with
             |nil=>exact hy.elim
             |cons _ _=>exact⟨hy.1,ih hy.2⟩
           grind
          have X:=(g1.trans U).trans g3
          have S:Steps P (lone (b.atR a (.code (.rangeFunc g ps asg body)::k)) cs w) (lone (b.atR { a with defers:=mk++a.defers } ((Z.pending.map Item.code).toList++k)) cs { w2 with heap:=w2.heap.setIfInBounds A.b (.loop { Z with state:=.exhausted }) }):=by
           refine .head hstep (st2.trans (.head ?_ (.one (stepR_endRangeFunc hend))));rw[<- finish_atR_inRangeFunc A.b x2];exact step_leave_returned hl2
          clear hend so g3;generalize ({ w2 with heap:=w2.heap.setIfInBounds A.b (.loop { Z with state:=.exhausted }) }:World)=w3 at s3 X S
          split at e<;>rename_i hpd<;>(try rw[hpd]at S)
          ·cases e;exact⟨M2,μ2,_,_,cs,s3,X,f3,.refl _,S⟩
          ·cases e;exact⟨M2,μ2,_,_,cs,s3,X,f3,.refl _,k,S⟩
          ·cases e;exact⟨M2,μ2,_,_,cs,s3,X,f3,.refl _,k,rfl,S⟩
          ·cases e;exact⟨M2,μ2,_,_,cs,s3,X,f3,.refl _,k,rfl,S⟩
          ·cases e
         ·cases e
        ·cases e
       ·cases e
      ·cases e
     ·cases e
    ·cases e
   ·cases e
end
end
section
variable[Gl]
section
variable{P:Program}{sh:FuncId->Bool}{rec:HR}{M:Ao}{μ:Mu}{h:Hp}{w:World}
theorem Q9(s:Sim M μ h w){t:T PV}{nt:Nat}{b:Array Value}(d:TmpsRep M μ t nt b){r:ResultVar}{p:PV}(e:P4 P h t r=zo p) :
  ∃ x,(match r with
   |.tmp t=>pure (b.getD t undef)
   |.cell a t=>do loadVar t (<- asAddr (b.getD a undef)):Sem Value).run P w=.ok x w/\Rep M μ p x:=by
 unfold P4 at e;split at e
 ·rename_i k;cases e;exact⟨_,rfl,d.2.2 k⟩
 ·rename_i a ty;split at e
  ·rename_i j off g;split at e
   ·rename_i cs fz f;have c:=d.2.2 a;rw[g]at c;simp only[aD]at c;obtain⟨r,m,hc⟩:=JT s (off:=off) f;obtain⟨v,i,l⟩:=EK (P:=P) hc e;generalize n:b.getD a undef=x at c;cases c with
    |ptr _ _ _ r' hr'=>
     simp_all[asAddr]
   ·cases e
  ·cases e
theorem FO(s:Sim M μ h w){t:T PV}{nt:Nat}{b:Array Value}(f:TmpsRep M μ t nt b):∀ {l:List ResultVar} {c:List PV},Iv P h t l=zo c ->
  ∃ xs:List Value,(l.mapM (fun | .tmp t=>pure (b.getD t undef) | .cell a t=>do loadVar t (<- asAddr (b.getD a undef)):ResultVar->Sem Value)).run P w=.ok xs w/\RepL M μ c xs
 |[],c,e=>by simp[Iv]at e;subst e;exact⟨[],by simp,RepL.nil _ _⟩
 |r::l,c,e=>by
  unfold Iv at e;split at e
  ·rename_i p k j d;cases e;obtain⟨x,m,g⟩:=Q9 s f j;obtain⟨xs,n,i⟩:=FO s f d;refine⟨x::xs,?_,RepL.cons g i⟩<;>simp_all
  ·cases e
theorem F9(s:Sim M μ h w){j:Func}{t:T PV}{nt:Nat}{d:Array Value}(q:TmpsRep M μ t nt d){v:PV}(e:results P j h t=zo v):∃ x,(Go.results j d).run P w=.ok x w/\Rep M μ v x:=by
 unfold results at e
 have key:∀ {l:List PV},Iv P h t j.results.toList=zo l -> ∃ xs:Array Value,(j.results.mapM (fun | .tmp t=>pure (d.getD t undef) | .cell a t=>do loadVar t (<- asAddr (d.getD a undef)):ResultVar->Sem Value)).run P w=.ok xs w/\RepL M μ l xs.toList:=by
  intro l f;obtain⟨xs,m,k⟩:=FO s q f
  simp_all[Array.mapM_eq_mapM_toList,Sem.run_map]
 have g:(Go.results j d).run P w=((j.results.mapM (fun | .tmp t=>pure (d.getD t undef) | .cell a t=>do loadVar t (<- asAddr (d.getD a undef)):ResultVar->Sem Value)) >>= λvs=>(pure (if h:vs.size=1 then vs[0]else .tuple vs):Sem Value)).run P w:=rfl
 rw[g];split at e
 ·rename_i z f;cases e;obtain⟨xs,m,k⟩:=key f;obtain⟨x,y,u⟩:=Kt k rfl;have r:xs = #[x]:=by grind
  simp_all
 ·rename_i l n f;cases e;obtain⟨xs,m,k⟩:=key f
  have o:xs.size≠1:=by
   intro h;have:l.length=1:=by rw[k.1];omega
   match l,this with
   |[p],_=>simp_all
  refine⟨.tuple xs,by simp_all,.tup _ _ _ (by simpa using k.1) λi c v a b=>k.2 i c v a (by grind)⟩
 ·cases e
theorem HP{u:UM}{m:FrameMode}(b:UMRep M μ u m):UMRep M μ (Kh u) (settle m):=by
 cases u with
 |ret=>have b:m=.returning:=b;subst b;rfl
 |pan j=>
  obtain⟨a,rfl,hc⟩:=b;cases j with
  |nil=>cases a with
   |nil=>exact⟨[],rfl,trivial⟩
   |cons _ _=>exact hc.elim
  |cons e d=>
   cases a with
   |nil=>exact hc.elim
   |cons p n=>
    obtain⟨i,f,g,h⟩:=hc;obtain⟨ev,k⟩:=e;obtain⟨pv,t,s⟩:=p;simp only at f g;subst f;subst g;cases k with
    |false=>exact⟨_,rfl,i,rfl,rfl,h⟩
    |true=>
     have drop:∀ {l:List PE} {m:List PanicEntry},ChRep M μ l m->m.dropWhile (!·.goexit)=[]:=by
      intro l
      induction l with
      |nil=>intro m c;cases m with
       |nil=>rfl
       |cons _ _=>exact c.elim
      |cons _ _ ih=>intro m c;cases m with
       |nil=>rfl
       |cons q w=>
        obtain⟨_,_,o,r⟩:=c
        simp_all
     have:=drop h;show settle (.panicking ({ v:=pv,recovered:=zt }::n))=.returning;simp[settle,this]
theorem KL{u:UM}{m:FrameMode}(b:UMRep M μ u m):m ≠ .run:=by
 cases u with
 |ret=>have b:m=.returning:=b;simp_all
 |pan c=>obtain⟨a,rfl,_⟩:=b;simp_all
theorem Ov{x y:List DF}{X Y:List Deferred}(a:DefsRep M μ x X)(b:DefsRep M μ y Y):DefsRep M μ (x++y) (X++Y):=by
 induction x generalizing X with
 |nil=>cases X with
  |nil=>exact b
  |cons _ _=>exact a.elim
 |cons d x c=>cases X with
  |nil=>exact a.elim
  |cons _ _=>exact⟨a.1,c a.2⟩
theorem GZ(R:RecOK P rec){fn:Func}{t:T PV}{nt:Nat}:∀ (n:Nat) {I:List DF} {u:UM} {h h':Hp} {o:Out},leave P rec fn n I u t h=zo (o,h') ->
  ∀ {M:Ao} {μ:Mu} {w:World} {fr:Frame} (cs:List Frame),Sim M μ h w->UMRep M μ u fr.mode->DefsRep M μ I fr.defers->TmpsRep M μ t nt fr.tmps->P.funcs[fr.fn]?=zo fn ->
  ∃ z μ' w' j,Sim z μ' h' w'/\Grow M μ w z μ' w'/\Steps P (lone fr cs w) (lone j cs w')/\j.fn=fr.fn/\j.kind=fr.kind/\QS P z μ' j w' o
 |0,_,_,_,_,_,e,_,_,_,_,_,_,_,_,_,_=>by simp[leave]at e
 |n+1,I,u,h,h',o,e,M,μ,w,fr,cs,s,hu,hd,ht,hfn=>by
  unfold leave at e;split at e
  ·have K:fr.defers=[]:=by
    cases d:fr.defers with
    |nil=>rfl
    |cons _ _=>rw[d]at hd;exact hd.elim
   split at e
   ·split at e
    ·rename_i v hv;cases e;obtain⟨x,J,h2⟩:=F9 s ht hv;exact⟨M,μ,w,fr,s,.refl _ _ _,.refl _ _,rfl,rfl,x,h2,hu,K,fn,hfn,J⟩
    ·cases e
   ·rename_i ch;cases e;obtain⟨E,J,h2⟩:=hu;exact⟨M,μ,w,fr,s,.refl _ _ _,.refl _ _,rfl,rfl,E,h2,J,K,fn,hfn⟩
  ·rename_i id I;cases d:fr.defers with
   |nil=>rw[d]at hd;exact hd.elim
   |cons D C=>
    rw[d]at hd;obtain⟨⟨r,hr,i,a⟩,y⟩:=hd;obtain⟨Dt,Da⟩:=D;simp only at i a;subst i;subst a;split at e
    ·rename_i l hb;split at e
     ·rename_i J O;obtain⟨r',L,dd,b1,b2⟩:=s.blk id _ hb;rw[hr]at L;cases L;cases dd with
      |none=>grind
      |some q=>
       have so:=BZ (P:=P) (o':=.deferred zn) b1 (by simp_all);obtain⟨s1,p⟩:=s.object (o':=.deferred zn) hb hr trivial O b1 (by simp_all) ⟨zn,rfl,trivial⟩
       have k:(Instr.takeDeferred r.b).run P w=.ok q { w with heap:=w.heap.setIfInBounds r.b (.deferred zn) }:=by
        simp_all[getObj,Sem.run,Instr.takeDeferred,Sem.run_bind,Result.andThen]
       have st:=Kk (P:=P) (cs:=cs) (KL hu) d k;obtain⟨z,μ',w',j,S,U,W,X,Y,Z⟩:=GZ R n e (fr:={ fr with defers:=q++C }) cs s1 hu (Ov b2 y) ht hfn
       exact⟨z,μ',w',j,S,p.trans U,.head st W,X,Y,Z⟩
     ·cases e
    ·cases e
  ·rename_i b ats ty args I;cases d:fr.defers with
   |nil=>rw[d]at hd;exact hd.elim
   |cons D C=>
    rw[d]at hd;obtain⟨⟨A,va,i,a,G⟩,y⟩:=hd;obtain⟨Dt,Da⟩:=D;simp only at i a;subst i;subst a;split at e
    ·split at e
     ·rename_i v J hbt;obtain⟨M1,μ1,w1,x,k,s1,p,hx⟩:=H7 (ty:=ty) (cs:=A) s G hbt;have st:=Gs (P:=P) (cs:=cs) (KL hu) d k;obtain⟨z,μ',w',j,S,U,W,X,Y,Z⟩:=GZ R n e (fr:={ fr with defers:=C }) cs s1 (hu.mono p.m p.u) (y.mono p.m p.u) (ht.mono p.m p.u) hfn
      exact⟨z,μ',w',j,S,p.trans U,.head st W,X,Y,Z⟩
     ·cases e
    ·cases e
  ·rename_i f args I;cases d:fr.defers with
   |nil=>rw[d]at hd;exact hd.elim
   |cons D C=>
    rw[d]at hd;obtain⟨⟨fv,first,cap,vf,vc,va,hfe,hny,i,a,G,hrb,hrc⟩,y⟩:=hd
    obtain⟨Dt,Da⟩:=D;simp only at i a;subst i;subst a;subst hfe;cases fv with
    |func g=>
     simp only at e;cases B:CB P (.func g) first cap args with
     |none=>simp_all
     |some rr=>
      rw[B]at e;obtain⟨N,g',args',rfl⟩:=FE (P:=P) (w:=w) G hrb hrc B;obtain⟨vs,k,hvs,_⟩:=N;simp only at e;split at e
      ·rename_i rv u1 J F;obtain⟨M1,μ1,w1,frX,m1,u1',s1,p,st1,hup,hum,hkX,x,hx,hgo⟩:=R.dfr F s hvs { fr with defers:=C } cs hu
       cases hup;have st:=step_defer (P:=P) (cs:=cs) (KL hu) d rfl k;have st2:=step_going_returned (c:={ { fr with defers:=C }with mode:=m1 }) (cs:=cs) hkX hgo
       obtain⟨z,μ',w',j,S,U,W,X,Y,Z⟩:=GZ R n e (fr:={ { { fr with defers:=C }with mode:=m1 }with mode:=settle m1 }) cs s1 (HP hum) (y.mono p.m p.u) (ht.mono p.m p.u) hfn
       exact⟨z,μ',w',j,S,p.trans U,.head st (st1.trans (.head st2 W)),X,Y,Z⟩
      ·cases e
    |_=>cases e
theorem Hj:∀ (l:List PV) (i:Nat) (t:T PV) (k:Nat),i + l.length <= 1048575 -> (Bn i l t).get k=if i <= k /\ k < i + l.length then l[k - i]? else t.get k
  |[],i,t,k,_=>by simp[Bn];omega
  |a :: l,i,t,k,hle=>by
    simp only[bp]at hle;unfold Bn
    rw [Hj l (i + 1) _ k (by omega), T.get_put 20 t i a k (by have : (2 : Nat) ^ 20 - 1 = 1048575 := by decide
                                                              omega)]
    by_cases hk:k=i
    · subst hk;rw[zx (by omega),zy rfl,zy (by simp)];simp
    · by_cases h1:i + 1 <= k /\ k < i + 1 + l.length
      · rw[zy h1,zy (by simp;omega),show k - i=(k - (i + 1)) + 1 by omega];simp
      · rw[zx h1,zx hk,zx (by simp;omega)]
theorem MH{args:List PV}{vs:List Value}(a:RepL M μ args vs){n:Nat}(e:args.length<=n)(b:n<1048575):TmpsRep M μ (Bn 0 args .lf) n (vs.toArray++bn (n-vs.toArray.size) undef):=by
 have f:=a.1;refine⟨b,by simp;omega,λk=> ?_⟩;rw[Hj args 0 .lf k (by omega)];by_cases c:k<args.length
 ·rw[zy (by omega)];obtain⟨v,d,g⟩:=a.get (i:=k) (af c)
  have:(vs.toArray++bn (n-vs.toArray.size) undef).getD k undef=v:=by
   rw[aG,Array.getElem?_append_left (by simp;omega)];simp[d]
  grind
 ·rw[zx (by omega)]
  have:(vs.toArray++bn (n-vs.toArray.size) undef).getD k undef=undef:=by
   rw[aG,Array.getElem?_append_right (by simp;omega),Array.getElem?_replicate]
   grind
  rw[this];exact FN M μ
theorem CZ{nt:Nat}:∀ {f:List Nat} {args:List PV} {vs:List Value} {t d:T PV} {b:Array Value},Bx nt f args t=zo d->RepL M μ args vs->TmpsRep M μ t nt b ->
  f.length=vs.length/\TmpsRep M μ d nt ((f.zip vs).foldl (λb (x:Nat×Value)=>b.setIfInBounds x.1 x.2) b)
 |[],[],vs,t,d,b,e,hr,ht=>by
  simp[Bx]at e;subst e;rw[hr.nil_inv]
  simp_all
 |[],_::_,vs,t,d,b,e,hr,ht=>by simp[Bx]at e
 |_::_,[],vs,t,d,b,e,hr,ht=>by simp[Bx]at e
 |p::f,a::args,vs,t,d,b,e,hr,ht=>by
  unfold Bx at e;replace e:=Af e;obtain⟨g,e⟩:=e;obtain⟨x,k,rfl,h,c⟩:=hr.cons_inv;obtain⟨i,j⟩:=CZ e c (Ly ht (by simpa using g) h)
  simp_all
end
end
section
variable[Gl]
section
variable{P:Program}{sh:FuncId->Bool}{M:Ao}{μ:Mu}{h:Hp}{w:World}
theorem Pf(P:Program):RecOK P (λ_ _ _ _=>zn):=by constructor<;>(simp_all)
theorem Ez{b:CallKind}{cs a:List Frame}(d:b=.normal)(h:Tail b cs a):a=cs:=by
 rcases h with h|⟨c,_⟩<;>simp_all
theorem M4{rec:HR}(R:RecOK P rec)(D:E1 P rec){F:Nat}{f:FuncId}{fn:Func}{c:Code}{up:Option UM}{args:List PV}{h h':Hp}{o:Out}{r:Option UM}(X:P.funcs[f]?=zo fn)(G:fn.body=zo c)
  (e:(match (bif ac args.length fn.ntmps&&ae fn.ntmps 1048575 then AY P sh rec F c { t:=Bn 0 args .lf,nt:=fn.ntmps,ds:=[],up,ro:=zn } h else zn)with
   |some (.normal,fr,h)|some (.ret,fr,h)=>(match leave P rec fn F fr.ds .ret fr.t h with
    |some (o,h)=>zo (o,fr.up,h)
    |none=>zn)
   |some (.panic e,fr,h)=>(match leave P rec fn F fr.ds (.pan [{ v:=e,recovered:=zf }]) fr.t h with
    |some (o,h)=>zo (o,fr.up,h)
    |none=>zn)
   |_=>zn)=zo (o,r,h')) {M:Ao} {μ:Mu} {w:World} {vs:List Value} (s:Sim M μ h w) (W:RepL M μ args vs) (j:CallKind) (cs:List Frame) (K:My M μ j cs up) :
  ∃ l μ' w' fr cs',Sim l μ' h' w'/\Grow M μ w l μ' w'/\Steps P (lone (Frame.enter P f vs.toArray j) cs w) (lone fr cs' w')/\Tail j cs cs'/\My l μ' j cs' r/\fr.fn=f/\fr.kind=j/\QS P l μ' fr w' o:=by
 let b:Frame:={ fn:=f,tmps:=#[],todo:=[],defers:=[],mode:=.run,kind:=j }
 have p:Frame.enter P f vs.toArray j=b.atR { tmps:=vs.toArray++bn (fn.ntmps-vs.toArray.size) undef,defers:=[] } [.code c]:=by
  grind [Frame.enter,Frame.atR]
 have GT:∀ {c:Code} {fr n:Fr} {h h':Hp} {ex:Ex},AY P sh rec F c fr h=zo (ex,n,h') ->
   ∀ {M:Ao} {μ:Mu} {w:World} {b:Frame} {a:Act} {cs:List Frame} (k:List Item),Sim M μ h w->FrRep M μ fr b a cs->Ran P M μ w (lone (b.atR a (.code c::k)) cs w) b k cs ex n h':=(Jw R D F).1
 have E:∀ {ex:Ex} {fr:Fr} {B:Hp},AY P sh rec F c { t:=Bn 0 args .lf,nt:=fn.ntmps,ds:=[],up,ro:=zn } h=zo (ex,fr,B)->args.length<=fn.ntmps->fn.ntmps<1048575 ->
   ∀ {u:UM},((ex=.normal\/ex=.ret)/\u=.ret \/ ∃ v,ex=.panic v/\u=.pan [{ v,recovered:=zf }])->(match leave P rec fn F fr.ds u fr.t B with
    |some (o,h)=>zo (o,fr.up,h)
    |none=>zn)=zo (o,r,h') ->
   ∃ l μ' w' fr cs',Sim l μ' h' w'/\Grow M μ w l μ' w'/\Steps P (lone (Frame.enter P f vs.toArray j) cs w) (lone fr cs' w')/\Tail j cs cs'/\My l μ' j cs' r/\fr.fn=f/\fr.kind=j/\QS P l μ' fr w' o:=by
  intro ex fr B z I J u Y e
  have S:FrRep M μ { t:=Bn 0 args .lf,nt:=fn.ntmps,ds:=[],up,ro:=zn } b { tmps:=vs.toArray++bn (fn.ntmps-vs.toArray.size) undef,defers:=[] } cs:=
   ⟨MH W I J,trivial,K,rfl⟩
  obtain⟨O,μ1,w1,A,y,s1,U,C,t1,arr⟩:=GT z (b:=b) [] s S;rw[<- p]at arr;split at e
  ·rename_i o1 h2 q;cases e
   have L:∃ i:Frame,Steps P (lone (Frame.enter P f vs.toArray j) cs w) (lone i y w1)/\i.fn=f/\i.kind=j/\i.defers=A.defers/\i.tmps=A.tmps/\UMRep O μ1 u i.mode:=by
    rcases Y with⟨rfl|rfl,rfl⟩|⟨v,rfl,rfl⟩
    ·exact⟨{ b.atR A []with mode:=.returning },Steps.trans arr (.one (stepR_end rfl)),rfl,rfl,rfl,rfl,rfl⟩
    ·obtain⟨k1,arr⟩:=arr;exact⟨{ b.atR A (.code .ret::k1)with mode:=.returning },Steps.trans arr (.one (stepR_ret rfl)),rfl,rfl,rfl,rfl,rfl⟩
    ·obtain⟨todo,x,Z,arr⟩:=arr;exact⟨{ b.atR A todo with mode:=.panicking [{ v:=x,recovered:=zf }] },arr,rfl,rfl,rfl,rfl,_,rfl,Z,rfl,rfl,trivial⟩
   obtain⟨i,st,m1,m2,m3,m4,m5⟩:=L;obtain⟨l,μ',w',n,q1,N,q3,q4,q5,q6⟩:=GZ R F q (fr:=i) y s1 m5 (by rw[m3];exact C.d) (by rw[m4];exact C.t) (by simp_all);refine⟨l,μ',w',n,y,q1,U.trans N,st.trans q3,t1,?_,by rw[q4,m1],by rw[q5,m2],q6⟩;exact(C.mono N.m N.u).u
  ·cases e
 cases g:(ac args.length fn.ntmps&&ae fn.ntmps 1048575)with
 |false=>simp_all
 |true=>
  rw[g]at e;simp only[zb]at e;simp only[ad,Nat.ble_eq,bH]at g;split at e
  ·grind
  ·grind
  ·rename_i v fr B z;exact E z g.1 g.2 (.inr ⟨v,rfl,rfl⟩) e
  ·cases e
theorem Ey(s:Sim M μ h w){l:Nat}{r:Bk}{a:Option Code}{o:Out}{i:Option UM}{h':Hp}(n:μ l=zo r)(e:A8 h l a=zo (o,i,h')) :
  ∃ w',(Instr.endRound r.b a).run P w=.ok (.bool a.isNone) w'/\o=.ret (.bool a.isNone)/\Sim M μ h' w'/\Grow M μ w M μ w':=by
 unfold A8 at e;split at e
 ·rename_i L q nt t I u k d m;split at e
  ·rename_i G f;cases e;obtain⟨J,c,p,rd,j,C,D,E,x,y,z,A,B,g⟩:=s.blk l _ m;rw[n]at c;cases c;have K:=BZ (P:=P) (o':=.loop { p with state:=if a.isNone then .ready else .done,pending:=a }) j (by simp_all)
   obtain⟨s1,F⟩:=s.object (o':=.loop { p with state:=if a.isNone then .ready else .done,pending:=a }) m n trivial f j (by simp_all)
    ⟨_,rd,rfl,by cases a<;>rfl,(by grind),rfl,x,y,z,A,B,g⟩
   simp_all[Instr.endRound,Sem.run_bind,Cq,Result.andThen,Sem.run_pure]
  ·cases e
 ·cases e
theorem Rc(PO:Jj P)(hD:∀ rec,RecOK P rec->E1 P rec)(F:Nat){rec:HR}(R:RecOK P rec):RecOK P (QZ P sh F rec):=by
 have D:E1 P rec:=hD _ R
 have GT:∀ {c:Code} {fr O:Fr} {h h':Hp} {ex:Ex},AY P sh rec F c fr h=zo (ex,O,h') ->
  ∀ {M:Ao} {μ:Mu} {w:World} {b:Frame} {a:Act} {cs:List Frame} (k:List Item),Sim M μ h w->FrRep M μ fr b a cs->Ran P M μ w (lone (b.atR a (.code c::k)) cs w) b k cs ex O h':=(Jw R D F).1
 refine⟨?_,?_,?_⟩
 ·intro f args h o C h' e M μ w vs s K cs;simp only[QZ]at e;split at e
  ·rename_i p hp;obtain⟨⟨v,S⟩,hd,e⟩:=AA e;cases e;obtain⟨z,μ',w',fr,x,q1,q2,q3,q4,q5,q6⟩:=PO f p hp args h v S hd M μ w vs s K cs;exact⟨z,μ',w',fr,q1,q2,q3,q4,x,q5,q6⟩
  ·split at e
   ·rename_i fn I;split at e
    ·rename_i c hc;obtain⟨z,μ',w',fr,cs',q1,q2,q3,q4,q5,q6,q7,q8⟩:=M4 R D I hc e s K .normal cs rfl;have:=Ez rfl q4;subst this;refine⟨z,μ',w',fr,q1,q2,q3,q6,?_⟩;cases o with
     |ret v=>obtain⟨x,hx,S,h2,G⟩:=q8;exact⟨x,hx,S,h2,q7,G⟩
     |pan ch=>exact q8
    ·cases e
   ·cases e
 ·intro f u args h o C h' e M μ w vs s K c cs hu;simp only[QZ]at e;split at e
  ·cases e
  split at e
  ·rename_i fn I;split at e
   ·rename_i c' hc;obtain⟨z,μ',w',fr,cs',q1,q2,q3,q4,q5,q6,q7,q8⟩:=M4 R D I hc e s K .deferred (c::cs) ⟨rfl,c,cs,rfl,hu⟩;cases C with
    |none=>cases q5
    |some u'=>
     obtain⟨_,c1,tl,rfl,hm⟩:=q5;rcases q4 with h0|⟨_,c2,tl2,m,S,h2⟩
     ·cases h0;refine⟨z,μ',w',fr,c.mode,u',q1,q2,q3,rfl,hm,q7,q8⟩
     grind
   ·cases e
  ·cases e
 ·intro l args h o C h' e M μ w vs r s K X c cs;simp only[QZ]at e;split at e
  ·rename_i st pend nt t ps A j d hb;split at e
   ·rename_i t1 hset;split at e
    ·rename_i fr1 S U;split at e
     ·rename_i pend2 nt2 t2 ps2 asg2 body2 d2 W;split at e
      ·rename_i h2 J;obtain⟨r',Y,n,rd,b1,b2,b3,b4,b5,b6,b7,b8,b9,b10⟩:=s.blk l _ hb;rw[X]at Y;cases Y;obtain⟨hlen,htm⟩:=CZ hset K b5
       have hy:(Instr.yield r.b vs.toArray).run P w=.ok (.round r.b n.fn ((n.params.zip vs.toArray).foldl (λtmps (t,a)=>tmps.setIfInBounds t a) n.tmps) n.assign n.body) w:=by
        simp_all[Instr.yield,Sem.run_bind,Cq,Result.andThen,zx]
       let b:Frame:={ fn:=n.fn,tmps:=#[],todo:=[],defers:=[],mode:=.run,kind:=.normal,roundOf:=zo r.b }
       have E:TmpsRep M μ t1 nt ((n.params.zip vs.toArray).foldl (λtmps (t,a)=>tmps.setIfInBounds t a) n.tmps):=by
        simp_all
       have hb0:∀ L,Frame.round r.b n.fn L n.assign n.body .normal=b.atR { tmps:=L,defers:=[] } [.code A,.beginRound,.code j]:=by
        grind [Frame.round,Frame.atR]
       generalize (n.params.zip vs.toArray).foldl (λtmps (t,a)=>tmps.setIfInBounds t a) n.tmps=L at hy E;have f0:FrRep M μ { t:=t1,nt,ds:=[],up:=zn,ro:=zo l } b { tmps:=L,defers:=[] } (c::cs):=⟨E,trivial,rfl,r,X,rfl⟩;obtain⟨M1,μ1,w1,a1,cs1,s1,g1,f1,t1',arr⟩:=GT U (b:=b) [.beginRound,.code j] s f0;have:=Ez rfl t1';subst this;rw[<- hb0]at arr;obtain⟨r2,Z,l2,rd2,c1,c2,c3,c4,c5,c6,c7,c8,c9,c10⟩:=s1.blk l _ W;rw[g1.u _ _ X]at Z;cases Z;have so:=BZ (P:=P) (o':=.loop { l2 with state:=.busy }) c1 (by simp_all)
       obtain⟨s2,g2⟩:=s1.object (o':=.loop { l2 with state:=.busy }) W (g1.u _ _ X) trivial J c1 (by simp_all)
        ⟨_,rd2,rfl,rfl,by decide,c4,c5,c6,c7,c8,c9,c10⟩
       have hbr:(Instr.beginRound r.b).run P w1=.ok () { w1 with heap:=w1.heap.setIfInBounds r.b (.loop { l2 with state:=.busy }) }:=by
        have:l2.state=.ready:=c2;simp only[Instr.beginRound,Sem.run_bind,Cq c1,Result.andThen,so,this,Sem.run_pure]
       have st1:Steps P (lone (Frame.round r.b n.fn L n.assign n.body .normal) (c::cs) w) (lone (b.atR a1 [.code j]) (c::cs) _):=Steps.trans arr (.one (stepR_beginRound rfl hbr));have f1':=f1.mono g2.m g2.u
       have N:∀ {ex:Ex} {B:Fr} {G:Hp} {i:Option Code},AY P sh rec F j fr1 h2=zo (ex,B,G) ->
         (ex=.normal/\i=zn\/ex=.ret/\i=zo .ret\/(∃ id,ex=.exit id/\i=zo (.exit id)) \/ ∃ id,ex=.goto id/\i=zo (.goto id))->A8 G l i=zo (o,C,h') ->
         ∃ z μ' w' x v fn tmps A body,o=.ret v/\(Instr.yield r.b vs.toArray).run P w=.ok (.round r.b fn tmps A body) w/\Sim z μ' h' w'/\Grow M μ w z μ' w'/\Rep z μ' v x /\
          Steps P (lone (Frame.round r.b fn tmps A body .normal) (c::cs) w) (lone (c.finish x) cs w'):=by
        intro ex B G i y hj he;obtain⟨M3,μ3,w3,a3,cs3,s3,g3,f3,t3,g⟩:=GT y (b:=b) [] s2 f1';have:=Ez rfl t3;subst this;obtain⟨w4,q,ho,s4,g4⟩:=Ey (P:=P) s3 (g3.u _ _ (g1.u _ _ X)) he;refine⟨M3,μ3,w4,.bool i.isNone,.bool i.isNone,n.fn,L,n.assign,n.body,ho,hy,s4,(g1.trans g2).trans (g3.trans g4),.bool _ _,st1.trans ?_⟩;rcases hj with⟨rfl,rfl⟩|⟨rfl,rfl⟩|⟨id,rfl,rfl⟩|⟨id,rfl,rfl⟩
        ·exact Steps.trans g (.one (stepR_round_end rfl rfl q))
        ·obtain⟨k1,g⟩:=g;exact Steps.trans g (.one (stepR_round_ret rfl rfl q))
        ·obtain⟨k1,hk,g⟩:=g;exact Steps.trans g (.one (stepR_round_exit rfl rfl (by rw[hk];rfl) q))
        ·obtain⟨k1,hk,g⟩:=g;exact Steps.trans g (.one (stepR_round_goto rfl rfl (by rw[hk];rfl) q))
       split at e
       ·grind
       ·grind
       ·rename_i id B G y;exact N y (.inr (.inr (.inl ⟨id,rfl,rfl⟩))) e
       ·rename_i id B G y;exact N y (.inr (.inr (.inr ⟨id,rfl,rfl⟩))) e
       ·cases e
      ·cases e
     ·cases e
    ·cases e
   ·cases e
  ·cases e
theorem Ox(a:Jj P)(b:∀ rec,RecOK P rec->E1 P rec)(F:Nat):∀ n,RecOK P (B3 P sh F n)
 |0=>Pf P
 |n+1=>Rc a b F (Ox a b F n)
end
end
section
variable[Gl]
section
variable{P:Program}{hs h h1 h2:Hp}{id:Nat}
def Eb(hs h:Hp):Prop:=∀ x b,hs.get x=zo b->h.get x=zo b
structure Lay (hs h h1 h2:Hp) (id:Nat):Prop where
 get:∀ x,h2.get x=match h1.get x with
  |some b=>zo b
  |none=>h.get x
 keys:∀ x b,h1.get x=zo b->(∃ b0,hs.get x=zo b0)\/x=id
 up:∀ x,h1.get x=zn->hs.get x=zn
theorem Lay.refl(s:Eb hs h)(id:Nat):Lay hs h hs h id:=⟨λx=>by
 cases e:hs.get x with
 |none=>rfl
 |some b=>exact s x b e,λx b e=>.inl ⟨b,e⟩,λ_ h=>h⟩
theorem Lay.sub(l:Lay hs h h1 h2 id):Eb h1 h2:=λx b e=>by rw[l.get,e]
theorem Hp.set_some{h:Hp}{j:Nat}{b b':Blk}{h':Hp}(e:h.set j b=zo h')(g:Hp):∃ a,g.set j b'=zo a:=by
 grind [Hp.set]
theorem Lay.set(l:Lay hs h h1 h2 id){j:Nat}{b b0:Blk}{f:Hp}(m:h1.get j=zo b0)(e:h1.set j b=zo f):∃ a,h2.set j b=zo a/\Lay hs h f a id:=by
 obtain⟨a,e2⟩:=Hp.set_some (b':=b) e h2;have i:=(Hp.get_set e).1;have k:=(Hp.get_set e2).1
 refine⟨a,e2,⟨λx=> ?_,λx c d=> ?_,λx d=>l.up x (by
  grind)⟩⟩
 ·rw[i,k];by_cases d:x=j
  ·simp[d]
  ·simp only[zx d];exact l.get x
 ·rw[i]at d;by_cases g:x=j
  ·subst g;exact l.keys x b0 m
  ·rw[zx g]at d;exact l.keys x c d
theorem Lay.new(l:Lay hs h h1 h2 id)(g:hs.get id=zn->h.get id=zn){b:Blk}{f:Hp}(e:h1.new id b=zo f):∃ a,h2.new id b=zo a/\Lay hs h f a id:=by
 obtain⟨i,o,_⟩:=Hp.get_new e;have k:h2.get id=zn:=by rw[l.get,i];exact g (l.up id i)
 unfold Hp.new at e;have j:h1.m.get id=zn:=i;rw[j]at e;obtain⟨a,e2⟩:=Hp.set_some (b':=b) e h2;have q:=(Hp.get_set e2).1
 refine⟨a,?_,⟨λx=> ?_,λx c d=> ?_,λx d=>l.up x (by
  grind)⟩⟩
 ·unfold Hp.new;have p:h2.m.get id=zn:=k
  simp_all
 ·rw[o,q];by_cases d:x=id
  ·simp[d]
  ·simp only[zx d];exact l.get x
 ·rw[o]at d;by_cases n:x=id
  ·omega
  ·rw[zx n]at d;exact l.keys x c d
theorem CD{f g:PV->Option (PV×List Nat)}(c:∀ p r,f p=zo r->g p=zo r):∀ {d:List PV} {r:List PV×List Nat},AB f d=zo r->AB g d=zo r
 |[],r,e=>e
 |p::d,r,e=>by
  unfold AB at e ⊢;split at e
  ·rename_i q a j b h i;rw[c _ _ h,CD c i];exact e
  ·cases e
theorem Kb(s:Eb hs h):∀ (n:Nat) (p:PV) (r:PV×List Nat),AW hs n p=zo r->AW h n p=zo r
 |0,p,r,e=>by simp[AW]at e
 |n+1,p,r,e=>by
  have g:=Kb s n;cases p with
  |agg cs=>simp only[AW]at e ⊢;obtain⟨x,c,rfl⟩:=AA e;rw[CD g c];rfl
  |tup cs=>simp only[AW]at e ⊢;obtain⟨x,c,rfl⟩:=AA e;rw[CD g c];rfl
  |ifc t x=>simp only[AW]at e ⊢;obtain⟨y,m,rfl⟩:=AA e;grind
  |fn f a b=>
   grind [AW,CD]
  |own j off len=>
   simp only[AW]at e ⊢;split at e
   ·rename_i es ex fz d;rw[s j _ d];replace e:=Af e;obtain⟨hc,e⟩:=e;obtain⟨x,c,rfl⟩:=AA e;simp only[hc,zb];rw[CD g c];rfl
   ·cases e
  |ptr j off=>
   simp only[AW]at e ⊢;split at e
   ·rename_i cs fz d;rw[s j _ d];replace e:=Af e;obtain⟨hc,e⟩:=e;obtain⟨x,c,rfl⟩:=AA e;simp only[hc,zb];rw[CD g c];rfl
   ·cases e
  |ept j i off=>
   simp only[AW]at e ⊢;split at e
   ·rename_i es ex fz d;rw[s j _ d];dsimp only;split at e
    ·rename_i l k
     try rw[k]
     replace e:=Af e;obtain⟨hc,e⟩:=e;obtain⟨x,c,rfl⟩:=AA e;simp only[hc,zb];rw[CD g c];rfl
    ·cases e
   ·cases e
  |yl _=>simp[AW]at e
  |mp _=>simp[AW]at e
  |_=>exact e
theorem Ib(s:Eb hs h):∀ {c:List PV} {r:List PV×List Nat},Am hs c=zo r->Am h c=zo r
 |[],r,e=>e
 |p::c,r,e=>by
  unfold Am at e ⊢;split at e
  ·rename_i q a g b d f;rw[Kb s _ _ _ d,Ib s f];exact e
  ·cases e
theorem JC(s:Eb hs h){p:PV}{es:List PV}(e:A0 hs p=zo es):A0 h p=zo es:=by
 unfold A0 at e ⊢;cases p with
 |own j off len=>
  simp only at e ⊢;split at e
  ·rename_i b ex fz a;rw[s j _ a];exact e
  ·rename_i cs fz a;rw[s j _ a];exact e
  ·cases e
 |_=>exact e
theorem Lay.freeze:∀ (L:List Nat) {f g b:Hp},Lay hs h f g id->Pi.freeze f L=zo b -> ∃ c,Pi.freeze g L=zo c/\Lay hs h b c id
 |[],f,g,b,l,e=>by simp_all[Pi.freeze]
 |j::L,f,g,b,l,e=>by
  unfold Pi.freeze at e ⊢;split at e
  ·rename_i cs fz d;rw[l.sub j _ d];split at e
   ·rename_i m a;obtain⟨n,i,k⟩:=l.set d a;dsimp only;rw[i];exact Lay.freeze L k e
   ·cases e
  ·rename_i es ex fz d;rw[l.sub j _ d];split at e
   ·rename_i m a;obtain⟨n,i,k⟩:=l.set d a;dsimp only;rw[i];exact Lay.freeze L k e
   ·cases e
  ·cases e
def CK(hs h:Hp)(id:Nat)(F:Option R):R->Prop
 |.val v b=>∃ a,F=zo (.val v a)/\Lay hs h b a id
 |.skip b=>∃ a,F=zo (.skip a)/\Lay hs h b a id
 |.call f args=>F=zo (.call f args)
 |_=>True
theorem AK(s:Eb hs h){F:Option R}{v:PV}(e:F=zo (.val v h)):CK hs h id F (.val v hs):=⟨h,e,.refl s id⟩
theorem C2(s:Eb hs h){o:Option PV}{r:R}(e:vl o hs=zo r):CK hs h id (vl o h) r:=by
 obtain⟨v,rfl,rfl⟩:=Dd e;exact AK s rfl
theorem Pu(s:Eb hs h){c a b:PV}{r:R}(e:Dg hs c a b=zo r):CK hs h id (Dg h c a b) r:=by
 unfold Dg at e ⊢;split at e<;>cases e<;>exact AK s rfl
theorem Nm(s:Eb hs h)(a:hs.get id=zn->h.get id=zn){b:TypeId}{r:R}(e:Ck P hs id b=zo r):CK hs h id (Ck P h id b) r:=by
 unfold Ck at e ⊢;split at e
 ·obtain⟨g,d,rfl⟩:=AA e;obtain⟨c,e2,f⟩:=(Lay.refl s id).new a d;exact⟨c,by rw[e2];rfl,f⟩
 ·cases e
theorem QX(s:Eb hs h)(a:hs.get id=zn->h.get id=zn){v:PV}{r:R}(e:FW hs id v=zo r):CK hs h id (FW h id v) r:=by
 unfold FW at e ⊢;split at e
 ·cases e
 ·obtain⟨f,c,rfl⟩:=AA e;obtain⟨b,e2,d⟩:=(Lay.refl s id).new a c;exact⟨b,by rw[e2];rfl,d⟩
theorem Nt(s:Eb hs h){ty:TypeId}{b:List (Nat×PV)}{r:R}(e:Bw P hs ty b=zo r):CK hs h id (Bw P h ty b) r:=by
 unfold Bw at e ⊢;split at e
 ·replace e:=Af e;obtain⟨hc,e⟩:=e;split at e
  ·rename_i pl c;obtain⟨cs,a,rfl⟩:=AA e;refine AK s ?_<;>grind
  ·cases e
 ·split at e
  ·rename_i n d;replace e:=Af e;obtain⟨hc,e⟩:=e;obtain⟨cs,a,rfl⟩:=AA e;refine AK s ?_<;>grind
  ·cases e
 ·cases e
theorem H4(s:Eb hs h){ty:TypeId}{len:Nat}{c:List (Nat×PV)}{r:R}(e:Ag P hs ty len c=zo r):CK hs h id (Ag P h ty len c) r:=by
 unfold Ag at e ⊢;split at e
 ·split at e
  ·rename_i n o z i a k
   try rw[i,a,k]
   try dsimp only
   split at e
   ·rename_i t b
    try rw[b]
    replace e:=Bq e;obtain⟨hc,e⟩:=e;split at e
    ·rename_i es f;split at e
     ·rename_i q l j;obtain⟨p,g,rfl⟩:=AA e;obtain⟨d,e2,m⟩:=Lay.freeze l (Lay.refl s id) g;refine⟨d,?_,m⟩;simp only[hc,zj,Ib s j,e2,aC]
     ·cases e
    ·cases e
   ·cases e
  ·cases e
 ·cases e
theorem PT(s:Eb hs h){ty:TypeId}{p:PV}{r:R}(e:CC P hs ty p=zo r):CK hs h id (CC P h ty p) r:=by
 unfold CC at e ⊢;split at e
 ·split at e
  ·rename_i cs fz a;rw[s _ _ a];exact C2 s e
  ·cases e
 ·exact C2 s e
 ·split at e
  ·rename_i es ex fz a;rw[s _ _ a];dsimp only;split at e
   ·rename_i c b;try rw[b]
    exact C2 s e
   ·cases e
  ·cases e
 ·cases e
theorem Oe(s:Eb hs h){ty:TypeId}{p v:PV}{r:R}(e:BE P hs ty p v=zo r):CK hs h id (BE P h ty p v) r:=by
 unfold BE at e ⊢;split at e
 ·rename_i n o;replace e:=Bq e;obtain⟨hc,e⟩:=e;simp only[hc,zj];split at e
  ·split at e
   ·rename_i cs b;rw[s _ _ b];replace e:=Af e;obtain⟨f,e⟩:=e;obtain⟨l,a,rfl⟩:=AA e;obtain⟨d,e2,g⟩:=(Lay.refl s id).set b a;exact⟨d,by grind,g⟩
   ·cases e
  ·split at e
   ·rename_i es ex b;rw[s _ _ b];dsimp only;split at e
    ·rename_i m j
     try rw[j]
     replace e:=Af e;obtain⟨f,e⟩:=e;simp only[f,zb];split at e
     ·obtain⟨l,a,rfl⟩:=AA e;obtain⟨d,e2,g⟩:=(Lay.refl s id).set b a;exact⟨d,by simp_all,g⟩
     ·split at e
      ·rename_i c k
       try rw[k]
       replace e:=Af e;obtain⟨i,e⟩:=e;simp only[i,zb];split at e
       ·cases e
       ·cases e
       ·obtain⟨l,a,rfl⟩:=AA e;obtain⟨d,e2,g⟩:=(Lay.refl s id).set b a;exact⟨d,by simp_all,g⟩
      ·cases e
    ·cases e
   ·cases e
  ·cases e
 ·cases e
end
end
section
variable[Gl]
section
variable{P:Program}{hs h h1 h2:Hp}{id:Nat}
theorem Qt(s:Eb hs h){p:PV}{r:R}(e:Em hs p=zo r):CK hs h id (Em h p) r:=by
 unfold Em at e ⊢;split at e<;>first|(cases e;exact AK s rfl)|cases e
theorem QW(s:Eb hs h){a:BinOp}{ty:TypeId}{x y:Operand}{p q:PV}{r:R}(e:DV P hs a ty x y p q=zo r):CK hs h id (DV P h a ty x y p q) r:=by
 unfold DV at e ⊢;split at e
 ·replace e:=Af e;obtain⟨hc,e⟩:=e;simp only[hc,zb];exact C2 s e
 ·replace e:=Bq e;obtain⟨hc,e⟩:=e;simp only[hc,zj];exact C2 s e
 ·exact C2 s e
theorem K2(s:Eb hs h){b a:TypeId}{p:PV}{r:R}(e:BH P hs b a p=zo r):CK hs h id (BH P h b a p) r:=by
 unfold BH at e ⊢;split at e
 ·cases e;exact AK s rfl
 ·cases e;exact AK s rfl
 ·split at e
  ·cases e;exact AK s rfl
  ·cases e
 ·cases e
theorem Qi(s:Eb hs h){ty:TypeId}{p:PV}{r:R}(e:EX P hs ty p=zo r):CK hs h id (EX P h ty p) r:=by
 unfold EX at e ⊢;split at e<;>first|(cases e;exact AK s rfl)|cases e
theorem KK(s:Eb hs h){f:Fn}{a b:List PV}{r:R}(e:BD hs f a b=zo r):CK hs h id (BD h f a b) r:=by
 unfold BD at e ⊢;split at e<;>first|(cases e;exact AK s rfl)|cases e
theorem K8(s:Eb hs h){p:PV}{i:Nat}{r:R}(e:Bg hs p i=zo r):CK hs h id (Bg h p i) r:=by
 unfold Bg at e ⊢;split at e
 ·exact C2 s e
 ·cases e
theorem OC(s:Eb hs h){ty:TypeId}{p:PV}{f:Nat}{r:R}(e:B6 P hs ty p f=zo r):CK hs h id (B6 P h ty p f) r:=by
 unfold B6 at e ⊢;split at e
 ·split at e
  ·rename_i b a
   try rw[a]
   exact C2 s e
  ·cases e
 ·cases e
theorem Im(s:Eb hs h){ty:TypeId}{p:PV}{f:Nat}{r:R}(e:Aw P hs ty p f=zo r):CK hs h id (Aw P h ty p f) r:=by
 unfold Aw at e ⊢;split at e
 ·split at e
  ·rename_i c a;split at e
   ·rename_i n b;replace e:=Bq e;obtain⟨hc,e⟩:=e
    try simp only[a,b]
    simp only[hc,zj];split at e<;>first|(cases e;exact AK s rfl)|cases e
   ·cases e
  ·cases e
 ·cases e
theorem Ip(s:Eb hs h){ty:TypeId}{p q:PV}{r:R}(e:Ap P hs ty p q=zo r):CK hs h id (Ap P h ty p q) r:=by
 unfold Ap at e ⊢;split at e
 ·split at e
  ·rename_i n c
   try simp only[c]
   split at e
   ·split at e
    ·rename_i d a
     try simp only[a]
     replace e:=Af e;obtain⟨hc,e⟩:=e;cases e;simp only[hc,zb];exact AK s rfl
    ·cases e
   ·replace e:=Af e;obtain⟨hc,e⟩:=e;simp only[hc,zb];split at e
    ·rename_i es ex fz f;rw[s _ _ f]
     try dsimp only
     split at e
     ·rename_i d a
      try simp only[a]
      replace e:=Af e;obtain⟨b,e⟩:=e;cases e;simp only[b,zb];exact AK s rfl
     ·cases e
    ·cases e
   ·cases e
  ·cases e
 ·split at e
  ·rename_i n c
   try simp only[c]
   replace e:=Af e;obtain⟨hc,e⟩:=e;simp only[hc,zb];split at e<;>first|(cases e;exact AK s rfl)|cases e
  ·cases e
 ·cases e
theorem OH(s:Eb hs h){ty:TypeId}{p q:PV}{r:R}(e:Bj P hs ty p q=zo r):CK hs h id (Bj P h ty p q) r:=by
 unfold Bj at e ⊢;split at e
 ·replace e:=Af e;obtain⟨hc,e⟩:=e;simp only[hc,zb];split at e
  ·rename_i n c
   try simp only[c]
   exact C2 s e
  ·cases e
 ·split at e
  ·rename_i b a
   try simp only[a]
   cases e;exact AK s rfl
  ·cases e
 ·cases e
theorem L8(s:Eb hs h){ty:TypeId}{p:PV}{a:Bool}{r:R}(e:BI P hs ty p a=zo r):CK hs h id (BI P h ty p a) r:=by
 have z:∀ {r:R},(bif a then(match Bu P ty with
   |some z=>zo (R.val (.tup [z,.bool zf]) hs)
   |none=>zn)else zn)=zo r->CK hs h id (bif a then(match Bu P ty with
   |some z=>zo (R.val (.tup [z,.bool zf]) h)
   |none=>zn)else zn) r:=by
  intro r e;replace e:=Af e;obtain⟨hc,e⟩:=e;simp only[hc,zb];split at e
  ·rename_i z c
   try simp only[c]
   cases e;exact AK s rfl
  ·cases e
 unfold BI at e ⊢;split at e
 ·split at e
  ·split at e
   ·rename_i i hi
    try simp only[hi]
    split at e
    ·rename_i b
     try simp only[b]
     cases e;exact AK s rfl
    grind
   ·cases e
  all_goals grind
 ·split at e
  ·cases hc:aa _ ty with
   |true=>rw[hc]at e;cases e;simp only[zb];exact AK s rfl
   |false=>grind
  all_goals grind
 ·cases e
theorem Pc(s:Eb hs h)(a:hs.get id=zn->h.get id=zn){ty:TypeId}{l c:PV}{r:R}(e:Cy P hs id ty l c=zo r):CK hs h id (Cy P h id ty l c) r:=by
 unfold Cy at e ⊢;split at e
 ·split at e
  ·rename_i n o z q g i j k
   try simp only[g,i,j,k]
   split at e
   ·rename_i t b
    try simp only[b]
    replace e:=Af e;obtain⟨hc,e⟩:=e;obtain⟨p,f,rfl⟩:=AA e;obtain⟨d,e2,m⟩:=(Lay.refl s id).new a f;exact⟨d,by grind,m⟩
   ·cases e
  ·cases e
 ·cases e
theorem QY(s:Eb hs h){j off len:Nat}{r:R}(e:DU hs j off len=zo r):CK hs h id (DU h j off len) r:=by
 unfold DU at e ⊢;split at e
 ·rename_i f xs a d;rw[Kb s _ _ _ d];obtain⟨i,c,rfl⟩:=AA e;obtain⟨b,e2,g⟩:=Lay.freeze a (Lay.refl s id) c;exact⟨b,by simp_all,g⟩
 ·cases e
theorem Oc(s:Eb hs h){ty:TypeId}{p:PV}{lo hi mx:Option PV}{r:R}(e:Ah P hs ty p lo hi mx=zo r):CK hs h id (Ah P h ty p lo hi mx) r:=by
 unfold Ah at e ⊢;split at e
 ·split at e
  ·rename_i hh l c d
   try simp only[c,d]
   replace e:=Af e;obtain⟨hc,e⟩:=e;cases e;simp only[hc,zb];exact AK s rfl
  ·cases e
 ·split at e
  ·cases e
  ·rename_i n j
   try simp only[j]
   split at e
   ·split at e
    ·rename_i c d k
     try simp only[c,d,k]
     replace e:=Bq e;obtain⟨hc,e⟩:=e;cases e;simp only[hc,zj];exact AK s rfl
    ·cases e
   ·replace e:=Bq e;obtain⟨hc,e⟩:=e;simp only[hc,zj];split at e
    ·rename_i l hh c d
     try simp only[c,d]
     split at e
     ·replace e:=Af e;obtain⟨a,e⟩:=e;cases e;simp only[a,zb];exact AK s rfl
     ·split at e
      ·rename_i m i
       try simp only[i]
       replace e:=Af e;obtain⟨a,e⟩:=e;cases e;simp only[a,zb];exact AK s rfl
      ·cases e
    ·cases e
   ·split at e
    ·rename_i es ex fz f;rw[s _ _ f]
     try dsimp only
     replace e:=Bq e;obtain⟨hc,e⟩:=e;simp only[hc,zj];split at e
     ·rename_i l hh c d
      try simp only[c,d]
      replace e:=Bq e;obtain⟨g,e⟩:=e;simp only[g,zj];split at e
      ·cases b:ae _ es.length with
       |true=>rw[b]at e;cases e;simp only[zb];exact AK s rfl
       |false=>rw[b]at e;cases e;simp only[zj];exact AK s rfl
      ·split at e
       ·rename_i m i
        try simp only[i]
        generalize o:(hi.isSome&&ac hh m&&ex&&aa _ es.length)=A at e ⊢;cases A with
        |true=>
         simp only[zb]at e ⊢;cases b:ae _ es.length with
         |true=>rw[b]at e;cases e;simp only[zb];exact AK s rfl
         |false=>rw[b]at e;cases e;simp only[zj];exact AK s rfl
        |false=>
         simp only[zj]at e ⊢;replace e:=Af e;obtain⟨a,e⟩:=e;simp only[a,zb];exact QY s e
       ·cases e
     ·cases e
    ·cases e
   ·cases e
 ·split at e
  ·unfold D6 at e ⊢;split at e
   ·split at e
    ·rename_i cs fz f;rw[s _ _ f];simp only;replace e:=Af e;obtain⟨hc,e⟩:=e;simp only[hc,zb];cases e;exact AK s rfl
    ·cases e
   ·cases e
  ·cases e
 ·cases e
theorem QU(s:Eb hs h)(d:hs.get id=zn->h.get id=zn){t:TypeId}{p q:PV}{r:R}(e:D2 P hs id t p q=zo r):CK hs h id (D2 P h id t p q) r:=by
 unfold D2 at e ⊢;split at e
 ·split at e
  ·rename_i B C new z n o u w;rw[JC s u]
   try simp only[n,o,w]
   replace e:=Bq e;obtain⟨hc,e⟩:=e;simp only[hc,zj]
   have fresh:∀ {row:Blk} {v:PV} {r:R},(hs.new id row).map (λh=>R.val v h)=zo r->CK hs h id ((h.new id row).map λh=>R.val v h) r:=by
    intro row v r e;obtain⟨l,k,rfl⟩:=AA e;obtain⟨g,e2,f⟩:=(Lay.refl s id).new d k;exact⟨g,by rw[e2];rfl,f⟩
   split at e
   ·cases a:new.isEmpty with
    |true=>rw[a]at e;cases e;simp only[zb];exact AK s rfl
    |false=>
     grind
   ·cases a:new.isEmpty with
    |true=>rw[a]at e;cases e;simp only[zb];exact AK s rfl
    |false=>
     grind
   ·split at e
    ·rename_i es ex fz i;rw[s _ _ i]
     try dsimp only
     replace e:=Bq e;obtain⟨j,e⟩:=e;simp only[j,zj];cases ex with
     |true=>
      simp only[zb]at e ⊢;cases a:new.isEmpty with
      |true=>rw[a]at e;cases e;simp only[zb];exact AK s rfl
      |false=>
      rw[a]at e;simp only[zj]at e ⊢;generalize ac _ es.length=A at e ⊢;cases A with
      |true=>
       simp only[zb]at e ⊢;replace e:=Bq e;obtain⟨c,e⟩:=e;simp only[c,zj];obtain⟨l,b,rfl⟩:=AA e;obtain⟨g,e2,f⟩:=(Lay.refl s id).set i b;exact⟨g,by rw[e2];rfl,f⟩
      |false=>
       grind
     |false=>
      simp only[zj]at e ⊢;replace e:=Af e;obtain⟨c,e⟩:=e;simp only[c,zb];split at e
      ·rename_i y b;obtain⟨l,k,rfl⟩:=AA e;obtain⟨g,e2,f⟩:=(Lay.refl s id).set i b;obtain⟨m,e3,x⟩:=f.new d k;exact⟨m,by simp_all,x⟩
      ·cases e
    ·cases e
   ·cases e
  ·cases e
 ·cases e
theorem DZ{f:Fn}{a b args:List PV}{r:R}(e:CB P f a b args=zo r):∃ g c,r=.call g c:=by
 unfold CB at e;split at e
 ·grind
 ·split at e<;>grind
 ·cases e
end
end
section
variable[Gl]
section
variable{P:Program}{hs h h1 h2:Hp}{id:Nat}
def Fi(t a:T PV)(l:List Operand):Prop:=∀ k,.tmp k∈l->t.get k=a.get k
theorem FA{t a:T PV}{l:List Operand}(b:Fi t a l){o:Operand}(c:o∈l):CL t o=CL a o:=by
 cases o with
 |tmp k=>simp only[CL,b k c]
 |_=>rfl
theorem G4{t c:T PV}{l:List Operand}(b:Fi t c l):∀ {a:List Operand},(∀ o∈a,o∈l)->L1 t a=L1 c a
 |[],_=>rfl
 |o::a,ho=>by
  unfold L1;rw[FA b (ho o (by simp)),G4 b λx d=>ho x (by simp[d])]
theorem Dk{t c:T PV}{l:List Operand}(b:Fi t c l):∀ {a:List (Nat×Operand)},(∀ o∈a,o.2∈l)->CA t a=CA c a
 |[],_=>rfl
 |(i,o)::os,ho=>by
  unfold CA;rw[FA b (ho (i,o) (by simp)),Dk b λx d=>ho x (by simp[d])]
theorem OA{t a:T PV}{l:List Operand}(b:Fi t a l){o:Option Operand}(c:∀ x∈o.toList,x∈l):O6 t o=O6 a o:=by
 cases o with
 |none=>rfl
 |some x=>grind [O6,FA]
theorem EC{t g:T PV}{o:Oper}(a:As o.op=zt)(b:Fi t g (Ay o.op)):AP P t h id o=AP P g h id o:=by
 unfold AP;generalize i:o.op=j at b a;have e:=λx d=>FA b (o:=x) d;cases j with
 |call c=>
  grind [As,Ay,G4,e1]
 |build ty k=>
  simp only[Ay]at b;simp only;rw[Dk b λx d=>ba.2 ⟨x,d,rfl⟩]
 |buildSlice ty n k=>
  simp only[Ay]at b;simp only;rw[Dk b λx d=>ba.2 ⟨x,d,rfl⟩]
 |makeFunc f x y=>
  grind [Ay,G4,aw,List.mem_append_right]
 |slice ty x lo hi mx=>
  grind [Ay,e1,OA]
 |lookup _ _ _ _=>cases a
 |mapUpdate _ _ _ _=>cases a
 |insert _ _ _ _=>cases a
 |defer _=>cases a
 |panic _=>cases a
 |move x=>simp_all[Ay]
 |assign x=>simp_all[Ay]
 |pick c x y=>simp_all[Ay,e3]
 |alloc _=>rfl
 |box _ x=>simp_all[Ay,e1]
 |load _ x=>simp_all[Ay,e1]
 |store _ x y=>simp_all[Ay,e2]
 |nilCheck x=>simp_all[Ay,e1]
 |binOp _ _ x y _=>simp_all[Ay,e2]
 |unOp _ _ x=>simp_all[Ay,e1]
 |convert _ _ x=>simp_all[Ay,e1]
 |makeInterface _ x=>simp_all[Ay,e1]
 |makeMap ty r=>cases r<;>rfl
 |makeSlice _ x y=>simp_all[Ay,e2]
 |fieldAddr _ x _=>simp_all[Ay,e1]
 |field _ x _=>simp_all[Ay,e1]
 |indexAddr _ x y=>simp_all[Ay,e2]
 |index _ x y=>simp_all[Ay,e2]
 |typeAssert x _ _ _=>simp_all[Ay,e1]
 |extract x _=>simp_all[Ay,e1]
 |_=>rfl
theorem Aa{t:T PV}{x:Operand}{k:PV->Option R}{r:R}(e:e1 t x k=zo r):∃ p,CL t x=zo p/\k p=zo r:=by
 grind [e1]
theorem CO{t:T PV}{x y:Operand}{k:PV->PV->Option R}{r:R}(e:e2 t x y k=zo r):∃ p q,CL t x=zo p/\CL t y=zo q/\k p q=zo r:=by
 grind [e2]
theorem M7{t:T PV}{x y z:Operand}{k:PV->PV->PV->Option R}{r:R}(e:e3 t x y z k=zo r):∃ p q s,CL t x=zo p/\CL t y=zo q/\CL t z=zo s/\k p q s=zo r:=by
 grind [e3]
theorem K9(s:Eb hs h){f:Int->Int->Int}{a:Int}{l:List PV}{k:IntKind}{r:R}(e:(B8 f a l k).map (λm=>R.val (.int k m) hs)=zo r):CK hs h id ((B8 f a l k).map λm=>R.val (.int k m) h) r:=by
 obtain⟨m,b,rfl⟩:=AA e;exact AK s (by rw[b];rfl)
theorem Kw(s:Eb hs h)(i:hs.get id=zn->h.get id=zn){b:Builtin}(n:b=.len\/b=.cap\/b=.append\/b=.copy\/b=.max\/b=.min){d:Array TypeId}{args:List PV}{r:R}(e:AH P hs id b d args=zo r) :
  CK hs h id (AH P h id b d args) r:=by
 rcases n with rfl|rfl|rfl|rfl|rfl|rfl
 ·simp only[AH]at e ⊢;split at e
  ·rename_i x t a
   try simp only[a]
   split at e
   ·split at e
    ·rename_i es c
     try simp only[c]
     rw[s _ _ c];cases e;exact AK s rfl
    ·cases e
   all_goals first|(cases e;done)|(cases e;exact AK s rfl)
  ·cases e
 ·simp only[AH]at e ⊢;split at e
  ·rename_i x t a
   try simp only[a]
   split at e
   ·split at e
    ·rename_i es fz c
     try simp only[c]
     rw[s _ _ c];cases e;exact AK s rfl
    ·cases e
   all_goals first|(cases e;done)|(cases e;exact AK s rfl)
  ·cases e
 ·simp only[AH]at e ⊢;split at e
  ·rename_i p q t B f
   try simp only[f]
   replace e:=Af e;obtain⟨hc,e⟩:=e;simp only[hc,zb];exact QU s i e
  ·cases e
 ·simp only[AH]at e ⊢;split at e
  ·rename_i j off len x t a
   try simp only[a]
   split at e
   ·rename_i l es ex new u k w;simp only[u,s _ _ k,JC s w];split at e
    ·rename_i A o;replace e:=Bq e;obtain⟨hc,e⟩:=e;simp only[hc,zj];obtain⟨z,g,rfl⟩:=AA e;obtain⟨m,e2,y⟩:=(Lay.refl s id).set k g;exact⟨m,by simp_all,y⟩
    ·cases e
   ·cases e
  ·cases e
 ·simp only[AH]at e ⊢;split at e
  ·exact K9 s e
  ·cases e;exact AK s rfl
  ·cases e
 ·simp only[AH]at e ⊢;split at e
  ·exact K9 s e
  ·cases e;exact AK s rfl
  ·cases e
theorem JY{F:Option R}{r:R}(e:F=zo r)(hc:∃ g a,r=.call g a):CK hs h id F r:=by
 obtain⟨g,a,rfl⟩:=hc;exact e
theorem Cg(s:Eb hs h)(i:hs.get id=zn->h.get id=zn){t:T PV}{o:Oper}(d:As o.op=zt){r:R}(e:AP P t hs id o=zo r):CK hs h id (AP P t h id o) r:=by
 unfold AP at e ⊢;generalize w:o.op=E at d e ⊢;cases E with
 |lookup _ _ _ _=>cases d
 |mapUpdate _ _ _ _=>cases d
 |insert _ _ _ _=>cases d
 |defer _=>cases d
 |panic _=>cases d
 |move x=>exact C2 s e
 |assign x=>exact C2 s e
 |pick c x y=>obtain⟨p,q,u,a,g,l,e⟩:=M7 e;simp only[e3,a,g,l];exact Pu s e
 |alloc _=>exact Nm s i e
 |box _ x=>obtain⟨p,a,e⟩:=Aa e;simp only[e1,a];exact QX s i e
 |build ty F=>
  simp only at e ⊢;split at e
  ·rename_i p k;try simp only[k]
   exact Nt s e
  ·cases e
 |buildSlice ty n F=>
  simp only at e ⊢;split at e
  ·rename_i p k;try simp only[k]
   exact H4 s e
  ·cases e
 |load _ x=>obtain⟨p,a,e⟩:=Aa e;simp only[e1,a];exact PT s e
 |store _ x y=>obtain⟨p,q,a,g,e⟩:=CO e;simp only[e2,a,g];exact Oe s e
 |nilCheck x=>obtain⟨p,a,e⟩:=Aa e;simp only[e1,a];exact Qt s e
 |binOp _ _ x y _=>obtain⟨p,q,a,g,e⟩:=CO e;simp only[e2,a,g];exact QW s e
 |unOp _ _ x=>obtain⟨p,a,e⟩:=Aa e;simp only[e1,a];exact C2 s e
 |convert _ _ x=>obtain⟨p,a,e⟩:=Aa e;simp only[e1,a];exact K2 s e
 |makeInterface _ x=>obtain⟨p,a,e⟩:=Aa e;simp only[e1,a];exact Qi s e
 |makeFunc f x y=>
  simp only at e ⊢;split at e
  ·rename_i p q k z;try simp only[k,z]
   exact KK s e
  ·cases e
 |makeMap ty rs=>
  cases rs with
  |none=>
   simp only at e ⊢;obtain⟨a,m,rfl⟩:=AA e;obtain⟨g,e2,D⟩:=(Lay.refl s id).new i m;exact⟨g,by rw[e2];rfl,D⟩
  |some _=>cases e
 |makeSlice _ x y=>obtain⟨p,q,a,g,e⟩:=CO e;simp only[e2,a,g];exact Pc s i e
 |slice ty x lo hi mx=>
  simp only at e ⊢;split at e
  ·rename_i A B C;try simp only[A,B,C]
   obtain⟨p,a,e⟩:=Aa e;simp only[e1,a];exact Oc s e
  ·cases e
 |fieldAddr _ x _=>obtain⟨p,a,e⟩:=Aa e;simp only[e1,a];exact Im s e
 |field _ x _=>obtain⟨p,a,e⟩:=Aa e;simp only[e1,a];exact OC s e
 |indexAddr _ x y=>obtain⟨p,q,a,g,e⟩:=CO e;simp only[e2,a,g];exact Ip s e
 |index _ x y=>obtain⟨p,q,a,g,e⟩:=CO e;simp only[e2,a,g];exact OH s e
 |typeAssert x _ _ _=>obtain⟨p,a,e⟩:=Aa e;simp only[e1,a];exact L8 s e
 |extract x _=>obtain⟨p,a,e⟩:=Aa e;simp only[e1,a];exact K8 s e
 |call c=>
  simp only at e ⊢;split at e
  ·rename_i args j
   try simp only[j]
   cases hc:c.callee with
   |builtin b=>
    simp only[hc]at e ⊢;simp only[As,hc]at d;exact Kw s i (by grind) e
   |value f=>
    simp only[hc]at e ⊢;obtain⟨p,a,e⟩:=Aa e;simp only[e1,a];unfold Ho at e ⊢;split at e
    ·exact JY e (DZ e)
    ·cases e;exact True.intro
    ·cases e
   |invoke I G=>
    simp only[hc]at e ⊢;obtain⟨p,a,e⟩:=Aa e;simp only[e1,a];exact JY e (DZ e)
  ·cases e
 |_=>cases e
theorem GQ{t:T PV}{o:Oper}(d:quiet o.op=zt)(a:As o.op=zt){v:PV}{i:Hp}(e:AP P t h id o=zo (.val v i)):i=h:=by
 have g:∀ {x:Option PV},vl x h=zo (.val v i)->i=h:=by
  intro x e;obtain⟨y,_,e⟩:=Dd e;cases e;rfl
 unfold AP at e;generalize l:o.op=n at a d e;cases n with
 |lookup _ _ _ _=>cases a
 |mapUpdate _ _ _ _=>cases a
 |insert _ _ _ _=>cases a
 |defer _=>cases a
 |panic _=>cases a
 |buildSlice _ _ _=>cases d
 |store _ _ _=>cases d
 |alloc _=>cases d
 |box _ _=>cases d
 |makeMap _ _=>cases d
 |makeSlice _ _ _=>cases d
 |move x=>exact g e
 |assign x=>exact g e
 |pick c x y=>
  obtain⟨p,q,u,_,_,_,e⟩:=M7 e;unfold Dg at e
  grind
 |build ty s=>
  simp only at e;split at e
  ·unfold Bw at e;simp only[ay]at e
   repeat' split at e
   all_goals first|(cases e;done)|(obtain⟨cs,_,e⟩:=AA e;cases e;rfl)
  ·cases e
 |load _ x=>
  obtain⟨p,_,e⟩:=Aa e;unfold CC at e
  grind
 |nilCheck x=>
  obtain⟨p,_,e⟩:=Aa e;unfold Em at e
  grind
 |binOp _ _ x y _=>
  obtain⟨p,q,_,_,e⟩:=CO e;unfold DV at e
  grind
 |unOp _ _ x=>obtain⟨p,_,e⟩:=Aa e;exact g e
 |convert _ _ x=>
  obtain⟨p,_,e⟩:=Aa e;unfold BH at e
  grind
 |makeInterface _ x=>
  obtain⟨p,_,e⟩:=Aa e
  grind [EX]
 |makeFunc f x y=>
  simp only at e;split at e
  ·unfold BD at e
   grind
  ·cases e
 |slice ty x lo hi mx=>
  simp only[quiet]at d;have j:mx=zn:=by simp_all
  subst j;simp only[O6]at e;split at e
  ·rename_i m;cases m;obtain⟨p,_,e⟩:=Aa e;unfold Ah D6 at e;simp only[ay]at e
   repeat' split at e
   all_goals simp_all
  ·cases e
 |fieldAddr _ x _=>
  obtain⟨p,_,e⟩:=Aa e;unfold Aw at e
  grind
 |field _ x _=>
  obtain⟨p,_,e⟩:=Aa e;unfold B6 at e
  grind
 |indexAddr _ x y=>
  obtain⟨p,q,_,_,e⟩:=CO e;unfold Ap at e;simp only[ay]at e
  repeat' split at e
  all_goals simp_all
 |index _ x y=>
  obtain⟨p,q,_,_,e⟩:=CO e;unfold Bj at e
  grind
 |typeAssert x _ _ _=>
  obtain⟨p,_,e⟩:=Aa e;unfold BI at e;simp only[ay]at e
  repeat' split at e
  all_goals simp_all
 |extract x _=>
  obtain⟨p,_,e⟩:=Aa e;unfold Bg at e
  grind
 |call c=>
  simp only[As]at a;simp only[quiet]at d;simp only at e;split at e
  ·cases hc:c.callee with
   |builtin b=>
    simp only[hc]at e a d;have k:b=.len\/b=.cap\/b=.max\/b=.min:=by grind
    rcases k with rfl|rfl|rfl|rfl<;>simp only[AH]at e<;>(repeat' split at e)
    all_goals first|(cases e;done)|(cases e;rfl)|(obtain⟨cs,_,e⟩:=AA e;cases e;rfl)
   |value f=>simp_all
   |invoke w r=>simp_all
  ·cases e
 |_=>cases e
end
end
section
variable[Gl]
section
variable{P:Program}{rec:HR}{hs h h1 h2:Hp}{id:Nat}
theorem FP:∀ (l:List Nat) (m:T Blk) (x:Nat),(Hh h l m).get x=if x∈l/\x<x+1/\(h.get x).isSome then h.get x else m.get x
 |[],m,x=>by simp[Hh]
 |j::l,m,x=>by
  unfold Hh;split
  ·rename_i b c;cases e:ae j (j+1)with
   |true=>
    simp only[zb];have a:j<j+1:=by omega
    rw[FP l _ x,T.get_put (j+1) m j b x (OF j)]
    grind
   |false=>
    simp only[zj];rw[FP l m x]
    have d:¬ j<j+1:=by
     intro h;have:ae j (j+1)=zt:=by simp
     simp_all
    omega
  ·rename_i c;rw[FP l m x]
   grind
theorem EA(l:List Nat)(x:Nat):(h.cut l).get x=if x∈l/\x<x+1 then h.get x else zn:=by
 have:=FP (h:=h) l .lf x;show(Hh h l .lf).get x=_;rw[this];by_cases a:x∈l/\x<x+1
 ·rw[zy a];cases c:h.get x with
  |none=>rw[zx (by simp)];rfl
  |some b=>simp_all
 ·rw[zx a,zx λh=>a ⟨h.1,h.2.1⟩];rfl
theorem Dp{l:List Nat}{x:Nat}{b:Blk}(e:(h.cut l).get x=zo b):x∈l/\h.get x=zo b:=by
 simp_all[EA]
theorem DM:∀ {l:List Nat} {h c:Hp},over h1 l h=zo c -> ∀ x,c.get x=if x∈l then(match h1.get x with
  |some b=>zo b
  |none=>h.get x)else h.get x
 |[],h,c,e,x=>by simp[over]at e;grind
 |j::l,h,c,e,x=>by
  unfold over at e;split at e
  ·rename_i b d;split at e
   ·rename_i f a;rw[DM e x,(Hp.get_set a).1 x]
    grind
   ·cases e
  ·rename_i d;rw[DM e x]
   grind
def Qk:Blk->Prop
 |.box _ fz=>fz=zt
 |.row _ _ fz=>fz=zt
 |_=>False
theorem By:∀ {l:List Nat} {x:Nat},x∈l->x ∉ A9 h l -> ∃ b,h.get x=zo b/\Qk b
 |[],x,hx,_=>by simp at hx
 |j::l,x,hx,hn=>by
  unfold A9 at hn;simp only[aj]at hx;split at hn
  ·rename_i cs a;rcases hx with rfl|hx
   ·exact⟨_,a,rfl⟩
   ·exact By hx hn
  ·rename_i es ex a;rcases hx with rfl|hx
   ·exact⟨_,a,rfl⟩
   ·exact By hx hn
  ·simp only[aj,not_or]at hn;rcases hx with rfl|hx
   ·omega
   ·exact By hx hn.2
theorem Ai:∀ {l:List Nat} {x:Nat},x∈A9 h l->x∈l
 |[],x,hx=>by simp[A9]at hx
 |j::l,x,hx=>by
  unfold A9 at hx;split at hx
  ·simp[Ai hx]
  ·simp[Ai hx]
  ·simp only[aj]at hx;rcases hx with rfl|hx
   ·simp
   ·simp[Ai hx]
def Stays(hs a:Hp):Prop:=∀ x b,hs.get x=zo b->Qk b->a.get x=zo b
theorem Stays.refl(hs:Hp):Stays hs hs:=λ_ _ h _=>h
theorem HQ{b:Blk}(e:hs.new id b=zo h1):Stays hs h1:=by
 obtain⟨d,a,_⟩:=Hp.get_new e;intro x c f _
 grind
theorem FQ{j:Nat}{b b0:Blk}(d:hs.get j=zo b0)(e:hs.set j b=zo h1)(a:Qk b0->b=b0):Stays hs h1:=by
 have g:=(Hp.get_set e).1;intro x c h f
 grind
theorem Stays.trans{d:Hp}(a:Stays hs h1)(b:Stays h1 d):Stays hs d:=λx c f e=>b x c (a x c f e) e
theorem Ca:∀ (L:List Nat) {hs b:Hp},freeze hs L=zo b->Stays hs b
 |[],hs,b,e=>by simp[freeze]at e;subst e;exact .refl _
 |j::L,hs,b,e=>by
  unfold freeze at e;split at e
  ·rename_i cs fz c;split at e
   ·rename_i d a;exact(FQ c a λh=>by have h:fz=zt:=h;subst h;rfl).trans (Ca L e)
   ·cases e
  ·rename_i es ex fz c;split at e
   ·rename_i d a;exact(FQ c a λh=>by have h:fz=zt:=h;subst h;rfl).trans (Ca L e)
   ·cases e
  ·cases e
theorem GR{t:T PV}{o:Oper}(a:As o.op=zt)(d:EY o.op=zf)(k:quiet o.op=zf){r:R}(e:AP P t hs id o=zo r):∀ i,((∃ v,r=.val v i)\/r=.skip i)->Stays hs i:=by
 intro i hr;unfold AP at e;generalize w:o.op=z at a k d e
 have nw:∀ {b:Blk} {v:PV},(hs.new id b).map (λh=>R.val v h)=zo r->Stays hs i:=by
  intro b v e;obtain⟨m,j,rfl⟩:=AA e;rcases hr with⟨l,hr⟩|hr<;>cases hr
  exact HQ j
 have fr:∀ {L:List Nat} {v:PV},(freeze hs L).map (λh=>R.val v h)=zo r->Stays hs i:=by
  intro L v e;obtain⟨m,j,rfl⟩:=AA e;rcases hr with⟨l,hr⟩|hr<;>cases hr
  exact Ca L j
 have same:∀ {v:PV},R.val v hs=r->Stays hs i:=by
  intro v e;subst e;rcases hr with⟨l,hr⟩|hr<;>cases hr
  exact .refl _
 cases z with
 |alloc _=>
  grind [Ck]
 |box _ x=>
  obtain⟨p,_,e⟩:=Aa e;unfold FW at e
  grind
 |makeMap ty rs=>
  grind
 |makeSlice _ x y=>
  obtain⟨p,q,_,_,e⟩:=CO e;unfold Cy at e
  grind
 |buildSlice ty n B=>
  simp only at e;split at e
  ·unfold Ag at e;simp only[ay]at e
   repeat' split at e
   all_goals first|(cases e;done)|exact fr e
  ·cases e
 |slice ty x lo hi mx=>
  simp only at e;split at e
  ·obtain⟨p,_,e⟩:=Aa e;unfold Ah DU D6 at e;simp only[ay]at e
   repeat' split at e
   all_goals grind
  ·cases e
 |store _ x y=>
  obtain⟨p,q,_,_,e⟩:=CO e;unfold BE at e;simp only[ay]at e
  repeat' split at e
  all_goals first|(cases e;done)|skip
  all_goals
   obtain⟨m,j,rfl⟩:=AA e;rcases hr with⟨l,hr⟩|hr<;>cases hr
   refine FQ (by assumption) j λh=> ?_;cases h
 |call c=>
  simp only[As,EY,quiet]at a d k;simp only at e;split at e
  ·cases hc:c.callee with
   |builtin b=>
    simp only[hc]at a d k;by_cases u:b=.copy
    ·subst u;simp only[hc]at e;simp only[AH,ay]at e
     repeat' split at e
     all_goals first|(cases e;done)|skip
     all_goals
      obtain⟨m,j,rfl⟩:=AA e;rcases hr with⟨l,hr⟩|hr<;>cases hr
      refine FQ (by assumption) j λh=> ?_;cases h
    grind
   |value f=>
    simp only[hc]at e;obtain⟨p,_,e⟩:=Aa e;unfold Ho at e;split at e
    ·obtain⟨g,s,rfl⟩:=DZ e
     simp_all
    all_goals grind
   |invoke C A=>
    simp only[hc]at e;obtain⟨p,_,e⟩:=Aa e;obtain⟨g,s,rfl⟩:=DZ e
    simp_all
  ·cases e
 |lookup _ _ _ _=>cases a
 |mapUpdate _ _ _ _=>cases a
 |insert _ _ _ _=>cases a
 |defer _=>cases a
 |panic _=>cases a
 |_=>first|cases k|cases e
theorem H8(s:Eb hs h)(d:hs.get id=zn->h.get id=zn){f:FuncId}{args:List PV}{v:PV}(e:A7 (λ_=>zf) rec id f args hs=zo (.ret v,h1)) :
  (∃ o,A7 (λ_=>zf) rec id f args h=zo (.ret v,o)/\Lay hs h h1 o id)/\(flat v=zt->h1=hs)/\Stays hs h1:=by
 unfold A7 at e ⊢;simp only[zj]at e ⊢;split at e
 ·rename_i B l y;rw[Ib s y];dsimp only;split at e
  ·rename_i r F h' g
   try simp only[g]
   obtain⟨⟨q,D⟩,a,e⟩:=AA e;cases e;unfold Ak at a ⊢;split at a
   ·rename_i len A ex x
    try dsimp only
    split at a
    ·rename_i C c;obtain⟨w,i,a⟩:=AA a;cases a;cases b:BP A with
     |true=>
      simp only[b,zb]at c ⊢;cases c;obtain⟨j,t,m⟩:=(Lay.refl s id).new d i;refine⟨⟨j,by simp_all,m⟩,(by intro h;cases h),HQ i⟩
     |false=>
      simp only[b,zj]at c ⊢;obtain⟨p,u,n⟩:=Lay.freeze l (Lay.refl s id) c;obtain⟨j,t,m⟩:=n.new d i;refine⟨⟨j,by simp_all,m⟩,(by intro h;cases h),(Ca l c).trans (HQ i)⟩
    ·cases a
   ·rename_i x
    try dsimp only
    split at a
    ·rename_i z E k
     try simp only[k]
     cases b:flat z with
     |true=>
      simp only[b,zb]at a ⊢;cases a;exact⟨⟨h,rfl,.refl s id⟩,λ_=>rfl,.refl _⟩
     |false=>
      simp only[b,zj]at a ⊢;obtain⟨w,c,a⟩:=AA a;cases a;obtain⟨p,u,n⟩:=Lay.freeze l (Lay.refl s id) c;exact⟨⟨p,by simp_all,n⟩,(by simp_all),Ca l c⟩
    ·cases a
  all_goals grind
 ·cases e
end
end
section
variable[Gl]
section
theorem Ed(m k:Nat):Fj m k=m.testBit k:=by
 unfold Fj;show(!aa (m &&& 2 ^ k) 0)=m.testBit k;cases c:m.testBit k with
 |false=>
  have:m &&& 2 ^ k=0:=by
   apply Nat.eq_of_testBit_eq
   grind
  rw[this];rfl
 |true=>
  have:m &&& 2 ^ k≠0:=by
   intro a;have b:(m &&& 2 ^ k).testBit k=zt:=by grind
   simp_all
  rw[Ff this];rfl
theorem E6(a b k:Nat):Fj (bN a b) k=(Fj a k||Fj b k):=by
 simp_all[Ed]
theorem GE(j k:Nat):Fj (Nat.pow 2 j) k=decide (j=k):=by
 rw[Ed];exact Nat.testBit_two_pow
theorem H0{a b:Nat}(h:HS a b=zt)(k:Nat):¬ (Fj a k=zt/\Fj b k=zt):=by
 unfold HS at h;have e:a &&& b=0:=al h;rintro⟨c,d⟩;rw[Ed]at c d;have:(a &&& b).testBit k=zt:=by grind
 simp_all
theorem Hk:∀ {l:List Operand} {k:Nat},.tmp k∈l->Fj (FS l) k=zt
 |[],k,h=>by simp at h
 |o::l,k,h=>by
  unfold FS;rw[E6];simp only[aj]at h;rcases h with rfl|h
  ·simp only[QI,GE];simp
  ·rw[Hk h];simp
theorem BB{a b:List Nat}(h:Cb a b=zf)(x:Nat):¬ (x∈a/\x∈b):=by
 induction a with
 |nil=>simp
 |cons y a d=>
  unfold Cb at h;simp only[ah]at h;rintro⟨h1,c⟩;simp only[aj]at h1;rcases h1 with rfl|h1
  ·rw[List.any_eq_false]at h;exact h.1 x c (by simp)
  simp_all
theorem FJ:∀ (a:List Nat),Cb a []=zf
 |[]=>rfl
 |x::a=>by unfold Cb;rw[FJ a];rfl
variable{P:Program}{rec:HR}
def Ij(nt:Nat)(a:Option Nat)(v:PV)(t b:T PV):Prop:=match a with
 |none=>b=t
 |some d=>d<nt/\b=T.put 20 t d v
structure Tr where
 ts:Nat->T PV
 hp:Nat->Hp
 rd:Nat->List Nat
 wr:Nat->List Nat
def Tr.StepAt(P:Program)(rec:HR)(base nt:Nat)(opsl:List Oper)(a:Tr)(j:Nat)(o:Oper):Prop:=
 (A5 opsl (a.ts j) o.guard=zt /\ ∃ v,Ax P rec (a.ts j) (a.hp j) (base+j) o=zo (v,a.hp (j+1),a.rd j,a.wr j)/\Ij nt o.dst v (a.ts j) (a.ts (j+1))) \/
 (A5 opsl (a.ts j) o.guard=zf/\a.hp (j+1)=a.hp j/\a.rd j=[]/\a.wr j=[]/\Ij nt o.dst (.tup []) (a.ts j) (a.ts (j+1)))
def Tr.Clear(a:Tr)(b j k:Nat):Prop:=Fj b k=zt\/(Cb (a.wr k) (a.rd j)=zf/\Cb (a.wr j) (a.rd k)=zf)
theorem Fw{b:Nat}{rd wr:List Nat}:∀ {a:List (Nat×List Nat×List Nat)},Fv b rd wr a=zt -> ∀ k r w,(k,r,w)∈a->Fj b k=zt\/(Cb w rd=zf/\Cb wr r=zf)
 |[],_,k,r,w,h=>by simp at h
 |(k0,r0,w0)::a,e,k,r,w,h=>by
  unfold Fv at e;simp only[ad,bw,aU,ah]at e;simp only[aj]at h;rcases h with h|h
  ·simp_all
  ·exact Fw e.2 k r w h
theorem LB{base nt:Nat}{opsl:List Oper}{I:T PV}{h':Hp}:∀ (l:List Oper) (D:List Mk) (i:Nat) (b:List (Nat×List Nat×List Nat)) (t:T PV) (h:Hp),
  AX P rec base nt opsl i l D b t h=zo (I,h') -> ∀ (g n:Nat->List Nat),(∀ k,k<i->(k,g k,n k)∈b\/(g k=[]/\n k=[])) ->
  ∃ f:Tr,f.ts i=t/\f.hp i=h/\f.ts (i+l.length)=I/\f.hp (i+l.length)=h'/\(∀ k,k<i->f.rd k=g k/\f.wr k=n k) /\
   ∀ j o m,l[j]?=zo o->D[j]?=zo m->f.StepAt P rec base nt opsl (i+j) o /\ ∀ k,k<i+j->f.Clear m.bef (i+j) k
 |[],D,i,b,t,h,e,g,n,hpast=>by
  unfold AX at e;cases e;exact⟨⟨λ_=>I,λ_=>h',g,n⟩,rfl,rfl,rfl,rfl,λ_ _=>⟨rfl,rfl⟩,λj o m J=>by simp at J⟩
 |o::l,[],i,b,t,h,e,g,n,hpast=>by unfold AX at e;cases e
 |o::l,m::D,i,b,t,h,e,g,n,hpast=>by
  unfold AX at e
  have u:∀ {v:PV} {L:T PV} {E:Hp} {p q:List Nat} {c:List (Nat×List Nat×List Nat)},AX P rec base nt opsl (i+1) l D c L E=zo (I,h')->Ij nt o.dst v t L ->
    (A5 opsl t o.guard=zt/\Ax P rec t h (base+i) o=zo (v,E,p,q)\/A5 opsl t o.guard=zf/\E=h/\p=[]/\q=[]/\v=.tup []) ->
    (∀ k r w,(k,r,w)∈b->(k,r,w)∈c)->((i,p,q)∈c\/(p=[]/\q=[]))->(∀ k r w,(k,r,w)∈b->Fj m.bef k=zt\/(Cb w p=zf/\Cb q r=zf)) ->
    ∃ f:Tr,f.ts i=t/\f.hp i=h/\f.ts (i+(o::l).length)=I/\f.hp (i+(o::l).length)=h'/\(∀ k,k<i->f.rd k=g k/\f.wr k=n k) /\
     ∀ j o' K,(o::l)[j]?=zo o'->(m::D)[j]?=zo K->f.StepAt P rec base nt opsl (i+j) o' /\ ∀ k,k<i+j->f.Clear K.bef (i+j) k:=by
   intro v L E p q c e1 AG B W hin z
   obtain⟨f,k1,k2,k3,k4,O,k6⟩:=LB l D (i+1) c L E e1 (λk=>if k=i then p else g k) (λk=>if k=i then q else n k) (by
    grind)
   obtain⟨A,C⟩:=O i (by omega);simp only[if_true]at A C;refine⟨⟨λk=>if k=i then t else f.ts k,λk=>if k=i then h else f.hp k,f.rd,f.wr⟩,by simp,by simp,?_,?_,?_,?_⟩
   ·grind
   ·grind
   ·intro k U;have:=O k (by omega)
    grind
   ·intro j o' K J G;cases j with
    |zero=>
     simp only[a8,Option.some.injEq]at J G;subst J;subst G;simp only[aZ];constructor
     ·rcases B with⟨X,Y⟩|⟨X,Y,Z,a4,a5⟩
      ·refine .inl ⟨by grind,v,?_,?_⟩
       all_goals simp_all
      ·refine .inr ⟨by grind,?_,by rw[A,Z],by rw[C,a4],?_⟩
       all_goals simp_all
     ·intro k U;have x:=O k (by omega);simp only[zx (show k≠i by omega)]at x;unfold Tr.Clear;simp only[A,C,x.1,x.2];rcases hpast k U with s|⟨M,N⟩
      ·simp_all
      ·rw[M,N];exact .inr ⟨rfl,FJ _⟩
    |succ j=>
     obtain⟨q1,q2⟩:=k6 j o' K (by grind) (by simp_all);rw[show i+(j+1)=i+1+j by omega];refine⟨?_,q2⟩;unfold Tr.StepAt at q1 ⊢
     grind
  cases F:A5 opsl t o.guard with
  |true=>
   simp only[F,zb]at e;split at e
   ·rename_i v E p q S;replace e:=Af e;obtain⟨z,e⟩:=e;cases a:o.dst with
    |some d=>
     simp only[a]at e;replace e:=Af e;obtain⟨y,e⟩:=e;exact u e (by rw[a];exact⟨by simpa using y,rfl⟩) (.inl ⟨F,S⟩) (λk r w s=>aB _ s) (.inl cu) (λk r w s=>Fw z k r w s)
    |none=>
     simp only[a]at e;exact u e (by rw[a];exact rfl) (.inl ⟨F,S⟩) (λk r w s=>aB _ s) (.inl cu) (λk r w s=>Fw z k r w s)
   ·cases e
  |false=>
   simp only[F,zj]at e;cases a:o.dst with
   |some d=>
    simp only[a]at e;replace e:=Af e;obtain⟨y,e⟩:=e;exact u (v:=.tup []) e (by rw[a];exact⟨by simpa using y,rfl⟩) (.inr ⟨F,rfl,rfl,rfl,rfl⟩) (λk r w s=>s) (.inr ⟨rfl,rfl⟩) (λk r w s=>.inr ⟨FJ _,rfl⟩)
   |none=>
    simp only[a]at e;exact u (v:=.tup []) e (by rw[a];exact rfl) (.inr ⟨F,rfl,rfl,rfl,rfl⟩) (λk r w s=>s) (.inr ⟨rfl,rfl⟩) (λk r w s=>.inr ⟨FJ _,rfl⟩)
theorem He{m:Mk}:∀ {l:List Mk} {j:Nat},Ge m j l=zt -> ∀ k x,l[k]?=zo x->Fj m.bef (j+k)=zt\/(HS x.wr (bN m.rd m.wr)=zt/\HS x.rd m.wr=zt)
 |[],j,_,k,x,h=>by simp at h
 |y::l,j,e,k,x,h=>by
  unfold Ge at e;simp only[ad,bw]at e;cases k with
  |zero=>simp_all
  |succ k=>
   have:=He e.2 k x (by grind)
   grind
def Kq(opsl:List Oper)(a:List Mk)(i:Nat)(o:Oper)(m:Mk):Prop:=
 m.rd=bN (FS (Ay o.op)) (Ep opsl o.guard)/\m.wr=Gz o.dst/\m.bef=DD (a.take i) o.after.toList/\GO i o.after.toList=zt/\Ge m 0 (a.take i)=zt
theorem LS{opsl:List Oper}:∀ (l:List Oper) (i:Nat) (a c:List Mk),FH opsl i l a=zo c->a.length=i ->
  (∃ b,c=a++b/\b.length=l.length) /\ ∀ j o,l[j]?=zo o -> ∃ m,c[i+j]?=zo m/\Kq opsl c (i+j) o m
 |[],i,a,c,e,hl=>by simp_all[FH]
 |o::l,i,a,c,e,hl=>by
  unfold FH at e;simp only at e;replace e:=Af e;obtain⟨hc,e⟩:=e;simp only[ad]at hc;obtain⟨⟨b,f,d⟩,g⟩:=LS l (i+1) _ c e (by simp[hl]);refine⟨⟨_::b,by rw[f,a9];rfl,by simp[d]⟩,λj o' h=> ?_⟩;cases j with
  |zero=>
   simp_all[Kq,a8,Option.some.injEq,a9,aZ]
  |succ j=>
   grind
theorem EB{a:List Mk}:∀ {es:List Edge} {k:Nat},Fj (DD a es) k=zt -> ∃ e∈es,Region.binds .any e=zt/\(e.on=k \/ ∃ m,a[e.on]?=zo m/\Fj m.bef k=zt)
 |[],k,h=>by rw[Ed]at h;simp[DD]at h
 |e::es,k,h=>by
  unfold DD at h;cases b:Region.binds .any e with
  |true=>
   simp only[b,zb]at h;rw[E6,E6,GE]at h;simp only[bw,decide_eq_true_eq]at h;rcases h with (h|h)|h
   ·simp_all
   ·grind [AM,Ed]
   ·obtain⟨c,d,f,g⟩:=EB h
    grind
  |false=>
   simp only[b,zj]at h;obtain⟨c,d,f,g⟩:=EB h
   grind
theorem El{i:Nat}:∀ {es:List Edge},GO i es=zt -> ∀ e∈es,Region.binds .any e=zt->e.on<i
 |[],_,e,he=>by simp at he
 |e0::es,h,e,he=>by
  unfold GO at h;simp only[ad,bw,aU,bH]at h;intro a;simp only[aj]at he;rcases he with rfl|he
  ·simp_all
  ·exact El h.2 e he a
end
end
section
variable[Gl]
section
theorem C1:∀ (n:Nat) (l:List Nat),l.Nodup->(∀ x∈l,x<n)->l.length<=n
 |0,l,_,h=>by
  cases l with
  |nil=>simp
  |cons a l=>have:=h a (by simp);omega
 |n+1,l,hn,h=>by
  by_cases d:n∈l
  ·have c:=C1 n (l.erase n) (hn.erase n) (λx b=>by
    grind)
   simp_all
  ·have:=C1 n l hn (λx b=>by
    grind)
   omega
theorem Dv:∀ (n:Nat) (l:List Nat),(∀ x,x<n->x∈l)->n<=l.length
 |0,l,_=>by omega
 |n+1,l,h=>by
  have a:=Dv n (l.erase n) (λx b=>(List.mem_erase_of_ne (by omega)).2 (h x (by omega)))
  grind
def Gu(ops:Array Oper)(l:List Nat):Prop:=∀ p i q,l=p++i::q -> ∀ o,ops[i]?=zo o -> ∀ e∈o.after.toList,Region.binds .any e=zt->e.on∈p
theorem LJ{ops:Array Oper}{l:List Nat}{i:Nat}(f:Gu ops l)(hi:∀ o,ops[i]?=zo o -> ∀ e∈o.after.toList,Region.binds .any e=zt->e.on∈l):Gu ops (l++[i]):=by
 intro p j q h o g e b d;rcases List.eq_nil_or_concat q with rfl|⟨c,z,rfl⟩
 ·simp_all
 ·have a:l++[i]=(p++j::c)++[z]:=by grind
  have:=List.append_inj' a (by simp);exact f p j c this.1 o g e b d
theorem PQ{ops:Array Oper}(b:∀ i o,ops[i]?=zo o -> ∀ e∈o.after.toList,Region.binds .any e=zt->e.on<i) :
  ∀ (fuel t:Nat) (listed:Array Bool) (a:List Nat),fuel+a.length=ops.size->listed.size=ops.size->(∀ i,i<ops.size->listed[i]?=zo (decide (i∈a)))->a.Nodup->(∀ i∈a,i<ops.size)->Gu ops a.reverse ->
  (Region.linearise.go .any ops fuel t listed a).Nodup/\(∀ i,i∈Region.linearise.go .any ops fuel t listed a<->i<ops.size)/\Gu ops (Region.linearise.go .any ops fuel t listed a)
 |0,t,listed,a,hf,hs,hl,hn,hlt,hp=>by
  simp only[Region.linearise.go];refine⟨List.pairwise_reverse.2 (hn.imp λh=>Ne.symm h),λi=>⟨λh=>hlt i (by grind),λhi=> ?_⟩,hp⟩;rw[cE];by_cases s:i∈a
  ·exact s
  ·have:=C1 ops.size (i::a) (bx.2 ⟨s,hn⟩) (λx C=>by
    grind)
   grind
 |fuel+1,t,listed,a,hf,hs,hl,hn,hlt,hp=>by
  simp only[Region.linearise.go];generalize q:(bT ops.size).filter (λi=> !listed.getD i zt&&((ops[i]?).map (λo=>o.after.all λe=> !Region.binds .any e||listed.getD e.on zf)).getD zf)=rs
  have r:∀ i,i∈rs<->i<ops.size/\i ∉ a /\ ∀ o,ops[i]?=zo o -> ∀ e∈o.after.toList,Region.binds .any e=zt->e.on∈a:=by
   intro i;rw[<- q,List.mem_filter,List.mem_range];constructor
   ·rintro⟨f,m⟩;simp only[ad,aU]at m;have z:=hl i f;refine⟨f,?_,?_⟩
    ·grind [aG]
    ·intro o l e k g;rw[l]at m;simp only[aC,aD,bK]at m;have:=m.2 e (cf.1 k);rw[g]at this;simp only[ao,cU]at this;have n:=b i o l e k g;rw[aG,hl e.on (by omega)]at this
     simp_all
   ·rintro⟨f,m,B⟩;refine⟨f,?_⟩;simp only[ad,aU];refine⟨by simp_all,?_⟩;rw[ai f];simp only[aC,aD,bK];intro e k;cases g:Region.binds .any e with
    |false=>rfl
    |true=>
     simp only[ao,cU];have l:=ai f;have n:=b i _ l e (cf.2 k) g;rw[aG,hl e.on (by omega)]
     simp_all
  have p:rs≠[]:=by
   intro A
   have all:∀ i,i<ops.size->i∈a:=by
    intro i
    induction i using cS<;>grind
   have:=Dv ops.size a all;omega
  have c:t % rs.length<rs.length:=Nat.mod_lt _ (List.length_pos_iff.2 p);rw[af c];simp only;obtain⟨u,w,y⟩:=(r _).1 (List.getElem_mem c);generalize rs[t % rs.length]=i at u w y;refine PQ b fuel _ _ (i::a) (by simp only[bp];omega) (by simpa using hs) ?_ (bx.2 ⟨w,hn⟩) ?_ ?_
  ·intro j hj;rw[Array.getElem?_setIfInBounds];by_cases d:i=j
   ·subst d;rw[zy rfl,zy (by omega)];simp
   ·rw[zx d,hl j hj];simp[Ne.symm d]
  ·intro j hj;simp only[aj]at hj;rcases hj with rfl|hj
   ·exact u
   ·exact hlt j hj
  ·rw[List.reverse_cons];exact LJ hp λo l e k g=>by rw[cE];exact y o l e k g
theorem QC{ops:Array Oper}{mixed:Bool}(b:(mixed || !Region.departs ops)=zt)(a:∀ i o,ops[i]?=zo o -> ∀ e∈o.after.toList,Region.binds .any e=zt->e.on<i)(t:Nat) :
  (Region.schedule mixed ops t).Nodup/\(∀ i,i∈Region.schedule mixed ops t<->i<ops.size)/\Gu ops (Region.schedule mixed ops t):=by
 unfold Region.schedule;rw[zy b];unfold Region.linearise;exact PQ a ops.size t _ [] (by simp) (by simp) (λi hi=>by simp[hi]) List.nodup_nil (by simp) (by intro p i q h;simp at h)
theorem RY{ops:Array Oper}{n:List Mk}(l:∀ j o,ops.toList[j]?=zo o -> ∃ m,n[j]?=zo m/\Kq ops.toList n j o m){σ:List Nat}(hσ:Gu ops σ) :
  ∀ (i:Nat) (o:Oper) (m:Mk),ops[i]?=zo o->n[i]?=zo m -> ∀ p q,σ=p++i::q -> ∀ k,Fj m.bef k=zt->k∈p:=by
 intro i
 induction i using cS with
 |_ i A=>
  intro o m y w p q s k r;obtain⟨B,f,a⟩:=l i o (by grind);rw[w]at f;cases f;rw[a.2.2.1]at r;obtain⟨e,b,c,g⟩:=EB r;have u:=El a.2.2.2.1 e b c;have d:=hσ p i q s o y e b c;rcases g with rfl|⟨C,x,t⟩
  ·exact d
  ·obtain⟨D,E,z⟩:=cr d
   grind
end
end
section
variable[Gl]
section
variable{P:Program}{rec:HR}
def QQ(n:Nat)(ops:Array Oper)(b:Tr)(a:List Nat)(t:T PV):Prop:=
 ∀ k m,m<=n->(∀ j o,ops[j]?=zo o->o.dst=zo k->(j∈a<->j<m))->t.get k=(b.ts m).get k
def QP(n:Nat)(b:Tr)(a:List Nat)(h:Hp):Prop:=
 ∀ x m,m<=n->(∀ j,j<n->x∈b.wr j->(j∈a<->j<m))->h.get x=(b.hp m).get x
theorem HW{t tS:T PV}{h hS h':Hp}{id:Nat}{o:Oper}{v:PV}{rd wr:List Nat}(e:Ax P rec t h id o=zo (v,h',rd,wr))(L:Fi t tS (Ay o.op))(hh:∀ x∈rd,hS.get x=h.get x) :
  ∃ hS',((AP P tS hS id o=zo (.val v hS'))\/(AP P tS hS id o=zo (.skip hS')/\v=.tup []) \/ ∃ f args,AP P tS hS id o=zo (.call f args)/\A7 (λ_=>zf) rec id f args hS=zo (.ret v,hS')) /\
   (∀ x,x ∉ wr->hS'.get x=hS.get x/\h'.get x=h.get x)/\(∀ x,x∈wr->x∈rd/\hS'.get x=h'.get x):=by
 unfold Ax at e;simp only at e;replace e:=Bq e;obtain⟨hc,e⟩:=e;simp only[ah,Bool.not_eq_false',bH]at hc;obtain⟨j,w⟩:=hc
 have sub:∀ {l:List Nat},(∀ x∈l,x∈rd)->Eb (h.cut l) hS:=by
  intro l g x b a;obtain⟨i,q⟩:=Dp a
  simp_all
 have r:∀ {l:List Nat},id∈l->(∀ x∈l,x∈rd)->(h.cut l).get id=zn->hS.get id=zn:=by
  intro l k g a;rw[EA,zy ⟨k,w⟩]at a;rw[hh id (g id k)];exact a
 have F:∀ {l:List Nat} {x:Nat} {b:Blk},(h.cut l).get x=zo b->x∈l:=λa=>(Dp a).1
 have lay:∀ {l z:List Nat} {i hS':Hp},id∈l->(∀ x∈l,x∈rd)->Lay (h.cut l) hS i hS' id->over i l h=zo h'->(∀ x∈z,x∈l)->(∀ x∈l,x ∉ z -> ∃ b,h.get x=zo b/\Qk b)->Stays (h.cut l) i\/(∀ x∈l,x∈z) ->
   (∀ x,x ∉ z->hS'.get x=hS.get x/\h'.get x=h.get x)/\(∀ x,x∈z->x∈rd/\hS'.get x=h'.get x):=by
  intro l z i hS' k g m K M I hst;refine⟨λx a=> ?_,λx a=> ?_⟩
  ·by_cases n:x∈l
   ·rcases hst with hst|hst
    ·obtain⟨b,U,G⟩:=I x n a;have N:x<x+1 \/ ¬ x<x+1:=by omega
     rcases N with hlt|hge
     ·have A:=hst x b (by simp_all[EA,zy]) G;refine⟨by rw[m.get,A,hh x (g x n),U],by rw[DM K,zy n,A,U]⟩
     omega
    simp_all
   ·have hn:i.get x=zn:=by
     cases J:i.get x with
     |none=>rfl
     |some c=>
      rcases m.keys x c J with⟨b0,Y⟩|rfl<;>simp_all
    exact⟨by rw[m.get,hn],by rw[DM K,zx n]⟩
  ·have n:=M x a;refine⟨g x n,?_⟩;rw[m.get,DM K,zy n]
   grind
 have same:∀ {l:List Nat} {hS':Hp},(∀ x∈l,x∈rd)->Lay (h.cut l) hS (h.cut l) hS' id->h'=h->(∀ x,x ∉ ([]:List Nat)->hS'.get x=hS.get x/\h'.get x=h.get x)/\(∀ x,x∈([]:List Nat)->x∈rd/\hS'.get x=h'.get x):=by
  intro l hS' g m Z;refine⟨λx _=>⟨?_,by rw[Z]⟩,λx a=>by simp at a⟩;rw[m.get];cases J:(h.cut l).get x with
  |none=>rfl
  |some b=>exact(sub g x b J).symm
 split at e
 ·rename_i E i d;rw[EC j L]at d;cases D:quiet o.op with
  |true=>
   simp only[D,zb,Option.some.injEq,Prod.mk.injEq]at e;obtain⟨rfl,rfl,rfl,rfl⟩:=e;have B:=GQ D j d;subst B;have g:∀ x∈id::Av t h o.op,x∈id::Av t h o.op:=λx a=>a;obtain⟨hS',e2,m⟩:=Cg (sub g) (r (by simp) g) j d
   grind
  |false=>
   simp only[D,zj]at e;obtain⟨q,p,e⟩:=AA e;simp only[Prod.mk.injEq]at e;obtain⟨rfl,rfl,rfl,rfl⟩:=e;have g:∀ x∈id::Av t h o.op,x∈id::Av t h o.op:=λx a=>a;obtain⟨hS',e2,m⟩:=Cg (sub g) (r (by simp) g) j d;refine⟨hS',.inl e2,?_⟩;cases X:EY o.op with
   |true=>exact lay (by simp) g m p (λx a=>a) (λx i q=>absurd i q) (.inr λx a=>a)
   |false=>exact lay (by simp) g m p (λx a=>Ai a) (λx i q=>By i q) (.inl (GR j X D d _ (.inl ⟨_,rfl⟩)))
 ·rename_i i d;rw[EC j L]at d;replace e:=Bq e;obtain⟨y,e⟩:=e;simp only[ah]at y;obtain⟨q,p,e⟩:=AA e;simp only[Prod.mk.injEq]at e;obtain⟨rfl,rfl,rfl,rfl⟩:=e;have g:∀ x∈id::Av t h o.op,x∈id::Av t h o.op:=λx a=>a;obtain⟨hS',e2,m⟩:=Cg (sub g) (r (by simp) g) j d;have hst:Stays (h.cut (id::Av t h o.op)) i:=GR j y.2 y.1 d _ (.inr rfl);exact⟨hS',.inr (.inl ⟨e2,rfl⟩),lay (by simp) g m p (λx a=>Ai a) (λx i q=>By i q) (.inl hst)⟩
 ·rename_i f args d;rw[EC j L]at d;split at e
  ·rename_i as l hp;split at e
   ·rename_i E i s
    have key:(∀ x∈id::Av t h o.op,x∈rd) -> ∀ (g:∀ x∈id::l,x∈rd),∃ hS',AP P tS hS id o=zo (.call f args)/\A7 (λ_=>zf) rec id f args hS=zo (.ret E,hS')/\Lay (h.cut (id::l)) hS i hS' id/\(flat E=zt->i=h.cut (id::l))/\Stays (h.cut (id::l)) i:=by
     intro C g;have W:AP P tS hS id o=zo (.call f args):=Cg (sub C) (r (by simp) C) j d;obtain⟨⟨hS',e3,m⟩,O,S⟩:=H8 (sub g) (r (by simp) g) s
     grind
    cases u:flat E with
    |true=>
     simp only[u,zb,Option.some.injEq,Prod.mk.injEq]at e;obtain⟨rfl,rfl,rfl,rfl⟩:=e
     have k:∀ x∈id::l,x∈(id::Av t h o.op)++l:=λx a=>by
      grind
     obtain⟨hS',e2,e3,m,O,S⟩:=key (λx a=>aw _ a) k;have:=O u;subst this;exact⟨hS',.inr (.inr ⟨f,args,e2,e3⟩),same k m rfl⟩
    |false=>
     simp only[u,zj]at e;obtain⟨q,p,e⟩:=AA e;simp only[Prod.mk.injEq]at e;obtain⟨rfl,rfl,rfl,rfl⟩:=e
     have k:∀ x∈id::l,x∈(id::Av t h o.op)++l:=λx a=>by
      grind
     obtain⟨hS',e2,e3,m,O,S⟩:=key (λx a=>aw _ a) k;exact⟨hS',.inr (.inr ⟨f,args,e2,e3⟩),lay (by simp) k m p (λx a=>Ai a) (λx i q=>By i q) (.inl S)⟩
   ·cases e
  ·cases e
 ·cases e
end
end
section
variable[Gl]
section
variable{P:Program}{rec:HR}
theorem HL{nt:Nat}{a:Option Nat}{v:PV}{t b:T PV}(e:nt<=1048575)(h:Ij nt a v t b){k:Nat}(g:a≠zo k):b.get k=t.get k:=by
 unfold Ij at h;cases c:a with
 |none=>simp_all
 |some d=>
  rw[c]at h;obtain⟨f,rfl⟩:=h;rw[T.get_put 20 t d v k (by omega),zx (by grind)]
theorem Li{nt d:Nat}{v:PV}{t a:T PV}(c:nt<=1048575)(h:Ij nt (zo d) v t a):d<nt/\a.get d=zo v:=by
 obtain⟨b,rfl⟩:=h;exact⟨b,by rw[T.get_put 20 t d v d (by omega),zy rfl]⟩
theorem Lw{base nt n:Nat}{opsl:List Oper}{c:Tr}(e:∀ j,j<n -> ∃ o,opsl[j]?=zo o/\c.StepAt P rec base nt opsl j o)
  (d:∀ j,j<n -> ∀ x,x ∉ c.wr j->(c.hp (j+1)).get x=(c.hp j).get x) {x a:Nat}:∀ b,a<=b->b<=n->(∀ j,a<=j->j<b->x ∉ c.wr j)->(c.hp b).get x=(c.hp a).get x
 |0,ha,_,_=>by simp_all
 |b+1,ha,hb,h=>by
  by_cases i:a=b+1
  ·grind
  ·rw[d b (by omega) x (h b (by omega) (by omega)),Lw e d b (by omega) (by omega) λj f g=>h j f (by omega)]
theorem Lx{n:Nat}{ops:Array Oper}{e:Tr}(d:∀ j o,j<n->ops[j]?=zo o -> ∀ k,o.dst≠zo k->(e.ts (j+1)).get k=(e.ts j).get k)(c:ops.size=n){k a:Nat}:∀ b,a<=b->b<=n->(∀ j o,a<=j->j<b->ops[j]?=zo o->o.dst≠zo k)->(e.ts b).get k=(e.ts a).get k
 |0,ha,_,_=>by simp_all
 |b+1,ha,hb,h=>by
  by_cases m:a=b+1
  ·subst m;rfl
  ·have f:=ai (xs:=ops) (i:=b) (by omega);rw[d b _ (by omega) f k (h b _ (by omega) (by omega) f),Lx d c b (by omega) (by omega) λj o g p l=>h j o g (by omega) l]
theorem LC{ops:Array Oper}{t tS:T PV}{g:Option (Nat×Bool)}(h:∀ k,Fj (Ep ops.toList g) k=zt->tS.get k=t.get k):A5 ops.toList tS g=A5 ops.toList t g:=by
 unfold A5;cases g with
 |none=>rfl
 |some g=>
  grind [Ep,Gz,GE]
theorem Oz(R:RecOK P rec):E1 P rec:=by
 intro ops base fr fr' h h' e hm M μ w b a cs k t s f;unfold drawn at e;split at e
 ·rename_i ms hmarks;split at e
  ·rename_i tE hE hgo;cases e
   let n:=ops.size
   obtain⟨⟨ms',hms',hmslen⟩,hms⟩:=LS ops.toList 0 [] ms hmarks rfl;simp only[aO]at hms;obtain⟨g,k1,k2,k3,k4,_,k6⟩:=LB ops.toList ms 0 [] fr.t h hgo (λ_=>[]) (λ_=>[]) (λk X=>by omega);simp only[aO,Array.length_toList]at k3 k4 k6;have hnt:fr.nt<=1048575:=by have:=f.t.1;omega
   have J:∀ j,j<n -> ∃ o m,ops[j]?=zo o/\ms[j]?=zo m/\Kq ops.toList ms j o m/\g.StepAt P rec base fr.nt ops.toList j o /\ ∀ k,k<j->g.Clear m.bef j k:=by
    intro j G;have I:ops[j]?=zo ops[j]:=ai G;obtain⟨m,hm1,hm2⟩:=hms j ops[j] (by simp)
    grind
   have hedge:∀ i o,ops[i]?=zo o -> ∀ e∈o.after.toList,Region.binds .any e=zt->e.on<i:=by
    intro i o I e W hb;obtain⟨m,_,hm2⟩:=hms i o (by grind);exact El hm2.2.2.2.1 e W hb
   obtain⟨sn,smem,spre⟩:=QC (mixed:=P.follows .mixedOrders) hm hedge t;generalize Region.schedule (P.follows .mixedOrders) ops t=σ at sn smem spre;have befIn:=RY hms spre
   have tclear:∀ i o m,ops[i]?=zo o->ms[i]?=zo m->Kq ops.toList ms i o m -> ∀ j o' D,ops[j]?=zo o'->ms[j]?=zo D->Kq ops.toList ms j o' D->j<i ->
     Fj m.bef j=zt\/(HS D.wr (bN m.rd m.wr)=zt/\HS D.rd m.wr=zt):=by
    intro i o m I B z j o' D c Z U Y;have:=He z.2.2.2.2 j D (by grind)
    grind
   have place:∀ {p:List Nat} {i:Nat} {q:List Nat},σ=p++i::q -> ∀ o m,ops[i]?=zo o->ms[i]?=zo m->Kq ops.toList ms i o m ->
     i ∉ p/\(∀ j,Fj m.bef j=zt->j∈p)/\(∀ j o' D,ops[j]?=zo o'->ms[j]?=zo D->Fj D.bef i=zt->j ∉ p):=by
    intro p i q W o m I B z;rw[W]at sn
    have hip:i ∉ p:=by
     grind
    refine⟨hip,λj G=>befIn i o m I B p q W j G,?_⟩;intro j o' D c Z hb A;obtain⟨p1,p2,hp⟩:=cr A;have:=befIn j o' D c Z p1 (p2++i::q) (by grind) i hb
    grind
   have claimT:∀ {p:List Nat} {i:Nat} {q:List Nat},σ=p++i::q -> ∀ o m,ops[i]?=zo o->ms[i]?=zo m->Kq ops.toList ms i o m -> ∀ d,(Fj m.rd d=zt\/Fj m.wr d=zt) ->
     ∀ j o',ops[j]?=zo o'->o'.dst=zo d->(j∈p<->j<i):=by
    intro p i q W o m I B z d O j o' c l;obtain⟨hip,hb1,hb2⟩:=place W o m I B z;have G:j<n:=(Array.getElem?_eq_some_iff.1 c).1;obtain⟨o2,D,ho2,Z,U,_,_⟩:=J j G;rw[c]at ho2;cases ho2;have hwj:Fj D.wr d=zt:=by rw[U.2.1,l];simp only[Gz,GE];simp
    rcases cF j i with Y|rfl|hgt
    ·refine⟨λ_=>Y,λ_=> ?_⟩;rcases tclear i o m I B z j o' D c Z U Y with hb|⟨c1,_⟩
     ·grind
     ·exact absurd ⟨hwj,by rw[E6];grind⟩ (H0 c1 d)
    ·grind
    ·refine⟨λA=> ?_,λh=>by omega⟩;rcases tclear j o' D c Z U i o m I B z hgt with hb|⟨c1,c2⟩
     ·exact absurd A (hb2 j o' D c Z hb)
     ·rcases O with h|h
      ·exact absurd ⟨h,hwj⟩ (H0 c2 d)
      ·exact absurd ⟨h,by rw[E6,hwj];simp⟩ (H0 c1 d)
   have claimH:∀ {p:List Nat} {i:Nat} {q:List Nat},σ=p++i::q->i<n -> ∀ x,x∈g.rd i -> ∀ j,j<n->x∈g.wr j->(j∈p<->j<i):=by
    intro p i q W hi x K j G E;obtain⟨o,m,I,B,z,C,hcl⟩:=J i hi;obtain⟨o',D,c,Z,U,hstep',hcl'⟩:=J j G;obtain⟨hip,hb1,hb2⟩:=place W o m I B z;rcases cF j i with Y|rfl|hgt
    ·refine⟨λ_=>Y,λ_=> ?_⟩;rcases hcl j Y with hb|⟨c1,c2⟩
     ·grind
     ·exact absurd ⟨E,K⟩ (BB c1 x)
    ·grind
    ·refine⟨λA=> ?_,λh=>by omega⟩;rcases hcl' i hgt with hb|⟨c1,c2⟩
     ·exact absurd A (hb2 j o' D c Z hb)
     ·exact absurd ⟨E,K⟩ (BB c2 x)
   have unH:∀ j,j<n->(∀ x,x ∉ g.wr j->(g.hp (j+1)).get x=(g.hp j).get x)/\(∀ x,x∈g.wr j->x∈g.rd j):=by
    intro j G;obtain⟨o,m,I,B,z,C,hcl⟩:=J j G;rcases C with⟨_,v,O,_⟩|⟨_,h1,_,h3,_⟩
    ·obtain⟨hS',_,c1,c2⟩:=HW O (tS:=g.ts j) (hS:=g.hp j) (λ_ _=>rfl) (λ_ _=>rfl)
     grind
    grind
   have unT:∀ j o,j<n->ops[j]?=zo o -> ∀ k,o.dst≠zo k->(g.ts (j+1)).get k=(g.ts j).get k:=by
    intro j o G I k X;obtain⟨o2,m,ho2,B,z,C,hcl⟩:=J j G;rw[I]at ho2;cases ho2;rcases C with⟨_,v,_,hp⟩|⟨_,_,_,_,hp⟩
    ·exact HL hnt hp X
    ·exact HL hnt hp X
   have hp_eq:∀ {x a b:Nat},a<=b->b<=n->(∀ j,a<=j->j<b->x ∉ g.wr j)->(g.hp b).get x=(g.hp a).get x:=λh1 h2 h3=>
    Lw (P:=P) (rec:=rec) (base:=base) (nt:=fr.nt) (opsl:=ops.toList) (n:=n) (λj G=>let ⟨o,_,I,_,_,hs,_⟩:=J j G;⟨o,by simpa using I,hs⟩) (λj G x K=>(unH j G).1 x K) _ h1 h2 h3
   have ts_eq:∀ {k a b:Nat},a<=b->b<=n->(∀ j o,a<=j->j<b->ops[j]?=zo o->o.dst≠zo k)->(g.ts b).get k=(g.ts a).get k:=λh1 h2 h3=>
    Lx unT rfl _ h1 h2 h3
   have main:∀ (L F:List Nat) (tS:T PV) (hS:Hp),σ=F++L->QQ n ops g F tS->QP n g F hS ->
     ∃ tE hE,AZ P (λ_=>zf) rec base ops.toList (L.map λi=>(i,(ops[i]?).getD default)) { fr with t:=tS } hS=zo (.normal,{ fr with t:=tE },hE)/\QQ n ops g σ tE/\QP n g σ hE:=by
    intro L
    induction L with
    |nil=>
     intro F tS hS W hT hH;rw[List.append_nil]at W;subst W;exact⟨tS,hS,rfl,hT,hH⟩
    |cons i L ih=>
     intro F tS hS W hT hH;have hi:i<n:=(smem i).1 (by rw[W];simp);obtain⟨o,m,I,B,z,C,hcl⟩:=J i hi;have cT:=claimT W o m I B z;have cH:=claimH W hi;obtain⟨hip,_,_⟩:=place W o m I B z;have agT:∀ d,(Fj m.rd d=zt\/Fj m.wr d=zt)->tS.get d=(g.ts i).get d:=λd O=>hT d i (by omega) (λj o' c l=>cT d O j o' c l);have agH:∀ x,x∈g.rd i->hS.get x=(g.hp i).get x:=λx K=>hH x i (by omega) (λj G E=>cH x K j G E);have hrdbit:∀ d,Fj m.rd d=(Fj (FS (Ay o.op)) d||Fj (Ep ops.toList o.guard) d):=by intro d;rw[z.1,E6]
     have agO:Fi (g.ts i) tS (Ay o.op):=λd O=>(agT d (.inl (by rw[hrdbit,Hk O];simp))).symm;have hwant:A5 ops.toList tS o.guard=A5 ops.toList (g.ts i) o.guard:=LC λd O=>agT d (.inl (by rw[hrdbit,O];simp))
     have next:∀ {v:PV} {hS':Hp} {fr1:Fr},Ij fr.nt o.dst v (g.ts i) (g.ts (i+1))->(∀ x,x ∉ g.wr i->hS'.get x=hS.get x)->(∀ x,x∈g.wr i->hS'.get x=(g.hp (i+1)).get x) ->
       ∃ y,Ij fr.nt o.dst v tS y/\QQ n ops g (F++[i]) y/\QP n g (F++[i]) hS':=by
      intro v hS' _ AG h1 h2
      have hH':QP n g (F++[i]) hS':=by
       intro x D S hw;by_cases K:x∈g.wr i
       ·have him:i<D:=(hw i hi K).1 (by simp);rw[h2 x K];refine(hp_eq (by omega) S λj hj1 hj2 E=> ?_).symm;have hjn:j<n:=by omega
        have A:=(hw j hjn E).2 hj2;simp only[ak,aq]at A;rcases A with A|rfl
        ·have:=(cH x ((unH i hi).2 x K) j hjn E).1 A;omega
        ·omega
       ·rw[h1 x K];refine hH x D S λj G E=> ?_;have hji:j≠i:=by intro e;subst e;exact K E
        rw[<- hw j G E];simp[hji]
      have invT:∀ y,(∀ k,o.dst≠zo k->y.get k=tS.get k)->(∀ k,o.dst=zo k->y.get k=(g.ts (i+1)).get k)->QQ n ops g (F++[i]) y:=by
       intro y g1 g2 k D S hw;by_cases X:o.dst=zo k
       ·have him:i<D:=(hw i o I X).1 (by simp);rw[g2 k X];refine(ts_eq (by omega) S λj o' hj1 hj2 c l=> ?_).symm;have A:=(hw j o' c l).2 hj2;simp only[ak,aq]at A;rcases A with A|rfl
        ·have:=(cT k (.inr (by rw[z.2.1,X];simp only[Gz,GE];simp)) j o' c l).1 A;omega
        ·omega
       ·rw[g1 k X];refine hT k D S λj o' c l=> ?_;have hji:j≠i:=by intro e;subst e;rw[I]at c;cases c;exact X l
        rw[<- hw j o' c l];simp[hji]
      cases O:o.dst with
      |none=>
       exact⟨tS,rfl,invT tS (λ_ _=>rfl) (λk X=>by rw[O]at X;cases X),hH'⟩
      |some d=>
       rw[O]at AG;obtain⟨Y,hget⟩:=Li hnt AG;have hp2:Ij fr.nt (zo d) v tS (T.put 20 tS d v):=⟨Y,rfl⟩;refine⟨T.put 20 tS d v,hp2,invT _ (λk X=>HL hnt hp2 (by rw[<- O];exact X)) (λk X=> ?_),hH'⟩;rw[O]at X;cases X;rw[(Li hnt hp2).2,hget]
     have hget:(ops[i]?).getD default=o:=by rw[I];rfl
     have N:∀ {v:PV} {y:T PV},Ij fr.nt o.dst v tS y->({ fr with t:=tS }:Fr).put o.dst v=zo { fr with t:=y }:=by
      intro v y AG;unfold Fr.put;cases O:o.dst with
      |none=>rw[O]at AG;rw[show y=tS from AG]
      |some d=>
       rw[O]at AG;obtain⟨h1,rfl⟩:=AG;have:ae d fr.nt=zt:=by simpa using h1
       simp only[this,zb]
     have he2:σ=(F++[i])++L:=by rw[W];simp
     simp only[cg,hget];unfold AZ;rcases C with⟨hw1,v,O,AG⟩|⟨hw1,hh1,hrd,hwr,AG⟩
     ·simp only[hwant,hw1,zb];obtain⟨hS',hev,c1,c2⟩:=HW O agO agH;obtain⟨y,p1,p2,p3⟩:=next (fr1:=fr) AG (λx K=>(c1 x K).1) (λx K=>(c2 x K).2)
      obtain⟨tE,hE,q1,q2,q3⟩:=ih (F++[i]) y hS' he2 p2 p3;refine⟨tE,hE,?_,q2,q3⟩;rcases hev with hev|⟨hev,rfl⟩|⟨fid,args,hev,hcall⟩
      ·simp only[hev,N p1,q1]
      ·simp only[hev,N p1,q1]
      ·simp only[hev,hcall,N p1,q1]
     ·simp only[hwant,hw1,zj];obtain⟨y,p1,p2,p3⟩:=next (fr1:=fr) (hS':=hS) AG (λx K=>rfl) (λx K=>by rw[hwr]at K;simp at K)
      obtain⟨tE,hE,q1,q2,q3⟩:=ih (F++[i]) y hS he2 p2 p3;exact⟨tE,hE,by simp only[N p1,q1],q2,q3⟩
   obtain⟨tE',hE',q1,q2,q3⟩:=main σ [] fr.t h rfl
    (λk D S hw=>by
     rw[<- k1];refine(ts_eq (bz _) S λj o _ G I l=> ?_).symm;have:=(hw j o I l).2 G
     simp at this)
    (λx D S hw=>by
     rw[<- k2];refine(hp_eq (bz _) S λj _ G E=> ?_).symm;have:=(hw j (by omega) E).2 G
     simp at this)
   have eT:∀ k,tE'.get k=tE.get k:=by
    intro k;rw[<- k3];exact q2 k n (ab _) λj o I _=>by rw[smem]
   have eH:∀ x,hE'.get x=h'.get x:=by
    intro x;rw[<- k4];exact q3 x n (ab _) λj G _=>by rw[smem]
   have hran:=HO R (ops:=ops) (base:=base) _ q1 (λx K=>by
    obtain⟨i,hi,rfl⟩:=ba.1 K;have:=(smem i).1 hi
    simp[ai this]) k s f
   have hσ:(σ.map λi=>(i,(ops[i]?).getD default)).map (·.1)=σ:=by simp[cW,Function.comp_def]
   rw[hσ]at hran;obtain⟨M',μ',w',a',cs',r1,r2,r3,r4,r5⟩:=hran
   exact⟨M',μ',w',a',cs',r1.nx (λx=>(eH x).symm),r2,⟨⟨r3.t.1,r3.t.2.1,λk=>by
    have:=r3.t.2.2 k;simp only at this;rw[eT k]at this
    exact this⟩,r3.d,r3.u,r3.r⟩,r4,r5⟩
  ·cases e
 ·cases e
end
end
section
variable[Gl]
end
section
variable[Gl]
open Go.RowKit
end
section
variable[Gl]
section
variable{P:Program}{sh:FuncId->Bool}{M:Ao}{μ:Mu}{h:Hp}{w:World}
structure Kn where
 f:FuncId
 args:List PV
 q:PV
 h:Hp
open Go.RowKit in
end
end
section
variable[Gl]
def GC(r b:HR):Prop:=∀ a up args h x,r a up args h=zo x->b a up args h=zo x
section
variable{P:Program}{sh:FuncId->Bool}{rec rec':HR}
theorem I6(L:GC rec rec'){id:Nat}{f:FuncId}{args:List PV}{h:Hp}{x:Out×Hp}(e:A7 sh rec id f args h=zo x):A7 sh rec' id f args h=zo x:=by
 unfold A7 at e ⊢;cases hs:sh f with
 |true=>
  simp only[hs,zb]at e ⊢;cases b:rec (.fn f) zn args h with
  |none=>rw[b]at e;cases e
  |some y=>rw[b]at e;rw[L _ _ _ _ _ b];exact e
 |false=>
  simp only[hs,zj]at e ⊢;cases c:Am h args with
  |none=>rw[c]at e;cases e
  |some a=>
   rw[c]at e;simp only at e ⊢;cases b:rec (.fn f) zn a.1 { m:=.lf,nx:=0 }with
   |none=>rw[b]at e;cases e
   |some y=>rw[b]at e;rw[L _ _ _ _ _ b];exact e
theorem Jb(L:GC rec rec'){base:Nat}{ops:List Oper}:∀ {l:List (Nat×Oper)} {fr:Fr} {h:Hp} {x:Ex×Fr×Hp},AZ P sh rec base ops l fr h=zo x->AZ P sh rec' base ops l fr h=zo x
 |[],fr,h,x,e=>e
 |(i,o)::r,fr,h,x,e=>by
  unfold AZ at e ⊢
  have put:∀ {fr:Fr} {c:Option Nat} {v:PV} {h:Hp},(match fr.put c v with
    |some fr=>AZ P sh rec base ops r fr h
    |none=>zn)=zo x->(match fr.put c v with
    |some fr=>AZ P sh rec' base ops r fr h
    |none=>zn)=zo x:=by
   intro fr c v h e;split at e
   ·rename_i fr1 A;exact Jb L e
   ·cases e
  cases w:A5 ops fr.t o.guard with
  |false=>simp only[w,zj]at e ⊢;exact put (h:=h) e
  |true=>
   simp only[w,zb]at e ⊢;cases q:AP P fr.t h (base+i) o with
   |none=>rw[q]at e;cases e
   |some y=>
    rw[q]at e;cases y with
    |val v j=>exact put (h:=j) e
    |skip j=>exact put (h:=j) e
    |dfr d=>
     simp only at e ⊢;cases b:fr.ro with
     |none=>rw[b]at e;exact put e
     |some _=>rw[b]at e;cases e
    |call f args=>
     simp only at e ⊢;cases k:A7 sh rec (base+i) f args h with
     |none=>rw[k]at e;cases e
     |some z=>
      rw[k]at e;rw[I6 L k];obtain⟨o',h'⟩:=z;cases o' with
      |ret v=>exact put (h:=h') e
      |pan g=>
       cases g with
       |nil=>cases e
       |cons a l=>
        obtain⟨v,p⟩:=a;cases l<;>cases p<;>first|exact e|cases e
    |yield l args=>
     simp only at e ⊢;cases m:rec (.yl l) zn args h with
     |none=>rw[m]at e;cases e
     |some z=>
      rw[m]at e;rw[L _ _ _ _ _ m];obtain⟨o',B,h'⟩:=z;cases o' with
      |ret v=>exact put e
      |pan g=>exact e
    |pan v=>exact e
    |rcv=>
     simp only at e ⊢;cases b:fr.ro with
     |some _=>rw[b]at e;cases e
     |none=>
      rw[b]at e;simp only at e ⊢;cases s:fr.up with
      |none=>rw[s]at e;exact put (h:=h) e
      |some u=>
       rw[s]at e;cases u with
       |ret=>exact put (h:=h) e
       |pan g=>
        cases g with
        |nil=>exact put (h:=h) e
        |cons a n=>
         obtain⟨v,p⟩:=a;cases p<;>exact put (h:=h) e
theorem MF(L:GC rec rec'){t:T PV}{h:Hp}{id:Nat}{o:Oper}{x:PV×Hp×List Nat×List Nat}(e:Ax P rec t h id o=zo x):Ax P rec' t h id o=zo x:=by
 unfold Ax at e ⊢;dsimp only at e ⊢;cases hc : !As o.op || !ae id (id+1)with
 |true=>rw[hc]at e;cases e
 |false=>
  rw[hc]at e;simp only[zj]at e ⊢;cases c:AP P t (h.cut (id::Av t h o.op)) id o with
  |none=>rw[c]at e;cases e
  |some y=>
   rw[c]at e;cases y with
   |call f args=>
    simp only at e ⊢;cases d:Am h args with
    |none=>rw[d]at e;cases e
    |some a=>
     rw[d]at e;simp only at e ⊢;cases b:A7 (λ_=>zf) rec id f args (h.cut (id::a.2))with
     |none=>rw[b]at e;cases e
     |some z=>rw[b]at e;rw[I6 L b];exact e
   |_=>exact e
theorem DB(L:GC rec rec'){base nt:Nat}{ops:List Oper}:∀ {l:List Oper} {i:Nat} {f:List Mk} {a:List (Nat×List Nat×List Nat)} {t:T PV} {h:Hp} {x:T PV×Hp},AX P rec base nt ops i l f a t h=zo x->AX P rec' base nt ops i l f a t h=zo x
 |[],i,f,a,t,h,x,e=>by unfold AX at e ⊢;exact e
 |o::l,i,[],a,t,h,x,e=>by unfold AX at e;cases e
 |o::l,i,m::f,a,t,h,x,e=>by
  unfold AX at e ⊢;cases j:A5 ops t o.guard with
  |true=>
   simp only[j,zb]at e ⊢;cases g:Ax P rec t h (base+i) o with
   |none=>rw[g]at e;cases e
   |some z=>
    rw[g]at e;rw[MF L g];obtain⟨v,k,rd,wr⟩:=z;simp only at e ⊢;cases hh:Fv m.bef rd wr a with
    |false=>rw[hh]at e;cases e
    |true=>
     simp only[hh,zb]at e ⊢;cases b:o.dst with
     |none=>rw[b]at e;exact DB L e
     |some d=>
      rw[b]at e;simp only at e ⊢;cases c:ae d nt with
      |false=>rw[c]at e;cases e
      |true=>rw[c]at e;exact DB L e
  |false=>
   simp only[j,zj]at e ⊢;cases b:o.dst with
   |none=>rw[b]at e;exact DB L e
   |some d=>
    rw[b]at e;simp only at e ⊢;cases c:ae d nt with
    |false=>rw[c]at e;cases e
    |true=>rw[c]at e;exact DB L e
theorem Oy(L:GC rec rec'){base:Nat}{ops:List Oper}{fr:Fr}{h:Hp}{x:Fr×Hp}(e:drawn P rec base ops fr h=zo x):drawn P rec' base ops fr h=zo x:=by
 unfold drawn at e ⊢;split at e
 ·rename_i b c;cases a:AX P rec base fr.nt ops 0 ops b [] fr.t h with
  |none=>rw[a]at e;cases e
  |some z=>rw[a]at e;rw[DB L a];exact e
 ·cases e
theorem Cl(L:GC rec rec'):∀ {n k:Nat} {c:Code} {fr:Fr} {h:Hp} {x:Ex×Fr×Hp},n<=k->AY P sh rec n c fr h=zo x->AY P sh rec' k c fr h=zo x
 |0,k,c,fr,h,x,j,e=>by unfold AY at e;cases e
 |n+1,k,c,fr,h,x,j,e=>by
  obtain⟨m,rfl⟩:∃ m,k=m+1:=⟨k-1,by omega⟩;have j:n<=m:=by omega
  unfold AY at e ⊢;cases c with
  |skip=>exact e
  |label _=>exact e
  |seq a b=>
   simp only at e ⊢;cases i:AY P sh rec n a fr h with
   |none=>rw[i]at e;cases e
   |some y=>
    rw[i]at e;rw[Cl L j i];obtain⟨ex,fr1,u⟩:=y;cases ex<;>first|exact Cl L j e|exact e
  |cond c a b=>
   simp only at e ⊢;cases hc:CL fr.t c with
   |none=>rw[hc]at e;cases e
   |some v=>
    rw[hc]at e;cases v with
    |bool b=>cases b<;>exact Cl L j e
    |_=>cases e
  |block id b=>
   simp only at e ⊢;cases i:AY P sh rec n b fr h with
   |none=>rw[i]at e;cases e
   |some y=>rw[i]at e;rw[Cl L j i];exact e
  |loop b=>
   simp only at e ⊢;cases i:AY P sh rec n b fr h with
   |none=>rw[i]at e;cases e
   |some y=>
    rw[i]at e;rw[Cl L j i];obtain⟨ex,fr1,u⟩:=y;cases ex<;>first|exact Cl L j e|exact e
  |scope b=>
   simp only at e ⊢;cases i:AY P sh rec n b fr h with
   |none=>rw[i]at e;cases e
   |some y=>rw[i]at e;rw[Cl L j i];exact e
  |exit _=>exact e
  |goto _=>exact e
  |ret=>exact e
  |refuse _=>exact e
  |region id ops l=>
   cases l with
   |false=>exact Jb L e
   |true=>
    simp only[zb]at e ⊢;cases w:P.follows .mixedOrders || !Region.departs ops with
    |false=>rw[w]at e;cases e
    |true=>
     simp only[w,zb]at e ⊢;cases q:drawn P rec h.nx ops.toList fr { h with nx:=h.nx+ops.size }with
     |none=>rw[q]at e;cases e
     |some z=>rw[q]at e;rw[Oy L q];exact e
  |rangeFunc g F A s=>
   simp only at e ⊢;split at e
   ·rename_i f a b D
    try simp only[D]
    split at e
    ·rename_i d mark u E
     try simp only[E]
     split at e
     ·rename_i C p
      try simp only[p]
      split at e
      ·rename_i B args o
       try simp only[o]
       cases r:rec (.fn B) zn args { C with nx:=h.nx+1+1 }with
       |none=>rw[r]at e;cases e
       |some z=>rw[r]at e;rw[L _ _ _ _ _ r];exact e
      ·cases e
     ·cases e
    ·cases e
   ·cases e
theorem GY(L:GC rec rec'){q:Func}:∀ {n j:Nat} {i:List DF} {u:UM} {t:T PV} {h:Hp} {x:Out×Hp},n<=j->leave P rec q n i u t h=zo x->leave P rec' q j i u t h=zo x
 |0,j,i,u,t,h,x,o,e=>by unfold leave at e;cases e
 |n+1,j,i,u,t,h,x,o,e=>by
  obtain⟨m,rfl⟩:∃ m,j=m+1:=⟨j-1,by omega⟩;have o:n<=m:=by omega
  unfold leave at e ⊢;cases i with
  |nil=>exact e
  |cons d i=>
   cases d with
   |col id=>
    simp only at e ⊢;split at e
    ·rename_i l B
     try simp only[B]
     split at e
     ·rename_i y hs
      try simp only[hs]
      exact GY L o e
     ·cases e
    ·cases e
   |bi b s ty args=>
    simp only at e ⊢;split at e
    ·split at e
     ·rename_i v y A
      try simp only[A]
      exact GY L o e
     ·cases e
    ·cases e
   |call f args=>
    simp only at e ⊢;split at e
    ·rename_i g a b;split at e
     ·rename_i w c k
      try simp only[k]
      cases p:rec (.fn w) (zo u) c h with
      |none=>rw[p]at e;cases e
      |some z=>
       rw[p]at e;rw[L _ _ _ _ _ p];obtain⟨o',r,h'⟩:=z;cases o' with
       |ret v=>
        cases r with
        |some r=>exact GY L o e
        |none=>cases e
       |pan C=>cases e
     ·cases e
    ·cases e
theorem Ow{F j:Nat}(k:F<=j):∀ {n i:Nat},n<=i->GC (B3 P sh F n) (B3 P sh j i)
 |0,i,_=>λG up args h x e=>by cases e
 |n+1,i,hn=>λG up args h x e=>by
  obtain⟨m,rfl⟩:∃ m,i=m+1:=⟨i-1,by omega⟩;have L:GC (B3 P sh F n) (B3 P sh j m):=Ow k (by omega);unfold B3 QZ at e ⊢
  have tail:∀ {fn:Func} {fr:Fr} {ds:List DF} {u:UM} {h:Hp},(match leave P (B3 P sh F n) fn F ds u fr.t h with
    |some (o,h)=>zo (o,fr.up,h)
    |none=>zn)=zo x->(match leave P (B3 P sh j m) fn j ds u fr.t h with
    |some (o,h)=>zo (o,fr.up,h)
    |none=>zn)=zo x:=by
   intro fn fr ds u h e;cases A:leave P (B3 P sh F n) fn F ds u fr.t h with
   |none=>rw[A]at e;cases e
   |some z=>rw[A]at e;rw[GY L k A];exact e
  cases G with
  |fn f=>
   simp only at e ⊢;split at e
   ·rename_i p B
    try simp only[B]
    exact e
   rename_i B
   try simp only[B]
   split at e
   ·rename_i fn s
    try simp only[s]
    split at e
    ·rename_i c hc
     try simp only[hc]
     cases D:ac args.length fn.ntmps&&ae fn.ntmps 1048575 with
     |false=>simp only[D,zj]at e;cases e
     |true=>
      simp only[D,zb]at e ⊢;cases b:AY P sh (B3 P sh F n) F c { t:=Bn 0 args .lf,nt:=fn.ntmps,ds:=[],up,ro:=zn } h with
      |none=>rw[b]at e;cases e
      |some y=>
       rw[b]at e;rw[Cl L k b];obtain⟨ex,fr1,I⟩:=y;cases ex with
       |normal=>exact tail e
       |ret=>exact tail e
       |panic v=>exact tail e
       |_=>cases e
    ·cases e
   ·cases e
  |yl l=>
   simp only at e ⊢;split at e
   ·rename_i Y W nt t X q a d K
    try simp only[K]
    split at e
    ·rename_i S M
     try simp only[M]
     cases b:AY P sh (B3 P sh F n) F q { t:=S,nt,ds:=[],up:=zn,ro:=zo l } h with
     |none=>rw[b]at e;cases e
     |some y=>
      rw[b]at e;rw[Cl L k b];obtain⟨ex,fr1,I⟩:=y;cases ex with
      |normal=>
       simp only at e ⊢;split at e
       ·rename_i E N Z O C r U w
        try simp only[w]
        split at e
        ·rename_i J hs
         try simp only[hs]
         cases g:AY P sh (B3 P sh F n) F a fr1 J with
         |none=>rw[g]at e;cases e
         |some y2=>rw[g]at e;rw[Cl L k g];exact e
        ·cases e
       ·cases e
      |_=>cases e
    ·cases e
   ·cases e
end
end
end Go.Proofs.YtiehjicadcamiaaGreat.Pi
