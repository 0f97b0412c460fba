/- A part of the evaluator of the model's code for any program, and of the proof that it is sound. No condition. -/
import Derived.Test.YtoefnfbpoabinaaGreatDoorPp1
import Derived.RowKit3
import Derived.ChangeSame
import Derived.WalkKit
import Derived.Lib.Bytealg
set_option linter.all false
open List renaming append_assoc->a9, append_of_mem->cv, getElem?_cons_zero->a8, getElem?_eq_getElem->ah, length_cons->bu, map_cons->cj, map_map->cY, mem_append->al, mem_append_left->ax, mem_cons->aj, mem_cons_of_mem->aB, mem_cons_self->bL, mem_map->ba, mem_reverse->cF, mem_singleton->au, nodup_cons->bA, range->bW
open Nat renaming add_zero->aZ, beq->aa, ble->ad, blt->ae, blt_eq->bG, eq_of_beq_eq_true->ai, le_refl->ab, lor->bR, lt_trichotomy->cG, strongRecOn->cU, zero_add->aO, zero_le->bB
open Array renaming all_eq_true_iff_forall_mem->bM, getD_eq_getD_getElem?->aH, getElem?_eq_getElem->ak, mem_toList_iff->ci, replicate->bo
open Option renaming getD_some->aD, map_some->aC
open Bool renaming and_eq_true->ac, cond_eq_ite->ay, false_or->cV, not_eq_false'->aq, not_eq_true'->aU, not_true->ao, or_eq_false_iff->af, or_eq_true->bz
open UInt8 renaming not_lt->cX
open Option renaming some->zo, none->zn
open Bool renaming true->zt, false->zf
namespace Go.Proofs.YtoefnfbpoabinaaGreatDoor.Pi
section
variable[Gl]
def E6(P:Program)(rec:GH):Prop:=∀ {ops:Array Oper} {base:Nat} {fr c:Fr} {h h':Hp},drawn P rec base ops.toList fr h=zo (c,h')->(P.follows .mixedOrders || !Region.departs ops)=zt ->
 ∀ {M:Al} {μ:Mu} {w:World} {b:Frame} {a:Act} {cs:List Frame} (k:List Item) (t:Nat),Sim M μ h w->FrRep M μ fr b a cs->Ran P M μ w (lone (b.atR a (.inRegion ops (Region.schedule (P.follows .mixedOrders) ops t)::k)) cs w) b k cs .normal c h'
section
variable{P:Program}{sh:FuncId->Bool}{rec:GH}
theorem Nf{α:Type}:∀ (l:List α) (n:Nat),(Hm n l).map (·.1)=(bW l.length).map (n+·)
 |[],n=>rfl
 |a::l,n=>by
  simp only[Hm,cj,bu,List.range_succ_eq_map,cY];rw[Nf l (n+1)];simp only[aZ,List.cons.injEq,true_and];apply List.map_congr_left
  grind
theorem Ng{α:Type}:∀ (l:List α) (n:Nat),∀ x∈Hm n l,n<=x.1/\l[x.1-n]?=zo x.2
 |[],n,x,hx=>by simp[Hm]at hx
 |a::l,n,x,hx=>by
  simp only[Hm,aj]at hx;rcases hx with rfl|hx
  ·simp
  ·obtain⟨b,c⟩:=Ng l (n+1) x hx
   grind
section
variable{M:Al}{μ:Mu}{h h':Hp}{w:World}{b:Frame}{a:Act}{cs:List Frame}{k:List Item}{fr fr':Fr}{ex:Ex}{m:Machine}
theorem Ran.step{a:Machine}(hs:step P m=.next a)(c:Ran P M μ w a b k cs ex fr' h'):Ran P M μ w m b k cs ex fr' h':=
 let ⟨M',μ',w',a',cs',q1,q2,q3,q4,q5⟩:=c
 ⟨M',μ',w',a',cs',q1,q2,q3,q4,.of_steps (.one hs) q5⟩
theorem Ran.then{fr1:Fr}{g:Hp}{h:List Item}(p:Ran P M μ w m b h cs .normal fr1 g)
  (o:∀ {c μ1 d e a},Sim c μ1 g d->FrRep c μ1 fr1 b e a->Ran P c μ1 d (lone (b.atR e h) a d) b k a ex fr' h'):Ran P M μ w m b k cs ex fr' h':=by
 obtain⟨c,μ1,d,e,a,s1,n,l,y,x⟩:=p;obtain⟨i,μ',w',j,f,q,r,s,t,u⟩:=o s1 l;exact⟨i,μ',w',j,f,q,n.trans r,s,y.trans t,.of_steps x u⟩
theorem Ran.pass{x:Item}(q:x.plain=zt)(i:ex ≠ .normal)(j:Ran P M μ w m b (x::k) cs ex fr' h'):Ran P M μ w m b k cs ex fr' h':=by
 obtain⟨g,μ',w',h,c,l,n,o,p,a⟩:=j;refine⟨g,μ',w',h,c,l,n,o,p,?_⟩;cases ex with
 |normal=>simp_all
 |exit id=>obtain⟨f,d,e⟩:=a;exact⟨f,by rw[d];cases x<;>simp_all[exitTo,Item.plain],e⟩
 |goto id=>obtain⟨f,d,e⟩:=a;exact⟨f,by rw[d];cases x<;>simp_all[gotoIn,Item.plain],e⟩
 |ret=>exact a
 |panic v=>exact a
end
theorem Ct{r:Nat}{l:Loop}{w:World}(a:w.heap[r]?=zo (.loop l)):(Instr.getLoop r).run P w=.ok l w:=by
 simp[Instr.getLoop,getObj,Sem.run,a]
theorem KD(R:RecOK P rec)(D:E6 P rec):∀ (n:Nat),
  (∀ {c:Code} {fr C:Fr} {h h':Hp} {ex:Ex},AY P sh rec n c fr h=zo (ex,C,h') ->
   ∀ {M:Al} {μ:Mu} {w:World} {b:Frame} {a:Act} {cs:List Frame} (k:List Item),Sim M μ h w->FrRep M μ fr b a cs->Ran P M μ w (lone (b.atR a (.code c::k)) cs w) b k cs ex C h') /\
  (∀ {c:Code} {fr C:Fr} {h h':Hp} {ex:Ex},AY P sh rec n (.loop c) fr h=zo (ex,C,h') ->
   ∀ {M:Al} {μ:Mu} {w:World} {b:Frame} {a:Act} {cs:List Frame} (k:List Item),Sim M μ h w->FrRep M μ fr b a cs->Ran P M μ w (lone (b.atR a (.inLoop c::k)) cs w) b k cs ex C h')
 |0=>⟨λe=>by simp[AY]at e,λe=>by simp[AY]at e⟩
 |n+1=>by
  obtain⟨L,ihB⟩:=KD R D n
  have G:∀ {c:Code} {fr C:Fr} {h h':Hp} {ex:Ex},AY P sh rec (n+1) (.loop c) fr h=zo (ex,C,h') ->
    ∀ {M:Al} {μ:Mu} {w:World} {b:Frame} {a:Act} {cs:List Frame} (k:List Item),Sim M μ h w->FrRep M μ fr b a cs->Ran P M μ w (lone (b.atR a (.code c :: .inLoop c::k)) cs w) b k cs ex C h':=by
   intro c fr C h h' ex e M μ w b a cs k s f;simp only[AY]at e;cases hc:AY P sh rec n c fr h with
   |none=>simp_all
   |some r=>
    obtain⟨I,fr1,h1⟩:=r;rw[hc]at e;have B:=L hc (.inLoop c::k) s f;cases I with
    |normal=>exact B.then λs1 f1=>ihB e k s1 f1
    |exit id=>cases e;exact B.pass rfl (by simp_all)
    |goto id=>cases e;exact B.pass rfl (by simp_all)
    |ret=>cases e;exact B.pass rfl (by simp_all)
    |panic v=>cases e;exact B.pass rfl (by simp_all)
  refine⟨?_,λe M μ w b a cs k s f=>(G e k s f).step stepR_inLoop⟩;intro c fr C h h' ex e M μ w b a cs k s f;cases c with
  |skip=>simp only[AY]at e;cases e;exact⟨M,μ,w,a,cs,s,.refl _ _ _,f,.refl _,.one stepR_skip⟩
  |label l=>simp only[AY]at e;cases e;exact⟨M,μ,w,a,cs,s,.refl _ _ _,f,.refl _,.one stepR_label⟩
  |refuse _=>simp[AY]at e
  |exit id=>simp only[AY]at e;cases e;exact⟨M,μ,w,a,cs,s,.refl _ _ _,f,.refl _,k,rfl,.refl _ _⟩
  |goto id=>simp only[AY]at e;cases e;exact⟨M,μ,w,a,cs,s,.refl _ _ _,f,.refl _,k,rfl,.refl _ _⟩
  |ret=>simp only[AY]at e;cases e;exact⟨M,μ,w,a,cs,s,.refl _ _ _,f,.refl _,k,.refl _ _⟩
  |seq x y=>
   simp only[AY]at e;refine Ran.step stepR_seq ?_;cases hc:AY P sh rec n x fr h with
   |none=>simp_all
   |some r=>
    obtain⟨I,fr1,h1⟩:=r;rw[hc]at e;have B:=L hc (.code y::k) s f;cases I with
    |normal=>exact B.then λs1 f1=>L e k s1 f1
    |exit id=>cases e;exact B.pass rfl (by simp_all)
    |goto id=>cases e;exact B.pass rfl (by simp_all)
    |ret=>cases e;exact B.pass rfl (by simp_all)
    |panic v=>cases e;exact B.pass rfl (by simp_all)
  |cond x y z=>
   simp only[AY]at e;split at e
   ·rename_i hx;have hv:=CU s.glb f.t hx;generalize W:a.eval x=v at hv;cases hv;exact(L e k s f).step (by rw[stepR_cond W];rfl)
   ·rename_i hx;have hv:=CU s.glb f.t hx;generalize W:a.eval x=v at hv;cases hv;exact(L e k s f).step (by rw[stepR_cond W];rfl)
   ·cases e
  |block id x=>
   simp only[AY]at e;refine Ran.step stepR_block ?_;cases hc:AY P sh rec n x fr h with
   |none=>simp_all
   |some r=>
    obtain⟨I,fr1,h1⟩:=r;rw[hc]at e;have B:=L hc (.inBlock id::k) s f;cases I with
    |normal=>cases e;exact B.then λs1 f1=>⟨_,_,_,_,_,s1,.refl _ _ _,f1,.refl _,.one stepR_inBlock⟩
    |exit j=>
     obtain⟨M',μ',w',a',F,q1,q2,q3,q4,k1,q5,q6⟩:=B;simp only at e;cases hj:aa j id with
     |true=>
      simp only[hj,zb]at e;cases e;have:=ai hj;subst this;exact⟨M',μ',w',a',F,q1,q2,q3,q4,q6.trans (.one (stepR_exit (by rw[q5];simp[exitTo])))⟩
     |false=>
      simp only[hj,zj]at e;cases e;refine⟨M',μ',w',a',F,q1,q2,q3,q4,k1,?_,q6⟩;rw[q5]
      have:(id == j)=zf:=by
       cases hij:id == j<;>simp_all
      simp[exitTo,this]
    |goto j=>
     cases e;obtain⟨M',μ',w',a',F,q1,q2,q3,q4,k1,q5,q6⟩:=B;exact⟨M',μ',w',a',F,q1,q2,q3,q4,k1,by rw[q5];rfl,q6⟩
    |ret=>cases e;exact B
    |panic v=>cases e;exact B
  |loop x=>exact(G e k s f).step stepR_loop
  |scope x=>
   simp only[AY]at e;refine Ran.step MC ?_;cases hc:AY P sh rec n x fr h with
   |none=>simp_all
   |some r=>
    obtain⟨I,fr1,h1⟩:=r;rw[hc]at e;have B:=L hc (.inScope x::k) s f;cases I with
    |normal=>cases e;exact B.then λs1 f1=>⟨_,_,_,_,_,s1,.refl _ _ _,f1,.refl _,.one JF⟩
    |exit j=>
     cases e;obtain⟨M',μ',w',a',F,q1,q2,q3,q4,k1,q5,q6⟩:=B;exact⟨M',μ',w',a',F,q1,q2,q3,q4,k1,by rw[q5];rfl,q6⟩
    |goto j=>cases e
    |ret=>cases e;exact B
    |panic v=>cases e;exact B
  |region id ops draw=>
   simp only[AY]at e;have s0:Sim M μ { h with nx:=h.nx+ops.size } w:=s.nx λ_=>rfl
   cases draw with
   |false=>
    simp only[zj]at e;refine Ran.step stepR_region ?_
    have:=HY R _ e (λx hx=>by
     obtain⟨h1,h2⟩:=Ng _ _ x hx
     grind) k s0 f
    simp_all[Nf]
   |true=>
    simp only[zb]at e;replace e:=Ad e;obtain⟨hm,e⟩:=e;split at e
    ·rename_i fr1 h1 hd;cases e;refine Ran.step stepR_region_draw ?_;have s1:Sim M μ { h with nx:=h.nx+ops.size } { w with drawn:=w.drawn+1 }:=s0.drawn rfl
     obtain⟨M',μ',w',a',F,q1,q2,q3,q4,q5⟩:=D hd hm k (w.tape w.drawn (.order b.fn id)) s1 f;exact⟨M',μ',w',a',F,q1,(Grow.drawn (w:=w) (w':={ w with drawn:=w.drawn+1 }) rfl rfl rfl ⟨rfl,Nat.le_succ _⟩).trans q2,q3,q4,q5⟩
    ·cases e
  |rangeFunc g ps asg body=>
   simp only[AY]at e;split at e
   ·rename_i fn va0 vb0 hg;have hv:=CU s.glb f.t hg;generalize W:a.eval g=v at hv;cases hv with
    |fn _ _ _ _ va vb hf hla hlb h2 h3=>
    split at e
    ·rename_i d mark hd K;split at e
     ·rename_i hl hnewl;split at e
      ·rename_i fid args hinv;split at e
       ·rename_i rv u1 hc hcall;split at e
        ·rename_i st pend nt t pl as bd dd hgl;replace e:=Bl e;obtain⟨hst,e⟩:=e;have hst:st≠1:=by intro h;simp_all
         split at e
         ·rename_i hs hset
          have enter:∃ (w1:World) (μ1:Mu) (A:Bk) (mk:List Deferred) (lid:Nat),(Instr.enterLoop b.fn a.tmps ps asg body b.roundOf).run P w=.ok (A.b,mk) w1/\Sim M μ1 hl w1/\Grow M μ w M μ1 w1/\lid=h.nx+1/\μ1 lid=zo A/\DefsRep M μ1 mark mk:=by
           obtain⟨N,hgs,_⟩:=Hp.get_new hnewl;split at K
           ·rename_i hro;have J:b.roundOf=zn:=by have:=f.r;simp_all[JH]
            split at K
            ·rename_i hd1 hnewd;cases K;obtain⟨dget,dgs,_⟩:=Hp.get_new hnewd
             let rd:Bk:=⟨w.heap.size,0,0,0⟩
             obtain⟨s1,μd⟩:=s.fresh (w':=w.alloc (.deferred (zo []))) (r:=rd) (o:=.deferred (zo [])) dget dgs rfl rfl ⟨zo [],rfl,trivial⟩;have g1:=Grow.newBlk (M:=M) (μ:=μ) (w:=w) (w':=w.alloc (.deferred (zo []))) (r:=rd) (o:=.deferred (zo [])) μd rfl rfl rfl rfl ⟨rfl,ab _⟩
             let O:Loop:={ state:=.ready,pending:=zn,fn:=b.fn,tmps:=a.tmps,params:=ps,assign:=asg,body:=body,defers:=w.heap.size }
             let A:Bk:=⟨(w.alloc (.deferred (zo []))).heap.size,0,0,0⟩
             have μl0:DW μ h.nx rd (h.nx+1)=zn:=by
              cases hm:DW μ h.nx rd (h.nx+1)with
              |none=>rfl
              |some x=>exact absurd N (s1.use _ x hm).1
             have E:=Dq (r:=A) μl0
             obtain⟨s2,μl⟩:=s1.fresh (w':=(w.alloc (.deferred (zo []))).alloc (.loop O)) (r:=A) (o:=.loop O) N hgs rfl rfl
              ⟨O,rd,rfl,rfl,by decide,rfl,f.t.mono (.refl _) (g1.u.trans E),by simp[O],rfl,rfl,E _ _ (by simp[DW]),rfl⟩
             have U:=Grow.newBlk (M:=M) (w:=w.alloc (.deferred (zo []))) (w':=(w.alloc (.deferred (zo []))).alloc (.loop O)) (r:=A) (o:=.loop O) μl rfl rfl rfl rfl ⟨rfl,ab _⟩;refine⟨_,_,A,[{ target:=.collected w.heap.size,args:=#[] }],_,?_,s2,g1.trans U,rfl,by simp[DW],⟨⟨rd,E _ _ (by simp[DW]),rfl,rfl⟩,trivial⟩⟩;rw[J];rfl
            ·cases K
           ·rename_i l0 hro;have J:=f.r;unfold JH at J;rw[hro]at J;obtain⟨rb,hrb,J⟩:=J;split at K
            ·rename_i st0 pend0 nt0 t0 ps0 asg0 body0 d0 hb0;cases K;obtain⟨r',Y,Z,rd,b1,b2,b3,b4,b5,b6,b7,b8,b9,b10⟩:=s.blk l0 _ hb0;rw[hrb]at Y;cases Y
             let O:Loop:={ state:=.ready,pending:=zn,fn:=b.fn,tmps:=a.tmps,params:=ps,assign:=asg,body:=body,defers:=rd.b }
             let A:Bk:=⟨w.heap.size,0,0,0⟩
             have μl0:μ (h.nx+1)=zn:=by
              cases hm:μ (h.nx+1)with
              |none=>rfl
              |some x=>exact absurd N (s.use _ x hm).1
             have E:=Dq (r:=A) μl0
             obtain⟨s2,μl⟩:=s.fresh (w':=w.alloc (.loop O)) (r:=A) (o:=.loop O) N hgs rfl rfl
              ⟨O,rd,rfl,rfl,by decide,rfl,f.t.mono (.refl _) E,by simp[O],rfl,rfl,E _ _ b9,rfl⟩
             have U:=Grow.newBlk (M:=M) (w:=w) (w':=w.alloc (.loop O)) (r:=A) (o:=.loop O) μl rfl rfl rfl rfl ⟨rfl,ab _⟩;refine⟨_,_,A,[],_,?_,s2,U,rfl,by simp[DW],trivial⟩;rw[J];simp[Instr.enterLoop,O,A,Ct b1,b10]
            ·cases K
          obtain⟨w1,μ1,A,mk,lid,hent,s1,g1,rfl,hrl,hdm⟩:=enter;have hyl:Rep M μ1 (.yl (h.nx+1)) (.func (.yield A.b) #[] #[]):=.yl _ _ A hrl
          obtain⟨k1,g0,as0,k2⟩:=FL (P:=P) (w:=w1) (vf:=va.toList) (vc:=vb.toList) (va:=[.func (.yield A.b) #[] #[]])
           ⟨by omega,λi c v p q=>(h2 i c v p (by grind)).mono (.refl _) g1.u⟩ ⟨by omega,λi c v p q=>(h3 i c v p (by grind)).mono (.refl _) g1.u⟩ (RepL.cons hyl (RepL.nil _ _)) hinv
          obtain⟨vs,hrun,hargs,fn1,c1,hfn1,hbody1⟩:=k1
          have hres:(resolve a.eval (rangeCall g A.b) 0).run P w1=.ok { target:=.fn fn vb,args:=va ++ #[.func (.yield A.b) #[] #[]] } w1:=by
           show Sem.run P (Deferred.ofValue (a.eval g) (#[Operand.const (.func (.yield A.b) #[] #[])].map a.eval)) w1=_;have hm1 : #[Operand.const (.func (.yield A.b) #[] #[])].map a.eval = #[Value.func (.yield A.b) #[] #[]]:=by simp[Act.eval]
           rw[W,hm1];rfl
          have hcat:(va.toList++[Value.func (.yield A.b) #[] #[]]).toArray=va ++ #[.func (.yield A.b) #[] #[]]:=by apply Array.ext';simp
          have hstep:=stepR_rangeFunc (P:=P) (b:=b) (a:=a) (k:=k) (cs:=cs) hent hres (by rw[hcat]at hrun;exact hrun);have s1n:Sim M μ1 { hl with nx:=h.nx+1+1 } w1:=s1.nx λ_=>rfl
          obtain⟨M2,μ2,w2,fr2,s2,U,st2,hfn2,x2,hx2,hl2⟩:=R.nrm hcall s1n hargs (b.atR { a with defers:=mk++a.defers } (.inRangeFunc A.b::k)::cs)
          obtain⟨r',Y,Z,rd,b1,b2,b3,b4,b5,b6,b7,b8,b9,b10⟩:=s2.blk _ _ hgl;rw[U.u _ _ hrl]at Y;cases Y;subst b4
          have hnb:(Z.state == LoopState.busy)=zf:=by
           rw[b2]
           match st,hst,b3 with
           |0,_,_=>rfl
           |2,_,_=>rfl
           |3,_,_=>rfl
          have hnb2:¬ ((Z.state == LoopState.busy)=zt):=by simp_all
          have so:=BZ (P:=P) (o':=.loop { Z with state:=.exhausted }) b1 (by simp_all)
          have hend:(Instr.endLoop A.b).run P w2=.ok Z.pending { w2 with heap:=w2.heap.setIfInBounds A.b (.loop { Z with state:=.exhausted }) }:=by
           simp_all[Instr.endLoop,Sem.run_bind,Ct,Result.andThen,zx]
          obtain⟨s3,g3⟩:=s2.object (o':=.loop { Z with state:=.exhausted }) hgl (U.u _ _ hrl) trivial hset b1 (by simp_all)
           ⟨_,rd,rfl,rfl,by decide,rfl,b5,b6,b7,b8,b9,b10⟩
          have f3:FrRep M2 μ2 { fr with ds:=mark++fr.ds } b { a with defers:=mk++a.defers } cs:=by
           have f2:=f.mono (g1.m.trans U.m) (g1.u.trans U.u);refine⟨f2.t,?_,f2.u,f2.r⟩;have hdm2:=hdm.mono U.m U.u
           have app:∀ {x:List DF} {y:List Deferred},DefsRep M2 μ2 x y->DefsRep M2 μ2 (x++fr.ds) (y++a.defers):=by
            intro x
            induction x with
            |nil=>intro y hy;cases y with
             |nil=>exact f2.d
             |cons _ _=>exact hy.elim
            |cons d0 x ih=>intro y hy;cases y with
             |nil=>exact hy.elim
             |cons _ _=>exact⟨hy.1,ih hy.2⟩
           grind
          have X:=(g1.trans U).trans g3
          have S:Steps P (lone (b.atR a (.code (.rangeFunc g ps asg body)::k)) cs w) (lone (b.atR { a with defers:=mk++a.defers } ((Z.pending.map Item.code).toList++k)) cs { w2 with heap:=w2.heap.setIfInBounds A.b (.loop { Z with state:=.exhausted }) }):=by
           refine .head hstep (st2.trans (.head ?_ (.one (stepR_endRangeFunc hend))));rw[<- finish_atR_inRangeFunc A.b x2];exact step_leave_returned hl2
          clear hend so g3;generalize ({ w2 with heap:=w2.heap.setIfInBounds A.b (.loop { Z with state:=.exhausted }) }:World)=w3 at s3 X S
          split at e<;>rename_i hpd<;>(try rw[hpd]at S)
          ·cases e;exact⟨M2,μ2,_,_,cs,s3,X,f3,.refl _,S⟩
          ·cases e;exact⟨M2,μ2,_,_,cs,s3,X,f3,.refl _,k,S⟩
          ·cases e;exact⟨M2,μ2,_,_,cs,s3,X,f3,.refl _,k,rfl,S⟩
          ·cases e;exact⟨M2,μ2,_,_,cs,s3,X,f3,.refl _,k,rfl,S⟩
          ·cases e
         ·cases e
        ·cases e
       ·cases e
      ·cases e
     ·cases e
    ·cases e
   ·cases e
end
end
section
variable[Gl]
section
variable{P:Program}{sh:FuncId->Bool}{rec:GH}{M:Al}{μ:Mu}{h:Hp}{w:World}
theorem Rj(s:Sim M μ h w){t:T PV}{nt:Nat}{b:Array Value}(d:TmpsRep M μ t nt b){r:ResultVar}{p:PV}(e:QY P h t r=zo p) :
  ∃ x,(match r with
   |.tmp t=>pure (b.getD t undef)
   |.cell a t=>do loadVar t (<- asAddr (b.getD a undef)):Sem Value).run P w=.ok x w/\Rep M μ p x:=by
 unfold QY at e;split at e
 ·rename_i k;cases e;exact⟨_,rfl,d.2.2 k⟩
 ·rename_i a ty;split at e
  ·rename_i j off g;split at e
   ·rename_i cs fz f;have c:=d.2.2 a;rw[g]at c;simp only[aD]at c;obtain⟨r,m,hc⟩:=Jh s (off:=off) f;obtain⟨v,i,l⟩:=ER (P:=P) hc e;generalize n:b.getD a undef=x at c;cases c with
    |ptr _ _ _ r' hr'=>
     simp_all[asAddr]
   ·cases e
  ·cases e
theorem FU(s:Sim M μ h w){t:T PV}{nt:Nat}{b:Array Value}(f:TmpsRep M μ t nt b):∀ {l:List ResultVar} {c:List PV},JC P h t l=zo c ->
  ∃ xs:List Value,(l.mapM (fun | .tmp t=>pure (b.getD t undef) | .cell a t=>do loadVar t (<- asAddr (b.getD a undef)):ResultVar->Sem Value)).run P w=.ok xs w/\RepL M μ c xs
 |[],c,e=>by simp[JC]at e;subst e;exact⟨[],by simp,RepL.nil _ _⟩
 |r::l,c,e=>by
  unfold JC at e;split at e
  ·rename_i p k j d;cases e;obtain⟨x,m,g⟩:=Rj s f j;obtain⟨xs,n,i⟩:=FU s f d;refine⟨x::xs,?_,RepL.cons g i⟩<;>simp_all
  ·cases e
theorem GF(s:Sim M μ h w){j:Func}{t:T PV}{nt:Nat}{d:Array Value}(q:TmpsRep M μ t nt d){v:PV}(e:results P j h t=zo v):∃ x,(Go.results j d).run P w=.ok x w/\Rep M μ v x:=by
 unfold results at e
 have key:∀ {l:List PV},JC P h t j.results.toList=zo l -> ∃ xs:Array Value,(j.results.mapM (fun | .tmp t=>pure (d.getD t undef) | .cell a t=>do loadVar t (<- asAddr (d.getD a undef)):ResultVar->Sem Value)).run P w=.ok xs w/\RepL M μ l xs.toList:=by
  intro l f;obtain⟨xs,m,k⟩:=FU s q f
  simp_all[Array.mapM_eq_mapM_toList,Sem.run_map]
 have g:(Go.results j d).run P w=((j.results.mapM (fun | .tmp t=>pure (d.getD t undef) | .cell a t=>do loadVar t (<- asAddr (d.getD a undef)):ResultVar->Sem Value)) >>= λvs=>(pure (if h:vs.size=1 then vs[0]else .tuple vs):Sem Value)).run P w:=rfl
 rw[g];split at e
 ·rename_i z f;cases e;obtain⟨xs,m,k⟩:=key f;obtain⟨x,y,u⟩:=Hc k rfl;have r:xs = #[x]:=by grind
  simp_all
 ·rename_i l n f;cases e;obtain⟨xs,m,k⟩:=key f
  have o:xs.size≠1:=by
   intro h;have:l.length=1:=by rw[k.1];omega
   match l,this with
   |[p],_=>simp_all
  refine⟨.tuple xs,by simp_all,.tup _ _ _ (by simpa using k.1) λi c v a b=>k.2 i c v a (by grind)⟩
 ·cases e
theorem HZ{u:UM}{m:FrameMode}(b:UMRep M μ u m):UMRep M μ (K1 u) (settle m):=by
 cases u with
 |ret=>have b:m=.returning:=b;subst b;rfl
 |pan j=>
  obtain⟨a,rfl,hc⟩:=b;cases j with
  |nil=>cases a with
   |nil=>exact⟨[],rfl,trivial⟩
   |cons _ _=>exact hc.elim
  |cons e d=>
   cases a with
   |nil=>exact hc.elim
   |cons p n=>
    obtain⟨i,f,g,h⟩:=hc;obtain⟨ev,k⟩:=e;obtain⟨pv,t,s⟩:=p;simp only at f g;subst f;subst g;cases k with
    |false=>exact⟨_,rfl,i,rfl,rfl,h⟩
    |true=>
     have drop:∀ {l:List PE} {m:List PanicEntry},ChRep M μ l m->m.dropWhile (!·.goexit)=[]:=by
      intro l
      induction l with
      |nil=>intro m c;cases m with
       |nil=>rfl
       |cons _ _=>exact c.elim
      |cons _ _ ih=>intro m c;cases m with
       |nil=>rfl
       |cons q w=>
        obtain⟨_,_,o,r⟩:=c
        simp_all
     have:=drop h;show settle (.panicking ({ v:=pv,recovered:=zt }::n))=.returning;simp[settle,this]
theorem Kb{u:UM}{m:FrameMode}(b:UMRep M μ u m):m ≠ .run:=by
 cases u with
 |ret=>have b:m=.returning:=b;simp_all
 |pan c=>obtain⟨a,rfl,_⟩:=b;simp_all
theorem PR{x y:List DF}{X Y:List Deferred}(a:DefsRep M μ x X)(b:DefsRep M μ y Y):DefsRep M μ (x++y) (X++Y):=by
 induction x generalizing X with
 |nil=>cases X with
  |nil=>exact b
  |cons _ _=>exact a.elim
 |cons d x c=>cases X with
  |nil=>exact a.elim
  |cons _ _=>exact⟨a.1,c a.2⟩
theorem Gh(R:RecOK P rec){fn:Func}{t:T PV}{nt:Nat}:∀ (n:Nat) {I:List DF} {u:UM} {h h':Hp} {o:Out},leave P rec fn n I u t h=zo (o,h') ->
  ∀ {M:Al} {μ:Mu} {w:World} {fr:Frame} (cs:List Frame),Sim M μ h w->UMRep M μ u fr.mode->DefsRep M μ I fr.defers->TmpsRep M μ t nt fr.tmps->P.funcs[fr.fn]?=zo fn ->
  ∃ z μ' w' j,Sim z μ' h' w'/\Grow M μ w z μ' w'/\Steps P (lone fr cs w) (lone j cs w')/\j.fn=fr.fn/\j.kind=fr.kind/\Qy P z μ' j w' o
 |0,_,_,_,_,_,e,_,_,_,_,_,_,_,_,_,_=>by simp[leave]at e
 |n+1,I,u,h,h',o,e,M,μ,w,fr,cs,s,hu,hd,ht,hfn=>by
  unfold leave at e;split at e
  ·have K:fr.defers=[]:=by
    cases d:fr.defers with
    |nil=>rfl
    |cons _ _=>rw[d]at hd;exact hd.elim
   split at e
   ·split at e
    ·rename_i v hv;cases e;obtain⟨x,J,h2⟩:=GF s ht hv;exact⟨M,μ,w,fr,s,.refl _ _ _,.refl _ _,rfl,rfl,x,h2,hu,K,fn,hfn,J⟩
    ·cases e
   ·rename_i ch;cases e;obtain⟨E,J,h2⟩:=hu;exact⟨M,μ,w,fr,s,.refl _ _ _,.refl _ _,rfl,rfl,E,h2,J,K,fn,hfn⟩
  ·rename_i id I;cases d:fr.defers with
   |nil=>rw[d]at hd;exact hd.elim
   |cons D C=>
    rw[d]at hd;obtain⟨⟨r,hr,i,a⟩,y⟩:=hd;obtain⟨Dt,Da⟩:=D;simp only at i a;subst i;subst a;split at e
    ·rename_i l hb;split at e
     ·rename_i J O;obtain⟨r',L,dd,b1,b2⟩:=s.blk id _ hb;rw[hr]at L;cases L;cases dd with
      |none=>grind
      |some q=>
       have so:=BZ (P:=P) (o':=.deferred zn) b1 (by simp_all);obtain⟨s1,p⟩:=s.object (o':=.deferred zn) hb hr trivial O b1 (by simp_all) ⟨zn,rfl,trivial⟩
       have k:(Instr.takeDeferred r.b).run P w=.ok q { w with heap:=w.heap.setIfInBounds r.b (.deferred zn) }:=by
        simp_all[getObj,Sem.run,Instr.takeDeferred,Sem.run_bind,Result.andThen]
       have st:=K4 (P:=P) (cs:=cs) (Kb hu) d k;obtain⟨z,μ',w',j,S,U,W,X,Y,Z⟩:=Gh R n e (fr:={ fr with defers:=q++C }) cs s1 hu (PR b2 y) ht hfn
       exact⟨z,μ',w',j,S,p.trans U,.head st W,X,Y,Z⟩
     ·cases e
    ·cases e
  ·rename_i b ats ty args I;cases d:fr.defers with
   |nil=>rw[d]at hd;exact hd.elim
   |cons D C=>
    rw[d]at hd;obtain⟨⟨A,va,i,a,G⟩,y⟩:=hd;obtain⟨Dt,Da⟩:=D;simp only at i a;subst i;subst a;split at e
    ·split at e
     ·rename_i v J hbt;obtain⟨M1,μ1,w1,x,k,s1,p,hx⟩:=IL (ty:=ty) (cs:=A) s G hbt;have st:=G0 (P:=P) (cs:=cs) (Kb hu) d k;obtain⟨z,μ',w',j,S,U,W,X,Y,Z⟩:=Gh R n e (fr:={ fr with defers:=C }) cs s1 (hu.mono p.m p.u) (y.mono p.m p.u) (ht.mono p.m p.u) hfn
      exact⟨z,μ',w',j,S,p.trans U,.head st W,X,Y,Z⟩
     ·cases e
    ·cases e
  ·rename_i f args I;cases d:fr.defers with
   |nil=>rw[d]at hd;exact hd.elim
   |cons D C=>
    rw[d]at hd;obtain⟨⟨fv,first,cap,vf,vc,va,hfe,hny,i,a,G,hrb,hrc⟩,y⟩:=hd
    obtain⟨Dt,Da⟩:=D;simp only at i a;subst i;subst a;subst hfe;cases fv with
    |func g=>
     simp only at e;cases B:CC P (.func g) first cap args with
     |none=>simp_all
     |some rr=>
      rw[B]at e;obtain⟨N,g',args',rfl⟩:=FL (P:=P) (w:=w) G hrb hrc B;obtain⟨vs,k,hvs,_⟩:=N;simp only at e;split at e
      ·rename_i rv u1 J F;obtain⟨M1,μ1,w1,frX,m1,u1',s1,p,st1,hup,hum,hkX,x,hx,hgo⟩:=R.dfr F s hvs { fr with defers:=C } cs hu
       cases hup;have st:=step_defer (P:=P) (cs:=cs) (Kb hu) d rfl k;have st2:=step_going_returned (c:={ { fr with defers:=C }with mode:=m1 }) (cs:=cs) hkX hgo
       obtain⟨z,μ',w',j,S,U,W,X,Y,Z⟩:=Gh R n e (fr:={ { { fr with defers:=C }with mode:=m1 }with mode:=settle m1 }) cs s1 (HZ hum) (y.mono p.m p.u) (ht.mono p.m p.u) hfn
       exact⟨z,μ',w',j,S,p.trans U,.head st (st1.trans (.head st2 W)),X,Y,Z⟩
      ·cases e
    |_=>cases e
theorem Hu:∀ (l:List PV) (i:Nat) (t:T PV) (k:Nat),i + l.length <= 1048575 -> (Bq i l t).get k=if i <= k /\ k < i + l.length then l[k - i]? else t.get k
  |[],i,t,k,_=>by simp[Bq];omega
  |a :: l,i,t,k,hle=>by
    simp only[bu]at hle;unfold Bq
    rw [Hu l (i + 1) _ k (by omega), T.get_put 20 t i a k (by have : (2 : Nat) ^ 20 - 1 = 1048575 := by decide
                                                              omega)]
    by_cases hk:k=i
    · subst hk;rw[zx (by omega),zy rfl,zy (by simp)];simp
    · by_cases h1:i + 1 <= k /\ k < i + 1 + l.length
      · rw[zy h1,zy (by simp;omega),show k - i=(k - (i + 1)) + 1 by omega];simp
      · rw[zx h1,zx hk,zx (by simp;omega)]
theorem Md{args:List PV}{vs:List Value}(a:RepL M μ args vs){n:Nat}(e:args.length<=n)(b:n<1048575):TmpsRep M μ (Bq 0 args .lf) n (vs.toArray++bo (n-vs.toArray.size) undef):=by
 have f:=a.1;refine⟨b,by simp;omega,λk=> ?_⟩;rw[Hu args 0 .lf k (by omega)];by_cases c:k<args.length
 ·rw[zy (by omega)];obtain⟨v,d,g⟩:=a.get (i:=k) (ah c)
  have:(vs.toArray++bo (n-vs.toArray.size) undef).getD k undef=v:=by
   rw[aH,Array.getElem?_append_left (by simp;omega)];simp[d]
  grind
 ·rw[zx (by omega)]
  have:(vs.toArray++bo (n-vs.toArray.size) undef).getD k undef=undef:=by
   rw[aH,Array.getElem?_append_right (by simp;omega),Array.getElem?_replicate]
   grind
  rw[this];exact FT M μ
theorem Cd{nt:Nat}:∀ {f:List Nat} {args:List PV} {vs:List Value} {t d:T PV} {b:Array Value},Bz nt f args t=zo d->RepL M μ args vs->TmpsRep M μ t nt b ->
  f.length=vs.length/\TmpsRep M μ d nt ((f.zip vs).foldl (λb (x:Nat×Value)=>b.setIfInBounds x.1 x.2) b)
 |[],[],vs,t,d,b,e,hr,ht=>by
  simp[Bz]at e;subst e;rw[hr.nil_inv]
  simp_all
 |[],_::_,vs,t,d,b,e,hr,ht=>by simp[Bz]at e
 |_::_,[],vs,t,d,b,e,hr,ht=>by simp[Bz]at e
 |p::f,a::args,vs,t,d,b,e,hr,ht=>by
  unfold Bz at e;replace e:=Ad e;obtain⟨g,e⟩:=e;obtain⟨x,k,rfl,h,c⟩:=hr.cons_inv;obtain⟨i,j⟩:=Cd e c (MG ht (by simpa using g) h)
  simp_all
end
end
section
variable[Gl]
section
variable{P:Program}{sh:FuncId->Bool}{M:Al}{μ:Mu}{h:Hp}{w:World}
theorem Lq(P:Program):RecOK P (λ_ _ _ _=>zn):=by constructor<;>(simp_all)
theorem E4{b:CallKind}{cs a:List Frame}(d:b=.normal)(h:Tail b cs a):a=cs:=by
 rcases h with h|⟨c,_⟩<;>simp_all
theorem NR{rec:GH}(R:RecOK P rec)(D:E6 P rec){F:Nat}{f:FuncId}{fn:Func}{c:Code}{up:Option UM}{args:List PV}{h h':Hp}{o:Out}{r:Option UM}(X:P.funcs[f]?=zo fn)(G:fn.body=zo c)
  (e:(match (bif ad args.length fn.ntmps&&ae fn.ntmps 1048575 then AY P sh rec F c { t:=Bq 0 args .lf,nt:=fn.ntmps,ds:=[],up,ro:=zn } h else zn)with
   |some (.normal,fr,h)|some (.ret,fr,h)=>(match leave P rec fn F fr.ds .ret fr.t h with
    |some (o,h)=>zo (o,fr.up,h)
    |none=>zn)
   |some (.panic e,fr,h)=>(match leave P rec fn F fr.ds (.pan [{ v:=e,recovered:=zf }]) fr.t h with
    |some (o,h)=>zo (o,fr.up,h)
    |none=>zn)
   |_=>zn)=zo (o,r,h')) {M:Al} {μ:Mu} {w:World} {vs:List Value} (s:Sim M μ h w) (W:RepL M μ args vs) (j:CallKind) (cs:List Frame) (K:NO M μ j cs up) :
  ∃ l μ' w' fr cs',Sim l μ' h' w'/\Grow M μ w l μ' w'/\Steps P (lone (Frame.enter P f vs.toArray j) cs w) (lone fr cs' w')/\Tail j cs cs'/\NO l μ' j cs' r/\fr.fn=f/\fr.kind=j/\Qy P l μ' fr w' o:=by
 let b:Frame:={ fn:=f,tmps:=#[],todo:=[],defers:=[],mode:=.run,kind:=j }
 have p:Frame.enter P f vs.toArray j=b.atR { tmps:=vs.toArray++bo (fn.ntmps-vs.toArray.size) undef,defers:=[] } [.code c]:=by
  grind [Frame.enter,Frame.atR]
 have Ga:∀ {c:Code} {fr n:Fr} {h h':Hp} {ex:Ex},AY P sh rec F c fr h=zo (ex,n,h') ->
   ∀ {M:Al} {μ:Mu} {w:World} {b:Frame} {a:Act} {cs:List Frame} (k:List Item),Sim M μ h w->FrRep M μ fr b a cs->Ran P M μ w (lone (b.atR a (.code c::k)) cs w) b k cs ex n h':=(KD R D F).1
 have E:∀ {ex:Ex} {fr:Fr} {B:Hp},AY P sh rec F c { t:=Bq 0 args .lf,nt:=fn.ntmps,ds:=[],up,ro:=zn } h=zo (ex,fr,B)->args.length<=fn.ntmps->fn.ntmps<1048575 ->
   ∀ {u:UM},((ex=.normal\/ex=.ret)/\u=.ret \/ ∃ v,ex=.panic v/\u=.pan [{ v,recovered:=zf }])->(match leave P rec fn F fr.ds u fr.t B with
    |some (o,h)=>zo (o,fr.up,h)
    |none=>zn)=zo (o,r,h') ->
   ∃ l μ' w' fr cs',Sim l μ' h' w'/\Grow M μ w l μ' w'/\Steps P (lone (Frame.enter P f vs.toArray j) cs w) (lone fr cs' w')/\Tail j cs cs'/\NO l μ' j cs' r/\fr.fn=f/\fr.kind=j/\Qy P l μ' fr w' o:=by
  intro ex fr B z I J u Y e
  have S:FrRep M μ { t:=Bq 0 args .lf,nt:=fn.ntmps,ds:=[],up,ro:=zn } b { tmps:=vs.toArray++bo (fn.ntmps-vs.toArray.size) undef,defers:=[] } cs:=
   ⟨Md W I J,trivial,K,rfl⟩
  obtain⟨O,μ1,w1,A,y,s1,U,C,t1,arr⟩:=Ga z (b:=b) [] s S;rw[<- p]at arr;split at e
  ·rename_i o1 h2 q;cases e
   have L:∃ i:Frame,Steps P (lone (Frame.enter P f vs.toArray j) cs w) (lone i y w1)/\i.fn=f/\i.kind=j/\i.defers=A.defers/\i.tmps=A.tmps/\UMRep O μ1 u i.mode:=by
    rcases Y with⟨rfl|rfl,rfl⟩|⟨v,rfl,rfl⟩
    ·exact⟨{ b.atR A []with mode:=.returning },Steps.trans arr (.one (stepR_end rfl)),rfl,rfl,rfl,rfl,rfl⟩
    ·obtain⟨k1,arr⟩:=arr;exact⟨{ b.atR A (.code .ret::k1)with mode:=.returning },Steps.trans arr (.one (stepR_ret rfl)),rfl,rfl,rfl,rfl,rfl⟩
    ·obtain⟨todo,x,Z,arr⟩:=arr;exact⟨{ b.atR A todo with mode:=.panicking [{ v:=x,recovered:=zf }] },arr,rfl,rfl,rfl,rfl,_,rfl,Z,rfl,rfl,trivial⟩
   obtain⟨i,st,m1,m2,m3,m4,m5⟩:=L;obtain⟨l,μ',w',n,q1,N,q3,q4,q5,q6⟩:=Gh R F q (fr:=i) y s1 m5 (by rw[m3];exact C.d) (by rw[m4];exact C.t) (by simp_all);refine⟨l,μ',w',n,y,q1,U.trans N,st.trans q3,t1,?_,by rw[q4,m1],by rw[q5,m2],q6⟩;exact(C.mono N.m N.u).u
  ·cases e
 cases g:(ad args.length fn.ntmps&&ae fn.ntmps 1048575)with
 |false=>simp_all
 |true=>
  rw[g]at e;simp only[zb]at e;simp only[ac,Nat.ble_eq,bG]at g;split at e
  ·grind
  ·grind
  ·rename_i v fr B z;exact E z g.1 g.2 (.inr ⟨v,rfl,rfl⟩) e
  ·cases e
theorem E3(s:Sim M μ h w){l:Nat}{r:Bk}{a:Option Code}{o:Out}{i:Option UM}{h':Hp}(n:μ l=zo r)(e:BB h l a=zo (o,i,h')) :
  ∃ w',(Instr.endRound r.b a).run P w=.ok (.bool a.isNone) w'/\o=.ret (.bool a.isNone)/\Sim M μ h' w'/\Grow M μ w M μ w':=by
 unfold BB at e;split at e
 ·rename_i L q nt t I u k d m;split at e
  ·rename_i G f;cases e;obtain⟨J,c,p,rd,j,C,D,E,x,y,z,A,B,g⟩:=s.blk l _ m;rw[n]at c;cases c;have K:=BZ (P:=P) (o':=.loop { p with state:=if a.isNone then .ready else .done,pending:=a }) j (by simp_all)
   obtain⟨s1,F⟩:=s.object (o':=.loop { p with state:=if a.isNone then .ready else .done,pending:=a }) m n trivial f j (by simp_all)
    ⟨_,rd,rfl,by cases a<;>rfl,(by grind),rfl,x,y,z,A,B,g⟩
   simp_all[Instr.endRound,Sem.run_bind,Ct,Result.andThen,Sem.run_pure]
  ·cases e
 ·cases e
theorem J1(PO:Cz P)(hD:∀ rec,RecOK P rec->E6 P rec)(F:Nat){rec:GH}(R:RecOK P rec):RecOK P (PU P sh F rec):=by
 have D:E6 P rec:=hD _ R
 have Ga:∀ {c:Code} {fr O:Fr} {h h':Hp} {ex:Ex},AY P sh rec F c fr h=zo (ex,O,h') ->
  ∀ {M:Al} {μ:Mu} {w:World} {b:Frame} {a:Act} {cs:List Frame} (k:List Item),Sim M μ h w->FrRep M μ fr b a cs->Ran P M μ w (lone (b.atR a (.code c::k)) cs w) b k cs ex O h':=(KD R D F).1
 refine⟨?_,?_,?_⟩
 ·intro f args h o C h' e M μ w vs s K cs;simp only[PU]at e;split at e
  ·rename_i p hp;obtain⟨⟨v,S⟩,hd,e⟩:=AA e;cases e;obtain⟨z,μ',w',fr,x,q1,q2,q3,q4,q5,q6⟩:=PO f p hp args h v S hd M μ w vs s K cs;exact⟨z,μ',w',fr,q1,q2,q3,q4,x,q5,q6⟩
  ·split at e
   ·rename_i fn I;split at e
    ·rename_i c hc;obtain⟨z,μ',w',fr,cs',q1,q2,q3,q4,q5,q6,q7,q8⟩:=NR R D I hc e s K .normal cs rfl;have:=E4 rfl q4;subst this;refine⟨z,μ',w',fr,q1,q2,q3,q6,?_⟩;cases o with
     |ret v=>obtain⟨x,hx,S,h2,G⟩:=q8;exact⟨x,hx,S,h2,q7,G⟩
     |pan ch=>exact q8
    ·cases e
   ·cases e
 ·intro f u args h o C h' e M μ w vs s K c cs hu;simp only[PU]at e;split at e
  ·cases e
  split at e
  ·rename_i fn I;split at e
   ·rename_i c' hc;obtain⟨z,μ',w',fr,cs',q1,q2,q3,q4,q5,q6,q7,q8⟩:=NR R D I hc e s K .deferred (c::cs) ⟨rfl,c,cs,rfl,hu⟩;cases C with
    |none=>cases q5
    |some u'=>
     obtain⟨_,c1,tl,rfl,hm⟩:=q5;rcases q4 with h0|⟨_,c2,tl2,m,S,h2⟩
     ·cases h0;refine⟨z,μ',w',fr,c.mode,u',q1,q2,q3,rfl,hm,q7,q8⟩
     grind
   ·cases e
  ·cases e
 ·intro l args h o C h' e M μ w vs r s K X c cs;simp only[PU]at e;split at e
  ·rename_i st pend nt t ps A j d hb;split at e
   ·rename_i t1 hset;split at e
    ·rename_i fr1 S U;split at e
     ·rename_i pend2 nt2 t2 ps2 asg2 body2 d2 W;split at e
      ·rename_i h2 J;obtain⟨r',Y,n,rd,b1,b2,b3,b4,b5,b6,b7,b8,b9,b10⟩:=s.blk l _ hb;rw[X]at Y;cases Y;obtain⟨hlen,htm⟩:=Cd hset K b5
       have hy:(Instr.yield r.b vs.toArray).run P w=.ok (.round r.b n.fn ((n.params.zip vs.toArray).foldl (λtmps (t,a)=>tmps.setIfInBounds t a) n.tmps) n.assign n.body) w:=by
        simp_all[Instr.yield,Sem.run_bind,Ct,Result.andThen,zx]
       let b:Frame:={ fn:=n.fn,tmps:=#[],todo:=[],defers:=[],mode:=.run,kind:=.normal,roundOf:=zo r.b }
       have E:TmpsRep M μ t1 nt ((n.params.zip vs.toArray).foldl (λtmps (t,a)=>tmps.setIfInBounds t a) n.tmps):=by
        simp_all
       have hb0:∀ L,Frame.round r.b n.fn L n.assign n.body .normal=b.atR { tmps:=L,defers:=[] } [.code A,.beginRound,.code j]:=by
        grind [Frame.round,Frame.atR]
       generalize (n.params.zip vs.toArray).foldl (λtmps (t,a)=>tmps.setIfInBounds t a) n.tmps=L at hy E;have f0:FrRep M μ { t:=t1,nt,ds:=[],up:=zn,ro:=zo l } b { tmps:=L,defers:=[] } (c::cs):=⟨E,trivial,rfl,r,X,rfl⟩;obtain⟨M1,μ1,w1,a1,cs1,s1,g1,f1,t1',arr⟩:=Ga U (b:=b) [.beginRound,.code j] s f0;have:=E4 rfl t1';subst this;rw[<- hb0]at arr;obtain⟨r2,Z,l2,rd2,c1,c2,c3,c4,c5,c6,c7,c8,c9,c10⟩:=s1.blk l _ W;rw[g1.u _ _ X]at Z;cases Z;have so:=BZ (P:=P) (o':=.loop { l2 with state:=.busy }) c1 (by simp_all)
       obtain⟨s2,g2⟩:=s1.object (o':=.loop { l2 with state:=.busy }) W (g1.u _ _ X) trivial J c1 (by simp_all)
        ⟨_,rd2,rfl,rfl,by decide,c4,c5,c6,c7,c8,c9,c10⟩
       have hbr:(Instr.beginRound r.b).run P w1=.ok () { w1 with heap:=w1.heap.setIfInBounds r.b (.loop { l2 with state:=.busy }) }:=by
        have:l2.state=.ready:=c2;simp only[Instr.beginRound,Sem.run_bind,Ct c1,Result.andThen,so,this,Sem.run_pure]
       have st1:Steps P (lone (Frame.round r.b n.fn L n.assign n.body .normal) (c::cs) w) (lone (b.atR a1 [.code j]) (c::cs) _):=Steps.trans arr (.one (stepR_beginRound rfl hbr));have f1':=f1.mono g2.m g2.u
       have N:∀ {ex:Ex} {B:Fr} {G:Hp} {i:Option Code},AY P sh rec F j fr1 h2=zo (ex,B,G) ->
         (ex=.normal/\i=zn\/ex=.ret/\i=zo .ret\/(∃ id,ex=.exit id/\i=zo (.exit id)) \/ ∃ id,ex=.goto id/\i=zo (.goto id))->BB G l i=zo (o,C,h') ->
         ∃ z μ' w' x v fn tmps A body,o=.ret v/\(Instr.yield r.b vs.toArray).run P w=.ok (.round r.b fn tmps A body) w/\Sim z μ' h' w'/\Grow M μ w z μ' w'/\Rep z μ' v x /\
          Steps P (lone (Frame.round r.b fn tmps A body .normal) (c::cs) w) (lone (c.finish x) cs w'):=by
        intro ex B G i y hj he;obtain⟨M3,μ3,w3,a3,cs3,s3,g3,f3,t3,g⟩:=Ga y (b:=b) [] s2 f1';have:=E4 rfl t3;subst this;obtain⟨w4,q,ho,s4,g4⟩:=E3 (P:=P) s3 (g3.u _ _ (g1.u _ _ X)) he;refine⟨M3,μ3,w4,.bool i.isNone,.bool i.isNone,n.fn,L,n.assign,n.body,ho,hy,s4,(g1.trans g2).trans (g3.trans g4),.bool _ _,st1.trans ?_⟩;rcases hj with⟨rfl,rfl⟩|⟨rfl,rfl⟩|⟨id,rfl,rfl⟩|⟨id,rfl,rfl⟩
        ·exact Steps.trans g (.one (stepR_round_end rfl rfl q))
        ·obtain⟨k1,g⟩:=g;exact Steps.trans g (.one (stepR_round_ret rfl rfl q))
        ·obtain⟨k1,hk,g⟩:=g;exact Steps.trans g (.one (stepR_round_exit rfl rfl (by rw[hk];rfl) q))
        ·obtain⟨k1,hk,g⟩:=g;exact Steps.trans g (.one (stepR_round_goto rfl rfl (by rw[hk];rfl) q))
       split at e
       ·grind
       ·grind
       ·rename_i id B G y;exact N y (.inr (.inr (.inl ⟨id,rfl,rfl⟩))) e
       ·rename_i id B G y;exact N y (.inr (.inr (.inr ⟨id,rfl,rfl⟩))) e
       ·cases e
      ·cases e
     ·cases e
    ·cases e
   ·cases e
  ·cases e
theorem PT(a:Cz P)(b:∀ rec,RecOK P rec->E6 P rec)(F:Nat):∀ n,RecOK P (B5 P sh F n)
 |0=>Lq P
 |n+1=>J1 a b F (PT a b F n)
end
end
section
variable[Gl]
section
variable{P:Program}{hs h h1 h2:Hp}{id:Nat}
def Eh(hs h:Hp):Prop:=∀ x b,hs.get x=zo b->h.get x=zo b
structure Lay (hs h h1 h2:Hp) (id:Nat):Prop where
 get:∀ x,h2.get x=match h1.get x with
  |some b=>zo b
  |none=>h.get x
 keys:∀ x b,h1.get x=zo b->(∃ b0,hs.get x=zo b0)\/x=id
 up:∀ x,h1.get x=zn->hs.get x=zn
theorem Lay.refl(s:Eh hs h)(id:Nat):Lay hs h hs h id:=⟨λx=>by
 cases e:hs.get x with
 |none=>rfl
 |some b=>exact s x b e,λx b e=>.inl ⟨b,e⟩,λ_ h=>h⟩
theorem Lay.sub(l:Lay hs h h1 h2 id):Eh h1 h2:=λx b e=>by rw[l.get,e]
theorem Hp.set_some{h:Hp}{j:Nat}{b b':Blk}{h':Hp}(e:h.set j b=zo h')(g:Hp):∃ a,g.set j b'=zo a:=by
 grind [Hp.set]
theorem Lay.set(l:Lay hs h h1 h2 id){j:Nat}{b b0:Blk}{f:Hp}(m:h1.get j=zo b0)(e:h1.set j b=zo f):∃ a,h2.set j b=zo a/\Lay hs h f a id:=by
 obtain⟨a,e2⟩:=Hp.set_some (b':=b) e h2;have i:=(Hp.get_set e).1;have k:=(Hp.get_set e2).1
 refine⟨a,e2,⟨λx=> ?_,λx c d=> ?_,λx d=>l.up x (by
  grind)⟩⟩
 ·rw[i,k];by_cases d:x=j
  ·simp[d]
  ·simp only[zx d];exact l.get x
 ·rw[i]at d;by_cases g:x=j
  ·subst g;exact l.keys x b0 m
  ·rw[zx g]at d;exact l.keys x c d
theorem Lay.new(l:Lay hs h h1 h2 id)(g:hs.get id=zn->h.get id=zn){b:Blk}{f:Hp}(e:h1.new id b=zo f):∃ a,h2.new id b=zo a/\Lay hs h f a id:=by
 obtain⟨i,o,_⟩:=Hp.get_new e;have k:h2.get id=zn:=by rw[l.get,i];exact g (l.up id i)
 unfold Hp.new at e;have j:h1.m.get id=zn:=i;rw[j]at e;obtain⟨a,e2⟩:=Hp.set_some (b':=b) e h2;have q:=(Hp.get_set e2).1
 refine⟨a,?_,⟨λx=> ?_,λx c d=> ?_,λx d=>l.up x (by
  grind)⟩⟩
 ·unfold Hp.new;have p:h2.m.get id=zn:=k
  simp_all
 ·rw[o,q];by_cases d:x=id
  ·simp[d]
  ·simp only[zx d];exact l.get x
 ·rw[o]at d;by_cases n:x=id
  ·omega
  ·rw[zx n]at d;exact l.keys x c d
theorem CE{f g:PV->Option (PV×List Nat)}(c:∀ p r,f p=zo r->g p=zo r):∀ {d:List PV} {r:List PV×List Nat},AB f d=zo r->AB g d=zo r
 |[],r,e=>e
 |p::d,r,e=>by
  unfold AB at e ⊢;split at e
  ·rename_i q a j b h i;rw[c _ _ h,CE c i];exact e
  ·cases e
theorem Ku(s:Eh hs h):∀ (n:Nat) (p:PV) (r:PV×List Nat),AW hs n p=zo r->AW h n p=zo r
 |0,p,r,e=>by simp[AW]at e
 |n+1,p,r,e=>by
  have g:=Ku s n;cases p with
  |agg cs=>simp only[AW]at e ⊢;obtain⟨x,c,rfl⟩:=AA e;rw[CE g c];rfl
  |tup cs=>simp only[AW]at e ⊢;obtain⟨x,c,rfl⟩:=AA e;rw[CE g c];rfl
  |ifc t x=>simp only[AW]at e ⊢;obtain⟨y,m,rfl⟩:=AA e;grind
  |fn f a b=>
   grind [AW,CE]
  |own j off len=>
   simp only[AW]at e ⊢;split at e
   ·rename_i es ex fz d;rw[s j _ d];replace e:=Ad e;obtain⟨hc,e⟩:=e;obtain⟨x,c,rfl⟩:=AA e;simp only[hc,zb];rw[CE g c];rfl
   ·cases e
  |ptr j off=>
   simp only[AW]at e ⊢;split at e
   ·rename_i cs fz d;rw[s j _ d];replace e:=Ad e;obtain⟨hc,e⟩:=e;obtain⟨x,c,rfl⟩:=AA e;simp only[hc,zb];rw[CE g c];rfl
   ·cases e
  |ept j i off=>
   simp only[AW]at e ⊢;split at e
   ·rename_i es ex fz d;rw[s j _ d];dsimp only;split at e
    ·rename_i l k
     try rw[k]
     replace e:=Ad e;obtain⟨hc,e⟩:=e;obtain⟨x,c,rfl⟩:=AA e;simp only[hc,zb];rw[CE g c];rfl
    ·cases e
   ·cases e
  |yl _=>simp[AW]at e
  |mp _=>simp[AW]at e
  |_=>exact e
theorem Iv(s:Eh hs h):∀ {c:List PV} {r:List PV×List Nat},Ap hs c=zo r->Ap h c=zo r
 |[],r,e=>e
 |p::c,r,e=>by
  unfold Ap at e ⊢;split at e
  ·rename_i q a g b d f;rw[Ku s _ _ _ d,Iv s f];exact e
  ·cases e
theorem JS(s:Eh hs h){p:PV}{es:List PV}(e:A2 hs p=zo es):A2 h p=zo es:=by
 unfold A2 at e ⊢;cases p with
 |own j off len=>
  simp only at e ⊢;split at e
  ·rename_i b ex fz a;rw[s j _ a];exact e
  ·rename_i cs fz a;rw[s j _ a];exact e
  ·cases e
 |_=>exact e
theorem Lay.freeze:∀ (L:List Nat) {f g b:Hp},Lay hs h f g id->Pi.freeze f L=zo b -> ∃ c,Pi.freeze g L=zo c/\Lay hs h b c id
 |[],f,g,b,l,e=>by simp_all[Pi.freeze]
 |j::L,f,g,b,l,e=>by
  unfold Pi.freeze at e ⊢;split at e
  ·rename_i cs fz d;rw[l.sub j _ d];split at e
   ·rename_i m a;obtain⟨n,i,k⟩:=l.set d a;dsimp only;rw[i];exact Lay.freeze L k e
   ·cases e
  ·rename_i es ex fz d;rw[l.sub j _ d];split at e
   ·rename_i m a;obtain⟨n,i,k⟩:=l.set d a;dsimp only;rw[i];exact Lay.freeze L k e
   ·cases e
  ·cases e
def CN(hs h:Hp)(id:Nat)(F:Option R):R->Prop
 |.val v b=>∃ a,F=zo (.val v a)/\Lay hs h b a id
 |.skip b=>∃ a,F=zo (.skip a)/\Lay hs h b a id
 |.call f args=>F=zo (.call f args)
 |_=>True
theorem AK(s:Eh hs h){F:Option R}{v:PV}(e:F=zo (.val v h)):CN hs h id F (.val v hs):=⟨h,e,.refl s id⟩
theorem C6(s:Eh hs h){o:Option PV}{r:R}(e:vl o hs=zo r):CN hs h id (vl o h) r:=by
 obtain⟨v,rfl,rfl⟩:=Di e;exact AK s rfl
theorem QN(s:Eh hs h){c a b:PV}{r:R}(e:Dk hs c a b=zo r):CN hs h id (Dk h c a b) r:=by
 unfold Dk at e ⊢;split at e<;>cases e<;>exact AK s rfl
theorem OI(s:Eh hs h)(a:hs.get id=zn->h.get id=zn){b:TypeId}{r:R}(e:Cm P hs id b=zo r):CN hs h id (Cm P h id b) r:=by
 unfold Cm at e ⊢;split at e
 ·obtain⟨g,d,rfl⟩:=AA e;obtain⟨c,e2,f⟩:=(Lay.refl s id).new a d;exact⟨c,by rw[e2];rfl,f⟩
 ·cases e
theorem Q5(s:Eh hs h)(a:hs.get id=zn->h.get id=zn){v:PV}{r:R}(e:Fc hs id v=zo r):CN hs h id (Fc h id v) r:=by
 unfold Fc at e ⊢;split at e
 ·cases e
 ·obtain⟨f,c,rfl⟩:=AA e;obtain⟨b,e2,d⟩:=(Lay.refl s id).new a c;exact⟨b,by rw[e2];rfl,d⟩
theorem OO(s:Eh hs h){ty:TypeId}{b:List (Nat×PV)}{r:R}(e:By P hs ty b=zo r):CN hs h id (By P h ty b) r:=by
 unfold By at e ⊢;split at e
 ·replace e:=Ad e;obtain⟨hc,e⟩:=e;split at e
  ·rename_i pl c;obtain⟨cs,a,rfl⟩:=AA e;refine AK s ?_<;>grind
  ·cases e
 ·split at e
  ·rename_i n d;replace e:=Ad e;obtain⟨hc,e⟩:=e;obtain⟨cs,a,rfl⟩:=AA e;refine AK s ?_<;>grind
  ·cases e
 ·cases e
theorem II(s:Eh hs h){ty:TypeId}{len:Nat}{c:List (Nat×PV)}{r:R}(e:Ah P hs ty len c=zo r):CN hs h id (Ah P h ty len c) r:=by
 unfold Ah at e ⊢;split at e
 ·split at e
  ·rename_i n o z i a k
   try rw[i,a,k]
   try dsimp only
   split at e
   ·rename_i t b
    try rw[b]
    replace e:=Bl e;obtain⟨hc,e⟩:=e;split at e
    ·rename_i es f;split at e
     ·rename_i q l j;obtain⟨p,g,rfl⟩:=AA e;obtain⟨d,e2,m⟩:=Lay.freeze l (Lay.refl s id) g;refine⟨d,?_,m⟩;simp only[hc,zj,Iv s j,e2,aC]
     ·cases e
    ·cases e
   ·cases e
  ·cases e
 ·cases e
theorem P2(s:Eh hs h){ty:TypeId}{p:PV}{r:R}(e:CD P hs ty p=zo r):CN hs h id (CD P h ty p) r:=by
 unfold CD at e ⊢;split at e
 ·split at e
  ·rename_i cs fz a;rw[s _ _ a];exact C6 s e
  ·cases e
 ·exact C6 s e
 ·split at e
  ·rename_i es ex fz a;rw[s _ _ a];dsimp only;split at e
   ·rename_i c b;try rw[b]
    exact C6 s e
   ·cases e
  ·cases e
 ·cases e
theorem O9(s:Eh hs h){ty:TypeId}{p v:PV}{r:R}(e:A3 P hs ty p v=zo r):CN hs h id (A3 P h ty p v) r:=by
 unfold A3 at e ⊢;split at e
 ·rename_i n o;replace e:=Bl e;obtain⟨hc,e⟩:=e;simp only[hc,zj];split at e
  ·split at e
   ·rename_i cs b;rw[s _ _ b];replace e:=Ad e;obtain⟨f,e⟩:=e;obtain⟨l,a,rfl⟩:=AA e;obtain⟨d,e2,g⟩:=(Lay.refl s id).set b a;exact⟨d,by grind,g⟩
   ·cases e
  ·split at e
   ·rename_i es ex b;rw[s _ _ b];dsimp only;split at e
    ·rename_i m j
     try rw[j]
     replace e:=Ad e;obtain⟨f,e⟩:=e;simp only[f,zb];split at e
     ·obtain⟨l,a,rfl⟩:=AA e;obtain⟨d,e2,g⟩:=(Lay.refl s id).set b a;exact⟨d,by simp_all,g⟩
     ·split at e
      ·rename_i c k
       try rw[k]
       replace e:=Ad e;obtain⟨i,e⟩:=e;simp only[i,zb];split at e
       ·cases e
       ·cases e
       ·obtain⟨l,a,rfl⟩:=AA e;obtain⟨d,e2,g⟩:=(Lay.refl s id).set b a;exact⟨d,by simp_all,g⟩
      ·cases e
    ·cases e
   ·cases e
  ·cases e
 ·cases e
end
end
section
variable[Gl]
section
variable{P:Program}{hs h h1 h2:Hp}{id:Nat}
theorem RV(s:Eh hs h){p:PV}{r:R}(e:Es hs p=zo r):CN hs h id (Es h p) r:=by
 unfold Es at e ⊢;split at e<;>first|(cases e;exact AK s rfl)|cases e
theorem Q4(s:Eh hs h){a:BinOp}{ty:TypeId}{x y:Operand}{p q:PV}{r:R}(e:Dd P hs a ty x y p q=zo r):CN hs h id (Dd P h a ty x y p q) r:=by
 unfold Dd at e ⊢;split at e
 ·replace e:=Ad e;obtain⟨hc,e⟩:=e;simp only[hc,zb];exact C6 s e
 ·replace e:=Bl e;obtain⟨hc,e⟩:=e;simp only[hc,zj];exact C6 s e
 ·exact C6 s e
theorem LL(s:Eh hs h){b a:TypeId}{p:PV}{r:R}(e:BJ P hs b a p=zo r):CN hs h id (BJ P h b a p) r:=by
 unfold BJ at e ⊢;split at e
 ·cases e;exact AK s rfl
 ·cases e;exact AK s rfl
 ·split at e
  ·cases e;exact AK s rfl
  ·cases e
 ·cases e
theorem RI(s:Eh hs h){ty:TypeId}{p:PV}{r:R}(e:Ed P hs ty p=zo r):CN hs h id (Ed P h ty p) r:=by
 unfold Ed at e ⊢;split at e<;>first|(cases e;exact AK s rfl)|cases e
theorem KZ(s:Eh hs h){f:Fn}{a b:List PV}{r:R}(e:BF hs f a b=zo r):CN hs h id (BF h f a b) r:=by
 unfold BF at e ⊢;split at e<;>first|(cases e;exact AK s rfl)|cases e
theorem LU(s:Eh hs h){p:PV}{i:Nat}{r:R}(e:Bh hs p i=zo r):CN hs h id (Bh h p i) r:=by
 unfold Bh at e ⊢;split at e
 ·exact C6 s e
 ·cases e
theorem Oe(s:Eh hs h){ty:TypeId}{p:PV}{f:Nat}{r:R}(e:B7 P hs ty p f=zo r):CN hs h id (B7 P h ty p f) r:=by
 unfold B7 at e ⊢;split at e
 ·split at e
  ·rename_i b a
   try rw[a]
   exact C6 s e
  ·cases e
 ·cases e
theorem I5(s:Eh hs h){ty:TypeId}{p:PV}{f:Nat}{r:R}(e:Ax P hs ty p f=zo r):CN hs h id (Ax P h ty p f) r:=by
 unfold Ax at e ⊢;split at e
 ·split at e
  ·rename_i c a;split at e
   ·rename_i n b;replace e:=Bl e;obtain⟨hc,e⟩:=e
    try simp only[a,b]
    simp only[hc,zj];split at e<;>first|(cases e;exact AK s rfl)|cases e
   ·cases e
  ·cases e
 ·cases e
theorem I7(s:Eh hs h){ty:TypeId}{p q:PV}{r:R}(e:Aq P hs ty p q=zo r):CN hs h id (Aq P h ty p q) r:=by
 unfold Aq at e ⊢;split at e
 ·split at e
  ·rename_i n c
   try simp only[c]
   split at e
   ·split at e
    ·rename_i d a
     try simp only[a]
     replace e:=Ad e;obtain⟨hc,e⟩:=e;cases e;simp only[hc,zb];exact AK s rfl
    ·cases e
   ·replace e:=Ad e;obtain⟨hc,e⟩:=e;simp only[hc,zb];split at e
    ·rename_i es ex fz f;rw[s _ _ f]
     try dsimp only
     split at e
     ·rename_i d a
      try simp only[a]
      replace e:=Ad e;obtain⟨b,e⟩:=e;cases e;simp only[b,zb];exact AK s rfl
     ·cases e
    ·cases e
   ·cases e
  ·cases e
 ·split at e
  ·rename_i n c
   try simp only[c]
   replace e:=Ad e;obtain⟨hc,e⟩:=e;simp only[hc,zb];split at e<;>first|(cases e;exact AK s rfl)|cases e
  ·cases e
 ·cases e
theorem Ok(s:Eh hs h){ty:TypeId}{p q:PV}{r:R}(e:Bn P hs ty p q=zo r):CN hs h id (Bn P h ty p q) r:=by
 unfold Bn at e ⊢;split at e
 ·replace e:=Ad e;obtain⟨hc,e⟩:=e;simp only[hc,zb];split at e
  ·rename_i n c
   try simp only[c]
   exact C6 s e
  ·cases e
 ·split at e
  ·rename_i b a
   try simp only[a]
   cases e;exact AK s rfl
  ·cases e
 ·cases e
theorem MS(s:Eh hs h){ty:TypeId}{p:PV}{a:Bool}{r:R}(e:BK P hs ty p a=zo r):CN hs h id (BK P h ty p a) r:=by
 have z:∀ {r:R},(bif a then(match Bw P ty with
   |some z=>zo (R.val (.tup [z,.bool zf]) hs)
   |none=>zn)else zn)=zo r->CN hs h id (bif a then(match Bw P ty with
   |some z=>zo (R.val (.tup [z,.bool zf]) h)
   |none=>zn)else zn) r:=by
  intro r e;replace e:=Ad e;obtain⟨hc,e⟩:=e;simp only[hc,zb];split at e
  ·rename_i z c
   try simp only[c]
   cases e;exact AK s rfl
  ·cases e
 unfold BK at e ⊢;split at e
 ·split at e
  ·split at e
   ·rename_i i hi
    try simp only[hi]
    split at e
    ·rename_i b
     try simp only[b]
     cases e;exact AK s rfl
    grind
   ·cases e
  all_goals grind
 ·split at e
  ·cases hc:aa _ ty with
   |true=>rw[hc]at e;cases e;simp only[zb];exact AK s rfl
   |false=>grind
  all_goals grind
 ·cases e
theorem P9(s:Eh hs h)(a:hs.get id=zn->h.get id=zn){ty:TypeId}{l c:PV}{r:R}(e:C2 P hs id ty l c=zo r):CN hs h id (C2 P h id ty l c) r:=by
 unfold C2 at e ⊢;split at e
 ·split at e
  ·rename_i n o z q g i j k
   try simp only[g,i,j,k]
   split at e
   ·rename_i t b
    try simp only[b]
    replace e:=Ad e;obtain⟨hc,e⟩:=e;obtain⟨p,f,rfl⟩:=AA e;obtain⟨d,e2,m⟩:=(Lay.refl s id).new a f;exact⟨d,by grind,m⟩
   ·cases e
  ·cases e
 ·cases e
theorem Q6(s:Eh hs h){j off len:Nat}{r:R}(e:Dc hs j off len=zo r):CN hs h id (Dc h j off len) r:=by
 unfold Dc at e ⊢;split at e
 ·rename_i f xs a d;rw[Ku s _ _ _ d];obtain⟨i,c,rfl⟩:=AA e;obtain⟨b,e2,g⟩:=Lay.freeze a (Lay.refl s id) c;exact⟨b,by simp_all,g⟩
 ·cases e
theorem O7(s:Eh hs h){ty:TypeId}{p:PV}{lo hi mx:Option PV}{r:R}(e:Ai P hs ty p lo hi mx=zo r):CN hs h id (Ai P h ty p lo hi mx) r:=by
 unfold Ai at e ⊢;split at e
 ·split at e
  ·rename_i hh l c d
   try simp only[c,d]
   replace e:=Ad e;obtain⟨hc,e⟩:=e;cases e;simp only[hc,zb];exact AK s rfl
  ·cases e
 ·split at e
  ·cases e
  ·rename_i n j
   try simp only[j]
   split at e
   ·split at e
    ·rename_i c d k
     try simp only[c,d,k]
     replace e:=Bl e;obtain⟨hc,e⟩:=e;cases e;simp only[hc,zj];exact AK s rfl
    ·cases e
   ·replace e:=Bl e;obtain⟨hc,e⟩:=e;simp only[hc,zj];split at e
    ·rename_i l hh c d
     try simp only[c,d]
     split at e
     ·replace e:=Ad e;obtain⟨a,e⟩:=e;cases e;simp only[a,zb];exact AK s rfl
     ·split at e
      ·rename_i m i
       try simp only[i]
       replace e:=Ad e;obtain⟨a,e⟩:=e;cases e;simp only[a,zb];exact AK s rfl
      ·cases e
    ·cases e
   ·split at e
    ·rename_i es ex fz f;rw[s _ _ f]
     try dsimp only
     replace e:=Bl e;obtain⟨hc,e⟩:=e;simp only[hc,zj];split at e
     ·rename_i l hh c d
      try simp only[c,d]
      replace e:=Bl e;obtain⟨g,e⟩:=e;simp only[g,zj];split at e
      ·cases b:ae _ es.length with
       |true=>rw[b]at e;cases e;simp only[zb];exact AK s rfl
       |false=>rw[b]at e;cases e;simp only[zj];exact AK s rfl
      ·split at e
       ·rename_i m i
        try simp only[i]
        generalize o:(hi.isSome&&ad hh m&&ex&&aa _ es.length)=A at e ⊢;cases A with
        |true=>
         simp only[zb]at e ⊢;cases b:ae _ es.length with
         |true=>rw[b]at e;cases e;simp only[zb];exact AK s rfl
         |false=>rw[b]at e;cases e;simp only[zj];exact AK s rfl
        |false=>
         simp only[zj]at e ⊢;replace e:=Ad e;obtain⟨a,e⟩:=e;simp only[a,zb];exact Q6 s e
       ·cases e
     ·cases e
    ·cases e
   ·cases e
 ·split at e
  ·unfold EE at e ⊢;split at e
   ·split at e
    ·rename_i cs fz f;rw[s _ _ f];simp only;replace e:=Ad e;obtain⟨hc,e⟩:=e;simp only[hc,zb];cases e;exact AK s rfl
    ·cases e
   ·cases e
  ·cases e
 ·cases e
theorem Q0(s:Eh hs h)(d:hs.get id=zn->h.get id=zn){t:TypeId}{p q:PV}{r:R}(e:EA P hs id t p q=zo r):CN hs h id (EA P h id t p q) r:=by
 unfold EA at e ⊢;split at e
 ·split at e
  ·rename_i B C new z n o u w;rw[JS s u]
   try simp only[n,o,w]
   replace e:=Bl e;obtain⟨hc,e⟩:=e;simp only[hc,zj]
   have fresh:∀ {row:Blk} {v:PV} {r:R},(hs.new id row).map (λh=>R.val v h)=zo r->CN hs h id ((h.new id row).map λh=>R.val v h) r:=by
    intro row v r e;obtain⟨l,k,rfl⟩:=AA e;obtain⟨g,e2,f⟩:=(Lay.refl s id).new d k;exact⟨g,by rw[e2];rfl,f⟩
   split at e
   ·cases a:new.isEmpty with
    |true=>rw[a]at e;cases e;simp only[zb];exact AK s rfl
    |false=>
     grind
   ·cases a:new.isEmpty with
    |true=>rw[a]at e;cases e;simp only[zb];exact AK s rfl
    |false=>
     grind
   ·split at e
    ·rename_i es ex fz i;rw[s _ _ i]
     try dsimp only
     replace e:=Bl e;obtain⟨j,e⟩:=e;simp only[j,zj];cases ex with
     |true=>
      simp only[zb]at e ⊢;cases a:new.isEmpty with
      |true=>rw[a]at e;cases e;simp only[zb];exact AK s rfl
      |false=>
      rw[a]at e;simp only[zj]at e ⊢;generalize ad _ es.length=A at e ⊢;cases A with
      |true=>
       simp only[zb]at e ⊢;replace e:=Bl e;obtain⟨c,e⟩:=e;simp only[c,zj];obtain⟨l,b,rfl⟩:=AA e;obtain⟨g,e2,f⟩:=(Lay.refl s id).set i b;exact⟨g,by rw[e2];rfl,f⟩
      |false=>
       grind
     |false=>
      simp only[zj]at e ⊢;replace e:=Ad e;obtain⟨c,e⟩:=e;simp only[c,zb];split at e
      ·rename_i y b;obtain⟨l,k,rfl⟩:=AA e;obtain⟨g,e2,f⟩:=(Lay.refl s id).set i b;obtain⟨m,e3,x⟩:=f.new d k;exact⟨m,by simp_all,x⟩
      ·cases e
    ·cases e
   ·cases e
  ·cases e
 ·cases e
theorem Df{f:Fn}{a b args:List PV}{r:R}(e:CC P f a b args=zo r):∃ g c,r=.call g c:=by
 unfold CC at e;split at e
 ·grind
 ·split at e<;>grind
 ·cases e
end
end
section
variable[Gl]
section
variable{P:Program}{hs h h1 h2:Hp}{id:Nat}
def Fo(t a:T PV)(l:List Operand):Prop:=∀ k,.tmp k∈l->t.get k=a.get k
theorem FG{t a:T PV}{l:List Operand}(b:Fo t a l){o:Operand}(c:o∈l):CO t o=CO a o:=by
 cases o with
 |tmp k=>simp only[CO,b k c]
 |_=>rfl
theorem HC{t c:T PV}{l:List Operand}(b:Fo t c l):∀ {a:List Operand},(∀ o∈a,o∈l)->MK t a=MK c a
 |[],_=>rfl
 |o::a,ho=>by
  unfold MK;rw[FG b (ho o (by simp)),HC b λx d=>ho x (by simp[d])]
theorem Do{t c:T PV}{l:List Operand}(b:Fo t c l):∀ {a:List (Nat×Operand)},(∀ o∈a,o.2∈l)->CB t a=CB c a
 |[],_=>rfl
 |(i,o)::os,ho=>by
  unfold CB;rw[FG b (ho (i,o) (by simp)),Do b λx d=>ho x (by simp[d])]
theorem Oc{t a:T PV}{l:List Operand}(b:Fo t a l){o:Option Operand}(c:∀ x∈o.toList,x∈l):Pf t o=Pf a o:=by
 cases o with
 |none=>rfl
 |some x=>grind [Pf,FG]
theorem EJ{t g:T PV}{o:Oper}(a:Av o.op=zt)(b:Fo t g (Az o.op)):AP P t h id o=AP P g h id o:=by
 unfold AP;generalize i:o.op=j at b a;have e:=λx d=>FG b (o:=x) d;cases j with
 |call c=>
  grind [Av,Az,HC,e1]
 |build ty k=>
  simp only[Az]at b;simp only;rw[Do b λx d=>ba.2 ⟨x,d,rfl⟩]
 |buildSlice ty n k=>
  simp only[Az]at b;simp only;rw[Do b λx d=>ba.2 ⟨x,d,rfl⟩]
 |makeFunc f x y=>
  grind [Az,HC,ax,List.mem_append_right]
 |slice ty x lo hi mx=>
  grind [Az,e1,Oc]
 |lookup _ _ _ _=>cases a
 |mapUpdate _ _ _ _=>cases a
 |insert _ _ _ _=>cases a
 |defer _=>cases a
 |panic _=>cases a
 |move x=>simp_all[Az]
 |assign x=>simp_all[Az]
 |pick c x y=>simp_all[Az,e3]
 |alloc _=>rfl
 |box _ x=>simp_all[Az,e1]
 |load _ x=>simp_all[Az,e1]
 |store _ x y=>simp_all[Az,e2]
 |nilCheck x=>simp_all[Az,e1]
 |binOp _ _ x y _=>simp_all[Az,e2]
 |unOp _ _ x=>simp_all[Az,e1]
 |convert _ _ x=>simp_all[Az,e1]
 |makeInterface _ x=>simp_all[Az,e1]
 |makeMap ty r=>cases r<;>rfl
 |makeSlice _ x y=>simp_all[Az,e2]
 |fieldAddr _ x _=>simp_all[Az,e1]
 |field _ x _=>simp_all[Az,e1]
 |indexAddr _ x y=>simp_all[Az,e2]
 |index _ x y=>simp_all[Az,e2]
 |typeAssert x _ _ _=>simp_all[Az,e1]
 |extract x _=>simp_all[Az,e1]
 |_=>rfl
theorem Aa{t:T PV}{x:Operand}{k:PV->Option R}{r:R}(e:e1 t x k=zo r):∃ p,CO t x=zo p/\k p=zo r:=by
 grind [e1]
theorem CR{t:T PV}{x y:Operand}{k:PV->PV->Option R}{r:R}(e:e2 t x y k=zo r):∃ p q,CO t x=zo p/\CO t y=zo q/\k p q=zo r:=by
 grind [e2]
theorem NU{t:T PV}{x y z:Operand}{k:PV->PV->PV->Option R}{r:R}(e:e3 t x y z k=zo r):∃ p q s,CO t x=zo p/\CO t y=zo q/\CO t z=zo s/\k p q s=zo r:=by
 grind [e3]
theorem LV(s:Eh hs h){f:Int->Int->Int}{a:Int}{l:List PV}{k:IntKind}{r:R}(e:(B9 f a l k).map (λm=>R.val (.int k m) hs)=zo r):CN hs h id ((B9 f a l k).map λm=>R.val (.int k m) h) r:=by
 obtain⟨m,b,rfl⟩:=AA e;exact AK s (by rw[b];rfl)
theorem LF(s:Eh hs h)(i:hs.get id=zn->h.get id=zn){b:Builtin}(n:b=.len\/b=.cap\/b=.append\/b=.copy\/b=.max\/b=.min){d:Array TypeId}{args:List PV}{r:R}(e:AH P hs id b d args=zo r) :
  CN hs h id (AH P h id b d args) r:=by
 rcases n with rfl|rfl|rfl|rfl|rfl|rfl
 ·simp only[AH]at e ⊢;split at e
  ·rename_i x t a
   try simp only[a]
   split at e
   ·split at e
    ·rename_i es c
     try simp only[c]
     rw[s _ _ c];cases e;exact AK s rfl
    ·cases e
   all_goals first|(cases e;done)|(cases e;exact AK s rfl)
  ·cases e
 ·simp only[AH]at e ⊢;split at e
  ·rename_i x t a
   try simp only[a]
   split at e
   ·split at e
    ·rename_i es fz c
     try simp only[c]
     rw[s _ _ c];cases e;exact AK s rfl
    ·cases e
   all_goals first|(cases e;done)|(cases e;exact AK s rfl)
  ·cases e
 ·simp only[AH]at e ⊢;split at e
  ·rename_i p q t B f
   try simp only[f]
   replace e:=Ad e;obtain⟨hc,e⟩:=e;simp only[hc,zb];exact Q0 s i e
  ·cases e
 ·simp only[AH]at e ⊢;split at e
  ·rename_i j off len x t a
   try simp only[a]
   split at e
   ·rename_i l es ex new u k w;simp only[u,s _ _ k,JS s w];split at e
    ·rename_i A o;replace e:=Bl e;obtain⟨hc,e⟩:=e;simp only[hc,zj];obtain⟨z,g,rfl⟩:=AA e;obtain⟨m,e2,y⟩:=(Lay.refl s id).set k g;exact⟨m,by simp_all,y⟩
    ·cases e
   ·cases e
  ·cases e
 ·simp only[AH]at e ⊢;split at e
  ·exact LV s e
  ·cases e;exact AK s rfl
  ·cases e
 ·simp only[AH]at e ⊢;split at e
  ·exact LV s e
  ·cases e;exact AK s rfl
  ·cases e
theorem Jm{F:Option R}{r:R}(e:F=zo r)(hc:∃ g a,r=.call g a):CN hs h id F r:=by
 obtain⟨g,a,rfl⟩:=hc;exact e
theorem Cj(s:Eh hs h)(i:hs.get id=zn->h.get id=zn){t:T PV}{o:Oper}(d:Av o.op=zt){r:R}(e:AP P t hs id o=zo r):CN hs h id (AP P t h id o) r:=by
 unfold AP at e ⊢;generalize w:o.op=E at d e ⊢;cases E with
 |lookup _ _ _ _=>cases d
 |mapUpdate _ _ _ _=>cases d
 |insert _ _ _ _=>cases d
 |defer _=>cases d
 |panic _=>cases d
 |move x=>exact C6 s e
 |assign x=>exact C6 s e
 |pick c x y=>obtain⟨p,q,u,a,g,l,e⟩:=NU e;simp only[e3,a,g,l];exact QN s e
 |alloc _=>exact OI s i e
 |box _ x=>obtain⟨p,a,e⟩:=Aa e;simp only[e1,a];exact Q5 s i e
 |build ty F=>
  simp only at e ⊢;split at e
  ·rename_i p k;try simp only[k]
   exact OO s e
  ·cases e
 |buildSlice ty n F=>
  simp only at e ⊢;split at e
  ·rename_i p k;try simp only[k]
   exact II s e
  ·cases e
 |load _ x=>obtain⟨p,a,e⟩:=Aa e;simp only[e1,a];exact P2 s e
 |store _ x y=>obtain⟨p,q,a,g,e⟩:=CR e;simp only[e2,a,g];exact O9 s e
 |nilCheck x=>obtain⟨p,a,e⟩:=Aa e;simp only[e1,a];exact RV s e
 |binOp _ _ x y _=>obtain⟨p,q,a,g,e⟩:=CR e;simp only[e2,a,g];exact Q4 s e
 |unOp _ _ x=>obtain⟨p,a,e⟩:=Aa e;simp only[e1,a];exact C6 s e
 |convert _ _ x=>obtain⟨p,a,e⟩:=Aa e;simp only[e1,a];exact LL s e
 |makeInterface _ x=>obtain⟨p,a,e⟩:=Aa e;simp only[e1,a];exact RI s e
 |makeFunc f x y=>
  simp only at e ⊢;split at e
  ·rename_i p q k z;try simp only[k,z]
   exact KZ s e
  ·cases e
 |makeMap ty rs=>
  cases rs with
  |none=>
   simp only at e ⊢;obtain⟨a,m,rfl⟩:=AA e;obtain⟨g,e2,D⟩:=(Lay.refl s id).new i m;exact⟨g,by rw[e2];rfl,D⟩
  |some _=>cases e
 |makeSlice _ x y=>obtain⟨p,q,a,g,e⟩:=CR e;simp only[e2,a,g];exact P9 s i e
 |slice ty x lo hi mx=>
  simp only at e ⊢;split at e
  ·rename_i A B C;try simp only[A,B,C]
   obtain⟨p,a,e⟩:=Aa e;simp only[e1,a];exact O7 s e
  ·cases e
 |fieldAddr _ x _=>obtain⟨p,a,e⟩:=Aa e;simp only[e1,a];exact I5 s e
 |field _ x _=>obtain⟨p,a,e⟩:=Aa e;simp only[e1,a];exact Oe s e
 |indexAddr _ x y=>obtain⟨p,q,a,g,e⟩:=CR e;simp only[e2,a,g];exact I7 s e
 |index _ x y=>obtain⟨p,q,a,g,e⟩:=CR e;simp only[e2,a,g];exact Ok s e
 |typeAssert x _ _ _=>obtain⟨p,a,e⟩:=Aa e;simp only[e1,a];exact MS s e
 |extract x _=>obtain⟨p,a,e⟩:=Aa e;simp only[e1,a];exact LU s e
 |call c=>
  simp only at e ⊢;split at e
  ·rename_i args j
   try simp only[j]
   cases hc:c.callee with
   |builtin b=>
    simp only[hc]at e ⊢;simp only[Av,hc]at d;exact LF s i (by grind) e
   |value f=>
    simp only[hc]at e ⊢;obtain⟨p,a,e⟩:=Aa e;simp only[e1,a];unfold H3 at e ⊢;split at e
    ·exact Jm e (Df e)
    ·cases e;exact True.intro
    ·cases e
   |invoke I G=>
    simp only[hc]at e ⊢;obtain⟨p,a,e⟩:=Aa e;simp only[e1,a];exact Jm e (Df e)
  ·cases e
 |_=>cases e
theorem GX{t:T PV}{o:Oper}(d:quiet o.op=zt)(a:Av o.op=zt){v:PV}{i:Hp}(e:AP P t h id o=zo (.val v i)):i=h:=by
 have g:∀ {x:Option PV},vl x h=zo (.val v i)->i=h:=by
  intro x e;obtain⟨y,_,e⟩:=Di e;cases e;rfl
 unfold AP at e;generalize l:o.op=n at a d e;cases n with
 |lookup _ _ _ _=>cases a
 |mapUpdate _ _ _ _=>cases a
 |insert _ _ _ _=>cases a
 |defer _=>cases a
 |panic _=>cases a
 |buildSlice _ _ _=>cases d
 |store _ _ _=>cases d
 |alloc _=>cases d
 |box _ _=>cases d
 |makeMap _ _=>cases d
 |makeSlice _ _ _=>cases d
 |move x=>exact g e
 |assign x=>exact g e
 |pick c x y=>
  obtain⟨p,q,u,_,_,_,e⟩:=NU e;unfold Dk at e
  grind
 |build ty s=>
  simp only at e;split at e
  ·unfold By at e;simp only[ay]at e
   repeat' split at e
   all_goals first|(cases e;done)|(obtain⟨cs,_,e⟩:=AA e;cases e;rfl)
  ·cases e
 |load _ x=>
  obtain⟨p,_,e⟩:=Aa e;unfold CD at e
  grind
 |nilCheck x=>
  obtain⟨p,_,e⟩:=Aa e;unfold Es at e
  grind
 |binOp _ _ x y _=>
  obtain⟨p,q,_,_,e⟩:=CR e;unfold Dd at e
  grind
 |unOp _ _ x=>obtain⟨p,_,e⟩:=Aa e;exact g e
 |convert _ _ x=>
  obtain⟨p,_,e⟩:=Aa e;unfold BJ at e
  grind
 |makeInterface _ x=>
  obtain⟨p,_,e⟩:=Aa e
  grind [Ed]
 |makeFunc f x y=>
  simp only at e;split at e
  ·unfold BF at e
   grind
  ·cases e
 |slice ty x lo hi mx=>
  simp only[quiet]at d;have j:mx=zn:=by simp_all
  subst j;simp only[Pf]at e;split at e
  ·rename_i m;cases m;obtain⟨p,_,e⟩:=Aa e;unfold Ai EE at e;simp only[ay]at e
   repeat' split at e
   all_goals simp_all
  ·cases e
 |fieldAddr _ x _=>
  obtain⟨p,_,e⟩:=Aa e;unfold Ax at e
  grind
 |field _ x _=>
  obtain⟨p,_,e⟩:=Aa e;unfold B7 at e
  grind
 |indexAddr _ x y=>
  obtain⟨p,q,_,_,e⟩:=CR e;unfold Aq at e;simp only[ay]at e
  repeat' split at e
  all_goals simp_all
 |index _ x y=>
  obtain⟨p,q,_,_,e⟩:=CR e;unfold Bn at e
  grind
 |typeAssert x _ _ _=>
  obtain⟨p,_,e⟩:=Aa e;unfold BK at e;simp only[ay]at e
  repeat' split at e
  all_goals simp_all
 |extract x _=>
  obtain⟨p,_,e⟩:=Aa e;unfold Bh at e
  grind
 |call c=>
  simp only[Av]at a;simp only[quiet]at d;simp only at e;split at e
  ·cases hc:c.callee with
   |builtin b=>
    simp only[hc]at e a d;have k:b=.len\/b=.cap\/b=.max\/b=.min:=by grind
    rcases k with rfl|rfl|rfl|rfl<;>simp only[AH]at e<;>(repeat' split at e)
    all_goals first|(cases e;done)|(cases e;rfl)|(obtain⟨cs,_,e⟩:=AA e;cases e;rfl)
   |value f=>simp_all
   |invoke w r=>simp_all
  ·cases e
 |_=>cases e
end
end
section
variable[Gl]
section
variable{P:Program}{rec:GH}{hs h h1 h2:Hp}{id:Nat}
theorem FV:∀ (l:List Nat) (m:T Blk) (x:Nat),(Hs h l m).get x=if x∈l/\x<x+1/\(h.get x).isSome then h.get x else m.get x
 |[],m,x=>by simp[Hs]
 |j::l,m,x=>by
  unfold Hs;split
  ·rename_i b c;cases e:ae j (j+1)with
   |true=>
    simp only[zb];have a:j<j+1:=by omega
    rw[FV l _ x,T.get_put (j+1) m j b x (Oi j)]
    grind
   |false=>
    simp only[zj];rw[FV l m x]
    have d:¬ j<j+1:=by
     intro h;have:ae j (j+1)=zt:=by simp
     simp_all
    omega
  ·rename_i c;rw[FV l m x]
   grind
theorem EH(l:List Nat)(x:Nat):(h.cut l).get x=if x∈l/\x<x+1 then h.get x else zn:=by
 have:=FV (h:=h) l .lf x;show(Hs h l .lf).get x=_;rw[this];by_cases a:x∈l/\x<x+1
 ·rw[zy a];cases c:h.get x with
  |none=>rw[zx (by simp)];rfl
  |some b=>simp_all
 ·rw[zx a,zx λh=>a ⟨h.1,h.2.1⟩];rfl
theorem Dw{l:List Nat}{x:Nat}{b:Blk}(e:(h.cut l).get x=zo b):x∈l/\h.get x=zo b:=by
 simp_all[EH]
theorem DS:∀ {l:List Nat} {h c:Hp},over h1 l h=zo c -> ∀ x,c.get x=if x∈l then(match h1.get x with
  |some b=>zo b
  |none=>h.get x)else h.get x
 |[],h,c,e,x=>by simp[over]at e;grind
 |j::l,h,c,e,x=>by
  unfold over at e;split at e
  ·rename_i b d;split at e
   ·rename_i f a;rw[DS e x,(Hp.get_set a).1 x]
    grind
   ·cases e
  ·rename_i d;rw[DS e x]
   grind
def RK:Blk->Prop
 |.box _ fz=>fz=zt
 |.row _ _ fz=>fz=zt
 |_=>False
theorem B0:∀ {l:List Nat} {x:Nat},x∈l->x ∉ BC h l -> ∃ b,h.get x=zo b/\RK b
 |[],x,hx,_=>by simp at hx
 |j::l,x,hx,hn=>by
  unfold BC at hn;simp only[aj]at hx;split at hn
  ·rename_i cs a;rcases hx with rfl|hx
   ·exact⟨_,a,rfl⟩
   ·exact B0 hx hn
  ·rename_i es ex a;rcases hx with rfl|hx
   ·exact⟨_,a,rfl⟩
   ·exact B0 hx hn
  ·simp only[aj,not_or]at hn;rcases hx with rfl|hx
   ·omega
   ·exact B0 hx hn.2
theorem Aj:∀ {l:List Nat} {x:Nat},x∈BC h l->x∈l
 |[],x,hx=>by simp[BC]at hx
 |j::l,x,hx=>by
  unfold BC at hx;split at hx
  ·simp[Aj hx]
  ·simp[Aj hx]
  ·simp only[aj]at hx;rcases hx with rfl|hx
   ·simp
   ·simp[Aj hx]
def Stays(hs a:Hp):Prop:=∀ x b,hs.get x=zo b->RK b->a.get x=zo b
theorem Stays.refl(hs:Hp):Stays hs hs:=λ_ _ h _=>h
theorem Ha{b:Blk}(e:hs.new id b=zo h1):Stays hs h1:=by
 obtain⟨d,a,_⟩:=Hp.get_new e;intro x c f _
 grind
theorem FX{j:Nat}{b b0:Blk}(d:hs.get j=zo b0)(e:hs.set j b=zo h1)(a:RK b0->b=b0):Stays hs h1:=by
 have g:=(Hp.get_set e).1;intro x c h f
 grind
theorem Stays.trans{d:Hp}(a:Stays hs h1)(b:Stays h1 d):Stays hs d:=λx c f e=>b x c (a x c f e) e
theorem Ce:∀ (L:List Nat) {hs b:Hp},freeze hs L=zo b->Stays hs b
 |[],hs,b,e=>by simp[freeze]at e;subst e;exact .refl _
 |j::L,hs,b,e=>by
  unfold freeze at e;split at e
  ·rename_i cs fz c;split at e
   ·rename_i d a;exact(FX c a λh=>by have h:fz=zt:=h;subst h;rfl).trans (Ce L e)
   ·cases e
  ·rename_i es ex fz c;split at e
   ·rename_i d a;exact(FX c a λh=>by have h:fz=zt:=h;subst h;rfl).trans (Ce L e)
   ·cases e
  ·cases e
theorem GY{t:T PV}{o:Oper}(a:Av o.op=zt)(d:Ee o.op=zf)(k:quiet o.op=zf){r:R}(e:AP P t hs id o=zo r):∀ i,((∃ v,r=.val v i)\/r=.skip i)->Stays hs i:=by
 intro i hr;unfold AP at e;generalize w:o.op=z at a k d e
 have nw:∀ {b:Blk} {v:PV},(hs.new id b).map (λh=>R.val v h)=zo r->Stays hs i:=by
  intro b v e;obtain⟨m,j,rfl⟩:=AA e;rcases hr with⟨l,hr⟩|hr<;>cases hr
  exact Ha j
 have fr:∀ {L:List Nat} {v:PV},(freeze hs L).map (λh=>R.val v h)=zo r->Stays hs i:=by
  intro L v e;obtain⟨m,j,rfl⟩:=AA e;rcases hr with⟨l,hr⟩|hr<;>cases hr
  exact Ce L j
 have same:∀ {v:PV},R.val v hs=r->Stays hs i:=by
  intro v e;subst e;rcases hr with⟨l,hr⟩|hr<;>cases hr
  exact .refl _
 cases z with
 |alloc _=>
  grind [Cm]
 |box _ x=>
  obtain⟨p,_,e⟩:=Aa e;unfold Fc at e
  grind
 |makeMap ty rs=>
  grind
 |makeSlice _ x y=>
  obtain⟨p,q,_,_,e⟩:=CR e;unfold C2 at e
  grind
 |buildSlice ty n B=>
  simp only at e;split at e
  ·unfold Ah at e;simp only[ay]at e
   repeat' split at e
   all_goals first|(cases e;done)|exact fr e
  ·cases e
 |slice ty x lo hi mx=>
  simp only at e;split at e
  ·obtain⟨p,_,e⟩:=Aa e;unfold Ai Dc EE at e;simp only[ay]at e
   repeat' split at e
   all_goals grind
  ·cases e
 |store _ x y=>
  obtain⟨p,q,_,_,e⟩:=CR e;unfold A3 at e;simp only[ay]at e
  repeat' split at e
  all_goals first|(cases e;done)|skip
  all_goals
   obtain⟨m,j,rfl⟩:=AA e;rcases hr with⟨l,hr⟩|hr<;>cases hr
   refine FX (by assumption) j λh=> ?_;cases h
 |call c=>
  simp only[Av,Ee,quiet]at a d k;simp only at e;split at e
  ·cases hc:c.callee with
   |builtin b=>
    simp only[hc]at a d k;by_cases u:b=.copy
    ·subst u;simp only[hc]at e;simp only[AH,ay]at e
     repeat' split at e
     all_goals first|(cases e;done)|skip
     all_goals
      obtain⟨m,j,rfl⟩:=AA e;rcases hr with⟨l,hr⟩|hr<;>cases hr
      refine FX (by assumption) j λh=> ?_;cases h
    grind
   |value f=>
    simp only[hc]at e;obtain⟨p,_,e⟩:=Aa e;unfold H3 at e;split at e
    ·obtain⟨g,s,rfl⟩:=Df e
     simp_all
    all_goals grind
   |invoke C A=>
    simp only[hc]at e;obtain⟨p,_,e⟩:=Aa e;obtain⟨g,s,rfl⟩:=Df e
    simp_all
  ·cases e
 |lookup _ _ _ _=>cases a
 |mapUpdate _ _ _ _=>cases a
 |insert _ _ _ _=>cases a
 |defer _=>cases a
 |panic _=>cases a
 |_=>first|cases k|cases e
theorem IM(s:Eh hs h)(d:hs.get id=zn->h.get id=zn){f:FuncId}{args:List PV}{v:PV}(e:A9 (λ_=>zf) rec id f args hs=zo (.ret v,h1)) :
  (∃ o,A9 (λ_=>zf) rec id f args h=zo (.ret v,o)/\Lay hs h h1 o id)/\(flat v=zt->h1=hs)/\Stays hs h1:=by
 unfold A9 at e ⊢;simp only[zj]at e ⊢;split at e
 ·rename_i B l y;rw[Iv s y];dsimp only;split at e
  ·rename_i r F h' g
   try simp only[g]
   obtain⟨⟨q,D⟩,a,e⟩:=AA e;cases e;unfold Ag at a ⊢;split at a
   ·rename_i len A ex x
    try dsimp only
    split at a
    ·rename_i C c;obtain⟨w,i,a⟩:=AA a;cases a;cases b:BS A with
     |true=>
      simp only[b,zb]at c ⊢;cases c;obtain⟨j,t,m⟩:=(Lay.refl s id).new d i;refine⟨⟨j,by simp_all,m⟩,(by intro h;cases h),Ha i⟩
     |false=>
      simp only[b,zj]at c ⊢;obtain⟨p,u,n⟩:=Lay.freeze l (Lay.refl s id) c;obtain⟨j,t,m⟩:=n.new d i;refine⟨⟨j,by simp_all,m⟩,(by intro h;cases h),(Ce l c).trans (Ha i)⟩
    ·cases a
   ·rename_i x
    try dsimp only
    split at a
    ·rename_i z E k
     try simp only[k]
     cases b:flat z with
     |true=>
      simp only[b,zb]at a ⊢;cases a;exact⟨⟨h,rfl,.refl s id⟩,λ_=>rfl,.refl _⟩
     |false=>
      simp only[b,zj]at a ⊢;obtain⟨w,c,a⟩:=AA a;cases a;obtain⟨p,u,n⟩:=Lay.freeze l (Lay.refl s id) c;exact⟨⟨p,by simp_all,n⟩,(by simp_all),Ce l c⟩
    ·cases a
  all_goals grind
 ·cases e
end
end
section
variable[Gl]
section
theorem Ej(m k:Nat):Fp m k=m.testBit k:=by
 unfold Fp;show(!aa (m &&& 2 ^ k) 0)=m.testBit k;cases c:m.testBit k with
 |false=>
  have:m &&& 2 ^ k=0:=by
   apply Nat.eq_of_testBit_eq
   grind
  rw[this];rfl
 |true=>
  have:m &&& 2 ^ k≠0:=by
   intro a;have b:(m &&& 2 ^ k).testBit k=zt:=by grind
   simp_all
  rw[Fk this];rfl
theorem FB(a b k:Nat):Fp (bR a b) k=(Fp a k||Fp b k):=by
 simp_all[Ej]
theorem GL(j k:Nat):Fp (Nat.pow 2 j) k=decide (j=k):=by
 rw[Ej];exact Nat.testBit_two_pow
theorem IE{a b:Nat}(h:Hb a b=zt)(k:Nat):¬ (Fp a k=zt/\Fp b k=zt):=by
 unfold Hb at h;have e:a &&& b=0:=ai h;rintro⟨c,d⟩;rw[Ej]at c d;have:(a &&& b).testBit k=zt:=by grind
 simp_all
theorem Hv:∀ {l:List Operand} {k:Nat},.tmp k∈l->Fp (FY l) k=zt
 |[],k,h=>by simp at h
 |o::l,k,h=>by
  unfold FY;rw[FB];simp only[aj]at h;rcases h with rfl|h
  ·simp only[Qn,GL];simp
  ·rw[Hv h];simp
theorem BD{a b:List Nat}(h:Cf a b=zf)(x:Nat):¬ (x∈a/\x∈b):=by
 induction a with
 |nil=>simp
 |cons y a d=>
  unfold Cf at h;simp only[af]at h;rintro⟨h1,c⟩;simp only[aj]at h1;rcases h1 with rfl|h1
  ·rw[List.any_eq_false]at h;exact h.1 x c (by simp)
  simp_all
theorem FO:∀ (a:List Nat),Cf a []=zf
 |[]=>rfl
 |x::a=>by unfold Cf;rw[FO a];rfl
variable{P:Program}{rec:GH}
def I2(nt:Nat)(a:Option Nat)(v:PV)(t b:T PV):Prop:=match a with
 |none=>b=t
 |some d=>d<nt/\b=T.put 20 t d v
structure Tr where
 ts:Nat->T PV
 hp:Nat->Hp
 rd:Nat->List Nat
 wr:Nat->List Nat
def Tr.StepAt(P:Program)(rec:GH)(base nt:Nat)(opsl:List Oper)(a:Tr)(j:Nat)(o:Oper):Prop:=
 (A8 opsl (a.ts j) o.guard=zt /\ ∃ v,Ay P rec (a.ts j) (a.hp j) (base+j) o=zo (v,a.hp (j+1),a.rd j,a.wr j)/\I2 nt o.dst v (a.ts j) (a.ts (j+1))) \/
 (A8 opsl (a.ts j) o.guard=zf/\a.hp (j+1)=a.hp j/\a.rd j=[]/\a.wr j=[]/\I2 nt o.dst (.tup []) (a.ts j) (a.ts (j+1)))
def Tr.Clear(a:Tr)(b j k:Nat):Prop:=Fp b k=zt\/(Cf (a.wr k) (a.rd j)=zf/\Cf (a.wr j) (a.rd k)=zf)
theorem F4{b:Nat}{rd wr:List Nat}:∀ {a:List (Nat×List Nat×List Nat)},F3 b rd wr a=zt -> ∀ k r w,(k,r,w)∈a->Fp b k=zt\/(Cf w rd=zf/\Cf wr r=zf)
 |[],_,k,r,w,h=>by simp at h
 |(k0,r0,w0)::a,e,k,r,w,h=>by
  unfold F3 at e;simp only[ac,bz,aU,af]at e;simp only[aj]at h;rcases h with h|h
  ·simp_all
  ·exact F4 e.2 k r w h
theorem LX{base nt:Nat}{opsl:List Oper}{I:T PV}{h':Hp}:∀ (l:List Oper) (D:List Mk) (i:Nat) (b:List (Nat×List Nat×List Nat)) (t:T PV) (h:Hp),
  AX P rec base nt opsl i l D b t h=zo (I,h') -> ∀ (g n:Nat->List Nat),(∀ k,k<i->(k,g k,n k)∈b\/(g k=[]/\n k=[])) ->
  ∃ f:Tr,f.ts i=t/\f.hp i=h/\f.ts (i+l.length)=I/\f.hp (i+l.length)=h'/\(∀ k,k<i->f.rd k=g k/\f.wr k=n k) /\
   ∀ j o m,l[j]?=zo o->D[j]?=zo m->f.StepAt P rec base nt opsl (i+j) o /\ ∀ k,k<i+j->f.Clear m.bef (i+j) k
 |[],D,i,b,t,h,e,g,n,hpast=>by
  unfold AX at e;cases e;exact⟨⟨λ_=>I,λ_=>h',g,n⟩,rfl,rfl,rfl,rfl,λ_ _=>⟨rfl,rfl⟩,λj o m J=>by simp at J⟩
 |o::l,[],i,b,t,h,e,g,n,hpast=>by unfold AX at e;cases e
 |o::l,m::D,i,b,t,h,e,g,n,hpast=>by
  unfold AX at e
  have u:∀ {v:PV} {K:T PV} {E:Hp} {p q:List Nat} {c:List (Nat×List Nat×List Nat)},AX P rec base nt opsl (i+1) l D c K E=zo (I,h')->I2 nt o.dst v t K ->
    (A8 opsl t o.guard=zt/\Ay P rec t h (base+i) o=zo (v,E,p,q)\/A8 opsl t o.guard=zf/\E=h/\p=[]/\q=[]/\v=.tup []) ->
    (∀ k r w,(k,r,w)∈b->(k,r,w)∈c)->((i,p,q)∈c\/(p=[]/\q=[]))->(∀ k r w,(k,r,w)∈b->Fp m.bef k=zt\/(Cf w p=zf/\Cf q r=zf)) ->
    ∃ f:Tr,f.ts i=t/\f.hp i=h/\f.ts (i+(o::l).length)=I/\f.hp (i+(o::l).length)=h'/\(∀ k,k<i->f.rd k=g k/\f.wr k=n k) /\
     ∀ j o' m',(o::l)[j]?=zo o'->(m::D)[j]?=zo m'->f.StepAt P rec base nt opsl (i+j) o' /\ ∀ k,k<i+j->f.Clear m'.bef (i+j) k:=by
   intro v K E p q c e1 AG B U hin z
   obtain⟨f,k1,k2,k3,k4,N,k6⟩:=LX l D (i+1) c K E e1 (λk=>if k=i then p else g k) (λk=>if k=i then q else n k) (by
    grind)
   obtain⟨A,C⟩:=N i (by omega);simp only[if_true]at A C;refine⟨⟨λk=>if k=i then t else f.ts k,λk=>if k=i then h else f.hp k,f.rd,f.wr⟩,by simp,by simp,?_,?_,?_,?_⟩
   ·grind
   ·grind
   ·intro k S;have:=N k (by omega)
    grind
   ·intro j o' m' J G;cases j with
    |zero=>
     simp only[a8,Option.some.injEq]at J G;subst J;subst G;simp only[aZ];constructor
     ·rcases B with⟨W,X⟩|⟨W,X,Y,Z,a5⟩
      ·refine .inl ⟨by grind,v,?_,?_⟩
       all_goals simp_all
      ·refine .inr ⟨by grind,?_,by rw[A,Y],by rw[C,Z],?_⟩
       all_goals simp_all
     ·intro k S;have x:=N k (by omega);simp only[zx (show k≠i by omega)]at x;unfold Tr.Clear;simp only[A,C,x.1,x.2];rcases hpast k S with s|⟨L,M⟩
      ·simp_all
      ·rw[L,M];exact .inr ⟨rfl,FO _⟩
    |succ j=>
     obtain⟨q1,q2⟩:=k6 j o' m' (by grind) (by simp_all);rw[show i+(j+1)=i+1+j by omega];refine⟨?_,q2⟩;unfold Tr.StepAt at q1 ⊢
     grind
  cases F:A8 opsl t o.guard with
  |true=>
   simp only[F,zb]at e;split at e
   ·rename_i v E p q O;replace e:=Ad e;obtain⟨z,e⟩:=e;cases a:o.dst with
    |some d=>
     simp only[a]at e;replace e:=Ad e;obtain⟨y,e⟩:=e;exact u e (by rw[a];exact⟨by simpa using y,rfl⟩) (.inl ⟨F,O⟩) (λk r w s=>aB _ s) (.inl bL) (λk r w s=>F4 z k r w s)
    |none=>
     simp only[a]at e;exact u e (by rw[a];exact rfl) (.inl ⟨F,O⟩) (λk r w s=>aB _ s) (.inl bL) (λk r w s=>F4 z k r w s)
   ·cases e
  |false=>
   simp only[F,zj]at e;cases a:o.dst with
   |some d=>
    simp only[a]at e;replace e:=Ad e;obtain⟨y,e⟩:=e;exact u (v:=.tup []) e (by rw[a];exact⟨by simpa using y,rfl⟩) (.inr ⟨F,rfl,rfl,rfl,rfl⟩) (λk r w s=>s) (.inr ⟨rfl,rfl⟩) (λk r w s=>.inr ⟨FO _,rfl⟩)
   |none=>
    simp only[a]at e;exact u (v:=.tup []) e (by rw[a];exact rfl) (.inr ⟨F,rfl,rfl,rfl,rfl⟩) (λk r w s=>s) (.inr ⟨rfl,rfl⟩) (λk r w s=>.inr ⟨FO _,rfl⟩)
theorem Hq{m:Mk}:∀ {l:List Mk} {j:Nat},Gn m j l=zt -> ∀ k x,l[k]?=zo x->Fp m.bef (j+k)=zt\/(Hb x.wr (bR m.rd m.wr)=zt/\Hb x.rd m.wr=zt)
 |[],j,_,k,x,h=>by simp at h
 |y::l,j,e,k,x,h=>by
  unfold Gn at e;simp only[ac,bz]at e;cases k with
  |zero=>simp_all
  |succ k=>
   have:=Hq e.2 k x (by grind)
   grind
def K8(opsl:List Oper)(a:List Mk)(i:Nat)(o:Oper)(m:Mk):Prop:=
 m.rd=bR (FY (Az o.op)) (Eu opsl o.guard)/\m.wr=G7 o.dst/\m.bef=DI (a.take i) o.after.toList/\GV i o.after.toList=zt/\Gn m 0 (a.take i)=zt
theorem Lk{opsl:List Oper}:∀ (l:List Oper) (i:Nat) (a c:List Mk),FN opsl i l a=zo c->a.length=i ->
  (∃ b,c=a++b/\b.length=l.length) /\ ∀ j o,l[j]?=zo o -> ∃ m,c[i+j]?=zo m/\K8 opsl c (i+j) o m
 |[],i,a,c,e,hl=>by simp_all[FN]
 |o::l,i,a,c,e,hl=>by
  unfold FN at e;simp only at e;replace e:=Ad e;obtain⟨hc,e⟩:=e;simp only[ac]at hc;obtain⟨⟨b,f,d⟩,g⟩:=Lk l (i+1) _ c e (by simp[hl]);refine⟨⟨_::b,by rw[f,a9];rfl,by simp[d]⟩,λj o' h=> ?_⟩;cases j with
  |zero=>
   simp_all[K8,a8,Option.some.injEq,a9,aZ]
  |succ j=>
   grind
theorem EI{a:List Mk}:∀ {es:List Edge} {k:Nat},Fp (DI a es) k=zt -> ∃ e∈es,Region.binds .any e=zt/\(e.on=k \/ ∃ m,a[e.on]?=zo m/\Fp m.bef k=zt)
 |[],k,h=>by rw[Ej]at h;simp[DI]at h
 |e::es,k,h=>by
  unfold DI at h;cases b:Region.binds .any e with
  |true=>
   simp only[b,zb]at h;rw[FB,FB,GL]at h;simp only[bz,decide_eq_true_eq]at h;rcases h with (h|h)|h
   ·simp_all
   ·grind [AM,Ej]
   ·obtain⟨c,d,f,g⟩:=EI h
    grind
  |false=>
   simp only[b,zj]at h;obtain⟨c,d,f,g⟩:=EI h
   grind
theorem Er{i:Nat}:∀ {es:List Edge},GV i es=zt -> ∀ e∈es,Region.binds .any e=zt->e.on<i
 |[],_,e,he=>by simp at he
 |e0::es,h,e,he=>by
  unfold GV at h;simp only[ac,bz,aU,bG]at h;intro a;simp only[aj]at he;rcases he with rfl|he
  ·simp_all
  ·exact Er h.2 e he a
end
end
section
variable[Gl]
section
theorem C5:∀ (n:Nat) (l:List Nat),l.Nodup->(∀ x∈l,x<n)->l.length<=n
 |0,l,_,h=>by
  cases l with
  |nil=>simp
  |cons a l=>have:=h a (by simp);omega
 |n+1,l,hn,h=>by
  by_cases d:n∈l
  ·have c:=C5 n (l.erase n) (hn.erase n) (λx b=>by
    grind)
   simp_all
  ·have:=C5 n l hn (λx b=>by
    grind)
   omega
theorem D3:∀ (n:Nat) (l:List Nat),(∀ x,x<n->x∈l)->n<=l.length
 |0,l,_=>by omega
 |n+1,l,h=>by
  have a:=D3 n (l.erase n) (λx b=>(List.mem_erase_of_ne (by omega)).2 (h x (by omega)))
  grind
def G2(ops:Array Oper)(l:List Nat):Prop:=∀ p i q,l=p++i::q -> ∀ o,ops[i]?=zo o -> ∀ e∈o.after.toList,Region.binds .any e=zt->e.on∈p
theorem Ld{ops:Array Oper}{l:List Nat}{i:Nat}(f:G2 ops l)(hi:∀ o,ops[i]?=zo o -> ∀ e∈o.after.toList,Region.binds .any e=zt->e.on∈l):G2 ops (l++[i]):=by
 intro p j q h o g e b d;rcases List.eq_nil_or_concat q with rfl|⟨c,z,rfl⟩
 ·simp_all
 ·have a:l++[i]=(p++j::c)++[z]:=by grind
  have:=List.append_inj' a (by simp);exact f p j c this.1 o g e b d
theorem Pz{ops:Array Oper}(b:∀ i o,ops[i]?=zo o -> ∀ e∈o.after.toList,Region.binds .any e=zt->e.on<i) :
  ∀ (fuel t:Nat) (listed:Array Bool) (a:List Nat),fuel+a.length=ops.size->listed.size=ops.size->(∀ i,i<ops.size->listed[i]?=zo (decide (i∈a)))->a.Nodup->(∀ i∈a,i<ops.size)->G2 ops a.reverse ->
  (Region.linearise.go .any ops fuel t listed a).Nodup/\(∀ i,i∈Region.linearise.go .any ops fuel t listed a<->i<ops.size)/\G2 ops (Region.linearise.go .any ops fuel t listed a)
 |0,t,listed,a,hf,hs,hl,hn,hlt,hp=>by
  simp only[Region.linearise.go];refine⟨List.pairwise_reverse.2 (hn.imp λh=>Ne.symm h),λi=>⟨λh=>hlt i (by grind),λhi=> ?_⟩,hp⟩;rw[cF];by_cases s:i∈a
  ·exact s
  ·have:=C5 ops.size (i::a) (bA.2 ⟨s,hn⟩) (λx C=>by
    grind)
   grind
 |fuel+1,t,listed,a,hf,hs,hl,hn,hlt,hp=>by
  simp only[Region.linearise.go];generalize q:(bW ops.size).filter (λi=> !listed.getD i zt&&((ops[i]?).map (λo=>o.after.all λe=> !Region.binds .any e||listed.getD e.on zf)).getD zf)=rs
  have r:∀ i,i∈rs<->i<ops.size/\i ∉ a /\ ∀ o,ops[i]?=zo o -> ∀ e∈o.after.toList,Region.binds .any e=zt->e.on∈a:=by
   intro i;rw[<- q,List.mem_filter,List.mem_range];constructor
   ·rintro⟨f,m⟩;simp only[ac,aU]at m;have z:=hl i f;refine⟨f,?_,?_⟩
    ·grind [aH]
    ·intro o l e k g;rw[l]at m;simp only[aC,aD,bM]at m;have:=m.2 e (ci.1 k);rw[g]at this;simp only[ao,cV]at this;have n:=b i o l e k g;rw[aH,hl e.on (by omega)]at this
     simp_all
   ·rintro⟨f,m,B⟩;refine⟨f,?_⟩;simp only[ac,aU];refine⟨by simp_all,?_⟩;rw[ak f];simp only[aC,aD,bM];intro e k;cases g:Region.binds .any e with
    |false=>rfl
    |true=>
     simp only[ao,cV];have l:=ak f;have n:=b i _ l e (ci.2 k) g;rw[aH,hl e.on (by omega)]
     simp_all
  have p:rs≠[]:=by
   intro A
   have all:∀ i,i<ops.size->i∈a:=by
    intro i
    induction i using cU<;>grind
   have:=D3 ops.size a all;omega
  have c:t % rs.length<rs.length:=Nat.mod_lt _ (List.length_pos_iff.2 p);rw[ah c];simp only;obtain⟨u,w,y⟩:=(r _).1 (List.getElem_mem c);generalize rs[t % rs.length]=i at u w y;refine Pz b fuel _ _ (i::a) (by simp only[bu];omega) (by simpa using hs) ?_ (bA.2 ⟨w,hn⟩) ?_ ?_
  ·intro j hj;rw[Array.getElem?_setIfInBounds];by_cases d:i=j
   ·subst d;rw[zy rfl,zy (by omega)];simp
   ·rw[zx d,hl j hj];simp[Ne.symm d]
  ·intro j hj;simp only[aj]at hj;rcases hj with rfl|hj
   ·exact u
   ·exact hlt j hj
  ·rw[List.reverse_cons];exact Ld hp λo l e k g=>by rw[cF];exact y o l e k g
theorem Qg{ops:Array Oper}{mixed:Bool}(b:(mixed || !Region.departs ops)=zt)(a:∀ i o,ops[i]?=zo o -> ∀ e∈o.after.toList,Region.binds .any e=zt->e.on<i)(t:Nat) :
  (Region.schedule mixed ops t).Nodup/\(∀ i,i∈Region.schedule mixed ops t<->i<ops.size)/\G2 ops (Region.schedule mixed ops t):=by
 unfold Region.schedule;rw[zy b];unfold Region.linearise;exact Pz a ops.size t _ [] (by simp) (by simp) (λi hi=>by simp[hi]) List.nodup_nil (by simp) (by intro p i q h;simp at h)
theorem R7{ops:Array Oper}{n:List Mk}(l:∀ j o,ops.toList[j]?=zo o -> ∃ m,n[j]?=zo m/\K8 ops.toList n j o m){σ:List Nat}(hσ:G2 ops σ) :
  ∀ (i:Nat) (o:Oper) (m:Mk),ops[i]?=zo o->n[i]?=zo m -> ∀ p q,σ=p++i::q -> ∀ k,Fp m.bef k=zt->k∈p:=by
 intro i
 induction i using cU with
 |_ i A=>
  intro o m y w p q s k r;obtain⟨m',f,a⟩:=l i o (by grind);rw[w]at f;cases f;rw[a.2.2.1]at r;obtain⟨e,b,c,g⟩:=EI r;have u:=Er a.2.2.2.1 e b c;have d:=hσ p i q s o y e b c;rcases g with rfl|⟨B,x,t⟩
  ·exact d
  ·obtain⟨C,D,z⟩:=cv d
   grind
end
end
section
variable[Gl]
section
variable{P:Program}{rec:GH}
def Qw(n:Nat)(ops:Array Oper)(b:Tr)(a:List Nat)(t:T PV):Prop:=
 ∀ k m,m<=n->(∀ j o,ops[j]?=zo o->o.dst=zo k->(j∈a<->j<m))->t.get k=(b.ts m).get k
def Qv(n:Nat)(b:Tr)(a:List Nat)(h:Hp):Prop:=
 ∀ x m,m<=n->(∀ j,j<n->x∈b.wr j->(j∈a<->j<m))->h.get x=(b.hp m).get x
theorem Hg{t tS:T PV}{h hS h':Hp}{id:Nat}{o:Oper}{v:PV}{rd wr:List Nat}(e:Ay P rec t h id o=zo (v,h',rd,wr))(L:Fo t tS (Az o.op))(hh:∀ x∈rd,hS.get x=h.get x) :
  ∃ hS',((AP P tS hS id o=zo (.val v hS'))\/(AP P tS hS id o=zo (.skip hS')/\v=.tup []) \/ ∃ f args,AP P tS hS id o=zo (.call f args)/\A9 (λ_=>zf) rec id f args hS=zo (.ret v,hS')) /\
   (∀ x,x ∉ wr->hS'.get x=hS.get x/\h'.get x=h.get x)/\(∀ x,x∈wr->x∈rd/\hS'.get x=h'.get x):=by
 unfold Ay at e;simp only at e;replace e:=Bl e;obtain⟨hc,e⟩:=e;simp only[af,aq,bG]at hc;obtain⟨j,w⟩:=hc
 have sub:∀ {l:List Nat},(∀ x∈l,x∈rd)->Eh (h.cut l) hS:=by
  intro l g x b a;obtain⟨i,q⟩:=Dw a
  simp_all
 have r:∀ {l:List Nat},id∈l->(∀ x∈l,x∈rd)->(h.cut l).get id=zn->hS.get id=zn:=by
  intro l k g a;rw[EH,zy ⟨k,w⟩]at a;rw[hh id (g id k)];exact a
 have F:∀ {l:List Nat} {x:Nat} {b:Blk},(h.cut l).get x=zo b->x∈l:=λa=>(Dw a).1
 have lay:∀ {l z:List Nat} {i hS':Hp},id∈l->(∀ x∈l,x∈rd)->Lay (h.cut l) hS i hS' id->over i l h=zo h'->(∀ x∈z,x∈l)->(∀ x∈l,x ∉ z -> ∃ b,h.get x=zo b/\RK b)->Stays (h.cut l) i\/(∀ x∈l,x∈z) ->
   (∀ x,x ∉ z->hS'.get x=hS.get x/\h'.get x=h.get x)/\(∀ x,x∈z->x∈rd/\hS'.get x=h'.get x):=by
  intro l z i hS' k g m K M I hst;refine⟨λx a=> ?_,λx a=> ?_⟩
  ·by_cases n:x∈l
   ·rcases hst with hst|hst
    ·obtain⟨b,U,G⟩:=I x n a;have N:x<x+1 \/ ¬ x<x+1:=by omega
     rcases N with hlt|hge
     ·have A:=hst x b (by simp_all[EH,zy]) G;refine⟨by rw[m.get,A,hh x (g x n),U],by rw[DS K,zy n,A,U]⟩
     omega
    simp_all
   ·have hn:i.get x=zn:=by
     cases J:i.get x with
     |none=>rfl
     |some c=>
      rcases m.keys x c J with⟨b0,Y⟩|rfl<;>simp_all
    exact⟨by rw[m.get,hn],by rw[DS K,zx n]⟩
  ·have n:=M x a;refine⟨g x n,?_⟩;rw[m.get,DS K,zy n]
   grind
 have same:∀ {l:List Nat} {hS':Hp},(∀ x∈l,x∈rd)->Lay (h.cut l) hS (h.cut l) hS' id->h'=h->(∀ x,x ∉ ([]:List Nat)->hS'.get x=hS.get x/\h'.get x=h.get x)/\(∀ x,x∈([]:List Nat)->x∈rd/\hS'.get x=h'.get x):=by
  intro l hS' g m Z;refine⟨λx _=>⟨?_,by rw[Z]⟩,λx a=>by simp at a⟩;rw[m.get];cases J:(h.cut l).get x with
  |none=>rfl
  |some b=>exact(sub g x b J).symm
 split at e
 ·rename_i E i d;rw[EJ j L]at d;cases D:quiet o.op with
  |true=>
   simp only[D,zb,Option.some.injEq,Prod.mk.injEq]at e;obtain⟨rfl,rfl,rfl,rfl⟩:=e;have B:=GX D j d;subst B;have g:∀ x∈id::Aw t h o.op,x∈id::Aw t h o.op:=λx a=>a;obtain⟨hS',e2,m⟩:=Cj (sub g) (r (by simp) g) j d
   grind
  |false=>
   simp only[D,zj]at e;obtain⟨q,p,e⟩:=AA e;simp only[Prod.mk.injEq]at e;obtain⟨rfl,rfl,rfl,rfl⟩:=e;have g:∀ x∈id::Aw t h o.op,x∈id::Aw t h o.op:=λx a=>a;obtain⟨hS',e2,m⟩:=Cj (sub g) (r (by simp) g) j d;refine⟨hS',.inl e2,?_⟩;cases X:Ee o.op with
   |true=>exact lay (by simp) g m p (λx a=>a) (λx i q=>absurd i q) (.inr λx a=>a)
   |false=>exact lay (by simp) g m p (λx a=>Aj a) (λx i q=>B0 i q) (.inl (GY j X D d _ (.inl ⟨_,rfl⟩)))
 ·rename_i i d;rw[EJ j L]at d;replace e:=Bl e;obtain⟨y,e⟩:=e;simp only[af]at y;obtain⟨q,p,e⟩:=AA e;simp only[Prod.mk.injEq]at e;obtain⟨rfl,rfl,rfl,rfl⟩:=e;have g:∀ x∈id::Aw t h o.op,x∈id::Aw t h o.op:=λx a=>a;obtain⟨hS',e2,m⟩:=Cj (sub g) (r (by simp) g) j d;have hst:Stays (h.cut (id::Aw t h o.op)) i:=GY j y.2 y.1 d _ (.inr rfl);exact⟨hS',.inr (.inl ⟨e2,rfl⟩),lay (by simp) g m p (λx a=>Aj a) (λx i q=>B0 i q) (.inl hst)⟩
 ·rename_i f args d;rw[EJ j L]at d;split at e
  ·rename_i as l hp;split at e
   ·rename_i E i s
    have key:(∀ x∈id::Aw t h o.op,x∈rd) -> ∀ (g:∀ x∈id::l,x∈rd),∃ hS',AP P tS hS id o=zo (.call f args)/\A9 (λ_=>zf) rec id f args hS=zo (.ret E,hS')/\Lay (h.cut (id::l)) hS i hS' id/\(flat E=zt->i=h.cut (id::l))/\Stays (h.cut (id::l)) i:=by
     intro C g;have W:AP P tS hS id o=zo (.call f args):=Cj (sub C) (r (by simp) C) j d;obtain⟨⟨hS',e3,m⟩,O,S⟩:=IM (sub g) (r (by simp) g) s
     grind
    cases u:flat E with
    |true=>
     simp only[u,zb,Option.some.injEq,Prod.mk.injEq]at e;obtain⟨rfl,rfl,rfl,rfl⟩:=e
     have k:∀ x∈id::l,x∈(id::Aw t h o.op)++l:=λx a=>by
      grind
     obtain⟨hS',e2,e3,m,O,S⟩:=key (λx a=>ax _ a) k;have:=O u;subst this;exact⟨hS',.inr (.inr ⟨f,args,e2,e3⟩),same k m rfl⟩
    |false=>
     simp only[u,zj]at e;obtain⟨q,p,e⟩:=AA e;simp only[Prod.mk.injEq]at e;obtain⟨rfl,rfl,rfl,rfl⟩:=e
     have k:∀ x∈id::l,x∈(id::Aw t h o.op)++l:=λx a=>by
      grind
     obtain⟨hS',e2,e3,m,O,S⟩:=key (λx a=>ax _ a) k;exact⟨hS',.inr (.inr ⟨f,args,e2,e3⟩),lay (by simp) k m p (λx a=>Aj a) (λx i q=>B0 i q) (.inl S)⟩
   ·cases e
  ·cases e
 ·cases e
end
end
section
variable[Gl]
section
variable{P:Program}{rec:GH}
theorem HV{nt:Nat}{a:Option Nat}{v:PV}{t b:T PV}(e:nt<=1048575)(h:I2 nt a v t b){k:Nat}(g:a≠zo k):b.get k=t.get k:=by
 unfold I2 at h;cases c:a with
 |none=>simp_all
 |some d=>
  rw[c]at h;obtain⟨f,rfl⟩:=h;rw[T.get_put 20 t d v k (by omega),zx (by grind)]
theorem L0{nt d:Nat}{v:PV}{t a:T PV}(c:nt<=1048575)(h:I2 nt (zo d) v t a):d<nt/\a.get d=zo v:=by
 obtain⟨b,rfl⟩:=h;exact⟨b,by rw[T.get_put 20 t d v d (by omega),zy rfl]⟩
theorem ME{base nt n:Nat}{opsl:List Oper}{c:Tr}(e:∀ j,j<n -> ∃ o,opsl[j]?=zo o/\c.StepAt P rec base nt opsl j o)
  (d:∀ j,j<n -> ∀ x,x ∉ c.wr j->(c.hp (j+1)).get x=(c.hp j).get x) {x a:Nat}:∀ b,a<=b->b<=n->(∀ j,a<=j->j<b->x ∉ c.wr j)->(c.hp b).get x=(c.hp a).get x
 |0,ha,_,_=>by simp_all
 |b+1,ha,hb,h=>by
  by_cases i:a=b+1
  ·grind
  ·rw[d b (by omega) x (h b (by omega) (by omega)),ME e d b (by omega) (by omega) λj f g=>h j f (by omega)]
theorem MF{n:Nat}{ops:Array Oper}{e:Tr}(d:∀ j o,j<n->ops[j]?=zo o -> ∀ k,o.dst≠zo k->(e.ts (j+1)).get k=(e.ts j).get k)(c:ops.size=n){k a:Nat}:∀ b,a<=b->b<=n->(∀ j o,a<=j->j<b->ops[j]?=zo o->o.dst≠zo k)->(e.ts b).get k=(e.ts a).get k
 |0,ha,_,_=>by simp_all
 |b+1,ha,hb,h=>by
  by_cases m:a=b+1
  ·subst m;rfl
  ·have f:=ak (xs:=ops) (i:=b) (by omega);rw[d b _ (by omega) f k (h b _ (by omega) (by omega) f),MF d c b (by omega) (by omega) λj o g p l=>h j o g (by omega) l]
theorem LY{ops:Array Oper}{t tS:T PV}{g:Option (Nat×Bool)}(h:∀ k,Fp (Eu ops.toList g) k=zt->tS.get k=t.get k):A8 ops.toList tS g=A8 ops.toList t g:=by
 unfold A8;cases g with
 |none=>rfl
 |some g=>
  grind [Eu,G7,GL]
theorem GU(R:RecOK P rec):E6 P rec:=by
 intro ops base fr fr' h h' e hm M μ w b a cs k t s f;unfold drawn at e;split at e
 ·rename_i ms hmarks;split at e
  ·rename_i tE hE hgo;cases e
   let n:=ops.size
   obtain⟨⟨ms',hms',hmslen⟩,hms⟩:=Lk ops.toList 0 [] ms hmarks rfl;simp only[aO]at hms;obtain⟨g,k1,k2,k3,k4,_,k6⟩:=LX ops.toList ms 0 [] fr.t h hgo (λ_=>[]) (λ_=>[]) (λk W=>by omega);simp only[aO,Array.length_toList]at k3 k4 k6;have hnt:fr.nt<=1048575:=by have:=f.t.1;omega
   have I:∀ j,j<n -> ∃ o m,ops[j]?=zo o/\ms[j]?=zo m/\K8 ops.toList ms j o m/\g.StepAt P rec base fr.nt ops.toList j o /\ ∀ k,k<j->g.Clear m.bef j k:=by
    intro j F;have G:ops[j]?=zo ops[j]:=ak F;obtain⟨m,hm1,hm2⟩:=hms j ops[j] (by simp)
    grind
   have hedge:∀ i o,ops[i]?=zo o -> ∀ e∈o.after.toList,Region.binds .any e=zt->e.on<i:=by
    intro i o G e U hb;obtain⟨m,_,hm2⟩:=hms i o (by grind);exact Er hm2.2.2.2.1 e U hb
   obtain⟨sn,Z,spre⟩:=Qg (mixed:=P.follows .mixedOrders) hm hedge t;generalize Region.schedule (P.follows .mixedOrders) ops t=σ at sn Z spre;have befIn:=R7 hms spre
   have tclear:∀ i o m,ops[i]?=zo o->ms[i]?=zo m->K8 ops.toList ms i o m -> ∀ j o' m',ops[j]?=zo o'->ms[j]?=zo m'->K8 ops.toList ms j o' m'->j<i ->
     Fp m.bef j=zt\/(Hb m'.wr (bR m.rd m.wr)=zt/\Hb m'.rd m.wr=zt):=by
    intro i o m G B z j o' m' c Y S X;have:=Hq z.2.2.2.2 j m' (by grind)
    grind
   have place:∀ {p:List Nat} {i:Nat} {q:List Nat},σ=p++i::q -> ∀ o m,ops[i]?=zo o->ms[i]?=zo m->K8 ops.toList ms i o m ->
     i ∉ p/\(∀ j,Fp m.bef j=zt->j∈p)/\(∀ j o' m',ops[j]?=zo o'->ms[j]?=zo m'->Fp m'.bef i=zt->j ∉ p):=by
    intro p i q U o m G B z;rw[U]at sn
    have hip:i ∉ p:=by
     grind
    refine⟨hip,λj F=>befIn i o m G B p q U j F,?_⟩;intro j o' m' c Y hb A;obtain⟨p1,p2,hp⟩:=cv A;have:=befIn j o' m' c Y p1 (p2++i::q) (by grind) i hb
    grind
   have claimT:∀ {p:List Nat} {i:Nat} {q:List Nat},σ=p++i::q -> ∀ o m,ops[i]?=zo o->ms[i]?=zo m->K8 ops.toList ms i o m -> ∀ d,(Fp m.rd d=zt\/Fp m.wr d=zt) ->
     ∀ j o',ops[j]?=zo o'->o'.dst=zo d->(j∈p<->j<i):=by
    intro p i q U o m G B z d N j o' c l;obtain⟨hip,hb1,hb2⟩:=place U o m G B z;have F:j<n:=(Array.getElem?_eq_some_iff.1 c).1;obtain⟨o2,m',ho2,Y,S,_,_⟩:=I j F;rw[c]at ho2;cases ho2;have hwj:Fp m'.wr d=zt:=by rw[S.2.1,l];simp only[G7,GL];simp
    rcases cG j i with X|rfl|hgt
    ·refine⟨λ_=>X,λ_=> ?_⟩;rcases tclear i o m G B z j o' m' c Y S X with hb|⟨c1,_⟩
     ·grind
     ·exact absurd ⟨hwj,by rw[FB];grind⟩ (IE c1 d)
    ·grind
    ·refine⟨λA=> ?_,λh=>by omega⟩;rcases tclear j o' m' c Y S i o m G B z hgt with hb|⟨c1,c2⟩
     ·exact absurd A (hb2 j o' m' c Y hb)
     ·rcases N with h|h
      ·exact absurd ⟨h,hwj⟩ (IE c2 d)
      ·exact absurd ⟨h,by rw[FB,hwj];simp⟩ (IE c1 d)
   have claimH:∀ {p:List Nat} {i:Nat} {q:List Nat},σ=p++i::q->i<n -> ∀ x,x∈g.rd i -> ∀ j,j<n->x∈g.wr j->(j∈p<->j<i):=by
    intro p i q U hi x J j F D;obtain⟨o,m,G,B,z,C,hcl⟩:=I i hi;obtain⟨o',m',c,Y,S,hstep',hcl'⟩:=I j F;obtain⟨hip,hb1,hb2⟩:=place U o m G B z;rcases cG j i with X|rfl|hgt
    ·refine⟨λ_=>X,λ_=> ?_⟩;rcases hcl j X with hb|⟨c1,c2⟩
     ·grind
     ·exact absurd ⟨D,J⟩ (BD c1 x)
    ·grind
    ·refine⟨λA=> ?_,λh=>by omega⟩;rcases hcl' i hgt with hb|⟨c1,c2⟩
     ·exact absurd A (hb2 j o' m' c Y hb)
     ·exact absurd ⟨D,J⟩ (BD c2 x)
   have unH:∀ j,j<n->(∀ x,x ∉ g.wr j->(g.hp (j+1)).get x=(g.hp j).get x)/\(∀ x,x∈g.wr j->x∈g.rd j):=by
    intro j F;obtain⟨o,m,G,B,z,C,hcl⟩:=I j F;rcases C with⟨_,v,N,_⟩|⟨_,h1,_,h3,_⟩
    ·obtain⟨hS',_,c1,c2⟩:=Hg N (tS:=g.ts j) (hS:=g.hp j) (λ_ _=>rfl) (λ_ _=>rfl)
     grind
    grind
   have unT:∀ j o,j<n->ops[j]?=zo o -> ∀ k,o.dst≠zo k->(g.ts (j+1)).get k=(g.ts j).get k:=by
    intro j o F G k W;obtain⟨o2,m,ho2,B,z,C,hcl⟩:=I j F;rw[G]at ho2;cases ho2;rcases C with⟨_,v,_,hp⟩|⟨_,_,_,_,hp⟩
    ·exact HV hnt hp W
    ·exact HV hnt hp W
   have hp_eq:∀ {x a b:Nat},a<=b->b<=n->(∀ j,a<=j->j<b->x ∉ g.wr j)->(g.hp b).get x=(g.hp a).get x:=λh1 h2 h3=>
    ME (P:=P) (rec:=rec) (base:=base) (nt:=fr.nt) (opsl:=ops.toList) (n:=n) (λj F=>let ⟨o,_,G,_,_,hs,_⟩:=I j F;⟨o,by simpa using G,hs⟩) (λj F x J=>(unH j F).1 x J) _ h1 h2 h3
   have ts_eq:∀ {k a b:Nat},a<=b->b<=n->(∀ j o,a<=j->j<b->ops[j]?=zo o->o.dst≠zo k)->(g.ts b).get k=(g.ts a).get k:=λh1 h2 h3=>
    MF unT rfl _ h1 h2 h3
   have main:∀ (K E:List Nat) (tS:T PV) (hS:Hp),σ=E++K->Qw n ops g E tS->Qv n g E hS ->
     ∃ tE hE,AZ P (λ_=>zf) rec base ops.toList (K.map λi=>(i,(ops[i]?).getD default)) { fr with t:=tS } hS=zo (.normal,{ fr with t:=tE },hE)/\Qw n ops g σ tE/\Qv n g σ hE:=by
    intro K
    induction K with
    |nil=>
     intro E tS hS U hT hH;rw[List.append_nil]at U;subst U;exact⟨tS,hS,rfl,hT,hH⟩
    |cons i K ih=>
     intro E tS hS U hT hH;have hi:i<n:=(Z i).1 (by rw[U];simp);obtain⟨o,m,G,B,z,C,hcl⟩:=I i hi;have cT:=claimT U o m G B z;have cH:=claimH U hi;obtain⟨hip,_,_⟩:=place U o m G B z;have agT:∀ d,(Fp m.rd d=zt\/Fp m.wr d=zt)->tS.get d=(g.ts i).get d:=λd N=>hT d i (by omega) (λj o' c l=>cT d N j o' c l);have agH:∀ x,x∈g.rd i->hS.get x=(g.hp i).get x:=λx J=>hH x i (by omega) (λj F D=>cH x J j F D);have hrdbit:∀ d,Fp m.rd d=(Fp (FY (Az o.op)) d||Fp (Eu ops.toList o.guard) d):=by intro d;rw[z.1,FB]
     have agO:Fo (g.ts i) tS (Az o.op):=λd N=>(agT d (.inl (by rw[hrdbit,Hv N];simp))).symm;have hwant:A8 ops.toList tS o.guard=A8 ops.toList (g.ts i) o.guard:=LY λd N=>agT d (.inl (by rw[hrdbit,N];simp))
     have next:∀ {v:PV} {hS':Hp} {fr1:Fr},I2 fr.nt o.dst v (g.ts i) (g.ts (i+1))->(∀ x,x ∉ g.wr i->hS'.get x=hS.get x)->(∀ x,x∈g.wr i->hS'.get x=(g.hp (i+1)).get x) ->
       ∃ y,I2 fr.nt o.dst v tS y/\Qw n ops g (E++[i]) y/\Qv n g (E++[i]) hS':=by
      intro v hS' _ AG h1 h2
      have hH':Qv n g (E++[i]) hS':=by
       intro x m' O hw;by_cases J:x∈g.wr i
       ·have him:i<m':=(hw i hi J).1 (by simp);rw[h2 x J];refine(hp_eq (by omega) O λj hj1 hj2 D=> ?_).symm;have hjn:j<n:=by omega
        have A:=(hw j hjn D).2 hj2;simp only[al,au]at A;rcases A with A|rfl
        ·have:=(cH x ((unH i hi).2 x J) j hjn D).1 A;omega
        ·omega
       ·rw[h1 x J];refine hH x m' O λj F D=> ?_;have hji:j≠i:=by intro e;subst e;exact J D
        rw[<- hw j F D];simp[hji]
      have invT:∀ y,(∀ k,o.dst≠zo k->y.get k=tS.get k)->(∀ k,o.dst=zo k->y.get k=(g.ts (i+1)).get k)->Qw n ops g (E++[i]) y:=by
       intro y g1 g2 k m' O hw;by_cases W:o.dst=zo k
       ·have him:i<m':=(hw i o G W).1 (by simp);rw[g2 k W];refine(ts_eq (by omega) O λj o' hj1 hj2 c l=> ?_).symm;have A:=(hw j o' c l).2 hj2;simp only[al,au]at A;rcases A with A|rfl
        ·have:=(cT k (.inr (by rw[z.2.1,W];simp only[G7,GL];simp)) j o' c l).1 A;omega
        ·omega
       ·rw[g1 k W];refine hT k m' O λj o' c l=> ?_;have hji:j≠i:=by intro e;subst e;rw[G]at c;cases c;exact W l
        rw[<- hw j o' c l];simp[hji]
      cases N:o.dst with
      |none=>
       exact⟨tS,rfl,invT tS (λ_ _=>rfl) (λk W=>by rw[N]at W;cases W),hH'⟩
      |some d=>
       rw[N]at AG;obtain⟨X,hget⟩:=L0 hnt AG;have hp2:I2 fr.nt (zo d) v tS (T.put 20 tS d v):=⟨X,rfl⟩;refine⟨T.put 20 tS d v,hp2,invT _ (λk W=>HV hnt hp2 (by rw[<- N];exact W)) (λk W=> ?_),hH'⟩;rw[N]at W;cases W;rw[(L0 hnt hp2).2,hget]
     have hget:(ops[i]?).getD default=o:=by rw[G];rfl
     have L:∀ {v:PV} {y:T PV},I2 fr.nt o.dst v tS y->({ fr with t:=tS }:Fr).put o.dst v=zo { fr with t:=y }:=by
      intro v y AG;unfold Fr.put;cases N:o.dst with
      |none=>rw[N]at AG;rw[show y=tS from AG]
      |some d=>
       rw[N]at AG;obtain⟨h1,rfl⟩:=AG;have:ae d fr.nt=zt:=by simpa using h1
       simp only[this,zb]
     have he2:σ=(E++[i])++K:=by rw[U];simp
     simp only[cj,hget];unfold AZ;rcases C with⟨hw1,v,N,AG⟩|⟨hw1,hh1,hrd,hwr,AG⟩
     ·simp only[hwant,hw1,zb];obtain⟨hS',hev,c1,c2⟩:=Hg N agO agH;obtain⟨y,p1,p2,p3⟩:=next (fr1:=fr) AG (λx J=>(c1 x J).1) (λx J=>(c2 x J).2)
      obtain⟨tE,hE,q1,q2,q3⟩:=ih (E++[i]) y hS' he2 p2 p3;refine⟨tE,hE,?_,q2,q3⟩;rcases hev with hev|⟨hev,rfl⟩|⟨fid,args,hev,hcall⟩
      ·simp only[hev,L p1,q1]
      ·simp only[hev,L p1,q1]
      ·simp only[hev,hcall,L p1,q1]
     ·simp only[hwant,hw1,zj];obtain⟨y,p1,p2,p3⟩:=next (fr1:=fr) (hS':=hS) AG (λx J=>rfl) (λx J=>by rw[hwr]at J;simp at J)
      obtain⟨tE,hE,q1,q2,q3⟩:=ih (E++[i]) y hS he2 p2 p3;exact⟨tE,hE,by simp only[L p1,q1],q2,q3⟩
   obtain⟨tE',hE',q1,q2,q3⟩:=main σ [] fr.t h rfl
    (λk m' O hw=>by
     rw[<- k1];refine(ts_eq (bB _) O λj o _ F G l=> ?_).symm;have:=(hw j o G l).2 F
     simp at this)
    (λx m' O hw=>by
     rw[<- k2];refine(hp_eq (bB _) O λj _ F D=> ?_).symm;have:=(hw j (by omega) D).2 F
     simp at this)
   have eT:∀ k,tE'.get k=tE.get k:=by
    intro k;rw[<- k3];exact q2 k n (ab _) λj o G _=>by rw[Z]
   have eH:∀ x,hE'.get x=h'.get x:=by
    intro x;rw[<- k4];exact q3 x n (ab _) λj F _=>by rw[Z]
   have hran:=HY R (ops:=ops) (base:=base) _ q1 (λx J=>by
    obtain⟨i,hi,rfl⟩:=ba.1 J;have:=(Z i).1 hi
    simp[ak this]) k s f
   have hσ:(σ.map λi=>(i,(ops[i]?).getD default)).map (·.1)=σ:=by simp[cY,Function.comp_def]
   rw[hσ]at hran;obtain⟨M',μ',w',a',cs',r1,r2,r3,r4,r5⟩:=hran
   exact⟨M',μ',w',a',cs',r1.nx (λx=>(eH x).symm),r2,⟨⟨r3.t.1,r3.t.2.1,λk=>by
    have:=r3.t.2.2 k;simp only at this;rw[eT k]at this
    exact this⟩,r3.d,r3.u,r3.r⟩,r4,r5⟩
  ·cases e
 ·cases e
end
end
section
variable[Gl]
end
section
open Go.RowKit
theorem WStays.kept{w w':World}(h:WStays w w')(S:MemPlace->Prop):w.keptBut w' S:=by
 refine⟨h.os,h.output,λi hi=> ?_⟩;rw[h.keep i hi];cases a:w.heap[i]? with
 |none=>trivial
 |some o=>cases o<;>first|exact⟨rfl,rfl,rfl,λ_ _=>rfl⟩|exact .inr ⟨rfl,rfl⟩|rfl
theorem WStays.frozen{w w':World}(h:WStays w w'){a:Addr}(b:a.block<w.heap.size):w'.frozen? a=w.frozen? a:=by simp only[World.frozen?,h.keep _ b]
theorem WStays.refl(w:World):WStays w w:=⟨rfl,rfl,rfl,ab _,ab _,λ_ _=>rfl⟩
end
section
variable[Gl]
section
variable{P:Program}{sh:FuncId->Bool}{M:Al}{μ:Mu}{h:Hp}{w:World}
structure Kn where
 f:FuncId
 args:List PV
 q:PV
 h:Hp
def Hx(e:PV->PV->Bool):List PV->List PV->Bool
 |[],[]=>zt
 |a::l,b::m=>e a b&&Hx e l m
 |_,_=>zf
theorem H2{e:PV->PV->Bool}(c:∀ a b,e a b=zt->a=b):∀ {l m:List PV},Hx e l m=zt->l=m
 |[],[],_=>rfl
 |a::l,b::m,h=>by
  simp only[Hx,ac]at h;rw[c _ _ h.1,H2 c h.2]
 |[],_::_,h=>by simp[Hx]at h
 |_::_,[],h=>by simp[Hx]at h
def OY:List UInt8->List UInt8->Bool
 |[],[]=>zt
 |a::l,b::m=>aa a.toNat b.toNat&&OY l m
 |_,_=>zf
theorem NX:∀ {l m:List UInt8},OY l m=zt->l=m
 |[],[],_=>rfl
 |a::l,b::m,h=>by
  simp only[OY,ac]at h;rw[UInt8.toNat_inj.1 (ai h.1),NX h.2]
 |[],_::_,h=>by simp[OY]at h
 |_::_,[],h=>by simp[OY]at h
def PB:Nat->PV->PV->Bool
 |0,_,_=>zf
 |n+1,a,b=>match a with
  |.bool x=>(match b with
   |.bool y=>x == y
   |_=>zf)
  |.int k x=>(match b with
   |.int c y=>k == c&&x == y
   |_=>zf)
  |.str x=>(match b with
   |.str y=>OY x y
   |_=>zf)
  |.nilp=>(match b with
   |.nilp=>zt
   |_=>zf)
  |.nils=>(match b with
   |.nils=>zt
   |_=>zf)
  |.nilm=>(match b with
   |.nilm=>zt
   |_=>zf)
  |.nilf=>(match b with
   |.nilf=>zt
   |_=>zf)
  |.nili=>(match b with
   |.nili=>zt
   |_=>zf)
  |.agg x=>(match b with
   |.agg y=>Hx (PB n) x y
   |_=>zf)
  |.tup x=>(match b with
   |.tup y=>Hx (PB n) x y
   |_=>zf)
  |.lst f x=>(match b with
   |.lst g y=>f == g&&Hx (PB n) x y
   |_=>zf)
  |.ifc t x=>(match b with
   |.ifc u y=>aa t u&&PB n x y
   |_=>zf)
  |.own i x y=>(match b with
   |.own j u v=>aa i j&&(aa x u&&aa y v)
   |_=>zf)
  |_=>zf
theorem IU:∀ (n:Nat) (a b:PV),PB n a b=zt->a=b
 |0,_,_,h=>by simp[PB]at h
 |n+1,a,b,h=>by
  have c:∀ {l m:List PV},Hx (PB n) l m=zt->l=m:=λh=>H2 (IU n) h
  cases a<;>cases b<;>simp only[PB,ac,beq_iff_eq,reduceCtorEq]at h<;>first
   |rfl
   |(rw[h])
   |(rw[h.1,h.2])
   |(rw[NX h])
   |(rw[c h])
   |grind
   |(rw[ai h.1,IU n _ _ h.2])
   |simp_all
def UL(a b:Hp):Bool:=aa a.nx b.nx&&match a.m with
 |.lf=>(match b.m with
  |.lf=>zt
  |_=>zf)
 |.nd .lf (zo (.row es ex fz)) .lf=>(match b.m with
  |.nd .lf (zo (.row es' ex' fz')) .lf=>Hx (PB 60) es es'&&(ex == ex'&&fz == fz')
  |_=>zf)
 |_=>zf
theorem SC{a b:Hp}(h:UL a b=zt):a=b:=by
 unfold UL at h;rw[ac]at h;obtain⟨d,c⟩:=h;have d:=ai d;obtain⟨m,x⟩:=a;obtain⟨m',e⟩:=b;simp only at d c;subst d;split at c
 ·grind
 ·split at c
  ·simp only[ac,beq_iff_eq]at c
   grind [H2,IU]
  ·cases c
 ·cases c
def look:List Kn->FuncId->List PV->Option (PV×Hp)
 |[],_,_=>zn
 |e::l,f,as=>bif aa e.f f&&Hx (PB 60) e.args as then zo (e.q,e.h)else look l f as
def SP(L:List Kn)(rec:GH):GH:=λa up args h=>match a with
 |.fn f=>match up with
  |none=>match h.m with
   |.lf=>match look L f args with
    |some (q,h1)=>zo (.ret q,zn,h1)
    |none=>rec (.fn f) zn args h
   |.nd _ _ _=>rec (.fn f) zn args h
  |some u=>rec (.fn f) (zo u) args h
 |.yl l=>rec (.yl l) up args h
def UK(P:Program)(sh:FuncId->Bool)(F:Nat)(L:List Kn):Nat->GH
 |0=>λ_ _ _ _=>zn
 |n+1=>SP L (PU P sh F (UK P sh F L n))
def S4(P:Program)(sh:FuncId->Bool)(F:Nat)(L:List Kn)(n:Nat)(f:FuncId)(args:List PV):Option (PV×Hp):=
 match PU P sh F (UK P sh F L n) (.fn f) zn args { m:=.lf,nx:=0 }with
 |some (.ret r,_,h')=>Ag 0 [] { m:=.lf,nx:=0 } h' r
 |_=>zn
def NQ(P:Program)(sh:FuncId->Bool)(F:Nat)(L:List Kn)(n:Nat)(k:Kn):Bool:=match S4 P sh F L n k.f k.args with
 |some (q,h)=>PB 60 q k.q&&UL h k.h
 |none=>zf
theorem LB{P:Program}{sh:FuncId->Bool}{F:Nat}{L:List Kn}{n:Nat}{k:Kn}(e:NQ P sh F L n k=zt):S4 P sh F L n k.f k.args=zo (k.q,k.h):=by
 unfold NQ at e;split at e
 ·rename_i q h a;rw[ac]at e;rw[a,IU 60 _ _ e.1,SC e.2]
 ·cases e
def MN(P:Program)(L:List Kn):Prop:=∀ e∈L,∃ rec,RecOK P rec /\ ∃ r up h',rec (.fn e.f) zn e.args { m:=.lf,nx:=0 }=zo (.ret r,up,h')/\Ag 0 [] { m:=.lf,nx:=0 } h' r=zo (e.q,e.h)
theorem Nk:∀ {L:List Kn} {f:FuncId} {a:List PV} {q:PV} {b:Hp},look L f a=zo (q,b) -> ∃ e∈L,e.f=f/\e.args=a/\e.q=q/\e.h=b
 |[],_,_,_,_,h=>by cases h
 |e::l,f,a,q,b,h=>by
  unfold look at h;cases hc:aa e.f f&&Hx (PB 60) e.args a with
  |true=>
   rw[hc]at h;simp only[zb,Option.some.injEq,Prod.mk.injEq]at h;rw[ac]at hc;exact⟨e,bL ..,ai hc.1,H2 (IU 60) hc.2,h.1,h.2⟩
  |false=>
   rw[hc]at h;obtain⟨c,b,d⟩:=Nk h
   grind
theorem Nd(M:Al)(h:Hp)(μ:Mu)(w:World):Hj M h μ w []=M:=by
 grind [Hj,Nh]
theorem RS{L:List Kn}(K:MN P L){rec:GH}(R:RecOK P rec):RecOK P (SP L rec):=by
 refine⟨?_,?_,?_⟩
 ·intro f args h o a h' e M μ w vs s b cs;simp only[SP]at e;split at e
  ·rename_i B;split at e
   ·rename_i q N A;cases e;obtain⟨e,z,rfl,rfl,rfl,rfl⟩:=Nk A;obtain⟨j,p,r,up,O,D,E⟩:=K e z;have i:∀ k,h.get k=zn:=λk=>by simp only[Hp.get,B];rfl
    have s0:Sim M μ { m:=.lf,nx:=0 } w:=s.nx λk=>by rw[i];rfl
    have hμ:μ=mu0:=by
     funext id
     cases hi:μ id with
     |none=>rfl
     |some r=>exact absurd (i id) (s.use id r hi).1
    subst hμ;obtain⟨J,μ2,I,fr,s2,t,G,c,x,C,d⟩:=p.nrm D s0 b cs;obtain⟨n,μ3,F,y,g⟩:=CJ (L:=[]) s0 s2 (by rw[Nd];exact t) C E;exact⟨n,μ3,I,fr,F,y,G,c,x,g,d⟩
   ·exact R.nrm e s b cs
  ·exact R.nrm e s b cs
 ·intro f u args h o a h' e;exact R.dfr e
 ·intro l args h o a h' e;exact R.yld e
theorem MY(a:Cz P){L:List Kn}(K:MN P L)(F:Nat):∀ n,RecOK P (UK P sh F L n)
 |0=>Lq P
 |n+1=>RS K (J1 a (λrec R=>GU (P:=P) (rec:=rec) R) F (MY a K F n))
theorem Uc(P:Program):MN P []:=λe a=>by cases a
theorem Ts(a:Cz P){L:List Kn}(K:MN P L){F n:Nat}{k:Kn}(e:NQ P sh F L n k=zt):MN P (k::L):=λc hk=>by
 rcases aj.1 hk with rfl|hk
 ·have e:=LB e;unfold S4 at e;split at e
  ·rename_i r u h' b;exact⟨_,J1 a (λrec R=>GU (P:=P) (rec:=rec) R) F (MY a K F n),r,u,h',b,e⟩
  ·cases e
 ·exact K c hk
theorem RM(c:Cz P){L:List Kn}(K:MN P L){F n:Nat}{f:FuncId}{v:PV}{h:Hp}(e:S4 P sh F L n f []=zo (v,h))(k:flat v=zt)(w:World)(g:GlW w) :
  Calls P f #[] w λe w'=>(∃ x,e=.returned x/\Rep (λ_=>zn) mu0 v x)/\WStays w w':=by
 intro cs;unfold S4 at e;split at e
 ·rename_i r u h' i;have R:=J1 (sh:=sh) c (λrec R=>GU (P:=P) (rec:=rec) R) F (MY (sh:=sh) c K F n);obtain⟨M0,s0⟩:=g.sim;obtain⟨o,μ',w',fr,s1,d,m,a,x,l,j⟩:=R.nrm i s0 (RepL.nil _ _) cs;obtain⟨p,μ3,s,q,b⟩:=CJ (L:=[]) s0 s1 (by rw[Nd];exact d) l e;exact⟨.returned x,w',fr,⟨⟨x,rfl,D0 k _ _ b⟩,d.stays⟩,m,a,j⟩
 ·cases e
end
end
section
variable[Gl]
def GJ(r b:GH):Prop:=∀ a up args h x,r a up args h=zo x->b a up args h=zo x
section
variable{P:Program}{sh:FuncId->Bool}{rec rec':GH}
theorem JM(L:GJ rec rec'){id:Nat}{f:FuncId}{args:List PV}{h:Hp}{x:Out×Hp}(e:A9 sh rec id f args h=zo x):A9 sh rec' id f args h=zo x:=by
 unfold A9 at e ⊢;cases hs:sh f with
 |true=>
  simp only[hs,zb]at e ⊢;cases b:rec (.fn f) zn args h with
  |none=>rw[b]at e;cases e
  |some y=>rw[b]at e;rw[L _ _ _ _ _ b];exact e
 |false=>
  simp only[hs,zj]at e ⊢;cases c:Ap h args with
  |none=>rw[c]at e;cases e
  |some a=>
   rw[c]at e;simp only at e ⊢;cases b:rec (.fn f) zn a.1 { m:=.lf,nx:=0 }with
   |none=>rw[b]at e;cases e
   |some y=>rw[b]at e;rw[L _ _ _ _ _ b];exact e
theorem Jq(L:GJ rec rec'){base:Nat}{ops:List Oper}:∀ {l:List (Nat×Oper)} {fr:Fr} {h:Hp} {x:Ex×Fr×Hp},AZ P sh rec base ops l fr h=zo x->AZ P sh rec' base ops l fr h=zo x
 |[],fr,h,x,e=>e
 |(i,o)::r,fr,h,x,e=>by
  unfold AZ at e ⊢
  have put:∀ {fr:Fr} {c:Option Nat} {v:PV} {h:Hp},(match fr.put c v with
    |some fr=>AZ P sh rec base ops r fr h
    |none=>zn)=zo x->(match fr.put c v with
    |some fr=>AZ P sh rec' base ops r fr h
    |none=>zn)=zo x:=by
   intro fr c v h e;split at e
   ·rename_i fr1 A;exact Jq L e
   ·cases e
  cases w:A8 ops fr.t o.guard with
  |false=>simp only[w,zj]at e ⊢;exact put (h:=h) e
  |true=>
   simp only[w,zb]at e ⊢;cases q:AP P fr.t h (base+i) o with
   |none=>rw[q]at e;cases e
   |some y=>
    rw[q]at e;cases y with
    |val v j=>exact put (h:=j) e
    |skip j=>exact put (h:=j) e
    |dfr d=>
     simp only at e ⊢;cases b:fr.ro with
     |none=>rw[b]at e;exact put e
     |some _=>rw[b]at e;cases e
    |call f args=>
     simp only at e ⊢;cases k:A9 sh rec (base+i) f args h with
     |none=>rw[k]at e;cases e
     |some z=>
      rw[k]at e;rw[JM L k];obtain⟨o',h'⟩:=z;cases o' with
      |ret v=>exact put (h:=h') e
      |pan g=>
       cases g with
       |nil=>cases e
       |cons a l=>
        obtain⟨v,p⟩:=a;cases l<;>cases p<;>first|exact e|cases e
    |yield l args=>
     simp only at e ⊢;cases m:rec (.yl l) zn args h with
     |none=>rw[m]at e;cases e
     |some z=>
      rw[m]at e;rw[L _ _ _ _ _ m];obtain⟨o',B,h'⟩:=z;cases o' with
      |ret v=>exact put e
      |pan g=>exact e
    |pan v=>exact e
    |rcv=>
     simp only at e ⊢;cases b:fr.ro with
     |some _=>rw[b]at e;cases e
     |none=>
      rw[b]at e;simp only at e ⊢;cases s:fr.up with
      |none=>rw[s]at e;exact put (h:=h) e
      |some u=>
       rw[s]at e;cases u with
       |ret=>exact put (h:=h) e
       |pan g=>
        cases g with
        |nil=>exact put (h:=h) e
        |cons a n=>
         obtain⟨v,p⟩:=a;cases p<;>exact put (h:=h) e
theorem Ma(L:GJ rec rec'){t:T PV}{h:Hp}{id:Nat}{o:Oper}{x:PV×Hp×List Nat×List Nat}(e:Ay P rec t h id o=zo x):Ay P rec' t h id o=zo x:=by
 unfold Ay at e ⊢;dsimp only at e ⊢;cases hc : !Av o.op || !ae id (id+1)with
 |true=>rw[hc]at e;cases e
 |false=>
  rw[hc]at e;simp only[zj]at e ⊢;cases c:AP P t (h.cut (id::Aw t h o.op)) id o with
  |none=>rw[c]at e;cases e
  |some y=>
   rw[c]at e;cases y with
   |call f args=>
    simp only at e ⊢;cases d:Ap h args with
    |none=>rw[d]at e;cases e
    |some a=>
     rw[d]at e;simp only at e ⊢;cases b:A9 (λ_=>zf) rec id f args (h.cut (id::a.2))with
     |none=>rw[b]at e;cases e
     |some z=>rw[b]at e;rw[JM L b];exact e
   |_=>exact e
theorem DG(L:GJ rec rec'){base nt:Nat}{ops:List Oper}:∀ {l:List Oper} {i:Nat} {f:List Mk} {a:List (Nat×List Nat×List Nat)} {t:T PV} {h:Hp} {x:T PV×Hp},AX P rec base nt ops i l f a t h=zo x->AX P rec' base nt ops i l f a t h=zo x
 |[],i,f,a,t,h,x,e=>by unfold AX at e ⊢;exact e
 |o::l,i,[],a,t,h,x,e=>by unfold AX at e;cases e
 |o::l,i,m::f,a,t,h,x,e=>by
  unfold AX at e ⊢;cases j:A8 ops t o.guard with
  |true=>
   simp only[j,zb]at e ⊢;cases g:Ay P rec t h (base+i) o with
   |none=>rw[g]at e;cases e
   |some z=>
    rw[g]at e;rw[Ma L g];obtain⟨v,k,rd,wr⟩:=z;simp only at e ⊢;cases hh:F3 m.bef rd wr a with
    |false=>rw[hh]at e;cases e
    |true=>
     simp only[hh,zb]at e ⊢;cases b:o.dst with
     |none=>rw[b]at e;exact DG L e
     |some d=>
      rw[b]at e;simp only at e ⊢;cases c:ae d nt with
      |false=>rw[c]at e;cases e
      |true=>rw[c]at e;exact DG L e
  |false=>
   simp only[j,zj]at e ⊢;cases b:o.dst with
   |none=>rw[b]at e;exact DG L e
   |some d=>
    rw[b]at e;simp only at e ⊢;cases c:ae d nt with
    |false=>rw[c]at e;cases e
    |true=>rw[c]at e;exact DG L e
theorem PW(L:GJ rec rec'){base:Nat}{ops:List Oper}{fr:Fr}{h:Hp}{x:Fr×Hp}(e:drawn P rec base ops fr h=zo x):drawn P rec' base ops fr h=zo x:=by
 unfold drawn at e ⊢;split at e
 ·rename_i b c;cases a:AX P rec base fr.nt ops 0 ops b [] fr.t h with
  |none=>rw[a]at e;cases e
  |some z=>rw[a]at e;rw[DG L a];exact e
 ·cases e
theorem Cn(L:GJ rec rec'):∀ {n k:Nat} {c:Code} {fr:Fr} {h:Hp} {x:Ex×Fr×Hp},n<=k->AY P sh rec n c fr h=zo x->AY P sh rec' k c fr h=zo x
 |0,k,c,fr,h,x,j,e=>by unfold AY at e;cases e
 |n+1,k,c,fr,h,x,j,e=>by
  obtain⟨m,rfl⟩:∃ m,k=m+1:=⟨k-1,by omega⟩;have j:n<=m:=by omega
  unfold AY at e ⊢;cases c with
  |skip=>exact e
  |label _=>exact e
  |seq a b=>
   simp only at e ⊢;cases i:AY P sh rec n a fr h with
   |none=>rw[i]at e;cases e
   |some y=>
    rw[i]at e;rw[Cn L j i];obtain⟨ex,fr1,u⟩:=y;cases ex<;>first|exact Cn L j e|exact e
  |cond c a b=>
   simp only at e ⊢;cases hc:CO fr.t c with
   |none=>rw[hc]at e;cases e
   |some v=>
    rw[hc]at e;cases v with
    |bool b=>cases b<;>exact Cn L j e
    |_=>cases e
  |block id b=>
   simp only at e ⊢;cases i:AY P sh rec n b fr h with
   |none=>rw[i]at e;cases e
   |some y=>rw[i]at e;rw[Cn L j i];exact e
  |loop b=>
   simp only at e ⊢;cases i:AY P sh rec n b fr h with
   |none=>rw[i]at e;cases e
   |some y=>
    rw[i]at e;rw[Cn L j i];obtain⟨ex,fr1,u⟩:=y;cases ex<;>first|exact Cn L j e|exact e
  |scope b=>
   simp only at e ⊢;cases i:AY P sh rec n b fr h with
   |none=>rw[i]at e;cases e
   |some y=>rw[i]at e;rw[Cn L j i];exact e
  |exit _=>exact e
  |goto _=>exact e
  |ret=>exact e
  |refuse _=>exact e
  |region id ops l=>
   cases l with
   |false=>exact Jq L e
   |true=>
    simp only[zb]at e ⊢;cases w:P.follows .mixedOrders || !Region.departs ops with
    |false=>rw[w]at e;cases e
    |true=>
     simp only[w,zb]at e ⊢;cases q:drawn P rec h.nx ops.toList fr { h with nx:=h.nx+ops.size }with
     |none=>rw[q]at e;cases e
     |some z=>rw[q]at e;rw[PW L q];exact e
  |rangeFunc g F A s=>
   simp only at e ⊢;split at e
   ·rename_i f a b D
    try simp only[D]
    split at e
    ·rename_i d mark u E
     try simp only[E]
     split at e
     ·rename_i C p
      try simp only[p]
      split at e
      ·rename_i B args o
       try simp only[o]
       cases r:rec (.fn B) zn args { C with nx:=h.nx+1+1 }with
       |none=>rw[r]at e;cases e
       |some z=>rw[r]at e;rw[L _ _ _ _ _ r];exact e
      ·cases e
     ·cases e
    ·cases e
   ·cases e
theorem Gg(L:GJ rec rec'){q:Func}:∀ {n j:Nat} {i:List DF} {u:UM} {t:T PV} {h:Hp} {x:Out×Hp},n<=j->leave P rec q n i u t h=zo x->leave P rec' q j i u t h=zo x
 |0,j,i,u,t,h,x,o,e=>by unfold leave at e;cases e
 |n+1,j,i,u,t,h,x,o,e=>by
  obtain⟨m,rfl⟩:∃ m,j=m+1:=⟨j-1,by omega⟩;have o:n<=m:=by omega
  unfold leave at e ⊢;cases i with
  |nil=>exact e
  |cons d i=>
   cases d with
   |col id=>
    simp only at e ⊢;split at e
    ·rename_i l B
     try simp only[B]
     split at e
     ·rename_i y hs
      try simp only[hs]
      exact Gg L o e
     ·cases e
    ·cases e
   |bi b s ty args=>
    simp only at e ⊢;split at e
    ·split at e
     ·rename_i v y A
      try simp only[A]
      exact Gg L o e
     ·cases e
    ·cases e
   |call f args=>
    simp only at e ⊢;split at e
    ·rename_i g a b;split at e
     ·rename_i w c k
      try simp only[k]
      cases p:rec (.fn w) (zo u) c h with
      |none=>rw[p]at e;cases e
      |some z=>
       rw[p]at e;rw[L _ _ _ _ _ p];obtain⟨o',r,h'⟩:=z;cases o' with
       |ret v=>
        cases r with
        |some r=>exact Gg L o e
        |none=>cases e
       |pan C=>cases e
     ·cases e
    ·cases e
theorem PS{F j:Nat}(k:F<=j):∀ {n i:Nat},n<=i->GJ (B5 P sh F n) (B5 P sh j i)
 |0,i,_=>λG up args h x e=>by cases e
 |n+1,i,hn=>λG up args h x e=>by
  obtain⟨m,rfl⟩:∃ m,i=m+1:=⟨i-1,by omega⟩;have L:GJ (B5 P sh F n) (B5 P sh j m):=PS k (by omega);unfold B5 PU at e ⊢
  have tail:∀ {fn:Func} {fr:Fr} {ds:List DF} {u:UM} {h:Hp},(match leave P (B5 P sh F n) fn F ds u fr.t h with
    |some (o,h)=>zo (o,fr.up,h)
    |none=>zn)=zo x->(match leave P (B5 P sh j m) fn j ds u fr.t h with
    |some (o,h)=>zo (o,fr.up,h)
    |none=>zn)=zo x:=by
   intro fn fr ds u h e;cases A:leave P (B5 P sh F n) fn F ds u fr.t h with
   |none=>rw[A]at e;cases e
   |some z=>rw[A]at e;rw[Gg L k A];exact e
  cases G with
  |fn f=>
   simp only at e ⊢;split at e
   ·rename_i p B
    try simp only[B]
    exact e
   rename_i B
   try simp only[B]
   split at e
   ·rename_i fn s
    try simp only[s]
    split at e
    ·rename_i c hc
     try simp only[hc]
     cases D:ad args.length fn.ntmps&&ae fn.ntmps 1048575 with
     |false=>simp only[D,zj]at e;cases e
     |true=>
      simp only[D,zb]at e ⊢;cases b:AY P sh (B5 P sh F n) F c { t:=Bq 0 args .lf,nt:=fn.ntmps,ds:=[],up,ro:=zn } h with
      |none=>rw[b]at e;cases e
      |some y=>
       rw[b]at e;rw[Cn L k b];obtain⟨ex,fr1,I⟩:=y;cases ex with
       |normal=>exact tail e
       |ret=>exact tail e
       |panic v=>exact tail e
       |_=>cases e
    ·cases e
   ·cases e
  |yl l=>
   simp only at e ⊢;split at e
   ·rename_i Y W nt t X q a d K
    try simp only[K]
    split at e
    ·rename_i S M
     try simp only[M]
     cases b:AY P sh (B5 P sh F n) F q { t:=S,nt,ds:=[],up:=zn,ro:=zo l } h with
     |none=>rw[b]at e;cases e
     |some y=>
      rw[b]at e;rw[Cn L k b];obtain⟨ex,fr1,I⟩:=y;cases ex with
      |normal=>
       simp only at e ⊢;split at e
       ·rename_i E N Z O C r U w
        try simp only[w]
        split at e
        ·rename_i J hs
         try simp only[hs]
         cases g:AY P sh (B5 P sh F n) F a fr1 J with
         |none=>rw[g]at e;cases e
         |some y2=>rw[g]at e;rw[Cn L k g];exact e
        ·cases e
       ·cases e
      |_=>cases e
    ·cases e
   ·cases e
end
end
section
variable[Gl]
open Go.RowKit
section
variable{P:Program}{M:Al}{μ:Mu}{h:Hp}{w:World}
theorem Sim.junk(s:Sim M μ h w)(arr:Array Value)(ty:TypeId):∃ a,Sim a μ h (w.alloc (.cells arr ty))/\Grow M μ w a μ (w.alloc (.cells arr ty)):=
 have d:=s.data (w':=w.alloc (.cells arr ty)) (arr:=arr) (ty:=ty) rfl
 ⟨_,d.1,Grow.data (o:=.cells arr ty (0,0)) d.2 rfl rfl rfl ⟨rfl,ab _⟩⟩
theorem Ta(s:Sim M μ h w){T:TypeId}{id off:Nat}{a:PV}{h':Hp}(e:A3 P h T (.ptr id off) a=zo (.skip h')){x:Value}(j:Rep M μ (.ptr id off) x) :
  ∃ b o k,x=.pointer (zo ⟨b,o,zn⟩)/\w.cell? ⟨b,o,zn⟩=zo k/\w.frozen? ⟨b,o,zn⟩=zf:=by
 unfold A3 at e;split at e
 ·rename_i n y;replace e:=Bl e;obtain⟨hc,e⟩:=e;simp only at e;split at e
  ·rename_i cs m;replace e:=Ad e;obtain⟨d,e⟩:=e;have d:=Nat.le_of_ble_eq_true d;simp only[af,aq]at hc;have q:0<n:=by have:=hc.1;simpa using this
   cases j with
   |ptr _ _ _ r j=>
    obtain⟨z,f,g⟩:=s.blk id _ m;rw[j]at f;cases f;obtain⟨c,arr,ty,l,p,t,u⟩:=g;have c:=c.1;have i:off<arr.size:=by omega
    refine⟨r.b,r.base+off,arr[off],rfl,?_,?_⟩
    ·rw[cell?_eq (a:=⟨r.b,r.base+off,zn⟩) l rfl,c];simp[i]
    ·simp[World.frozen?,l]
  ·cases e
 ·cases e
theorem Gl.handle(c:GlOK M){g a b o:Nat}(e:Gl.g g=zo [.ifc a (.agg [.adr b o])]):M ⟨g,0,zn⟩=zo (.iface a (.agg #[.pointer (zo ⟨b,o,zn⟩)])):=by
 obtain⟨x,d,_,f⟩:=c g _ e;rw[d 0 _ rfl];have:=f 0 _ rfl;generalize x 0=v at this;cases this with
 |ifc _ _ _ y hy=>
  cases hy with
  |agg _ _ vs hl _ hv=>
   obtain⟨z,h⟩:∃ z,vs = #[z]:=by
    obtain⟨l⟩:=vs
    match l,hl with
    |[z],_=>exact⟨z,rfl⟩
   subst h;have:=hv 0 _ z rfl rfl;cases this;rfl
theorem TY{c:PV}{μ:Mu}{x:Value}(a:Rep M μ (.agg [c]) x):∃ z,x=.agg #[z]/\z.oneCell'=zt/\Rep M μ c z:=by
 cases a with
 |agg _ _ vs hl h1 hv=>
  obtain⟨z,b⟩:∃ z,vs = #[z]:=by
   obtain⟨l⟩:=vs
   match l,hl with
   |[z],_=>exact⟨z,rfl⟩
  subst b;exact⟨z,rfl,h1 0 z rfl,hv 0 _ z rfl rfl⟩
def D6(w:World):Al:=λa=>if a.spot=zn then w.cell? a else zn
theorem UR{w:World}(hc:∀ (g:Nat) (cs:List PV),Gl.g g=zo cs -> ∀ (j:Nat) (c:PV),cs[j]?=zo c -> ∃ x,w.cell? ⟨g,j,zn⟩=zo x/\x.oneCell'=zt/\Rep (D6 w) mu0 c x):GlW w:=by
 refine⟨D6 w,λg cs e=> ?_,λa v e=> ?_⟩
 ·have H:=hc g cs e;refine⟨λj=>match w.cell? ⟨g,j,zn⟩with|some x=>x|none=>.nilIface,λj c h=> ?_,λj c h=> ?_,λj c h=> ?_⟩
  all_goals obtain⟨x,b,d,f⟩:=H j c h
  ·unfold D6;simp only[zy,b]
  ·simp only[b];exact d
  ·simp only[b];exact f
 ·unfold D6 at e;by_cases hs:a.spot=zn
  ·rw[zy hs]at e;exact⟨hs,e⟩
  ·rw[zx hs]at e;cases e
theorem Tw{f:FuncId}{vs:List Value}{v:Value}{Q:World->Prop}(hc:Calls P f vs.toArray w λe w'=>e=.returned v/\Q w')(cs:List Frame) :
  ∃ w' fr,Q w'/\Steps P (lone (Frame.enter P f vs.toArray .normal) cs w) (lone fr cs w')/\fr.fn=f/\fr.leaving P w' (.returned v):=by
 obtain⟨e,w',fr,⟨rfl,d⟩,a,b,c⟩:=hc cs;exact⟨w',fr,d,a,b,c⟩
theorem Hw:∀ (a b:List UInt8),(bif Op.bytesLess a b then(-1:Int)else bif a == b then 0 else 1)=Lib.compareBytes a b
 |[],[]=>rfl
 |[],_::_=>rfl
 |_::_,[]=>rfl
 |a::as,b::bs=>by
  unfold Lib.compareBytes;have k:=Hw as bs;by_cases h:a<b
  ·simp[Op.bytesLess,h]
  ·by_cases c:b<a
   ·have d:a≠b:=by intro e;subst e;exact absurd c h
    have i:(a == b)=zf:=by simpa using d
    simp[Op.bytesLess,h,c,i]
   ·have j:a=b:=by
     have f:=cX.1 h;have g:=cX.1 c;exact UInt8.le_antisymm g f
    subst j;simp only[h,if_false];rw[<- k];simp[Op.bytesLess,UInt8.lt_irrefl]
end
end
section
open Go.RowKit
@[reducible] def Og(G:Gl)(a:FuncId)(p:Pr):Gl:=⟨G.g,λf=>bif aa f a then zo p else G.pr f⟩
section
variable{G:Gl}{P:Program}{M:Al}{μ:Mu}{h:Hp}{w:World}{f0:FuncId}{p0:Pr}
theorem Sd(s : @Sim G M μ h w) : @Sim (Og G f0 p0) M μ h w:=@Sim.mk (Og G f0 p0) M μ h w s.glb s.mem s.blk s.use s.inj s.sep
theorem Qh(s : @Sim (Og G f0 p0) M μ h w) : @Sim G M μ h w:=by
 obtain⟨a,b,c,d,e,f⟩:=s;exact @Sim.mk G M μ h w a b c d e f
theorem O5[Gl](s:Sim M μ h w){w':World}(hs:w.heap.size<=w'.heap.size)(i:∀ b,b<w.heap.size->w'.heap[b]?=w.heap[b]?):Sim M μ h w':=by
 refine⟨s.glb,λa v e=> ?_,λid b k=> ?_,λid r c=> ?_,s.inj,s.sep⟩
 ·obtain⟨j,g⟩:=s.mem a v e;refine⟨j,?_⟩
  have f:a.block<w.heap.size:=by
   rcases Nat.lt_or_ge a.block w.heap.size with h|h
   ·exact h
   ·simp[World.cell?,Array.getElem?_eq_none h]at g
  rw[<- g];simp only[World.cell?,i _ f]
 ·obtain⟨r,c,d⟩:=s.blk id b k;exact⟨r,c,by rw[i _ (s.use id r c).2];exact d⟩
 ·exact⟨(s.use id r c).1,Nat.lt_of_lt_of_le (s.use id r c).2 hs⟩
theorem Mr[Gl]{w':World}(hs:WStays w w'):Grow M μ w M μ w':=⟨.refl _,.refl _,λ_ _ h=>.inl h,λid r h=>.inl ⟨id,r,h,rfl⟩,hs.size,λb a _=>hs.keep b a,hs.os,hs.output,hs.tape,hs.dr⟩
theorem Ra(i : @Cz G P)(H:∀ (args:List PV) (h:Hp) (v:PV) (h':Hp),Kq P p0 args h=zo (v,h') -> ∀ (M:Al) (μ:Mu) (w:World) (vs:List Value),@Sim G M μ h w->RepL M μ args vs -> ∀ cs,∃ a μ' w' fr x,@Sim G a μ' h' w'/\Grow M μ w a μ' w' /\
  Steps P (lone (Frame.enter P f0 vs.toArray .normal) cs w) (lone fr cs w')/\fr.fn=f0/\Rep a μ' v x/\fr.leaving P w' (.returned x)) : @Cz (Og G f0 p0) P:=by
 intro f p D1 args h v h' g M μ w vs s e cs;have b:(bif aa f f0 then zo p0 else G.pr f)=zo p:=D1
 have c:∀ {d:FuncId},f=d->(∃ a μ' w' fr x,@Sim G a μ' h' w'/\Grow M μ w a μ' w'/\Steps P (lone (Frame.enter P d vs.toArray .normal) cs w) (lone fr cs w')/\fr.fn=d/\Rep a μ' v x/\fr.leaving P w' (.returned x)) ->
   ∃ a μ' w' fr x,@Sim (Og G f0 p0) a μ' h' w'/\Grow M μ w a μ' w'/\Steps P (lone (Frame.enter P f vs.toArray .normal) cs w) (lone fr cs w')/\fr.fn=f/\Rep a μ' v x/\fr.leaving P w' (.returned x):=by
  rintro d rfl ⟨a,μ',w',fr,x,s',r⟩;exact⟨a,μ',w',fr,x,Sd s',r⟩
 cases e1:aa f f0 with
 |true=>
  rw[e1]at b;simp only[zb,Option.some.injEq]at b;subst b;exact c (ai e1) (H args h v h' g M μ w vs (Qh s) e cs)
 |false=>
  rw[e1]at b;simp only[zj]at b;exact c rfl (i f p b args h v h' g M μ w vs (Qh s) e cs)
theorem Tv(c : @Cz G P){L:List Kn}(K : @MN G P L){sh:FuncId->Bool}{F n:Nat}{b:Bool}(e : @NQ G P sh F L n ⟨f0,[],.bool b,⟨.lf,0⟩⟩=zt) : @Cz (Og G f0 (.kn b)) P:=by
 refine Ra c λargs h v h' d M μ w vs s f cs=> ?_;cases args with
 |cons _ _=>cases d
 |nil=>
  cases d;cases f.nil_inv;obtain⟨l,w',fr,⟨⟨x,g,j⟩,hs⟩,k,a,i⟩:=@RM G P sh c L K F n f0 (.bool b) ⟨.lf,0⟩ (@LB G P sh F L n _ e) rfl w ⟨M,s.glb,s.mem⟩ cs;cases j;subst g;exact⟨M,μ,w',fr,.bool b,@O5 _ _ _ _ G s w' hs.size hs.keep,Mr hs,k,a,.bool _ _,i⟩
end
end
end Go.Proofs.YtoefnfbpoabinaaGreatDoor.Pi
