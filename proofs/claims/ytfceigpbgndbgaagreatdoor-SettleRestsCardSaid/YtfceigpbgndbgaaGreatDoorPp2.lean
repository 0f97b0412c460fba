/- A part of the evaluator of the model's code for any program, and of the proof that it is sound. No condition. -/
import Derived.Test.YtfceigpbgndbgaaGreatDoorPp1
import Derived.RowKit3
import Derived.WalkKit
import Derived.Lib.Bytealg
set_option linter.all false
open List renaming append_assoc->bh, append_inj'->cV, append_of_mem->cK, getElem?_cons_zero->aW, getElem?_eq_getElem->ae, getElem?_take->aA, length_cons->aR, length_erase_of_mem->cv, map_cons->cB, map_map->dm, mem_append->an, mem_append_left->ao, mem_cons->ai, mem_cons_of_mem->aB, mem_cons_self->bX, mem_map->bl, mem_reverse->cX, mem_singleton->aw, nodup_cons->bC, range->bT
open Nat renaming add_zero->bg, beq->aa, ble->ah, blt->af, blt_eq->bR, eq_of_beq_eq_true->aj, le_refl->ad, lor->bS, lt_trichotomy->cY, strongRecOn->di, testBit_and->cm, testBit_two_pow->bW, zero_add->aN, zero_le->bD
open Array renaming all_eq_true_iff_forall_mem->bY, getD_eq_getD_getElem?->aD, getElem?_eq_getElem->al, getElem?_eq_some_iff->bE, mem_toList_iff->bx, replicate->bz
open Option renaming getD_some->aE, map_some->ap
open Bool renaming and_eq_true->ac, cond_eq_ite->az, false_or->dj, not_eq_false'->ay, not_eq_true'->bf, not_true->au, or_eq_false_iff->ak, or_eq_true->bB
open UInt8 renaming not_lt->dl
open Option renaming some->zo, none->zn
open Bool renaming true->zt, false->zf
namespace Go.Proofs.YtfceigpbgndbgaaGreatDoor.Pi
section
variable[Gl]
def E6(P:Program)(rec:GE):Prop:=∀ {ops:Array Oper} {base:Nat} {fr c:Fr} {h h':Hp},drawn P rec base ops.toList fr h=zo (c,h')->(P.follows .mixedOrders || !Region.departs ops)=zt ->
 ∀ {M:Ak} {μ:Mu} {w:World} {b:Frame} {a:Act} {cs:List Frame} (k:List Item) (t:Nat),Sim M μ h w->FrRep M μ fr b a cs->Ran P M μ w (lone (b.atR a (.inRegion ops (Region.schedule (P.follows .mixedOrders) ops t)::k)) cs w) b k cs .normal c h'
section
variable{P:Program}{sh:FuncId->Bool}{rec:GE}
theorem NY{α:Type}:∀ (l:List α) (n:Nat),(HB n l).map (·.1)=(bT l.length).map (n+·)
 |[],n=>rfl
 |a::l,n=>by
  simp only[HB,cB,aR,List.range_succ_eq_map,dm];rw[NY l (n+1)];simp only[bg,List.cons.injEq,true_and];apply List.map_congr_left;intro x _;simp only[Function.comp];omega
theorem NZ{α:Type}:∀ (l:List α) (n:Nat),∀ x∈HB n l,n<=x.1/\l[x.1-n]?=zo x.2
 |[],n,x,hx=>by simp[HB]at hx
 |a::l,n,x,hx=>by
  simp only[HB,ai]at hx;rcases hx with rfl|hx
  ·simp
  ·obtain⟨c,b⟩:=NZ l (n+1) x hx;refine⟨by omega,?_⟩;rw[show x.1-n=(x.1-(n+1))+1 by omega];simpa using b
section
variable{M:Ak}{μ:Mu}{h h':Hp}{w:World}{b:Frame}{a:Act}{cs:List Frame}{k:List Item}{fr fr':Fr}{ex:Ex}{m:Machine}
theorem Ran.step{a:Machine}(hs:step P m=.next a)(c:Ran P M μ w a b k cs ex fr' h'):Ran P M μ w m b k cs ex fr' h':=
 let ⟨M',μ',w',a',cs',q1,q2,q3,q4,q5⟩:=c
 ⟨M',μ',w',a',cs',q1,q2,q3,q4,.of_steps (.one hs) q5⟩
theorem Ran.then{fr1:Fr}{g:Hp}{h:List Item}(p:Ran P M μ w m b h cs .normal fr1 g)
  (o:∀ {c μ1 d e a},Sim c μ1 g d->FrRep c μ1 fr1 b e a->Ran P c μ1 d (lone (b.atR e h) a d) b k a ex fr' h'):Ran P M μ w m b k cs ex fr' h':=by
 obtain⟨c,μ1,d,e,a,s1,n,l,y,x⟩:=p;obtain⟨i,μ',w',j,f,q,r,s,t,u⟩:=o s1 l;exact⟨i,μ',w',j,f,q,n.trans r,s,y.trans t,.of_steps x u⟩
theorem Ran.pass{x:Item}(q:x.plain=zt)(f:ex ≠ .normal)(j:Ran P M μ w m b (x::k) cs ex fr' h'):Ran P M μ w m b k cs ex fr' h':=by
 obtain⟨h,μ',w',i,c,l,n,o,p,a⟩:=j;refine⟨h,μ',w',i,c,l,n,o,p,?_⟩;cases ex with
 |normal=>exact absurd rfl f
 |exit id=>obtain⟨g,d,e⟩:=a;exact⟨g,by rw[d];cases x<;>simp_all[exitTo,Item.plain],e⟩
 |goto id=>obtain⟨g,d,e⟩:=a;exact⟨g,by rw[d];cases x<;>simp_all[gotoIn,Item.plain],e⟩
 |ret=>exact a
 |panic v=>exact a
end
theorem Cq{r:Nat}{l:Loop}{w:World}(a:w.heap[r]?=zo (.loop l)):(Instr.getLoop r).run P w=.ok l w:=by
 simp[Instr.getLoop,getObj,Sem.run,a]
theorem J4(R:RecOK P rec)(D:E6 P rec):∀ (n:Nat),
  (∀ {c:Code} {fr C:Fr} {h h':Hp} {ex:Ex},exec P sh rec n c fr h=zo (ex,C,h') ->
   ∀ {M:Ak} {μ:Mu} {w:World} {b:Frame} {a:Act} {cs:List Frame} (k:List Item),Sim M μ h w->FrRep M μ fr b a cs->Ran P M μ w (lone (b.atR a (.code c::k)) cs w) b k cs ex C h') /\
  (∀ {c:Code} {fr C:Fr} {h h':Hp} {ex:Ex},exec P sh rec n (.loop c) fr h=zo (ex,C,h') ->
   ∀ {M:Ak} {μ:Mu} {w:World} {b:Frame} {a:Act} {cs:List Frame} (k:List Item),Sim M μ h w->FrRep M μ fr b a cs->Ran P M μ w (lone (b.atR a (.inLoop c::k)) cs w) b k cs ex C h')
 |0=>⟨λe=>by simp[exec]at e,λe=>by simp[exec]at e⟩
 |n+1=>by
  obtain⟨L,ihB⟩:=J4 R D n
  have G:∀ {c:Code} {fr C:Fr} {h h':Hp} {ex:Ex},exec P sh rec (n+1) (.loop c) fr h=zo (ex,C,h') ->
    ∀ {M:Ak} {μ:Mu} {w:World} {b:Frame} {a:Act} {cs:List Frame} (k:List Item),Sim M μ h w->FrRep M μ fr b a cs->Ran P M μ w (lone (b.atR a (.code c :: .inLoop c::k)) cs w) b k cs ex C h':=by
   intro c fr C h h' ex e M μ w b a cs k s f;simp only[exec]at e;cases hc:exec P sh rec n c fr h with
   |none=>rw[hc]at e;cases e
   |some r=>
    obtain⟨I,fr1,h1⟩:=r;rw[hc]at e;have B:=L hc (.inLoop c::k) s f;cases I with
    |normal=>exact B.then λs1 f1=>ihB e k s1 f1
    |exit id=>cases e;exact B.pass rfl (by intro h;cases h)
    |goto id=>cases e;exact B.pass rfl (by intro h;cases h)
    |ret=>cases e;exact B.pass rfl (by intro h;cases h)
    |panic v=>cases e;exact B.pass rfl (by intro h;cases h)
  refine⟨?_,λe M μ w b a cs k s f=>(G e k s f).step stepR_inLoop⟩;intro c fr C h h' ex e M μ w b a cs k s f;cases c with
  |skip=>simp only[exec]at e;cases e;exact⟨M,μ,w,a,cs,s,.refl _ _ _,f,.refl _,.one stepR_skip⟩
  |label l=>simp only[exec]at e;cases e;exact⟨M,μ,w,a,cs,s,.refl _ _ _,f,.refl _,.one stepR_label⟩
  |refuse _=>simp[exec]at e
  |exit id=>simp only[exec]at e;cases e;exact⟨M,μ,w,a,cs,s,.refl _ _ _,f,.refl _,k,rfl,.refl _ _⟩
  |goto id=>simp only[exec]at e;cases e;exact⟨M,μ,w,a,cs,s,.refl _ _ _,f,.refl _,k,rfl,.refl _ _⟩
  |ret=>simp only[exec]at e;cases e;exact⟨M,μ,w,a,cs,s,.refl _ _ _,f,.refl _,k,.refl _ _⟩
  |seq x y=>
   simp only[exec]at e;refine Ran.step stepR_seq ?_;cases hc:exec P sh rec n x fr h with
   |none=>rw[hc]at e;cases e
   |some r=>
    obtain⟨I,fr1,h1⟩:=r;rw[hc]at e;have B:=L hc (.code y::k) s f;cases I with
    |normal=>exact B.then λs1 f1=>L e k s1 f1
    |exit id=>cases e;exact B.pass rfl (by intro h;cases h)
    |goto id=>cases e;exact B.pass rfl (by intro h;cases h)
    |ret=>cases e;exact B.pass rfl (by intro h;cases h)
    |panic v=>cases e;exact B.pass rfl (by intro h;cases h)
  |cond x y z=>
   simp only[exec]at e;split at e
   ·rename_i hx;have hv:=CP s.glb f.t hx;generalize W:a.eval x=v at hv;cases hv;exact(L e k s f).step (by rw[stepR_cond W];rfl)
   ·rename_i hx;have hv:=CP s.glb f.t hx;generalize W:a.eval x=v at hv;cases hv;exact(L e k s f).step (by rw[stepR_cond W];rfl)
   ·cases e
  |block id x=>
   simp only[exec]at e;refine Ran.step stepR_block ?_;cases hc:exec P sh rec n x fr h with
   |none=>rw[hc]at e;cases e
   |some r=>
    obtain⟨I,fr1,h1⟩:=r;rw[hc]at e;have B:=L hc (.inBlock id::k) s f;cases I with
    |normal=>cases e;exact B.then λs1 f1=>⟨_,_,_,_,_,s1,.refl _ _ _,f1,.refl _,.one stepR_inBlock⟩
    |exit j=>
     obtain⟨M',μ',w',a',F,q1,q2,q3,q4,k1,q5,q6⟩:=B;simp only at e;cases hj:aa j id with
     |true=>
      simp only[hj,zb]at e;cases e;have:=aj hj;subst this;exact⟨M',μ',w',a',F,q1,q2,q3,q4,q6.trans (.one (stepR_exit (by rw[q5];simp[exitTo])))⟩
     |false=>
      simp only[hj,zj]at e;cases e;refine⟨M',μ',w',a',F,q1,q2,q3,q4,k1,?_,q6⟩;rw[q5]
      have:(id == j)=zf:=by
       cases hij:id == j with
       |false=>rfl
       |true=>
        have:id=j:=by simpa using hij
        subst this;simp at hj
      simp[exitTo,this]
    |goto j=>
     cases e;obtain⟨M',μ',w',a',F,q1,q2,q3,q4,k1,q5,q6⟩:=B;exact⟨M',μ',w',a',F,q1,q2,q3,q4,k1,by rw[q5];simp[gotoIn],q6⟩
    |ret=>cases e;exact B
    |panic v=>cases e;exact B
  |loop x=>exact(G e k s f).step stepR_loop
  |scope x=>
   simp only[exec]at e;refine Ran.step L8 ?_;cases hc:exec P sh rec n x fr h with
   |none=>rw[hc]at e;cases e
   |some r=>
    obtain⟨I,fr1,h1⟩:=r;rw[hc]at e;have B:=L hc (.inScope x::k) s f;cases I with
    |normal=>cases e;exact B.then λs1 f1=>⟨_,_,_,_,_,s1,.refl _ _ _,f1,.refl _,.one I5⟩
    |exit j=>
     cases e;obtain⟨M',μ',w',a',F,q1,q2,q3,q4,k1,q5,q6⟩:=B;exact⟨M',μ',w',a',F,q1,q2,q3,q4,k1,by rw[q5];simp[exitTo],q6⟩
    |goto j=>cases e
    |ret=>cases e;exact B
    |panic v=>cases e;exact B
  |region id ops draw=>
   simp only[exec]at e;have s0:Sim M μ { h with nx:=h.nx+ops.size } w:=s.nx λ_=>rfl
   cases draw with
   |false=>
    simp only[zj]at e;refine Ran.step stepR_region ?_
    have:=HP R _ e (λx hx=>by
     obtain⟨h1,h2⟩:=NZ _ _ x hx
     simpa using h2) k s0 f
    have hidx:(HB 0 ops.toList).map (·.1)=bT ops.size:=by rw[NY];simp
    rwa [hidx]at this
   |true=>
    simp only[zb]at e;replace e:=Aa e;obtain⟨hm,e⟩:=e;split at e
    ·rename_i fr1 h1 hd;cases e;refine Ran.step stepR_region_draw ?_;have s1:Sim M μ { h with nx:=h.nx+ops.size } { w with drawn:=w.drawn+1 }:=s0.drawn rfl
     obtain⟨M',μ',w',a',F,q1,q2,q3,q4,q5⟩:=D hd hm k (w.tape w.drawn (.order b.fn id)) s1 f;exact⟨M',μ',w',a',F,q1,(Grow.drawn (w:=w) (w':={ w with drawn:=w.drawn+1 }) rfl rfl rfl rfl).trans q2,q3,q4,q5⟩
    ·cases e
  |rangeFunc g ps asg body=>
   simp only[exec]at e;split at e
   ·rename_i fn va0 vb0 hg;have hv:=CP s.glb f.t hg;generalize W:a.eval g=v at hv;cases hv with
    |fn _ _ _ _ va vb hf hla hlb h2 h3=>
    split at e
    ·rename_i d mark hd K;split at e
     ·rename_i hl hnewl;split at e
      ·rename_i fid args hinv;split at e
       ·rename_i rv u1 hc hcall;split at e
        ·rename_i st pend nt t pl as bd dd hgl;replace e:=Bn e;obtain⟨hst,e⟩:=e;have hst:st≠1:=by intro h;subst h;simp at hst
         split at e
         ·rename_i hs hset
          have enter:∃ (w1:World) (μ1:Mu) (A:Bk) (mk:List Deferred) (lid:Nat),(Instr.enterLoop b.fn a.tmps ps asg body b.roundOf).run P w=.ok (A.b,mk) w1/\Sim M μ1 hl w1/\Grow M μ w M μ1 w1/\lid=h.nx+1/\μ1 lid=zo A/\DefsRep M μ1 mark mk:=by
           obtain⟨O,hgs,_⟩:=Hp.get_new hnewl;split at K
           ·rename_i hro;have J:b.roundOf=zn:=by have:=f.r;unfold I7 at this;rw[hro]at this;exact this
            split at K
            ·rename_i hd1 hnewd;cases K;obtain⟨dget,dgs,_⟩:=Hp.get_new hnewd
             let rd:Bk:=⟨w.heap.size,0,0,0⟩
             obtain⟨s1,μd⟩:=s.fresh (w':=w.alloc (.deferred (zo []))) (r:=rd) (o:=.deferred (zo [])) dget dgs rfl rfl ⟨zo [],rfl,trivial⟩;have g1:=Grow.newBlk (M:=M) (μ:=μ) (w:=w) (w':=w.alloc (.deferred (zo []))) (r:=rd) (o:=.deferred (zo [])) μd rfl rfl rfl rfl rfl (λ_ _ _ h=>by cases h)
             let N:Loop:={ state:=.ready,pending:=zn,fn:=b.fn,tmps:=a.tmps,params:=ps,assign:=asg,body:=body,defers:=w.heap.size }
             let A:Bk:=⟨(w.alloc (.deferred (zo []))).heap.size,0,0,0⟩
             have μl0:DU μ h.nx rd (h.nx+1)=zn:=by
              cases hm:DU μ h.nx rd (h.nx+1)with
              |none=>rfl
              |some x=>exact absurd O (s1.use _ x hm).1
             have E:=Dq (r:=A) μl0
             obtain⟨s2,μl⟩:=s1.fresh (w':=(w.alloc (.deferred (zo []))).alloc (.loop N)) (r:=A) (o:=.loop N) O hgs rfl rfl
              ⟨N,rd,rfl,rfl,by decide,rfl,f.t.mono (.refl _) (g1.u.trans E),by simp[N],rfl,rfl,E _ _ (by simp[DU]),rfl⟩
             have U:=Grow.newBlk (M:=M) (w:=w.alloc (.deferred (zo []))) (w':=(w.alloc (.deferred (zo []))).alloc (.loop N)) (r:=A) (o:=.loop N) μl rfl rfl rfl rfl rfl (λ_ _ _ h=>by cases h);refine⟨_,_,A,[{ target:=.collected w.heap.size,args:=#[] }],_,?_,s2,g1.trans U,rfl,by simp[DU],⟨⟨rd,E _ _ (by simp[DU]),rfl,rfl⟩,trivial⟩⟩;rw[J];simp[Instr.enterLoop,N,A]
            ·cases K
           ·rename_i l0 hro;have J:=f.r;unfold I7 at J;rw[hro]at J;obtain⟨rb,hrb,J⟩:=J;split at K
            ·rename_i st0 pend0 nt0 t0 ps0 asg0 body0 d0 hb0;cases K;obtain⟨r',Y,Z,rd,b1,b2,b3,b4,b5,b6,b7,b8,b9,b10⟩:=s.blk l0 _ hb0;rw[hrb]at Y;cases Y
             let N:Loop:={ state:=.ready,pending:=zn,fn:=b.fn,tmps:=a.tmps,params:=ps,assign:=asg,body:=body,defers:=rd.b }
             let A:Bk:=⟨w.heap.size,0,0,0⟩
             have μl0:μ (h.nx+1)=zn:=by
              cases hm:μ (h.nx+1)with
              |none=>rfl
              |some x=>exact absurd O (s.use _ x hm).1
             have E:=Dq (r:=A) μl0
             obtain⟨s2,μl⟩:=s.fresh (w':=w.alloc (.loop N)) (r:=A) (o:=.loop N) O hgs rfl rfl
              ⟨N,rd,rfl,rfl,by decide,rfl,f.t.mono (.refl _) E,by simp[N],rfl,rfl,E _ _ b9,rfl⟩
             have U:=Grow.newBlk (M:=M) (w:=w) (w':=w.alloc (.loop N)) (r:=A) (o:=.loop N) μl rfl rfl rfl rfl rfl (λ_ _ _ h=>by cases h);refine⟨_,_,A,[],_,?_,s2,U,rfl,by simp[DU],trivial⟩;rw[J];simp[Instr.enterLoop,N,A,Cq b1,b10]
            ·cases K
          obtain⟨w1,μ1,A,mk,lid,hent,s1,g1,rfl,hrl,hdm⟩:=enter;have hyl:Rep M μ1 (.yl (h.nx+1)) (.func (.yield A.b) #[] #[]):=.yl _ _ A hrl
          obtain⟨k1,g0,as0,k2⟩:=FK (P:=P) (w:=w1) (vf:=va.toList) (vc:=vb.toList) (va:=[.func (.yield A.b) #[] #[]])
           ⟨by simpa using hla,λi c v p q=>(h2 i c v p (by simpa using q)).mono (.refl _) g1.u⟩ ⟨by simpa using hlb,λi c v p q=>(h3 i c v p (by simpa using q)).mono (.refl _) g1.u⟩ (RepL.cons hyl (RepL.nil _ _)) hinv
          obtain⟨vs,hrun,hargs,fn1,c1,hfn1,hbody1⟩:=k1
          have hres:(resolve a.eval (rangeCall g A.b) 0).run P w1=.ok { target:=.fn fn vb,args:=va ++ #[.func (.yield A.b) #[] #[]] } w1:=by
           show Sem.run P (Deferred.ofValue (a.eval g) (#[Operand.const (.func (.yield A.b) #[] #[])].map a.eval)) w1=_;have hm1 : #[Operand.const (.func (.yield A.b) #[] #[])].map a.eval = #[Value.func (.yield A.b) #[] #[]]:=by simp[Act.eval]
           rw[W,hm1];rfl
          have hcat:(va.toList++[Value.func (.yield A.b) #[] #[]]).toArray=va ++ #[.func (.yield A.b) #[] #[]]:=by apply Array.ext';simp
          have hstep:=stepR_rangeFunc (P:=P) (b:=b) (a:=a) (k:=k) (cs:=cs) hent hres (by rw[hcat]at hrun;exact hrun);have s1n:Sim M μ1 { hl with nx:=h.nx+1+1 } w1:=s1.nx λ_=>rfl
          obtain⟨M2,μ2,w2,fr2,s2,U,st2,hfn2,x2,hx2,hl2⟩:=R.nrm hcall s1n hargs (b.atR { a with defers:=mk++a.defers } (.inRangeFunc A.b::k)::cs)
          obtain⟨r',Y,Z,rd,b1,b2,b3,b4,b5,b6,b7,b8,b9,b10⟩:=s2.blk _ _ hgl;rw[U.u _ _ hrl]at Y;cases Y;subst b4
          have hnb:(Z.state == LoopState.busy)=zf:=by
           rw[b2]
           match st,hst,b3 with
           |0,_,_=>rfl
           |2,_,_=>rfl
           |3,_,_=>rfl
          have hnb2:¬ ((Z.state == LoopState.busy)=zt):=by rw[hnb];exact Bool.false_ne_true
          have so:=BZ (P:=P) (o':=.loop { Z with state:=.exhausted }) b1 (by intro a t f hc;cases hc)
          have hend:(Instr.endLoop A.b).run P w2=.ok Z.pending { w2 with heap:=w2.heap.setIfInBounds A.b (.loop { Z with state:=.exhausted }) }:=by
           simp only[Instr.endLoop,Sem.run_bind,Cq b1,Result.andThen,zx hnb2,so,Sem.run_pure]
          obtain⟨s3,g3⟩:=s2.object (o':=.loop { Z with state:=.exhausted }) hgl (U.u _ _ hrl) trivial hset b1 (by intro a t f hc;cases hc)
           ⟨_,rd,rfl,rfl,by decide,rfl,b5,b6,b7,b8,b9,b10⟩
          have f3:FrRep M2 μ2 { fr with ds:=mark++fr.ds } b { a with defers:=mk++a.defers } cs:=by
           have f2:=f.mono (g1.m.trans U.m) (g1.u.trans U.u);refine⟨f2.t,?_,f2.u,f2.r⟩;have hdm2:=hdm.mono U.m U.u
           have app:∀ {x:List DF} {y:List Deferred},DefsRep M2 μ2 x y->DefsRep M2 μ2 (x++fr.ds) (y++a.defers):=by
            intro x
            induction x with
            |nil=>intro y hy;cases y with
             |nil=>exact f2.d
             |cons _ _=>exact hy.elim
            |cons d0 x ih=>intro y hy;cases y with
             |nil=>exact hy.elim
             |cons _ _=>exact⟨hy.1,ih hy.2⟩
           exact app hdm2
          have X:=(g1.trans U).trans g3
          have S:Steps P (lone (b.atR a (.code (.rangeFunc g ps asg body)::k)) cs w) (lone (b.atR { a with defers:=mk++a.defers } ((Z.pending.map Item.code).toList++k)) cs { w2 with heap:=w2.heap.setIfInBounds A.b (.loop { Z with state:=.exhausted }) }):=by
           refine .head hstep (st2.trans (.head ?_ (.one (stepR_endRangeFunc hend))));rw[<- finish_atR_inRangeFunc A.b x2];exact step_leave_returned hl2
          clear hend so g3;generalize ({ w2 with heap:=w2.heap.setIfInBounds A.b (.loop { Z with state:=.exhausted }) }:World)=w3 at s3 X S
          split at e<;>rename_i hpd<;>(try rw[hpd]at S)
          ·cases e;exact⟨M2,μ2,_,_,cs,s3,X,f3,.refl _,S⟩
          ·cases e;exact⟨M2,μ2,_,_,cs,s3,X,f3,.refl _,k,S⟩
          ·cases e;exact⟨M2,μ2,_,_,cs,s3,X,f3,.refl _,k,rfl,S⟩
          ·cases e;exact⟨M2,μ2,_,_,cs,s3,X,f3,.refl _,k,rfl,S⟩
          ·cases e
         ·cases e
        ·cases e
       ·cases e
      ·cases e
     ·cases e
    ·cases e
   ·cases e
end
end
section
variable[Gl]
section
variable{P:Program}{sh:FuncId->Bool}{rec:GE}{M:Ak}{μ:Mu}{h:Hp}{w:World}
theorem RW(s:Sim M μ h w){t:T PV}{nt:Nat}{b:Array Value}(d:TmpsRep M μ t nt b){r:ResultVar}{p:PV}(e:QM P h t r=zo p) :
  ∃ x,(match r with
   |.tmp t=>pure (b.getD t undef)
   |.cell a t=>do loadVar t (<- asAddr (b.getD a undef)):Sem Value).run P w=.ok x w/\Rep M μ p x:=by
 unfold QM at e;split at e
 ·rename_i k;cases e;exact⟨_,rfl,d.2.2 k⟩
 ·rename_i a ty;split at e
  ·rename_i j off l;split at e
   ·rename_i cs fz i;have c:=d.2.2 a;rw[l]at c;simp only[aE]at c;obtain⟨r,m,hc⟩:=Ja s (off:=off) i;obtain⟨v,f,g⟩:=EO (P:=P) hc e;generalize n:b.getD a undef=x at c;cases c with
    |ptr _ _ _ r' hr'=>
     rw[m]at hr';cases hr';refine⟨v,?_,g⟩;simp only[n];simpa[asAddr]using f
   ·cases e
  ·cases e
theorem FT(s:Sim M μ h w){t:T PV}{nt:Nat}{b:Array Value}(f:TmpsRep M μ t nt b):∀ {l:List ResultVar} {c:List PV},I2 P h t l=zo c ->
  ∃ xs:List Value,(l.mapM (fun | .tmp t=>pure (b.getD t undef) | .cell a t=>do loadVar t (<- asAddr (b.getD a undef)):ResultVar->Sem Value)).run P w=.ok xs w/\RepL M μ c xs
 |[],c,e=>by simp[I2]at e;subst e;exact⟨[],by simp,RepL.nil _ _⟩
 |r::l,c,e=>by
  unfold I2 at e;split at e
  ·rename_i p n m d;cases e;obtain⟨x,g,i⟩:=RW s f m;obtain⟨xs,j,k⟩:=FT s f d;refine⟨x::xs,?_,RepL.cons i k⟩;rw[List.mapM_cons];simp only[Sem.run_bind,g,Result.andThen,j,Sem.run_pure]
  ·cases e
theorem GC(s:Sim M μ h w){k:Func}{t:T PV}{nt:Nat}{d:Array Value}(u:TmpsRep M μ t nt d){v:PV}(e:results P k h t=zo v):∃ x,(Go.results k d).run P w=.ok x w/\Rep M μ v x:=by
 unfold results at e
 have key:∀ {l:List PV},I2 P h t k.results.toList=zo l -> ∃ xs:Array Value,(k.results.mapM (fun | .tmp t=>pure (d.getD t undef) | .cell a t=>do loadVar t (<- asAddr (d.getD a undef)):ResultVar->Sem Value)).run P w=.ok xs w/\RepL M μ l xs.toList:=by
  intro l f;obtain⟨xs,m,g⟩:=FT s u f;refine⟨xs.toArray,?_,by simpa using g⟩;rw[Array.mapM_eq_mapM_toList];simp only[Sem.run_map,m];rfl
 have j:(Go.results k d).run P w=((k.results.mapM (fun | .tmp t=>pure (d.getD t undef) | .cell a t=>do loadVar t (<- asAddr (d.getD a undef)):ResultVar->Sem Value)) >>= λvs=>(pure (if h:vs.size=1 then vs[0]else .tuple vs):Sem Value)).run P w:=rfl
 rw[j];split at e
 ·rename_i z f;cases e;obtain⟨xs,m,g⟩:=key f;obtain⟨x,y,r⟩:=K2 g rfl;have q:xs = #[x]:=by rw[<- Array.toArray_toList (xs:=xs),y]
  subst q;exact⟨x,by simp only[Sem.run_bind,m,Result.andThen,Sem.run_pure];rfl,r⟩
 ·rename_i l n f;cases e;obtain⟨xs,m,g⟩:=key f
  have o:xs.size≠1:=by
   intro h;have:l.length=1:=by rw[g.1];simpa using h
   match l,this with
   |[p],_=>exact n p rfl
  refine⟨.tuple xs,by simp only[Sem.run_bind,m,Result.andThen,Sem.run_pure,dif_neg o],.tup _ _ _ (by simpa using g.1) λi c v a b=>g.2 i c v a (by simpa using b)⟩
 ·cases e
theorem HQ{u:UM}{m:FrameMode}(b:UMRep M μ u m):UMRep M μ (Ko u) (settle m):=by
 cases u with
 |ret=>have b:m=.returning:=b;subst b;rfl
 |pan j=>
  obtain⟨a,rfl,hc⟩:=b;cases j with
  |nil=>cases a with
   |nil=>exact⟨[],rfl,trivial⟩
   |cons _ _=>exact hc.elim
  |cons e d=>
   cases a with
   |nil=>exact hc.elim
   |cons p r=>
    obtain⟨i,f,g,h⟩:=hc;obtain⟨ev,o⟩:=e;obtain⟨pv,t,s⟩:=p;simp only at f g;subst f;subst g;cases o with
    |false=>exact⟨_,rfl,i,rfl,rfl,h⟩
    |true=>
     have drop:∀ {l:List PE} {m:List PanicEntry},ChRep M μ l m->m.dropWhile (!·.goexit)=[]:=by
      intro l
      induction l with
      |nil=>intro m c;cases m with
       |nil=>rfl
       |cons _ _=>exact c.elim
      |cons _ _ ih=>intro m c;cases m with
       |nil=>rfl
       |cons q w=>
        obtain⟨_,_,k,n⟩:=c;simp[k,ih n]
     have:=drop h;show settle (.panicking ({ v:=pv,recovered:=zt }::r))=.returning;simp[settle,this]
theorem KR{u:UM}{m:FrameMode}(a:UMRep M μ u m):m ≠ .run:=by
 cases u with
 |ret=>have a:m=.returning:=a;subst a;intro h;cases h
 |pan c=>obtain⟨b,rfl,_⟩:=a;intro h;cases h
theorem PI{x y:List DF}{X Y:List Deferred}(a:DefsRep M μ x X)(b:DefsRep M μ y Y):DefsRep M μ (x++y) (X++Y):=by
 induction x generalizing X with
 |nil=>cases X with
  |nil=>exact b
  |cons _ _=>exact a.elim
 |cons d x c=>cases X with
  |nil=>exact a.elim
  |cons _ _=>exact⟨a.1,c a.2⟩
theorem Gb(R:RecOK P rec){fn:Func}{t:T PV}{nt:Nat}:∀ (n:Nat) {J:List DF} {u:UM} {h h':Hp} {o:Out},leave P rec fn n J u t h=zo (o,h') ->
  ∀ {M:Ak} {μ:Mu} {w:World} {fr:Frame} (cs:List Frame),Sim M μ h w->UMRep M μ u fr.mode->DefsRep M μ J fr.defers->TmpsRep M μ t nt fr.tmps->P.funcs[fr.fn]?=zo fn ->
  ∃ B μ' w' k,Sim B μ' h' w'/\Grow M μ w B μ' w'/\Steps P (lone fr cs w) (lone k cs w')/\k.fn=fr.fn/\k.kind=fr.kind/\Qm P B μ' k w' o
 |0,_,_,_,_,_,e,_,_,_,_,_,_,_,_,_,_=>by simp[leave]at e
 |n+1,J,u,h,h',o,e,M,μ,w,fr,cs,s,hu,hd,ht,hfn=>by
  unfold leave at e;split at e
  ·have L:fr.defers=[]:=by
    cases i:fr.defers with
    |nil=>rfl
    |cons _ _=>rw[i]at hd;exact hd.elim
   split at e
   ·split at e
    ·rename_i v hv;cases e;obtain⟨x,K,h2⟩:=GC s ht hv;exact⟨M,μ,w,fr,s,.refl _ _ _,.refl _ _,rfl,rfl,x,h2,hu,L,fn,hfn,K⟩
    ·cases e
   ·rename_i ch;cases e;obtain⟨F,K,h2⟩:=hu;exact⟨M,μ,w,fr,s,.refl _ _ _,.refl _ _,rfl,rfl,F,h2,K,L,fn,hfn⟩
  ·rename_i id J;cases i:fr.defers with
   |nil=>rw[i]at hd;exact hd.elim
   |cons D E=>
    rw[i]at hd;obtain⟨⟨r,hr,j,d⟩,z⟩:=hd;obtain⟨Dt,Da⟩:=D;simp only at j d;subst j;subst d;split at e
    ·rename_i l hb;split at e
     ·rename_i K S;obtain⟨r',N,dd,b1,b2⟩:=s.blk id _ hb;rw[hr]at N;cases N;cases dd with
      |none=>exact b2.elim
      |some q=>
       have so:=BZ (P:=P) (o':=.deferred zn) b1 (by intro a t f hc;cases hc);obtain⟨s1,y⟩:=s.object (o':=.deferred zn) hb hr trivial S b1 (by intro a t f hc;cases hc) ⟨zn,rfl,trivial⟩
       have p:(Instr.takeDeferred r.b).run P w=.ok q { w with heap:=w.heap.setIfInBounds r.b (.deferred zn) }:=by
        have hg:(getObj r.b).run P w=.ok (.deferred (zo q)) w:=by simp[getObj,Sem.run,b1]
        simp only[Instr.takeDeferred,Sem.run_bind,hg,Result.andThen,so,Sem.run_pure]
       have st:=Kt (P:=P) (cs:=cs) (KR hu) i p;obtain⟨B,μ',w',k,U,W,X,Y,Z,q6⟩:=Gb R n e (fr:={ fr with defers:=q++E }) cs s1 hu (PI b2 z) ht hfn
       exact⟨B,μ',w',k,U,y.trans W,.head st X,Y,Z,q6⟩
     ·cases e
    ·cases e
  ·rename_i b ats ty args J;cases i:fr.defers with
   |nil=>rw[i]at hd;exact hd.elim
   |cons D E=>
    rw[i]at hd;obtain⟨⟨C,va,j,d,I⟩,z⟩:=hd;obtain⟨Dt,Da⟩:=D;simp only at j d;subst j;subst d;split at e
    ·split at e
     ·rename_i v K hbt;obtain⟨M1,μ1,w1,x,p,s1,y,hx⟩:=IC (ty:=ty) (cs:=C) s I hbt;have st:=Gu (P:=P) (cs:=cs) (KR hu) i p;obtain⟨B,μ',w',k,U,W,X,Y,Z,q6⟩:=Gb R n e (fr:={ fr with defers:=E }) cs s1 (hu.mono y.m y.u) (z.mono y.m y.u) (ht.mono y.m y.u) hfn
      exact⟨B,μ',w',k,U,y.trans W,.head st X,Y,Z,q6⟩
     ·cases e
    ·cases e
  ·rename_i f args J;cases i:fr.defers with
   |nil=>rw[i]at hd;exact hd.elim
   |cons D E=>
    rw[i]at hd;obtain⟨⟨fv,first,cap,vf,vc,va,hfe,hny,j,d,I,hrb,hrc⟩,z⟩:=hd
    obtain⟨Dt,Da⟩:=D;simp only at j d;subst j;subst d;subst hfe;cases fv with
    |func g=>
     simp only at e;cases A:CB P (.func g) first cap args with
     |none=>rw[A]at e;cases e
     |some rr=>
      rw[A]at e;obtain⟨O,g',args',rfl⟩:=FK (P:=P) (w:=w) I hrb hrc A;obtain⟨vs,p,hvs,_⟩:=O;simp only at e;split at e
      ·rename_i rv u1 K G;obtain⟨M1,μ1,w1,frX,m1,u1',s1,y,st1,hup,hum,hkX,x,hx,hgo⟩:=R.dfr G s hvs { fr with defers:=E } cs hu
       cases hup;have st:=step_defer (P:=P) (cs:=cs) (KR hu) i rfl p;have st2:=step_going_returned (c:={ { fr with defers:=E }with mode:=m1 }) (cs:=cs) hkX hgo
       obtain⟨B,μ',w',k,U,W,X,Y,Z,q6⟩:=Gb R n e (fr:={ { { fr with defers:=E }with mode:=m1 }with mode:=settle m1 }) cs s1 (HQ hum) (z.mono y.m y.u) (ht.mono y.m y.u) hfn
       exact⟨B,μ',w',k,U,y.trans W,.head st (st1.trans (.head st2 X)),Y,Z,q6⟩
      ·cases e
    |_=>cases e
theorem Hj:∀ (l:List PV) (i:Nat) (t:T PV) (k:Nat),i + l.length <= 1048575 -> (Bl i l t).get k=if i <= k /\ k < i + l.length then l[k - i]? else t.get k
  |[],i,t,k,_=>by simp[Bl];intro a b;omega
  |a :: l,i,t,k,hle=>by
    simp only[aR]at hle;unfold Bl
    rw [Hj l (i + 1) _ k (by omega), T.get_put 20 t i a k (by have : (2 : Nat) ^ 20 - 1 = 1048575 := by decide
                                                              omega)]
    by_cases hk:k=i
    · subst hk;rw[zx (by omega),zy rfl,zy (by simp)];simp
    · by_cases h1:i + 1 <= k /\ k < i + 1 + l.length
      · rw[zy h1,zy (by simp;omega),show k - i=(k - (i + 1)) + 1 by omega];simp
      · rw[zx h1,zx hk,zx (by simp;omega)]
theorem MX{args:List PV}{vs:List Value}(a:RepL M μ args vs){n:Nat}(f:args.length<=n)(c:n<1048575):TmpsRep M μ (Bl 0 args .lf) n (vs.toArray++bz (n-vs.toArray.size) undef):=by
 have g:=a.1;refine⟨c,by simp;omega,λk=> ?_⟩;rw[Hj args 0 .lf k (by omega)];by_cases b:k<args.length
 ·rw[zy (by omega)];obtain⟨v,e,d⟩:=a.get (i:=k) (ae b)
  have:(vs.toArray++bz (n-vs.toArray.size) undef).getD k undef=v:=by
   rw[aD,Array.getElem?_append_left (by simp;omega)];simp[e]
  rw[this];simpa[ae b]using d
 ·rw[zx (by omega)]
  have:(vs.toArray++bz (n-vs.toArray.size) undef).getD k undef=undef:=by
   rw[aD,Array.getElem?_append_right (by simp;omega),Array.getElem?_replicate];split<;>rfl
  rw[this];exact FS M μ
theorem CY{nt:Nat}:∀ {f:List Nat} {args:List PV} {vs:List Value} {t d:T PV} {b:Array Value},Bx nt f args t=zo d->RepL M μ args vs->TmpsRep M μ t nt b ->
  f.length=vs.length/\TmpsRep M μ d nt ((f.zip vs).foldl (λb (x:Nat×Value)=>b.setIfInBounds x.1 x.2) b)
 |[],[],vs,t,d,b,e,hr,ht=>by
  simp[Bx]at e;subst e;rw[hr.nil_inv];exact⟨rfl,ht⟩
 |[],_::_,vs,t,d,b,e,hr,ht=>by simp[Bx]at e
 |_::_,[],vs,t,d,b,e,hr,ht=>by simp[Bx]at e
 |p::f,a::args,vs,t,d,b,e,hr,ht=>by
  unfold Bx at e;replace e:=Aa e;obtain⟨i,e⟩:=e;obtain⟨x,k,rfl,j,c⟩:=hr.cons_inv;obtain⟨g,h⟩:=CY e c (MC ht (by simpa using i) j);exact⟨by simp[g],by simpa using h⟩
end
end
section
variable[Gl]
section
variable{P:Program}{sh:FuncId->Bool}{M:Ak}{μ:Mu}{h:Hp}{w:World}
theorem Lj(P:Program):RecOK P (λ_ _ _ _=>zn):=by constructor<;>(intros;contradiction)
theorem E4{c:CallKind}{cs a:List Frame}(d:c=.normal)(h:Tail c cs a):a=cs:=by
 rcases h with h|⟨b,_⟩
 ·exact h
 ·rw[d]at b;cases b
theorem NM{rec:GE}(R:RecOK P rec)(D:E6 P rec){F:Nat}{f:FuncId}{fn:Func}{c:Code}{up:Option UM}{args:List PV}{h h':Hp}{o:Out}{y:Option UM}(G:P.funcs[f]?=zo fn)(B:fn.body=zo c)
  (e:(match (bif ah args.length fn.ntmps&&af fn.ntmps 1048575 then exec P sh rec F c { t:=Bl 0 args .lf,nt:=fn.ntmps,ds:=[],up,ro:=zn } h else zn)with
   |some (.normal,fr,h)|some (.ret,fr,h)=>(match leave P rec fn F fr.ds .ret fr.t h with
    |some (o,h)=>zo (o,fr.up,h)
    |none=>zn)
   |some (.panic e,fr,h)=>(match leave P rec fn F fr.ds (.pan [{ v:=e,recovered:=zf }]) fr.t h with
    |some (o,h)=>zo (o,fr.up,h)
    |none=>zn)
   |_=>zn)=zo (o,y,h')) {M:Ak} {μ:Mu} {w:World} {vs:List Value} (s:Sim M μ h w) (Y:RepL M μ args vs) (l:CallKind) (cs:List Frame) (L:NJ M μ l cs up) :
  ∃ n μ' w' fr cs',Sim n μ' h' w'/\Grow M μ w n μ' w'/\Steps P (lone (Frame.enter P f vs.toArray l) cs w) (lone fr cs' w')/\Tail l cs cs'/\NJ n μ' l cs' y/\fr.fn=f/\fr.kind=l/\Qm P n μ' fr w' o:=by
 let b:Frame:={ fn:=f,tmps:=#[],todo:=[],defers:=[],mode:=.run,kind:=l }
 have q:Frame.enter P f vs.toArray l=b.atR { tmps:=vs.toArray++bz (fn.ntmps-vs.toArray.size) undef,defers:=[] } [.code c]:=by
  simp[Frame.enter,Frame.atR,G,B,b]
 have GX:∀ {c:Code} {fr p:Fr} {h h':Hp} {ex:Ex},exec P sh rec F c fr h=zo (ex,p,h') ->
   ∀ {M:Ak} {μ:Mu} {w:World} {b:Frame} {a:Act} {cs:List Frame} (k:List Item),Sim M μ h w->FrRep M μ fr b a cs->Ran P M μ w (lone (b.atR a (.code c::k)) cs w) b k cs ex p h':=(J4 R D F).1
 have A:∀ {ex:Ex} {fr:Fr} {C:Hp},exec P sh rec F c { t:=Bl 0 args .lf,nt:=fn.ntmps,ds:=[],up,ro:=zn } h=zo (ex,fr,C)->args.length<=fn.ntmps->fn.ntmps<1048575 ->
   ∀ {u:UM},((ex=.normal\/ex=.ret)/\u=.ret \/ ∃ v,ex=.panic v/\u=.pan [{ v,recovered:=zf }])->(match leave P rec fn F fr.ds u fr.t C with
    |some (o,h)=>zo (o,fr.up,h)
    |none=>zn)=zo (o,y,h') ->
   ∃ n μ' w' fr cs',Sim n μ' h' w'/\Grow M μ w n μ' w'/\Steps P (lone (Frame.enter P f vs.toArray l) cs w) (lone fr cs' w')/\Tail l cs cs'/\NJ n μ' l cs' y/\fr.fn=f/\fr.kind=l/\Qm P n μ' fr w' o:=by
  intro ex fr C j J K u Z e
  have W:FrRep M μ { t:=Bl 0 args .lf,nt:=fn.ntmps,ds:=[],up,ro:=zn } b { tmps:=vs.toArray++bz (fn.ntmps-vs.toArray.size) undef,defers:=[] } cs:=
   ⟨MX Y J K,trivial,L,rfl⟩
  obtain⟨U,μ1,w1,E,z,s1,X,I,t1,arr⟩:=GX j (b:=b) [] s W;rw[<- q]at arr;split at e
  ·rename_i o1 h2 r;cases e
   have N:∃ i:Frame,Steps P (lone (Frame.enter P f vs.toArray l) cs w) (lone i z w1)/\i.fn=f/\i.kind=l/\i.defers=E.defers/\i.tmps=E.tmps/\UMRep U μ1 u i.mode:=by
    rcases Z with⟨rfl|rfl,rfl⟩|⟨v,rfl,rfl⟩
    ·exact⟨{ b.atR E []with mode:=.returning },Steps.trans arr (.one (stepR_end rfl)),rfl,rfl,rfl,rfl,rfl⟩
    ·obtain⟨k1,arr⟩:=arr;exact⟨{ b.atR E (.code .ret::k1)with mode:=.returning },Steps.trans arr (.one (stepR_ret rfl)),rfl,rfl,rfl,rfl,rfl⟩
    ·obtain⟨todo,x,hx,arr⟩:=arr;exact⟨{ b.atR E todo with mode:=.panicking [{ v:=x,recovered:=zf }] },arr,rfl,rfl,rfl,rfl,_,rfl,hx,rfl,rfl,trivial⟩
   obtain⟨i,st,S,m2,m3,m4,m5⟩:=N;obtain⟨n,μ',w',p,q1,O,q3,q4,q5,q6⟩:=Gb R F r (fr:=i) z s1 m5 (by rw[m3];exact I.d) (by rw[m4];exact I.t) (by rw[S];exact G);refine⟨n,μ',w',p,z,q1,X.trans O,st.trans q3,t1,?_,by rw[q4,S],by rw[q5,m2],q6⟩;exact(I.mono O.m O.u).u
  ·cases e
 cases g:(ah args.length fn.ntmps&&af fn.ntmps 1048575)with
 |false=>rw[g]at e;cases e
 |true=>
  rw[g]at e;simp only[zb]at e;simp only[ac,Nat.ble_eq,bR]at g;split at e
  ·rename_i fr C j;exact A j g.1 g.2 (.inl ⟨.inl rfl,rfl⟩) e
  ·rename_i fr C j;exact A j g.1 g.2 (.inl ⟨.inr rfl,rfl⟩) e
  ·rename_i v fr C j;exact A j g.1 g.2 (.inr ⟨v,rfl,rfl⟩) e
  ·cases e
theorem E3(s:Sim M μ h w){l:Nat}{r:Bk}{c:Option Code}{o:Out}{m:Option UM}{h':Hp}(q:μ l=zo r)(e:A9 h l c=zo (o,m,h')) :
  ∃ w',(Instr.endRound r.b c).run P w=.ok (.bool c.isNone) w'/\o=.ret (.bool c.isNone)/\Sim M μ h' w'/\Grow M μ w M μ w':=by
 unfold A9 at e;split at e
 ·rename_i O x nt t L y n d p;split at e
  ·rename_i K i;cases e;obtain⟨N,g,u,rd,j,G,I,J,z,A,B,C,D,k⟩:=s.blk l _ p;rw[q]at g;cases g;have F:=BZ (P:=P) (o':=.loop { u with state:=if c.isNone then .ready else .done,pending:=c }) j (by intro a t f hc;cases hc)
   obtain⟨s1,E⟩:=s.object (o':=.loop { u with state:=if c.isNone then .ready else .done,pending:=c }) p q trivial i j (by intro a t f hc;cases hc)
    ⟨_,rd,rfl,by cases c<;>rfl,(by cases c;exact(by decide:0<4);exact(by decide:2<4)),rfl,z,A,B,C,D,k⟩
   refine⟨_,?_,rfl,s1,E⟩;simp only[Instr.endRound,Sem.run_bind,Cq j,Result.andThen,F,Sem.run_pure]
  ·cases e
 ·cases e
theorem Ju(PO:Eg P)(hD:∀ rec,RecOK P rec->E6 P rec)(F:Nat){rec:GE}(R:RecOK P rec):RecOK P (PL P sh F rec):=by
 have D:E6 P rec:=hD _ R
 have GX:∀ {c:Code} {fr X:Fr} {h h':Hp} {ex:Ex},exec P sh rec F c fr h=zo (ex,X,h') ->
  ∀ {M:Ak} {μ:Mu} {w:World} {b:Frame} {a:Act} {cs:List Frame} (k:List Item),Sim M μ h w->FrRep M μ fr b a cs->Ran P M μ w (lone (b.atR a (.code c::k)) cs w) b k cs ex X h':=(J4 R D F).1
 refine⟨?_,?_,?_⟩
 ·intro f args h o G h' e M μ w vs s O cs;simp only[PL]at e;split at e
  ·rename_i p hp;obtain⟨⟨v,N⟩,hd,e⟩:=AA e;cases e;obtain⟨A,μ',w',fr,x,S,U,W,q4,q5,q6⟩:=PO f p hp args h v N hd M μ w vs s O cs;exact⟨A,μ',w',fr,S,U,W,q4,x,q5,q6⟩
  ·split at e
   ·rename_i fn J;split at e
    ·rename_i c hc;obtain⟨A,μ',w',fr,cs',S,U,W,q4,q5,q6,q7,q8⟩:=NM R D J hc e s O .normal cs rfl;have:=E4 rfl q4;subst this;refine⟨A,μ',w',fr,S,U,W,q6,?_⟩;cases o with
     |ret v=>obtain⟨x,hx,N,Y,E⟩:=q8;exact⟨x,hx,N,Y,q7,E⟩
     |pan ch=>exact q8
    ·cases e
   ·cases e
 ·intro f u args h o G h' e M μ w vs s O c cs hu;simp only[PL]at e;split at e
  ·cases e
  split at e
  ·rename_i fn J;split at e
   ·rename_i c' hc;obtain⟨A,μ',w',fr,cs',S,U,W,q4,q5,q6,q7,q8⟩:=NM R D J hc e s O .deferred (c::cs) ⟨rfl,c,cs,rfl,hu⟩;cases G with
    |none=>cases q5
    |some u'=>
     obtain⟨_,c1,tl,rfl,hm⟩:=q5;rcases q4 with h0|⟨_,c2,tl2,m,N,Y⟩
     ·cases h0;refine⟨A,μ',w',fr,c.mode,u',S,U,W,rfl,hm,q7,q8⟩
     ·cases N;cases Y;exact⟨A,μ',w',fr,m,u',S,U,W,rfl,hm,q7,q8⟩
   ·cases e
  ·cases e
 ·intro l args h o G h' e M μ w vs r s O hr c cs;simp only[PL]at e;split at e
  ·rename_i st pend nt t ps B n d hb;split at e
   ·rename_i t1 hset;split at e
    ·rename_i fr1 N Z;split at e
     ·rename_i pend2 nt2 t2 ps2 asg2 body2 d2 hb2;split at e
      ·rename_i Y K;obtain⟨r',hr',j,rd,b1,b2,b3,b4,b5,b6,b7,b8,b9,b10⟩:=s.blk l _ hb;rw[hr]at hr';cases hr';obtain⟨hlen,htm⟩:=CY hset O b5
       have hy:(Instr.yield r.b vs.toArray).run P w=.ok (.round r.b j.fn ((j.params.zip vs.toArray).foldl (λtmps (t,a)=>tmps.setIfInBounds t a) j.tmps) j.assign j.body) w:=by
        have:¬ (vs.toArray.size≠j.params.size):=by rw[b6];simp[hlen]
        simp only[Instr.yield,Sem.run_bind,Cq b1,Result.andThen,zx this,Sem.run_pure]
       let b:Frame:={ fn:=j.fn,tmps:=#[],todo:=[],defers:=[],mode:=.run,kind:=.normal,roundOf:=zo r.b }
       have I:TmpsRep M μ t1 nt ((j.params.zip vs.toArray).foldl (λtmps (t,a)=>tmps.setIfInBounds t a) j.tmps):=by
        rw[b6];simpa using htm
       have hb0:∀ L,Frame.round r.b j.fn L j.assign j.body .normal=b.atR { tmps:=L,defers:=[] } [.code B,.beginRound,.code n]:=by
        intro L;simp[Frame.round,Frame.atR,b,b7,b8]
       generalize (j.params.zip vs.toArray).foldl (λtmps (t,a)=>tmps.setIfInBounds t a) j.tmps=L at hy I;have f0:FrRep M μ { t:=t1,nt,ds:=[],up:=zn,ro:=zo l } b { tmps:=L,defers:=[] } (c::cs):=⟨I,trivial,rfl,r,hr,rfl⟩;obtain⟨M1,μ1,w1,a1,cs1,s1,g1,f1,t1',arr⟩:=GX Z (b:=b) [.beginRound,.code n] s f0;have:=E4 rfl t1';subst this;rw[<- hb0]at arr;obtain⟨r2,hr2,l2,rd2,c1,c2,c3,c4,c5,c6,c7,c8,c9,c10⟩:=s1.blk l _ hb2;rw[g1.u _ _ hr]at hr2;cases hr2;have so:=BZ (P:=P) (o':=.loop { l2 with state:=.busy }) c1 (by intro a t f hc;cases hc)
       obtain⟨s2,g2⟩:=s1.object (o':=.loop { l2 with state:=.busy }) hb2 (g1.u _ _ hr) trivial K c1 (by intro a t f hc;cases hc)
        ⟨_,rd2,rfl,rfl,by decide,c4,c5,c6,c7,c8,c9,c10⟩
       have hbr:(Instr.beginRound r.b).run P w1=.ok () { w1 with heap:=w1.heap.setIfInBounds r.b (.loop { l2 with state:=.busy }) }:=by
        have:l2.state=.ready:=c2;simp only[Instr.beginRound,Sem.run_bind,Cq c1,Result.andThen,so,this,Sem.run_pure]
       have st1:Steps P (lone (Frame.round r.b j.fn L j.assign j.body .normal) (c::cs) w) (lone (b.atR a1 [.code n]) (c::cs) _):=Steps.trans arr (.one (stepR_beginRound rfl hbr));have f1':=f1.mono g2.m g2.u
       have C:∀ {ex:Ex} {z:Fr} {E:Hp} {i:Option Code},exec P sh rec F n fr1 Y=zo (ex,z,E) ->
         (ex=.normal/\i=zn\/ex=.ret/\i=zo .ret\/(∃ id,ex=.exit id/\i=zo (.exit id)) \/ ∃ id,ex=.goto id/\i=zo (.goto id))->A9 E l i=zo (o,G,h') ->
         ∃ A μ' w' x v fn tmps B body,o=.ret v/\(Instr.yield r.b vs.toArray).run P w=.ok (.round r.b fn tmps B body) w/\Sim A μ' h' w'/\Grow M μ w A μ' w'/\Rep A μ' v x /\
          Steps P (lone (Frame.round r.b fn tmps B body .normal) (c::cs) w) (lone (c.finish x) cs w'):=by
        intro ex z E i q hj he;obtain⟨M3,μ3,w3,a3,cs3,s3,g3,f3,t3,g⟩:=GX q (b:=b) [] s2 f1';have:=E4 rfl t3;subst this;obtain⟨w4,y,ho,s4,g4⟩:=E3 (P:=P) s3 (g3.u _ _ (g1.u _ _ hr)) he;refine⟨M3,μ3,w4,.bool i.isNone,.bool i.isNone,j.fn,L,j.assign,j.body,ho,hy,s4,(g1.trans g2).trans (g3.trans g4),.bool _ _,st1.trans ?_⟩;rcases hj with⟨rfl,rfl⟩|⟨rfl,rfl⟩|⟨id,rfl,rfl⟩|⟨id,rfl,rfl⟩
        ·exact Steps.trans g (.one (stepR_round_end rfl rfl y))
        ·obtain⟨k1,g⟩:=g;exact Steps.trans g (.one (stepR_round_ret rfl rfl y))
        ·obtain⟨k1,hk,g⟩:=g;exact Steps.trans g (.one (stepR_round_exit rfl rfl (by rw[hk];rfl) y))
        ·obtain⟨k1,hk,g⟩:=g;exact Steps.trans g (.one (stepR_round_goto rfl rfl (by rw[hk];rfl) y))
       split at e
       ·rename_i z E q;exact C q (.inl ⟨rfl,rfl⟩) e
       ·rename_i z E q;exact C q (.inr (.inl ⟨rfl,rfl⟩)) e
       ·rename_i id z E q;exact C q (.inr (.inr (.inl ⟨id,rfl,rfl⟩))) e
       ·rename_i id z E q;exact C q (.inr (.inr (.inr ⟨id,rfl,rfl⟩))) e
       ·cases e
      ·cases e
     ·cases e
    ·cases e
   ·cases e
  ·cases e
theorem PK(a:Eg P)(b:∀ rec,RecOK P rec->E6 P rec)(F:Nat):∀ n,RecOK P (B4 P sh F n)
 |0=>Lj P
 |n+1=>Ju a b F (PK a b F n)
end
end
section
variable[Gl]
section
variable{P:Program}{hs h h1 h2:Hp}{id:Nat}
def Ee(hs h:Hp):Prop:=∀ x b,hs.get x=zo b->h.get x=zo b
structure Lay (hs h h1 h2:Hp) (id:Nat):Prop where
 get:∀ x,h2.get x=match h1.get x with
  |some b=>zo b
  |none=>h.get x
 keys:∀ x b,h1.get x=zo b->(∃ b0,hs.get x=zo b0)\/x=id
 up:∀ x,h1.get x=zn->hs.get x=zn
theorem Lay.refl(s:Ee hs h)(id:Nat):Lay hs h hs h id:=⟨λx=>by
 cases e:hs.get x with
 |none=>rfl
 |some b=>exact s x b e,λx b e=>.inl ⟨b,e⟩,λ_ h=>h⟩
theorem Lay.sub(l:Lay hs h h1 h2 id):Ee h1 h2:=λx b e=>by rw[l.get,e]
theorem Hp.set_some{h:Hp}{j:Nat}{b b':Blk}{h':Hp}(e:h.set j b=zo h')(g:Hp):∃ a,g.set j b'=zo a:=by
 unfold Hp.set at e ⊢;cases c:af j (j+1)with
 |false=>rw[c]at e;cases e
 |true=>exact⟨_,rfl⟩
theorem Lay.set(l:Lay hs h h1 h2 id){j:Nat}{b b0:Blk}{g:Hp}(m:h1.get j=zo b0)(e:h1.set j b=zo g):∃ f,h2.set j b=zo f/\Lay hs h g f id:=by
 obtain⟨f,e2⟩:=Hp.set_some (b':=b) e h2;have i:=(Hp.get_set e).1;have k:=(Hp.get_set e2).1
 refine⟨f,e2,⟨λx=> ?_,λx c a=> ?_,λx a=>l.up x (by
  rw[i]at a;by_cases d:x=j
  ·rw[zy d]at a;cases a
  ·rw[zx d]at a;exact a)⟩⟩
 ·rw[i,k];by_cases a:x=j
  ·simp[a]
  ·simp only[zx a];exact l.get x
 ·rw[i]at a;by_cases d:x=j
  ·subst d;exact l.keys x b0 m
  ·rw[zx d]at a;exact l.keys x c a
theorem Lay.new(l:Lay hs h h1 h2 id)(k:hs.get id=zn->h.get id=zn){b:Blk}{g:Hp}(e:h1.new id b=zo g):∃ f,h2.new id b=zo f/\Lay hs h g f id:=by
 obtain⟨n,j,_⟩:=Hp.get_new e;have p:h2.get id=zn:=by rw[l.get,n];exact k (l.up id n)
 unfold Hp.new at e;have o:h1.m.get id=zn:=n;rw[o]at e;obtain⟨f,e2⟩:=Hp.set_some (b':=b) e h2;have q:=(Hp.get_set e2).1
 refine⟨f,?_,⟨λx=> ?_,λx c a=> ?_,λx a=>l.up x (by
  rw[j]at a;by_cases d:x=id
  ·rw[zy d]at a;cases a
  ·rw[zx d]at a;exact a)⟩⟩
 ·unfold Hp.new;have i:h2.m.get id=zn:=p;rw[i];exact e2
 ·rw[j,q];by_cases a:x=id
  ·simp[a]
  ·simp only[zx a];exact l.get x
 ·rw[j]at a;by_cases d:x=id
  ·exact .inr d
  ·rw[zx d]at a;exact l.keys x c a
theorem Bs{f g:PV->Option (PV×List Nat)}(c:∀ p r,f p=zo r->g p=zo r):∀ {d:List PV} {r:List PV×List Nat},AB f d=zo r->AB g d=zo r
 |[],r,e=>e
 |p::d,r,e=>by
  unfold AB at e ⊢;split at e
  ·rename_i q a j b h i;rw[c _ _ h,Bs c i];exact e
  ·cases e
theorem Hz(s:Ee hs h):∀ (n:Nat) (p:PV) (r:PV×List Nat),AV hs n p=zo r->AV h n p=zo r
 |0,p,r,e=>by simp[AV]at e
 |n+1,p,r,e=>by
  have d:=Hz s n;cases p with
  |agg cs=>simp only[AV]at e ⊢;obtain⟨x,c,rfl⟩:=AA e;rw[Bs d c];rfl
  |tup cs=>simp only[AV]at e ⊢;obtain⟨x,c,rfl⟩:=AA e;rw[Bs d c];rfl
  |ifc t x=>simp only[AV]at e ⊢;obtain⟨y,u,rfl⟩:=AA e;rw[d _ _ u];rfl
  |fn f a b=>
   simp only[AV]at e ⊢;split at e
   ·rename_i x l y m o q;rw[Bs d o,Bs d q];exact e
   ·cases e
  |own j off len=>
   simp only[AV]at e ⊢;split at e
   ·rename_i es ex fz g;rw[s j _ g];replace e:=Aa e;obtain⟨hc,e⟩:=e;obtain⟨x,c,rfl⟩:=AA e;simp only[hc,zb];rw[Bs d c];rfl
   ·cases e
  |ptr j off=>
   simp only[AV]at e ⊢;split at e
   ·rename_i cs fz g;rw[s j _ g];replace e:=Aa e;obtain⟨hc,e⟩:=e;obtain⟨x,c,rfl⟩:=AA e;simp only[hc,zb];rw[Bs d c];rfl
   ·cases e
  |ept j i off=>
   simp only[AV]at e ⊢;split at e
   ·rename_i es ex fz g;rw[s j _ g];dsimp only;split at e
    ·rename_i w k
     try rw[k]
     replace e:=Aa e;obtain⟨hc,e⟩:=e;obtain⟨x,c,rfl⟩:=AA e;simp only[hc,zb];rw[Bs d c];rfl
    ·cases e
   ·cases e
  |yl _=>simp[AV]at e
  |mp _=>simp[AV]at e
  |_=>exact e
theorem Ij(s:Ee hs h):∀ {c:List PV} {r:List PV×List Nat},Ao hs c=zo r->Ao h c=zo r
 |[],r,e=>e
 |p::c,r,e=>by
  unfold Ao at e ⊢;split at e
  ·rename_i q a g b d f;rw[Hz s _ _ _ d,Ij s f];exact e
  ·cases e
theorem JJ(s:Ee hs h){p:PV}{es:List PV}(e:BX hs p=zo es):BX h p=zo es:=by
 unfold BX at e ⊢;cases p with
 |own j off len=>
  simp only at e ⊢;split at e
  ·rename_i a ex fz b;rw[s j _ b];exact e
  ·cases e
 |_=>exact e
theorem Lay.freeze:∀ (L:List Nat) {g c b:Hp},Lay hs h g c id->Pi.freeze g L=zo b -> ∃ d,Pi.freeze c L=zo d/\Lay hs h b d id
 |[],g,c,b,l,e=>by simp[Pi.freeze]at e;subst e;exact⟨c,rfl,l⟩
 |j::L,g,c,b,l,e=>by
  unfold Pi.freeze at e ⊢;split at e
  ·rename_i cs fz f;rw[l.sub j _ f];split at e
   ·rename_i m a;obtain⟨n,i,k⟩:=l.set f a;dsimp only;rw[i];exact Lay.freeze L k e
   ·cases e
  ·rename_i es ex fz f;rw[l.sub j _ f];split at e
   ·rename_i m a;obtain⟨n,i,k⟩:=l.set f a;dsimp only;rw[i];exact Lay.freeze L k e
   ·cases e
  ·cases e
def CC(hs h:Hp)(id:Nat)(F:Option R):R->Prop
 |.val v b=>∃ a,F=zo (.val v a)/\Lay hs h b a id
 |.skip b=>∃ a,F=zo (.skip a)/\Lay hs h b a id
 |.call f args=>F=zo (.call f args)
 |_=>True
theorem AL(s:Ee hs h){F:Option R}{v:PV}(e:F=zo (.val v h)):CC hs h id F (.val v hs):=⟨h,e,.refl s id⟩
theorem C5(s:Ee hs h){o:Option PV}{r:R}(e:vl o hs=zo r):CC hs h id (vl o h) r:=by
 obtain⟨v,rfl,rfl⟩:=Dh e;exact AL s rfl
theorem QB(s:Ee hs h){c a b:PV}{r:R}(e:Dk hs c a b=zo r):CC hs h id (Dk h c a b) r:=by
 unfold Dk at e ⊢;split at e<;>cases e<;>exact AL s rfl
theorem OC(s:Ee hs h)(a:hs.get id=zn->h.get id=zn){b:TypeId}{r:R}(e:Cj P hs id b=zo r):CC hs h id (Cj P h id b) r:=by
 unfold Cj at e ⊢;split at e
 ·obtain⟨g,d,rfl⟩:=AA e;obtain⟨c,e2,f⟩:=(Lay.refl s id).new a d;exact⟨c,by rw[e2];rfl,f⟩
 ·cases e
theorem Qs(s:Ee hs h)(a:hs.get id=zn->h.get id=zn){v:PV}{r:R}(e:Fa hs id v=zo r):CC hs h id (Fa h id v) r:=by
 unfold Fa at e ⊢;split at e
 ·cases e
 ·obtain⟨f,c,rfl⟩:=AA e;obtain⟨b,e2,d⟩:=(Lay.refl s id).new a c;exact⟨b,by rw[e2];rfl,d⟩
theorem OI(s:Ee hs h){ty:TypeId}{b:List (Nat×PV)}{r:R}(e:Bv P hs ty b=zo r):CC hs h id (Bv P h ty b) r:=by
 unfold Bv at e ⊢;split at e
 ·replace e:=Aa e;obtain⟨hc,e⟩:=e;split at e
  ·rename_i pl c;obtain⟨cs,a,rfl⟩:=AA e;refine AL s ?_;simp only[hc,zb,a,ap]
  ·cases e
 ·split at e
  ·rename_i n d;replace e:=Aa e;obtain⟨hc,e⟩:=e;obtain⟨cs,a,rfl⟩:=AA e;refine AL s ?_;simp only[hc,zb,a,ap]
  ·cases e
 ·cases e
theorem H9(s:Ee hs h){ty:TypeId}{len:Nat}{c:List (Nat×PV)}{r:R}(e:Ah P hs ty len c=zo r):CC hs h id (Ah P h ty len c) r:=by
 unfold Ah at e ⊢;split at e
 ·split at e
  ·rename_i n o z i a k
   try rw[i,a,k]
   try dsimp only
   split at e
   ·rename_i t b
    try rw[b]
    replace e:=Bn e;obtain⟨hc,e⟩:=e;split at e
    ·rename_i es f;split at e
     ·rename_i q l j;obtain⟨p,g,rfl⟩:=AA e;obtain⟨d,e2,m⟩:=Lay.freeze l (Lay.refl s id) g;refine⟨d,?_,m⟩;simp only[hc,zj,Ij s j,e2,ap]
     ·cases e
    ·cases e
   ·cases e
  ·cases e
 ·cases e
theorem Pu(s:Ee hs h){ty:TypeId}{p:PV}{r:R}(e:CD P hs ty p=zo r):CC hs h id (CD P h ty p) r:=by
 unfold CD at e ⊢;split at e
 ·split at e
  ·rename_i cs fz a;rw[s _ _ a];exact C5 s e
  ·cases e
 ·exact C5 s e
 ·split at e
  ·rename_i es ex fz a;rw[s _ _ a];dsimp only;split at e
   ·rename_i c b;try rw[b]
    exact C5 s e
   ·cases e
  ·cases e
 ·cases e
theorem O0(s:Ee hs h){ty:TypeId}{p v:PV}{r:R}(e:A2 P hs ty p v=zo r):CC hs h id (A2 P h ty p v) r:=by
 unfold A2 at e ⊢;split at e
 ·rename_i n o;replace e:=Bn e;obtain⟨hc,e⟩:=e;simp only[hc,zj];split at e
  ·split at e
   ·rename_i cs d;rw[s _ _ d];replace e:=Aa e;obtain⟨b,e⟩:=e;obtain⟨l,a,rfl⟩:=AA e;obtain⟨f,e2,g⟩:=(Lay.refl s id).set d a;exact⟨f,by simp only[b,zb,e2,ap],g⟩
   ·cases e
  ·split at e
   ·rename_i es ex d;rw[s _ _ d];dsimp only;split at e
    ·rename_i m j
     try rw[j]
     replace e:=Aa e;obtain⟨b,e⟩:=e;simp only[b,zb];split at e
     ·obtain⟨l,a,rfl⟩:=AA e;obtain⟨f,e2,g⟩:=(Lay.refl s id).set d a;exact⟨f,by simp only[e2,ap],g⟩
     ·split at e
      ·rename_i c k
       try rw[k]
       replace e:=Aa e;obtain⟨i,e⟩:=e;simp only[i,zb];split at e
       ·cases e
       ·cases e
       ·obtain⟨l,a,rfl⟩:=AA e;obtain⟨f,e2,g⟩:=(Lay.refl s id).set d a;exact⟨f,by simp only[e2,ap],g⟩
      ·cases e
    ·cases e
   ·cases e
  ·cases e
 ·cases e
end
end
section
variable[Gl]
section
variable{P:Program}{hs h h1 h2:Hp}{id:Nat}
theorem RI(s:Ee hs h){p:PV}{r:R}(e:Er hs p=zo r):CC hs h id (Er h p) r:=by
 unfold Er at e ⊢;split at e<;>first|(cases e;exact AL s rfl)|cases e
theorem Qr(s:Ee hs h){a:BinOp}{ty:TypeId}{x y:Operand}{p q:PV}{r:R}(e:Dd P hs a ty x y p q=zo r):CC hs h id (Dd P h a ty x y p q) r:=by
 unfold Dd at e ⊢;split at e
 ·replace e:=Aa e;obtain⟨hc,e⟩:=e;simp only[hc,zb];exact C5 s e
 ·replace e:=Bn e;obtain⟨hc,e⟩:=e;simp only[hc,zj];exact C5 s e
 ·exact C5 s e
theorem LB(s:Ee hs h){b a:TypeId}{p:PV}{r:R}(e:BJ P hs b a p=zo r):CC hs h id (BJ P h b a p) r:=by
 unfold BJ at e ⊢;split at e
 ·cases e;exact AL s rfl
 ·cases e;exact AL s rfl
 ·split at e
  ·cases e;exact AL s rfl
  ·cases e
 ·cases e
theorem Q3(s:Ee hs h){ty:TypeId}{p:PV}{r:R}(e:Ea P hs ty p=zo r):CC hs h id (Ea P h ty p) r:=by
 unfold Ea at e ⊢;split at e<;>first|(cases e;exact AL s rfl)|cases e
theorem KQ(s:Ee hs h){f:Fn}{a b:List PV}{r:R}(e:BF hs f a b=zo r):CC hs h id (BF h f a b) r:=by
 unfold BF at e ⊢;split at e<;>first|(cases e;exact AL s rfl)|cases e
theorem LI(s:Ee hs h){p:PV}{i:Nat}{r:R}(e:Be hs p i=zo r):CC hs h id (Be h p i) r:=by
 unfold Be at e ⊢;split at e
 ·exact C5 s e
 ·cases e
theorem OX(s:Ee hs h){ty:TypeId}{p:PV}{f:Nat}{r:R}(e:B6 P hs ty p f=zo r):CC hs h id (B6 P h ty p f) r:=by
 unfold B6 at e ⊢;split at e
 ·split at e
  ·rename_i b a
   try rw[a]
   exact C5 s e
  ·cases e
 ·cases e
theorem Iv(s:Ee hs h){ty:TypeId}{p:PV}{f:Nat}{r:R}(e:Av P hs ty p f=zo r):CC hs h id (Av P h ty p f) r:=by
 unfold Av at e ⊢;split at e
 ·split at e
  ·rename_i c a;split at e
   ·rename_i n b;replace e:=Bn e;obtain⟨hc,e⟩:=e
    try simp only[a,b]
    simp only[hc,zj];split at e<;>first|(cases e;exact AL s rfl)|cases e
   ·cases e
  ·cases e
 ·cases e
theorem Ix(s:Ee hs h){ty:TypeId}{p q:PV}{r:R}(e:Ap P hs ty p q=zo r):CC hs h id (Ap P h ty p q) r:=by
 unfold Ap at e ⊢;split at e
 ·split at e
  ·rename_i n c
   try simp only[c]
   split at e
   ·split at e
    ·rename_i d a
     try simp only[a]
     replace e:=Aa e;obtain⟨hc,e⟩:=e;cases e;simp only[hc,zb];exact AL s rfl
    ·cases e
   ·replace e:=Aa e;obtain⟨hc,e⟩:=e;simp only[hc,zb];split at e
    ·rename_i es ex fz f;rw[s _ _ f]
     try dsimp only
     split at e
     ·rename_i d a
      try simp only[a]
      replace e:=Aa e;obtain⟨b,e⟩:=e;cases e;simp only[b,zb];exact AL s rfl
     ·cases e
    ·cases e
   ·cases e
  ·cases e
 ·split at e
  ·rename_i n c
   try simp only[c]
   replace e:=Aa e;obtain⟨hc,e⟩:=e;simp only[hc,zb];split at e<;>first|(cases e;exact AL s rfl)|cases e
  ·cases e
 ·cases e
theorem Oa(s:Ee hs h){ty:TypeId}{p q:PV}{r:R}(e:Bw P hs ty p q=zo r):CC hs h id (Bw P h ty p q) r:=by
 unfold Bw at e ⊢;split at e
 ·replace e:=Aa e;obtain⟨hc,e⟩:=e;simp only[hc,zb];split at e
  ·rename_i n c
   try simp only[c]
   exact C5 s e
  ·cases e
 ·split at e
  ·rename_i b a
   try simp only[a]
   cases e;exact AL s rfl
  ·cases e
 ·cases e
theorem MM(s:Ee hs h){ty:TypeId}{p:PV}{a:Bool}{r:R}(e:BK P hs ty p a=zo r):CC hs h id (BK P h ty p a) r:=by
 have z:∀ {r:R},(bif a then(match Bt P ty with
   |some z=>zo (R.val (.tup [z,.bool zf]) hs)
   |none=>zn)else zn)=zo r->CC hs h id (bif a then(match Bt P ty with
   |some z=>zo (R.val (.tup [z,.bool zf]) h)
   |none=>zn)else zn) r:=by
  intro r e;replace e:=Aa e;obtain⟨hc,e⟩:=e;simp only[hc,zb];split at e
  ·rename_i z c
   try simp only[c]
   cases e;exact AL s rfl
  ·cases e
 unfold BK at e ⊢;split at e
 ·split at e
  ·split at e
   ·rename_i i hi
    try simp only[hi]
    split at e
    ·rename_i b
     try simp only[b]
     cases e;exact AL s rfl
    ·rename_i d b
     try simp only[b]
     exact z e
   ·cases e
  ·exact z e
  ·cases e
 ·split at e
  ·cases hc:aa _ ty with
   |true=>rw[hc]at e;cases e;simp only[zb];exact AL s rfl
   |false=>rw[hc]at e;simp only[zj]at e ⊢;exact z e
  ·exact z e
  ·cases e
 ·cases e
theorem Pz(s:Ee hs h)(a:hs.get id=zn->h.get id=zn){ty:TypeId}{l c:PV}{r:R}(e:C0 P hs id ty l c=zo r):CC hs h id (C0 P h id ty l c) r:=by
 unfold C0 at e ⊢;split at e
 ·split at e
  ·rename_i n o z q g i j k
   try simp only[g,i,j,k]
   split at e
   ·rename_i t b
    try simp only[b]
    replace e:=Aa e;obtain⟨hc,e⟩:=e;obtain⟨p,f,rfl⟩:=AA e;obtain⟨d,e2,m⟩:=(Lay.refl s id).new a f;exact⟨d,by simp only[hc,zb,e2,ap],m⟩
   ·cases e
  ·cases e
 ·cases e
theorem Qt(s:Ee hs h){j off len:Nat}{r:R}(e:DZ hs j off len=zo r):CC hs h id (DZ h j off len) r:=by
 unfold DZ at e ⊢;split at e
 ·rename_i f xs a d;rw[Hz s _ _ _ d];obtain⟨i,c,rfl⟩:=AA e;obtain⟨b,e2,g⟩:=Lay.freeze a (Lay.refl s id) c;exact⟨b,by simp only[e2,ap],g⟩
 ·cases e
theorem Qp(s:Ee hs h){arr:TypeId}{p:PV}{r:R}(e:DE P hs arr p=zo r):CC hs h id (DE P h arr p) r:=by
 unfold DE at e ⊢;split at e
 ·split at e
  ·rename_i j cs a d f;rw[Hz s _ _ _ f];simp only[d];replace e:=Aa e;obtain⟨hc,e⟩:=e;simp only[hc,zb];obtain⟨i,c,rfl⟩:=AA e;obtain⟨b,e2,g⟩:=Lay.freeze a (Lay.refl s id) c;exact⟨b,by simp only[e2,ap],g⟩
  ·cases e
 ·cases e
theorem Oy(s:Ee hs h){ty:TypeId}{p:PV}{lo hi mx:Option PV}{r:R}(e:Af P hs ty p lo hi mx=zo r):CC hs h id (Af P h ty p lo hi mx) r:=by
 unfold Af at e ⊢;split at e
 ·split at e
  ·rename_i hh l c d
   try simp only[c,d]
   replace e:=Aa e;obtain⟨hc,e⟩:=e;cases e;simp only[hc,zb];exact AL s rfl
  ·cases e
 ·split at e
  ·cases e
  ·rename_i n j
   try simp only[j]
   split at e
   ·split at e
    ·rename_i c d k
     try simp only[c,d,k]
     replace e:=Bn e;obtain⟨hc,e⟩:=e;cases e;simp only[hc,zj];exact AL s rfl
    ·cases e
   ·replace e:=Bn e;obtain⟨hc,e⟩:=e;simp only[hc,zj];split at e
    ·rename_i l hh c d
     try simp only[c,d]
     split at e
     ·replace e:=Aa e;obtain⟨a,e⟩:=e;cases e;simp only[a,zb];exact AL s rfl
     ·split at e
      ·rename_i m g
       try simp only[g]
       replace e:=Aa e;obtain⟨a,e⟩:=e;cases e;simp only[a,zb];exact AL s rfl
      ·cases e
    ·cases e
   ·split at e
    ·rename_i es ex fz i;rw[s _ _ i]
     try dsimp only
     replace e:=Bn e;obtain⟨hc,e⟩:=e;simp only[hc,zj];split at e
     ·rename_i l hh c d
      try simp only[c,d]
      replace e:=Bn e;obtain⟨f,e⟩:=e;simp only[f,zj];split at e
      ·cases b:af _ es.length with
       |true=>rw[b]at e;cases e;simp only[zb];exact AL s rfl
       |false=>rw[b]at e;cases e;simp only[zj];exact AL s rfl
      ·split at e
       ·rename_i m g
        try simp only[g]
        generalize o:(hi.isSome&&ah hh m&&ex&&aa _ es.length)=A at e ⊢;cases A with
        |true=>
         simp only[zb]at e ⊢;cases b:af _ es.length with
         |true=>rw[b]at e;cases e;simp only[zb];exact AL s rfl
         |false=>rw[b]at e;cases e;simp only[zj];exact AL s rfl
        |false=>
         simp only[zj]at e ⊢;replace e:=Aa e;obtain⟨a,e⟩:=e;simp only[a,zb];exact Qt s e
       ·cases e
     ·cases e
    ·cases e
   ·cases e
 ·split at e
  ·exact Qp s e
  ·cases e
 ·cases e
theorem Qo(s:Ee hs h)(f:hs.get id=zn->h.get id=zn){t:TypeId}{p q:PV}{r:R}(e:Ef P hs id t p q=zo r):CC hs h id (Ef P h id t p q) r:=by
 unfold Ef at e ⊢;split at e
 ·split at e
  ·rename_i B C new z n o u w;rw[JJ s u]
   try simp only[n,o,w]
   replace e:=Bn e;obtain⟨hc,e⟩:=e;simp only[hc,zj]
   have fresh:∀ {row:Blk} {v:PV} {r:R},(hs.new id row).map (λh=>R.val v h)=zo r->CC hs h id ((h.new id row).map λh=>R.val v h) r:=by
    intro row v r e;obtain⟨l,k,rfl⟩:=AA e;obtain⟨i,e2,g⟩:=(Lay.refl s id).new f k;exact⟨i,by rw[e2];rfl,g⟩
   split at e
   ·cases a:new.isEmpty with
    |true=>rw[a]at e;cases e;simp only[zb];exact AL s rfl
    |false=>
     rw[a]at e;simp only[zj]at e ⊢;replace e:=Aa e;obtain⟨b,e⟩:=e;simp only[b,zb];exact fresh e
   ·cases a:new.isEmpty with
    |true=>rw[a]at e;cases e;simp only[zb];exact AL s rfl
    |false=>
     rw[a]at e;simp only[zj]at e ⊢;replace e:=Aa e;obtain⟨b,e⟩:=e;simp only[b,zb];exact fresh e
   ·split at e
    ·rename_i es ex fz j;rw[s _ _ j]
     try dsimp only
     replace e:=Bn e;obtain⟨b,e⟩:=e;simp only[b,zj];cases ex with
     |true=>
      simp only[zb]at e ⊢;cases a:new.isEmpty with
      |true=>rw[a]at e;cases e;simp only[zb];exact AL s rfl
      |false=>
      rw[a]at e;simp only[zj]at e ⊢;generalize ah _ es.length=A at e ⊢;cases A with
      |true=>
       simp only[zb]at e ⊢;replace e:=Bn e;obtain⟨d,e⟩:=e;simp only[d,zj];obtain⟨l,c,rfl⟩:=AA e;obtain⟨i,e2,g⟩:=(Lay.refl s id).set j c;exact⟨i,by rw[e2];rfl,g⟩
      |false=>
       simp only[zj]at e ⊢;exact fresh e
     |false=>
      simp only[zj]at e ⊢;replace e:=Aa e;obtain⟨d,e⟩:=e;simp only[d,zb];split at e
      ·rename_i y c;obtain⟨l,k,rfl⟩:=AA e;obtain⟨i,e2,g⟩:=(Lay.refl s id).set j c;obtain⟨m,e3,x⟩:=g.new f k;exact⟨m,by simp only[e2,e3,ap],x⟩
      ·cases e
    ·cases e
   ·cases e
  ·cases e
 ·cases e
theorem Df{f:Fn}{a b args:List PV}{r:R}(e:CB P f a b args=zo r):∃ g c,r=.call g c:=by
 unfold CB at e;split at e
 ·obtain⟨rfl,_⟩:=PB e;exact⟨_,_,rfl⟩
 ·split at e
  ·split at e
   ·split at e
    ·split at e
     ·obtain⟨rfl,_⟩:=Hs e;exact⟨_,_,rfl⟩
     ·cases e
     ·obtain⟨rfl,_⟩:=Hs e;exact⟨_,_,rfl⟩
     ·cases e
    ·cases e
   ·cases e
  ·cases e
 ·cases e
end
end
section
variable[Gl]
section
variable{P:Program}{hs h h1 h2:Hp}{id:Nat}
def Fl(t a:T PV)(l:List Operand):Prop:=∀ k,.tmp k∈l->t.get k=a.get k
theorem FE{t a:T PV}{l:List Operand}(b:Fl t a l){o:Operand}(c:o∈l):B1 t o=B1 a o:=by
 cases o with
 |tmp k=>simp only[B1,b k c]
 |_=>rfl
theorem DA{t c:T PV}{l:List Operand}(b:Fl t c l):∀ {a:List Operand},(∀ o∈a,o∈l)->MF t a=MF c a
 |[],_=>rfl
 |o::a,ho=>by
  unfold MF;rw[FE b (ho o (by simp)),DA b λx d=>ho x (by simp[d])]
theorem Do{t c:T PV}{l:List Operand}(b:Fl t c l):∀ {a:List (Nat×Operand)},(∀ o∈a,o.2∈l)->CA t a=CA c a
 |[],_=>rfl
 |(i,o)::os,ho=>by
  unfold CA;rw[FE b (ho (i,o) (by simp)),Do b λx d=>ho x (by simp[d])]
theorem G4{t a:T PV}{l:List Operand}(b:Fl t a l){o:Option Operand}(c:∀ x∈o.toList,x∈l):Mb t o=Mb a o:=by
 cases o with
 |none=>rfl
 |some x=>simp only[Mb,FE b (c x (by simp))]
theorem EI{t j:T PV}{o:Oper}(d:As o.op=zt)(a:Fl t j (Aw o.op)):AQ P t h id o=AQ P j h id o:=by
 unfold AQ;generalize k:o.op=l at a d;have e:=λx i=>FE a (o:=x) i;cases l with
 |call c=>
  simp only[As]at d;simp only[Aw]at a e;cases hc:c.callee with
  |builtin b=>
   rw[hc]at a;simp only[hc];rw[DA a λx i=>i]
  |value f=>
   rw[hc]at a e;simp only[hc,e1];rw[DA a λx i=>by simp[i],e f (by simp)]
  |invoke r p=>
   rw[hc]at a e;simp only[hc,e1];rw[DA a λx i=>by simp[i],e r (by simp)]
 |build ty m=>
  simp only[Aw]at a;simp only;rw[Do a λx i=>bl.2 ⟨x,i,rfl⟩]
 |buildSlice ty n m=>
  simp only[Aw]at a;simp only;rw[Do a λx i=>bl.2 ⟨x,i,rfl⟩]
 |makeFunc f x y=>
  simp only[Aw]at a;simp only;rw[DA a λz g=>ao _ g,DA a λz g=>List.mem_append_right _ g]
 |slice ty x lo hi mx=>
  simp only[Aw]at a e;simp only[e1];rw[G4 (o:=lo) a λz g=>by simp at g ⊢;simp[g],G4 (o:=hi) a λz g=>by simp at g ⊢;simp[g],G4 (o:=mx) a λz g=>by simp at g ⊢;simp[g],e x (by simp)]
 |lookup _ _ _ _=>cases d
 |mapUpdate _ _ _ _=>cases d
 |insert _ _ _ _=>cases d
 |defer _=>cases d
 |panic _=>cases d
 |move x=>simp only[Aw]at e;simp only[e x (by simp)]
 |assign x=>simp only[Aw]at e;simp only[e x (by simp)]
 |pick c x y=>simp only[Aw]at e;simp only[e3,e c (by simp),e x (by simp),e y (by simp)]
 |alloc _=>rfl
 |box _ x=>simp only[Aw]at e;simp only[e1,e x (by simp)]
 |load _ x=>simp only[Aw]at e;simp only[e1,e x (by simp)]
 |store _ x y=>simp only[Aw]at e;simp only[e2,e x (by simp),e y (by simp)]
 |nilCheck x=>simp only[Aw]at e;simp only[e1,e x (by simp)]
 |binOp _ _ x y _=>simp only[Aw]at e;simp only[e2,e x (by simp),e y (by simp)]
 |unOp _ _ x=>simp only[Aw]at e;simp only[e1,e x (by simp)]
 |convert _ _ x=>simp only[Aw]at e;simp only[e1,e x (by simp)]
 |makeInterface _ x=>simp only[Aw]at e;simp only[e1,e x (by simp)]
 |makeMap ty r=>cases r<;>rfl
 |makeSlice _ x y=>simp only[Aw]at e;simp only[e2,e x (by simp),e y (by simp)]
 |fieldAddr _ x _=>simp only[Aw]at e;simp only[e1,e x (by simp)]
 |field _ x _=>simp only[Aw]at e;simp only[e1,e x (by simp)]
 |indexAddr _ x y=>simp only[Aw]at e;simp only[e2,e x (by simp),e y (by simp)]
 |index _ x y=>simp only[Aw]at e;simp only[e2,e x (by simp),e y (by simp)]
 |typeAssert x _ _ _=>simp only[Aw]at e;simp only[e1,e x (by simp)]
 |extract x _=>simp only[Aw]at e;simp only[e1,e x (by simp)]
 |_=>rfl
theorem AY{t:T PV}{x:Operand}{k:PV->Option R}{r:R}(e:e1 t x k=zo r):∃ p,B1 t x=zo p/\k p=zo r:=by
 unfold e1 at e;split at e
 ·rename_i p a;exact⟨p,a,e⟩
 ·cases e
theorem CO{t:T PV}{x y:Operand}{k:PV->PV->Option R}{r:R}(e:e2 t x y k=zo r):∃ p q,B1 t x=zo p/\B1 t y=zo q/\k p q=zo r:=by
 unfold e2 at e;split at e
 ·rename_i p q a b;exact⟨p,q,a,b,e⟩
 ·cases e
theorem NO{t:T PV}{x y z:Operand}{k:PV->PV->PV->Option R}{r:R}(e:e3 t x y z k=zo r):∃ p q s,B1 t x=zo p/\B1 t y=zo q/\B1 t z=zo s/\k p q s=zo r:=by
 unfold e3 at e;split at e
 ·rename_i p q s a b hs;exact⟨p,q,s,a,b,hs,e⟩
 ·cases e
theorem LJ(s:Ee hs h){f:Int->Int->Int}{a:Int}{l:List PV}{k:IntKind}{r:R}(e:(B8 f a l k).map (λm=>R.val (.int k m) hs)=zo r):CC hs h id ((B8 f a l k).map λm=>R.val (.int k m) h) r:=by
 obtain⟨m,b,rfl⟩:=AA e;exact AL s (by rw[b];rfl)
theorem K5(s:Ee hs h)(i:hs.get id=zn->h.get id=zn){b:Builtin}(n:b=.len\/b=.cap\/b=.append\/b=.copy\/b=.max\/b=.min){d:Array TypeId}{args:List PV}{r:R}(e:AH P hs id b d args=zo r) :
  CC hs h id (AH P h id b d args) r:=by
 rcases n with rfl|rfl|rfl|rfl|rfl|rfl
 ·simp only[AH]at e ⊢;split at e
  ·rename_i x t a
   try simp only[a]
   split at e
   ·split at e
    ·rename_i es c
     try simp only[c]
     rw[s _ _ c];cases e;exact AL s rfl
    ·cases e
   all_goals first|(cases e;done)|(cases e;exact AL s rfl)
  ·cases e
 ·simp only[AH]at e ⊢;split at e
  ·rename_i x t a
   try simp only[a]
   split at e
   ·split at e
    ·rename_i es fz c
     try simp only[c]
     rw[s _ _ c];cases e;exact AL s rfl
    ·cases e
   all_goals first|(cases e;done)|(cases e;exact AL s rfl)
  ·cases e
 ·simp only[AH]at e ⊢;split at e
  ·rename_i p q t B f
   try simp only[f]
   replace e:=Aa e;obtain⟨hc,e⟩:=e;simp only[hc,zb];exact Qo s i e
  ·cases e
 ·simp only[AH]at e ⊢;split at e
  ·rename_i j off len x t a
   try simp only[a]
   split at e
   ·rename_i l es ex new u k w;simp only[u,s _ _ k,JJ s w];split at e
    ·rename_i A o;replace e:=Bn e;obtain⟨hc,e⟩:=e;simp only[hc,zj];obtain⟨z,g,rfl⟩:=AA e;obtain⟨m,e2,y⟩:=(Lay.refl s id).set k g;exact⟨m,by simp only[e2,ap],y⟩
    ·cases e
   ·cases e
  ·cases e
 ·simp only[AH]at e ⊢;split at e
  ·exact LJ s e
  ·cases e;exact AL s rfl
  ·cases e
 ·simp only[AH]at e ⊢;split at e
  ·exact LJ s e
  ·cases e;exact AL s rfl
  ·cases e
theorem Jf{F:Option R}{r:R}(e:F=zo r)(hc:∃ g a,r=.call g a):CC hs h id F r:=by
 obtain⟨g,a,rfl⟩:=hc;exact e
theorem Cf(s:Ee hs h)(i:hs.get id=zn->h.get id=zn){t:T PV}{o:Oper}(d:As o.op=zt){r:R}(e:AQ P t hs id o=zo r):CC hs h id (AQ P t h id o) r:=by
 unfold AQ at e ⊢;generalize w:o.op=E at d e ⊢;cases E with
 |lookup _ _ _ _=>cases d
 |mapUpdate _ _ _ _=>cases d
 |insert _ _ _ _=>cases d
 |defer _=>cases d
 |panic _=>cases d
 |move x=>exact C5 s e
 |assign x=>exact C5 s e
 |pick c x y=>obtain⟨p,q,u,a,g,l,e⟩:=NO e;simp only[e3,a,g,l];exact QB s e
 |alloc _=>exact OC s i e
 |box _ x=>obtain⟨p,a,e⟩:=AY e;simp only[e1,a];exact Qs s i e
 |build ty F=>
  simp only at e ⊢;split at e
  ·rename_i p k;try simp only[k]
   exact OI s e
  ·cases e
 |buildSlice ty n F=>
  simp only at e ⊢;split at e
  ·rename_i p k;try simp only[k]
   exact H9 s e
  ·cases e
 |load _ x=>obtain⟨p,a,e⟩:=AY e;simp only[e1,a];exact Pu s e
 |store _ x y=>obtain⟨p,q,a,g,e⟩:=CO e;simp only[e2,a,g];exact O0 s e
 |nilCheck x=>obtain⟨p,a,e⟩:=AY e;simp only[e1,a];exact RI s e
 |binOp _ _ x y _=>obtain⟨p,q,a,g,e⟩:=CO e;simp only[e2,a,g];exact Qr s e
 |unOp _ _ x=>obtain⟨p,a,e⟩:=AY e;simp only[e1,a];exact C5 s e
 |convert _ _ x=>obtain⟨p,a,e⟩:=AY e;simp only[e1,a];exact LB s e
 |makeInterface _ x=>obtain⟨p,a,e⟩:=AY e;simp only[e1,a];exact Q3 s e
 |makeFunc f x y=>
  simp only at e ⊢;split at e
  ·rename_i p q k z;try simp only[k,z]
   exact KQ s e
  ·cases e
 |makeMap ty rs=>
  cases rs with
  |none=>
   simp only at e ⊢;obtain⟨a,m,rfl⟩:=AA e;obtain⟨g,e2,D⟩:=(Lay.refl s id).new i m;exact⟨g,by rw[e2];rfl,D⟩
  |some _=>cases e
 |makeSlice _ x y=>obtain⟨p,q,a,g,e⟩:=CO e;simp only[e2,a,g];exact Pz s i e
 |slice ty x lo hi mx=>
  simp only at e ⊢;split at e
  ·rename_i A B C;try simp only[A,B,C]
   obtain⟨p,a,e⟩:=AY e;simp only[e1,a];exact Oy s e
  ·cases e
 |fieldAddr _ x _=>obtain⟨p,a,e⟩:=AY e;simp only[e1,a];exact Iv s e
 |field _ x _=>obtain⟨p,a,e⟩:=AY e;simp only[e1,a];exact OX s e
 |indexAddr _ x y=>obtain⟨p,q,a,g,e⟩:=CO e;simp only[e2,a,g];exact Ix s e
 |index _ x y=>obtain⟨p,q,a,g,e⟩:=CO e;simp only[e2,a,g];exact Oa s e
 |typeAssert x _ _ _=>obtain⟨p,a,e⟩:=AY e;simp only[e1,a];exact MM s e
 |extract x _=>obtain⟨p,a,e⟩:=AY e;simp only[e1,a];exact LI s e
 |call c=>
  simp only at e ⊢;split at e
  ·rename_i args j
   try simp only[j]
   cases hc:c.callee with
   |builtin b=>
    simp only[hc]at e ⊢;simp only[As,hc]at d;exact K5 s i (by cases b<;>simp_all) e
   |value f=>
    simp only[hc]at e ⊢;obtain⟨p,a,e⟩:=AY e;simp only[e1,a];unfold Hu at e ⊢;split at e
    ·exact Jf e (Df e)
    ·cases e;exact True.intro
    ·cases e
   |invoke I G=>
    simp only[hc]at e ⊢;obtain⟨p,a,e⟩:=AY e;simp only[e1,a];exact Jf e (Df e)
  ·cases e
 |_=>cases e
theorem GU{t:T PV}{o:Oper}(i:quiet o.op=zt)(d:As o.op=zt){v:PV}{j:Hp}(e:AQ P t h id o=zo (.val v j)):j=h:=by
 have g:∀ {x:Option PV},vl x h=zo (.val v j)->j=h:=by
  intro x e;obtain⟨y,_,e⟩:=Dh e;cases e;rfl
 unfold AQ at e;generalize A:o.op=D at d i e;cases D with
 |lookup _ _ _ _=>cases d
 |mapUpdate _ _ _ _=>cases d
 |insert _ _ _ _=>cases d
 |defer _=>cases d
 |panic _=>cases d
 |buildSlice _ _ _=>cases i
 |store _ _ _=>cases i
 |alloc _=>cases i
 |box _ _=>cases i
 |makeMap _ _=>cases i
 |makeSlice _ _ _=>cases i
 |move x=>exact g e
 |assign x=>exact g e
 |pick c x y=>
  obtain⟨p,q,u,_,_,_,e⟩:=NO e;unfold Dk at e;split at e<;>cases e<;>rfl
 |build ty F=>
  simp only at e;split at e
  ·unfold Bv at e;simp only[az]at e
   repeat' split at e
   all_goals first|(cases e;done)|(obtain⟨cs,_,e⟩:=AA e;cases e;rfl)
  ·cases e
 |load _ x=>
  obtain⟨p,_,e⟩:=AY e;unfold CD at e
  repeat' split at e
  all_goals first|(cases e;done)|exact g e
 |nilCheck x=>
  obtain⟨p,_,e⟩:=AY e;unfold Er at e;split at e<;>first|(cases e;done)|(cases e;rfl)
 |binOp _ _ x y _=>
  obtain⟨p,q,_,_,e⟩:=CO e;unfold Dd at e;simp only[az]at e
  repeat' split at e
  all_goals first|(cases e;done)|exact g e
 |unOp _ _ x=>obtain⟨p,_,e⟩:=AY e;exact g e
 |convert _ _ x=>
  obtain⟨p,_,e⟩:=AY e;unfold BJ at e
  repeat' split at e
  all_goals first|(cases e;done)|(cases e;rfl)
 |makeInterface _ x=>
  obtain⟨p,_,e⟩:=AY e;unfold Ea at e;split at e<;>first|(cases e;done)|(cases e;rfl)
 |makeFunc f x y=>
  simp only at e;split at e
  ·unfold BF at e;split at e<;>first|(cases e;done)|(cases e;rfl)
  ·cases e
 |slice ty x lo hi mx=>
  simp only[quiet]at i
  have l:mx=zn:=by cases mx with
   |none=>rfl
   |some _=>cases i
  subst l;simp only at e;split at e
  ·rename_i w s C n r B;cases B;obtain⟨p,_,e⟩:=AY e
   have k:¬ (w=zn/\s=zn):=λ⟨a,b⟩=>by
    subst a;subst b;cases lo with
    |some o=>
     simp only[Mb]at n;cases m:B1 t o<;>rw[m]at n<;>cases n
    |none=>cases hi with
     |some o=>
      simp only[Mb]at r;cases m:B1 t o<;>rw[m]at r<;>cases r
     |none=>cases i
   unfold Af at e;simp only[az]at e
   repeat' split at e
   all_goals first|(cases e;done)|(cases e;rfl)|(exact absurd ⟨rfl,rfl⟩ k)|(simp at *;done)
  ·cases e
 |fieldAddr _ x _=>
  obtain⟨p,_,e⟩:=AY e;unfold Av at e;simp only[az]at e
  repeat' split at e
  all_goals first|(cases e;done)|(cases e;rfl)
 |field _ x _=>
  obtain⟨p,_,e⟩:=AY e;unfold B6 at e
  repeat' split at e
  all_goals first|(cases e;done)|exact g e
 |indexAddr _ x y=>
  obtain⟨p,q,_,_,e⟩:=CO e;unfold Ap at e;simp only[az]at e
  repeat' split at e
  all_goals first|(cases e;done)|(cases e;rfl)
 |index _ x y=>
  obtain⟨p,q,_,_,e⟩:=CO e;unfold Bw at e;simp only[az]at e
  repeat' split at e
  all_goals first|(cases e;done)|exact g e|(cases e;rfl)
 |typeAssert x _ _ _=>
  obtain⟨p,_,e⟩:=AY e;unfold BK at e;simp only[az]at e
  repeat' split at e
  all_goals first|(cases e;done)|(cases e;rfl)
 |extract x _=>
  obtain⟨p,_,e⟩:=AY e;unfold Be at e;split at e
  ·exact g e
  ·cases e
 |call c=>
  simp only[As]at d;simp only[quiet]at i;simp only at e;split at e
  ·cases hc:c.callee with
   |builtin b=>
    simp only[hc]at e d i;have z:b=.len\/b=.cap\/b=.max\/b=.min:=by cases b<;>simp_all
    rcases z with rfl|rfl|rfl|rfl<;>simp only[AH]at e<;>(repeat' split at e)
    all_goals first|(cases e;done)|(cases e;rfl)|(obtain⟨cs,_,e⟩:=AA e;cases e;rfl)
   |value f=>simp only[hc]at i;cases i
   |invoke G E=>simp only[hc]at i;cases i
  ·cases e
 |_=>cases e
end
end
section
variable[Gl]
section
variable{P:Program}{rec:GE}{hs h h1 h2:Hp}{id:Nat}
theorem FU:∀ (l:List Nat) (m:T Blk) (x:Nat),(Hh h l m).get x=if x∈l/\x<x+1/\(h.get x).isSome then h.get x else m.get x
 |[],m,x=>by simp[Hh]
 |j::l,m,x=>by
  unfold Hh;split
  ·rename_i b i;cases f:af j (j+1)with
   |true=>
    simp only[zb];have g:j<j+1:=by omega
    rw[FU l _ x,T.get_put (j+1) m j b x (LO j)];by_cases d:x∈l/\x<x+1/\(h.get x).isSome
    ·rw[zy d,zy ⟨by simp[d.1],d.2⟩]
    ·rw[zx d];by_cases e:x=j
     ·subst e;rw[zy rfl,zy ⟨by simp,g,by simp[i]⟩,i]
     ·rw[zx e,zx];rintro⟨a,b,c⟩;simp only[ai]at a;rcases a with a|a
      ·exact e a
      ·exact d ⟨a,b,c⟩
   |false=>
    simp only[zj];rw[FU l m x]
    have k:¬ j<j+1:=by
     intro h;have:af j (j+1)=zt:=by simp
     rw[this]at f;cases f
    by_cases d:x∈l/\x<x+1/\(h.get x).isSome
    ·rw[zy d,zy ⟨by simp[d.1],d.2⟩]
    ·rw[zx d,zx];rintro⟨a,b,c⟩;simp only[ai]at a;rcases a with a|a
     ·subst a;exact k b
     ·exact d ⟨a,b,c⟩
  ·rename_i i;rw[FU l m x];by_cases d:x∈l/\x<x+1/\(h.get x).isSome
   ·rw[zy d,zy ⟨by simp[d.1],d.2⟩]
   ·rw[zx d,zx];rintro⟨a,b,c⟩;simp only[ai]at a;rcases a with a|a
    ·subst a;rw[i]at c;cases c
    ·exact d ⟨a,b,c⟩
theorem Db(l:List Nat)(x:Nat):(h.cut l).get x=if x∈l/\x<x+1 then h.get x else zn:=by
 have:=FU (h:=h) l .lf x;show(Hh h l .lf).get x=_;rw[this];by_cases a:x∈l/\x<x+1
 ·rw[zy a];cases c:h.get x with
  |none=>rw[zx (by simp)];rfl
  |some b=>rw[zy ⟨a.1,a.2,by simp⟩]
 ·rw[zx a,zx λh=>a ⟨h.1,h.2.1⟩];rfl
theorem Dv{l:List Nat}{x:Nat}{b:Blk}(e:(h.cut l).get x=zo b):x∈l/\h.get x=zo b:=by
 rw[Db]at e;split at e
 ·rename_i a;exact⟨a.1,e⟩
 ·cases e
theorem Cw:∀ {l:List Nat} {h f:Hp},over h1 l h=zo f -> ∀ x,f.get x=if x∈l then(match h1.get x with
  |some b=>zo b
  |none=>h.get x)else h.get x
 |[],h,f,e,x=>by simp[over]at e;subst e;simp
 |j::l,h,f,e,x=>by
  unfold over at e;split at e
  ·rename_i b g;split at e
   ·rename_i i d;rw[Cw e x,(Hp.get_set d).1 x];by_cases a:x=j
    ·subst a;simp[g]
    ·by_cases c:x∈l
     ·rw[zy c,zy (show x∈j::l by simp[c]),zx a]
     ·rw[zx c,zx (show ¬ x∈j::l by simp[a,c]),zx a]
   ·cases e
  ·rename_i g;rw[Cw e x];by_cases a:x=j
   ·subst a;simp[g]
   ·by_cases c:x∈l
    ·rw[zy c,zy (show x∈j::l by simp[c])]
    ·rw[zx c,zx (show ¬ x∈j::l by simp[a,c])]
def Q5:Blk->Prop
 |.box _ fz=>fz=zt
 |.row _ _ fz=>fz=zt
 |_=>False
theorem By:∀ {l:List Nat} {x:Nat},x∈l->x ∉ BB h l -> ∃ b,h.get x=zo b/\Q5 b
 |[],x,hx,_=>by simp at hx
 |j::l,x,hx,hn=>by
  unfold BB at hn;simp only[ai]at hx;split at hn
  ·rename_i cs a;rcases hx with rfl|hx
   ·exact⟨_,a,rfl⟩
   ·exact By hx hn
  ·rename_i es ex a;rcases hx with rfl|hx
   ·exact⟨_,a,rfl⟩
   ·exact By hx hn
  ·simp only[ai,not_or]at hn;rcases hx with rfl|hx
   ·exact absurd rfl hn.1
   ·exact By hx hn.2
theorem Ai:∀ {l:List Nat} {x:Nat},x∈BB h l->x∈l
 |[],x,hx=>by simp[BB]at hx
 |j::l,x,hx=>by
  unfold BB at hx;split at hx
  ·simp[Ai hx]
  ·simp[Ai hx]
  ·simp only[ai]at hx;rcases hx with rfl|hx
   ·simp
   ·simp[Ai hx]
def Stays(hs a:Hp):Prop:=∀ x b,hs.get x=zo b->Q5 b->a.get x=zo b
theorem Stays.refl(hs:Hp):Stays hs hs:=λ_ _ h _=>h
theorem HS{b:Blk}(e:hs.new id b=zo h1):Stays hs h1:=by
 obtain⟨f,d,_⟩:=Hp.get_new e;intro x c a _;rw[d,zx (by intro h;subst h;rw[f]at a;cases a)];exact a
theorem FV{j:Nat}{b b0:Blk}(g:hs.get j=zo b0)(e:hs.set j b=zo h1)(f:Q5 b0->b=b0):Stays hs h1:=by
 have i:=(Hp.get_set e).1;intro x c d h;rw[i];by_cases a:x=j
 ·subst a;rw[g]at d;cases d;rw[zy rfl,f h]
 ·rw[zx a];exact d
theorem Stays.trans{d:Hp}(a:Stays hs h1)(b:Stays h1 d):Stays hs d:=λx c f e=>b x c (a x c f e) e
theorem CZ:∀ (L:List Nat) {hs b:Hp},freeze hs L=zo b->Stays hs b
 |[],hs,b,e=>by simp[freeze]at e;subst e;exact .refl _
 |j::L,hs,b,e=>by
  unfold freeze at e;split at e
  ·rename_i cs fz c;split at e
   ·rename_i d a;exact(FV c a λh=>by have h:fz=zt:=h;subst h;rfl).trans (CZ L e)
   ·cases e
  ·rename_i es ex fz c;split at e
   ·rename_i d a;exact(FV c a λh=>by have h:fz=zt:=h;subst h;rfl).trans (CZ L e)
   ·cases e
  ·cases e
theorem GV{t:T PV}{o:Oper}(a:As o.op=zt)(d:Eb o.op=zf)(l:quiet o.op=zf){r:R}(e:AQ P t hs id o=zo r):∀ i,((∃ v,r=.val v i)\/r=.skip i)->Stays hs i:=by
 intro i hr;unfold AQ at e;generalize w:o.op=z at a l d e
 have nw:∀ {b:Blk} {v:PV},(hs.new id b).map (λh=>R.val v h)=zo r->Stays hs i:=by
  intro b v e;obtain⟨m,j,rfl⟩:=AA e;rcases hr with⟨k,hr⟩|hr<;>cases hr
  exact HS j
 have fr:∀ {L:List Nat} {v:PV},(freeze hs L).map (λh=>R.val v h)=zo r->Stays hs i:=by
  intro L v e;obtain⟨m,j,rfl⟩:=AA e;rcases hr with⟨k,hr⟩|hr<;>cases hr
  exact CZ L j
 have same:∀ {v:PV},R.val v hs=r->Stays hs i:=by
  intro v e;subst e;rcases hr with⟨k,hr⟩|hr<;>cases hr
  exact .refl _
 cases z with
 |alloc _=>
  simp only at e;unfold Cj at e;split at e
  ·exact nw e
  ·cases e
 |box _ x=>
  obtain⟨p,_,e⟩:=AY e;unfold Fa at e;split at e
  ·cases e
  ·exact nw e
 |makeMap ty rs=>
  cases rs with
  |none=>exact nw e
  |some _=>cases e
 |makeSlice _ x y=>
  obtain⟨p,q,_,_,e⟩:=CO e;unfold C0 at e;simp only[az]at e
  repeat' split at e
  all_goals first|(cases e;done)|exact nw e
 |buildSlice ty n B=>
  simp only at e;split at e
  ·unfold Ah at e;simp only[az]at e
   repeat' split at e
   all_goals first|(cases e;done)|exact fr e
  ·cases e
 |slice ty x lo hi mx=>
  simp only at e;split at e
  ·obtain⟨p,_,e⟩:=AY e;unfold Af DZ DE at e;simp only[az]at e
   repeat' split at e
   all_goals first|(cases e;done)|exact fr e|exact same (Option.some.inj e)
  ·cases e
 |store _ x y=>
  obtain⟨p,q,_,_,e⟩:=CO e;unfold A2 at e;simp only[az]at e
  repeat' split at e
  all_goals first|(cases e;done)|skip
  all_goals
   obtain⟨m,j,rfl⟩:=AA e;rcases hr with⟨k,hr⟩|hr<;>cases hr
   refine FV (by assumption) j λh=> ?_;cases h
 |call c=>
  simp only[As,Eb,quiet]at a d l;simp only at e;split at e
  ·cases hc:c.callee with
   |builtin b=>
    simp only[hc]at a d l;by_cases u:b=.copy
    ·subst u;simp only[hc]at e;simp only[AH,az]at e
     repeat' split at e
     all_goals first|(cases e;done)|skip
     all_goals
      obtain⟨m,j,rfl⟩:=AA e;rcases hr with⟨k,hr⟩|hr<;>cases hr
      refine FV (by assumption) j λh=> ?_;cases h
    ·cases b<;>simp_all
   |value f=>
    simp only[hc]at e;obtain⟨p,_,e⟩:=AY e;unfold Hu at e;split at e
    ·obtain⟨g,s,rfl⟩:=Df e;rcases hr with⟨k,hr⟩|hr<;>cases hr
    ·cases e;rcases hr with⟨k,hr⟩|hr<;>cases hr
    ·cases e
   |invoke C A=>
    simp only[hc]at e;obtain⟨p,_,e⟩:=AY e;obtain⟨g,s,rfl⟩:=Df e;rcases hr with⟨k,hr⟩|hr<;>cases hr
  ·cases e
 |lookup _ _ _ _=>cases a
 |mapUpdate _ _ _ _=>cases a
 |insert _ _ _ _=>cases a
 |defer _=>cases a
 |panic _=>cases a
 |_=>first|cases l|cases e
theorem ID(s:Ee hs h)(d:hs.get id=zn->h.get id=zn){f:FuncId}{args:List PV}{v:PV}(e:A8 (λ_=>zf) rec id f args hs=zo (.ret v,h1)) :
  (∃ t,A8 (λ_=>zf) rec id f args h=zo (.ret v,t)/\Lay hs h h1 t id)/\(flat v=zt->h1=hs)/\Stays hs h1:=by
 unfold A8 at e ⊢;simp only[zj]at e ⊢;split at e
 ·rename_i B l y;rw[Ij s y];dsimp only;split at e
  ·rename_i r F h' g
   try simp only[g]
   obtain⟨⟨q,D⟩,a,e⟩:=AA e;cases e;unfold Ag at a ⊢;split at a
   ·rename_i len A ex x
    try dsimp only
    split at a
    ·rename_i C c;obtain⟨w,i,a⟩:=AA a;cases a;cases b:BP A with
     |true=>
      simp only[b,zb]at c ⊢;cases c;obtain⟨m,j,o⟩:=(Lay.refl s id).new d i;refine⟨⟨m,by simp only[j,ap],o⟩,(by intro h;cases h),HS i⟩
     |false=>
      simp only[b,zj]at c ⊢;obtain⟨u,k,p⟩:=Lay.freeze l (Lay.refl s id) c;obtain⟨m,j,o⟩:=p.new d i;refine⟨⟨m,by simp only[k,j,ap],o⟩,(by intro h;cases h),(CZ l c).trans (HS i)⟩
    ·cases a
   ·rename_i x
    try dsimp only
    split at a
    ·rename_i z E n
     try simp only[n]
     cases b:flat z with
     |true=>
      simp only[b,zb]at a ⊢;cases a;exact⟨⟨h,rfl,.refl s id⟩,λ_=>rfl,.refl _⟩
     |false=>
      simp only[b,zj]at a ⊢;obtain⟨w,c,a⟩:=AA a;cases a;obtain⟨u,k,p⟩:=Lay.freeze l (Lay.refl s id) c;exact⟨⟨u,by simp only[k,ap],p⟩,(by intro h;rw[b]at h;cases h),CZ l c⟩
    ·cases a
  ·split at e
   ·replace e:=Aa e;cases e.2
   ·cases e
  ·cases e
 ·cases e
end
end
section
variable[Gl]
section
theorem Ei(m k:Nat):Fm m k=m.testBit k:=by
 unfold Fm;show(!aa (m &&& 2 ^ k) 0)=m.testBit k;cases b:m.testBit k with
 |false=>
  have:m &&& 2 ^ k=0:=by
   apply Nat.eq_of_testBit_eq;intro j;rw[cm,bW,Nat.zero_testBit];by_cases c:k=j
   ·subst c;simp[b]
   ·simp[c]
  rw[this];rfl
 |true=>
  have:m &&& 2 ^ k≠0:=by
   intro d;have a:(m &&& 2 ^ k).testBit k=zt:=by rw[cm,b,bW];simp
   rw[d]at a;simp at a
  rw[Fi this];rfl
theorem FB(a b k:Nat):Fm (bS a b) k=(Fm a k||Fm b k):=by
 simp only[Ei];exact Nat.testBit_or a b k
theorem GH(j k:Nat):Fm (Nat.pow 2 j) k=decide (j=k):=by
 rw[Ei];exact bW
theorem H6{a b:Nat}(h:HT a b=zt)(k:Nat):¬ (Fm a k=zt/\Fm b k=zt):=by
 unfold HT at h;have e:a &&& b=0:=aj h;rintro⟨c,d⟩;rw[Ei]at c d;have:(a &&& b).testBit k=zt:=by rw[cm,c,d];rfl
 rw[e]at this;simp at this
theorem Hk:∀ {l:List Operand} {k:Nat},.tmp k∈l->Fm (EX l) k=zt
 |[],k,h=>by simp at h
 |o::l,k,h=>by
  unfold EX;rw[FB];simp only[ai]at h;rcases h with rfl|h
  ·simp only[QZ,GH];simp
  ·rw[Hk h];simp
theorem BD{a b:List Nat}(h:Ca a b=zf)(x:Nat):¬ (x∈a/\x∈b):=by
 induction a with
 |nil=>simp
 |cons y a d=>
  unfold Ca at h;simp only[ak]at h;rintro⟨h1,c⟩;simp only[ai]at h1;rcases h1 with rfl|h1
  ·rw[List.any_eq_false]at h;exact h.1 x c (by simp)
  ·exact d h.2 ⟨h1,c⟩
theorem FN:∀ (a:List Nat),Ca a []=zf
 |[]=>rfl
 |x::a=>by unfold Ca;rw[FN a];rfl
variable{P:Program}{rec:GE}
def Ir(nt:Nat)(a:Option Nat)(v:PV)(t b:T PV):Prop:=match a with
 |none=>b=t
 |some d=>d<nt/\b=T.put 20 t d v
structure Tr where
 ts:Nat->T PV
 hp:Nat->Hp
 rd:Nat->List Nat
 wr:Nat->List Nat
def Tr.StepAt(P:Program)(rec:GE)(base nt:Nat)(opsl:List Oper)(a:Tr)(j:Nat)(o:Oper):Prop:=
 (A6 opsl (a.ts j) o.guard=zt /\ ∃ v,Ax P rec (a.ts j) (a.hp j) (base+j) o=zo (v,a.hp (j+1),a.rd j,a.wr j)/\Ir nt o.dst v (a.ts j) (a.ts (j+1))) \/
 (A6 opsl (a.ts j) o.guard=zf/\a.hp (j+1)=a.hp j/\a.rd j=[]/\a.wr j=[]/\Ir nt o.dst (.tup []) (a.ts j) (a.ts (j+1)))
def Tr.Clear(a:Tr)(b j k:Nat):Prop:=Fm b k=zt\/(Ca (a.wr k) (a.rd j)=zf/\Ca (a.wr j) (a.rd k)=zf)
theorem F1{b:Nat}{rd wr:List Nat}:∀ {a:List (Nat×List Nat×List Nat)},Fz b rd wr a=zt -> ∀ k r w,(k,r,w)∈a->Fm b k=zt\/(Ca w rd=zf/\Ca wr r=zf)
 |[],_,k,r,w,h=>by simp at h
 |(k0,r0,w0)::a,e,k,r,w,h=>by
  unfold Fz at e;simp only[ac,bB,bf,ak]at e;simp only[ai]at h;rcases h with h|h
  ·cases h;exact e.1
  ·exact F1 e.2 k r w h
theorem LL{base nt:Nat}{opsl:List Oper}{K:T PV}{h':Hp}:∀ (l:List Oper) (D:List Mk) (i:Nat) (b:List (Nat×List Nat×List Nat)) (t:T PV) (h:Hp),
  AX P rec base nt opsl i l D b t h=zo (K,h') -> ∀ (g n:Nat->List Nat),(∀ k,k<i->(k,g k,n k)∈b\/(g k=[]/\n k=[])) ->
  ∃ f:Tr,f.ts i=t/\f.hp i=h/\f.ts (i+l.length)=K/\f.hp (i+l.length)=h'/\(∀ k,k<i->f.rd k=g k/\f.wr k=n k) /\
   ∀ j o m,l[j]?=zo o->D[j]?=zo m->f.StepAt P rec base nt opsl (i+j) o /\ ∀ k,k<i+j->f.Clear m.bef (i+j) k
 |[],D,i,b,t,h,e,g,n,hpast=>by
  unfold AX at e;cases e;exact⟨⟨λ_=>K,λ_=>h',g,n⟩,rfl,rfl,rfl,rfl,λ_ _=>⟨rfl,rfl⟩,λj o m G=>by simp at G⟩
 |o::l,[],i,b,t,h,e,g,n,hpast=>by unfold AX at e;cases e
 |o::l,m::D,i,b,t,h,e,g,n,hpast=>by
  unfold AX at e
  have s:∀ {v:PV} {M:T PV} {E:Hp} {p q:List Nat} {c:List (Nat×List Nat×List Nat)},AX P rec base nt opsl (i+1) l D c M E=zo (K,h')->Ir nt o.dst v t M ->
    (A6 opsl t o.guard=zt/\Ax P rec t h (base+i) o=zo (v,E,p,q)\/A6 opsl t o.guard=zf/\E=h/\p=[]/\q=[]/\v=.tup []) ->
    (∀ k r w,(k,r,w)∈b->(k,r,w)∈c)->((i,p,q)∈c\/(p=[]/\q=[]))->(∀ k r w,(k,r,w)∈b->Fm m.bef k=zt\/(Ca w p=zf/\Ca q r=zf)) ->
    ∃ f:Tr,f.ts i=t/\f.hp i=h/\f.ts (i+(o::l).length)=K/\f.hp (i+(o::l).length)=h'/\(∀ k,k<i->f.rd k=g k/\f.wr k=n k) /\
     ∀ j o' L,(o::l)[j]?=zo o'->(m::D)[j]?=zo L->f.StepAt P rec base nt opsl (i+j) o' /\ ∀ k,k<i+j->f.Clear L.bef (i+j) k:=by
   intro v M E p q c e1 AG C J S u
   obtain⟨f,k1,k2,k3,k4,Y,k6⟩:=LL l D (i+1) c M E e1 (λk=>if k=i then p else g k) (λk=>if k=i then q else n k) (by
    intro k U;by_cases I:k=i
    ·subst I;simpa using S
    ·simp only[zx I];rcases hpast k (by omega)with hp|hp
     ·exact .inl (J _ _ _ hp)
     ·exact .inr hp)
   obtain⟨x,y⟩:=Y i (by omega);simp only[if_true]at x y;refine⟨⟨λk=>if k=i then t else f.ts k,λk=>if k=i then h else f.hp k,f.rd,f.wr⟩,by simp,by simp,?_,?_,?_,?_⟩
   ·simp only[aR];rw[zx (by omega),show i+(l.length+1)=i+1+l.length by omega];exact k3
   ·simp only[aR];rw[zx (by omega),show i+(l.length+1)=i+1+l.length by omega];exact k4
   ·intro k U;have:=Y k (by omega);simp only[zx (show k≠i by omega)]at this;exact this
   ·intro j o' L G B;cases j with
    |zero=>
     simp only[aW,Option.some.injEq]at G B;subst G;subst B;simp only[bg];constructor
     ·rcases C with⟨N,O⟩|⟨N,O,a3,a4,a5⟩
      ·refine .inl ⟨by simpa using N,v,?_,?_⟩
       ·simp only[if_true,zx (show i+1≠i by omega)];rw[k2,x,y];exact O
       ·simp only[if_true,zx (show i+1≠i by omega)];rw[k1];exact AG
      ·refine .inr ⟨by simpa using N,?_,by rw[x,a3],by rw[y,a4],?_⟩
       ·simp only[if_true,zx (show i+1≠i by omega)];rw[k2,O]
       ·simp only[if_true,zx (show i+1≠i by omega)];rw[k1,<- a5];exact AG
     ·intro k U;have z:=Y k (by omega);simp only[zx (show k≠i by omega)]at z;unfold Tr.Clear;simp only[x,y,z.1,z.2];rcases hpast k U with hp|⟨W,X⟩
      ·exact u _ _ _ hp
      ·rw[W,X];exact .inr ⟨rfl,FN _⟩
    |succ j=>
     obtain⟨q1,q2⟩:=k6 j o' L (by simpa using G) (by simpa using B);rw[show i+(j+1)=i+1+j by omega];refine⟨?_,q2⟩;unfold Tr.StepAt at q1 ⊢;simp only[zx (show i+1+j≠i by omega),zx (show i+1+j+1≠i by omega)];exact q1
  cases F:A6 opsl t o.guard with
  |true=>
   simp only[F,zb]at e;split at e
   ·rename_i v E p q Z;replace e:=Aa e;obtain⟨u,e⟩:=e;cases a:o.dst with
    |some d=>
     simp only[a]at e;replace e:=Aa e;obtain⟨A,e⟩:=e;exact s e (by rw[a];exact⟨by simpa using A,rfl⟩) (.inl ⟨F,Z⟩) (λk r w hp=>aB _ hp) (.inl bX) (λk r w hp=>F1 u k r w hp)
    |none=>
     simp only[a]at e;exact s e (by rw[a];exact rfl) (.inl ⟨F,Z⟩) (λk r w hp=>aB _ hp) (.inl bX) (λk r w hp=>F1 u k r w hp)
   ·cases e
  |false=>
   simp only[F,zj]at e;cases a:o.dst with
   |some d=>
    simp only[a]at e;replace e:=Aa e;obtain⟨A,e⟩:=e;exact s (v:=.tup []) e (by rw[a];exact⟨by simpa using A,rfl⟩) (.inr ⟨F,rfl,rfl,rfl,rfl⟩) (λk r w hp=>hp) (.inr ⟨rfl,rfl⟩) (λk r w hp=>.inr ⟨FN _,rfl⟩)
   |none=>
    simp only[a]at e;exact s (v:=.tup []) e (by rw[a];exact rfl) (.inr ⟨F,rfl,rfl,rfl,rfl⟩) (λk r w hp=>hp) (.inr ⟨rfl,rfl⟩) (λk r w hp=>.inr ⟨FN _,rfl⟩)
theorem Hf{m:Mk}:∀ {l:List Mk} {j:Nat},Gg m j l=zt -> ∀ k x,l[k]?=zo x->Fm m.bef (j+k)=zt\/(HT x.wr (bS m.rd m.wr)=zt/\HT x.rd m.wr=zt)
 |[],j,_,k,x,h=>by simp at h
 |y::l,j,e,k,x,h=>by
  unfold Gg at e;simp only[ac,bB]at e;cases k with
  |zero=>simp only[aW,Option.some.injEq]at h;subst h;exact e.1
  |succ k=>
   have:=Hf e.2 k x (by simpa using h)
   rwa [show j+1+k=j+(k+1) by omega]at this
def Ky(opsl:List Oper)(a:List Mk)(i:Nat)(o:Oper)(m:Mk):Prop:=
 m.rd=bS (EX (Aw o.op)) (D0 opsl o.guard)/\m.wr=Fv o.dst/\m.bef=Cp (a.take i) o.after.toList/\GS i o.after.toList=zt/\Gg m 0 (a.take i)=zt
theorem Ld{opsl:List Oper}:∀ (l:List Oper) (i:Nat) (a c:List Mk),FM opsl i l a=zo c->a.length=i ->
  (∃ b,c=a++b/\b.length=l.length) /\ ∀ j o,l[j]?=zo o -> ∃ m,c[i+j]?=zo m/\Ky opsl c (i+j) o m
 |[],i,a,c,e,hl=>by simp[FM]at e;subst e;exact⟨⟨[],by simp,rfl⟩,λj o h=>by simp at h⟩
 |o::l,i,a,c,e,hl=>by
  unfold FM at e;simp only at e;replace e:=Aa e;obtain⟨hc,e⟩:=e;simp only[ac]at hc;obtain⟨⟨b,d,k⟩,f⟩:=Ld l (i+1) _ c e (by simp[hl]);refine⟨⟨_::b,by rw[d,bh];rfl,by simp[k]⟩,λj o' n=> ?_⟩;cases j with
  |zero=>
   simp only[aW,Option.some.injEq]at n;subst n;have g:c.take i=a:=by rw[d,bh,<- hl];simp
   refine⟨{ rd:=bS (EX (Aw o.op)) (D0 opsl o.guard),wr:=Fv o.dst,bef:=Cp a o.after.toList },?_,?_⟩
   ·rw[d,<- hl];simp
   ·rw[bg];unfold Ky;rw[g];exact⟨rfl,rfl,rfl,hc.1,hc.2⟩
  |succ j=>
   obtain⟨m,p,q⟩:=f j o' (by simpa using n);rw[show i+(j+1)=i+1+j by omega];exact⟨m,p,q⟩
theorem EH{a:List Mk}:∀ {es:List Edge} {k:Nat},Fm (Cp a es) k=zt -> ∃ e∈es,Region.binds .any e=zt/\(e.on=k \/ ∃ m,a[e.on]?=zo m/\Fm m.bef k=zt)
 |[],k,h=>by rw[Ei]at h;simp[Cp]at h
 |e::es,k,h=>by
  unfold Cp at h;cases b:Region.binds .any e with
  |true=>
   simp only[b,zb]at h;rw[FB,FB,GH]at h;simp only[bB,decide_eq_true_eq]at h;rcases h with (h|h)|h
   ·exact⟨e,by simp,b,.inl h⟩
   ·rw[AN]at h;cases i:a[e.on]? with
    |none=>rw[i,Ei]at h;simp at h
    |some m=>rw[i]at h;exact⟨e,by simp,b,.inr ⟨m,i,h⟩⟩
   ·obtain⟨c,d,f,g⟩:=EH h;exact⟨c,by simp[d],f,g⟩
  |false=>
   simp only[b,zj]at h;obtain⟨c,d,f,g⟩:=EH h;exact⟨c,by simp[d],f,g⟩
theorem Ep{i:Nat}:∀ {es:List Edge},GS i es=zt -> ∀ e∈es,Region.binds .any e=zt->e.on<i
 |[],_,e,he=>by simp at he
 |e0::es,h,e,he=>by
  unfold GS at h;simp only[ac,bB,bf,bR]at h;intro a;simp only[ai]at he;rcases he with rfl|he
  ·rcases h.1 with h1|h1
   ·rw[a]at h1;cases h1
   ·exact h1
  ·exact Ep h.2 e he a
end
end
section
variable[Gl]
section
theorem C4:∀ (n:Nat) (l:List Nat),l.Nodup->(∀ x∈l,x<n)->l.length<=n
 |0,l,_,h=>by
  cases l with
  |nil=>simp
  |cons a l=>have:=h a (by simp);omega
 |n+1,l,hn,h=>by
  by_cases d:n∈l
  ·have f:=C4 n (l.erase n) (hn.erase n) (λx b=>by
    have c:=(hn.mem_erase_iff).1 b;have:=h x c.2;have:=c.1
    omega)
   rw[cv d]at f;omega
  ·have:=C4 n l hn (λx b=>by
    have c:=h x b;have:x≠n:=by intro e;subst e;exact d b
    omega)
   omega
theorem D3:∀ (n:Nat) (l:List Nat),(∀ x,x<n->x∈l)->n<=l.length
 |0,l,_=>by omega
 |n+1,l,h=>by
  have b:=D3 n (l.erase n) (λx c=>(List.mem_erase_of_ne (by omega)).2 (h x (by omega)));have a:=h n (by omega);rw[cv a]at b;have:0<l.length:=List.length_pos_of_mem a;omega
def Gw(ops:Array Oper)(l:List Nat):Prop:=∀ p i q,l=p++i::q -> ∀ o,ops[i]?=zo o -> ∀ e∈o.after.toList,Region.binds .any e=zt->e.on∈p
theorem LV{ops:Array Oper}{l:List Nat}{i:Nat}(k:Gw ops l)(hi:∀ o,ops[i]?=zo o -> ∀ e∈o.after.toList,Region.binds .any e=zt->e.on∈l):Gw ops (l++[i]):=by
 intro p j q f o g e a d;rcases List.eq_nil_or_concat q with rfl|⟨h,z,rfl⟩
 ·have:=cV f (by simp);obtain⟨rfl,c⟩:=this;simp only[List.cons.injEq,and_true]at c;subst c;exact hi o g e a d
 ·have b:l++[i]=(p++j::h)++[z]:=by rw[f];simp
  have:=cV b (by simp);exact k p j h this.1 o g e a d
theorem Pq{ops:Array Oper}(b:∀ i o,ops[i]?=zo o -> ∀ e∈o.after.toList,Region.binds .any e=zt->e.on<i) :
  ∀ (fuel t:Nat) (listed:Array Bool) (a:List Nat),fuel+a.length=ops.size->listed.size=ops.size->(∀ i,i<ops.size->listed[i]?=zo (decide (i∈a)))->a.Nodup->(∀ i∈a,i<ops.size)->Gw ops a.reverse ->
  (Region.linearise.go .any ops fuel t listed a).Nodup/\(∀ i,i∈Region.linearise.go .any ops fuel t listed a<->i<ops.size)/\Gw ops (Region.linearise.go .any ops fuel t listed a)
 |0,t,listed,a,hf,hs,hl,hn,hlt,hp=>by
  simp only[Region.linearise.go];refine⟨List.pairwise_reverse.2 (hn.imp λh=>Ne.symm h),λi=>⟨λh=>hlt i (by simpa using h),λhi=> ?_⟩,hp⟩;rw[cX];by_cases n:i∈a
  ·exact n
  ·have:=C4 ops.size (i::a) (bC.2 ⟨n,hn⟩) (λx hx=>by
    simp only[ai]at hx;rcases hx with rfl|hx
    ·exact hi
    ·exact hlt x hx)
   simp only[aR]at this;omega
 |fuel+1,t,listed,a,hf,hs,hl,hn,hlt,hp=>by
  simp only[Region.linearise.go];generalize u:(bT ops.size).filter (λi=> !listed.getD i zt&&((ops[i]?).map (λo=>o.after.all λe=> !Region.binds .any e||listed.getD e.on zf)).getD zf)=rs
  have q:∀ i,i∈rs<->i<ops.size/\i ∉ a /\ ∀ o,ops[i]?=zo o -> ∀ e∈o.after.toList,Region.binds .any e=zt->e.on∈a:=by
   intro i;rw[<- u,List.mem_filter,List.mem_range];constructor
   ·rintro⟨l,g⟩;simp only[ac,bf]at g;have r:=hl i l;refine⟨l,?_,?_⟩
    ·intro n;rw[aD,r]at g;simp[n]at g
    ·intro o f e d c;rw[f]at g;simp only[ap,aE,bY]at g;have:=g.2 e (bx.1 d);rw[c]at this;simp only[au,dj]at this;have p:=b i o f e d c;rw[aD,hl e.on (by omega)]at this;simpa using this
   ·rintro⟨l,g,B⟩;refine⟨l,?_⟩;simp only[ac,bf];refine⟨by rw[aD,hl i l];simpa using g,?_⟩;rw[al l];simp only[ap,aE,bY];intro e d;cases c:Region.binds .any e with
    |false=>rfl
    |true=>
     simp only[au,dj];have f:=al l;have p:=b i _ f e (bx.2 d) c;rw[aD,hl e.on (by omega)];simpa using B _ f e (bx.2 d) c
  have s:rs≠[]:=by
   intro A
   have all:∀ i,i<ops.size->i∈a:=by
    intro i
    induction i using di with
    |_ i C=>
     intro hi;by_cases n:i∈a
     ·exact n
     ·have:i∈rs:=(q i).2 ⟨hi,n,λo f e d c=>C e.on (b i o f e d c) (by have:=b i o f e d c;omega)⟩;rw[A]at this;simp at this
   have:=D3 ops.size a all;omega
  have k:t % rs.length<rs.length:=Nat.mod_lt _ (List.length_pos_iff.2 s);rw[ae k];simp only;obtain⟨w,y,z⟩:=(q _).1 (List.getElem_mem k);generalize rs[t % rs.length]=i at w y z;refine Pq b fuel _ _ (i::a) (by simp only[aR];omega) (by simpa using hs) ?_ (bC.2 ⟨y,hn⟩) ?_ ?_
  ·intro j hj;rw[Array.getElem?_setIfInBounds];by_cases m:i=j
   ·subst m;rw[zy rfl,zy (by omega)];simp
   ·rw[zx m,hl j hj];simp[Ne.symm m]
  ·intro j hj;simp only[ai]at hj;rcases hj with rfl|hj
   ·exact w
   ·exact hlt j hj
  ·rw[List.reverse_cons];exact LV hp λo f e d c=>by rw[cX];exact z o f e d c
theorem QU{ops:Array Oper}{mixed:Bool}(b:(mixed || !Region.departs ops)=zt)(a:∀ i o,ops[i]?=zo o -> ∀ e∈o.after.toList,Region.binds .any e=zt->e.on<i)(t:Nat) :
  (Region.schedule mixed ops t).Nodup/\(∀ i,i∈Region.schedule mixed ops t<->i<ops.size)/\Gw ops (Region.schedule mixed ops t):=by
 unfold Region.schedule;rw[zy b];unfold Region.linearise;exact Pq a ops.size t _ [] (by simp) (by simp) (λi hi=>by simp[hi]) List.nodup_nil (by simp) (by intro p i q h;simp at h)
theorem Rs{ops:Array Oper}{w:List Mk}(s:∀ j o,ops.toList[j]?=zo o -> ∃ m,w[j]?=zo m/\Ky ops.toList w j o m){σ:List Nat}(hσ:Gw ops σ) :
  ∀ (i:Nat) (o:Oper) (m:Mk),ops[i]?=zo o->w[i]?=zo m -> ∀ p q,σ=p++i::q -> ∀ k,Fm m.bef k=zt->k∈p:=by
 intro i
 induction i using di with
 |_ i B=>
  intro o m t A p q x k y;obtain⟨F,g,a⟩:=s i o (by simpa using t);rw[A]at g;cases g;rw[a.2.2.1]at y;obtain⟨e,b,c,n⟩:=EH y;have f:=Ep a.2.2.2.1 e b c;have d:=hσ p i q x o t e b c;rcases n with rfl|⟨C,l,r⟩
  ·exact d
  ·obtain⟨D,E,z⟩:=cK d;rw[aA,zy f]at l;have hi:i<ops.size:=(bE.1 t).1;have u:=al (xs:=ops) (i:=e.on) (by omega);have:=B e.on f _ C u l D (E++i::q) (by rw[x,z];simp) k r;rw[z];simp[this]
end
end
section
variable[Gl]
section
variable{P:Program}{rec:GE}
def Qk(n:Nat)(ops:Array Oper)(b:Tr)(a:List Nat)(t:T PV):Prop:=
 ∀ k m,m<=n->(∀ j o,ops[j]?=zo o->o.dst=zo k->(j∈a<->j<m))->t.get k=(b.ts m).get k
def Qj(n:Nat)(b:Tr)(a:List Nat)(h:Hp):Prop:=
 ∀ x m,m<=n->(∀ j,j<n->x∈b.wr j->(j∈a<->j<m))->h.get x=(b.hp m).get x
theorem HX{t tS:T PV}{h hS h':Hp}{id:Nat}{o:Oper}{v:PV}{rd wr:List Nat}(e:Ax P rec t h id o=zo (v,h',rd,wr))(W:Fl t tS (Aw o.op))(hh:∀ x∈rd,hS.get x=h.get x) :
  ∃ hS',((AQ P tS hS id o=zo (.val v hS'))\/(AQ P tS hS id o=zo (.skip hS')/\v=.tup []) \/ ∃ f args,AQ P tS hS id o=zo (.call f args)/\A8 (λ_=>zf) rec id f args hS=zo (.ret v,hS')) /\
   (∀ x,x ∉ wr->hS'.get x=hS.get x/\h'.get x=h.get x)/\(∀ x,x∈wr->x∈rd/\hS'.get x=h'.get x):=by
 unfold Ax at e;simp only at e;replace e:=Bn e;obtain⟨hc,e⟩:=e;simp only[ak,ay,bR]at hc;obtain⟨j,r⟩:=hc
 have sub:∀ {l:List Nat},(∀ x∈l,x∈rd)->Ee (h.cut l) hS:=by
  intro l g x b hx;obtain⟨d,p⟩:=Dv hx;rw[hh x (g x d)];exact p
 have q:∀ {l:List Nat},id∈l->(∀ x∈l,x∈rd)->(h.cut l).get id=zn->hS.get id=zn:=by
  intro l k g hx;rw[Db,zy ⟨k,r⟩]at hx;rw[hh id (g id k)];exact hx
 have u:∀ {l:List Nat} {x:Nat} {b:Blk},(h.cut l).get x=zo b->x∈l:=λhx=>(Dv hx).1
 have lay:∀ {l A:List Nat} {d hS':Hp},id∈l->(∀ x∈l,x∈rd)->Lay (h.cut l) hS d hS' id->over d l h=zo h'->(∀ x∈A,x∈l)->(∀ x∈l,x ∉ A -> ∃ b,h.get x=zo b/\Q5 b)->Stays (h.cut l) d\/(∀ x∈l,x∈A) ->
   (∀ x,x ∉ A->hS'.get x=hS.get x/\h'.get x=h.get x)/\(∀ x,x∈A->x∈rd/\hS'.get x=h'.get x):=by
  intro l A d hS' k g m I X S hst;refine⟨λx hx=> ?_,λx hx=> ?_⟩
  ·by_cases a:x∈l
   ·rcases hst with hst|hst
    ·obtain⟨b,N,O⟩:=S x a hx;have Y:x<x+1 \/ ¬ x<x+1:=by omega
     rcases Y with U|hge
     ·have B:=hst x b (by rw[Db,zy ⟨a,U⟩];exact N) O;refine⟨by rw[m.get,B,hh x (g x a),N],by rw[Cw I,zy a,B,N]⟩
     ·have G:d.get x=zn:=by
       cases E:d.get x with
       |none=>rfl
       |some c=>
        rcases m.keys x c E with⟨b0,s⟩|rfl
        ·rw[Db,zx (λh=>hge h.2)]at s;cases s
        ·exact absurd r hge
      exact⟨by rw[m.get,G],by rw[Cw I,zy a,G]⟩
    ·exact absurd (hst x a) hx
   ·have G:d.get x=zn:=by
     cases E:d.get x with
     |none=>rfl
     |some c=>
      rcases m.keys x c E with⟨b0,s⟩|rfl
      ·exact absurd (u s) a
      ·exact absurd k a
    exact⟨by rw[m.get,G],by rw[Cw I,zx a]⟩
  ·have a:=X x hx;refine⟨g x a,?_⟩;rw[m.get,Cw I,zy a];cases d.get x with
   |some b=>rfl
   |none=>exact hh x (g x a)
 have same:∀ {l:List Nat} {hS':Hp},(∀ x∈l,x∈rd)->Lay (h.cut l) hS (h.cut l) hS' id->h'=h->(∀ x,x ∉ ([]:List Nat)->hS'.get x=hS.get x/\h'.get x=h.get x)/\(∀ x,x∈([]:List Nat)->x∈rd/\hS'.get x=h'.get x):=by
  intro l hS' g m he;refine⟨λx _=>⟨?_,by rw[he]⟩,λx hx=>by simp at hx⟩;rw[m.get];cases E:(h.cut l).get x with
  |none=>rfl
  |some b=>exact(sub g x b E).symm
 split at e
 ·rename_i M d i;rw[EI j W]at i;cases J:quiet o.op with
  |true=>
   simp only[J,zb,Option.some.injEq,Prod.mk.injEq]at e;obtain⟨rfl,rfl,rfl,rfl⟩:=e;have C:=GU J j i;subst C;have g:∀ x∈id::Au t h o.op,x∈id::Au t h o.op:=λx hx=>hx;obtain⟨hS',e2,m⟩:=Cf (sub g) (q (by simp) g) j i;exact⟨hS',.inl e2,same g m rfl⟩
  |false=>
   simp only[J,zj]at e;obtain⟨p,n,e⟩:=AA e;simp only[Prod.mk.injEq]at e;obtain⟨rfl,rfl,rfl,rfl⟩:=e;have g:∀ x∈id::Au t h o.op,x∈id::Au t h o.op:=λx hx=>hx;obtain⟨hS',e2,m⟩:=Cf (sub g) (q (by simp) g) j i;refine⟨hS',.inl e2,?_⟩;cases Z:Eb o.op with
   |true=>exact lay (by simp) g m n (λx hx=>hx) (λx d p=>absurd d p) (.inr λx hx=>hx)
   |false=>exact lay (by simp) g m n (λx hx=>Ai hx) (λx d p=>By d p) (.inl (GV j Z J i _ (.inl ⟨_,rfl⟩)))
 ·rename_i d i;rw[EI j W]at i;replace e:=Bn e;obtain⟨z,e⟩:=e;simp only[ak]at z;obtain⟨p,n,e⟩:=AA e;simp only[Prod.mk.injEq]at e;obtain⟨rfl,rfl,rfl,rfl⟩:=e;have g:∀ x∈id::Au t h o.op,x∈id::Au t h o.op:=λx hx=>hx;obtain⟨hS',e2,m⟩:=Cf (sub g) (q (by simp) g) j i;have hst:Stays (h.cut (id::Au t h o.op)) d:=GV j z.2 z.1 i _ (.inr rfl);exact⟨hS',.inr (.inl ⟨e2,rfl⟩),lay (by simp) g m n (λx hx=>Ai hx) (λx d p=>By d p) (.inl hst)⟩
 ·rename_i f args i;rw[EI j W]at i;split at e
  ·rename_i as l hp;split at e
   ·rename_i M d w
    have key:(∀ x∈id::Au t h o.op,x∈rd) -> ∀ (g:∀ x∈id::l,x∈rd),∃ hS',AQ P tS hS id o=zo (.call f args)/\A8 (λ_=>zf) rec id f args hS=zo (.ret M,hS')/\Lay (h.cut (id::l)) hS d hS' id/\(flat M=zt->d=h.cut (id::l))/\Stays (h.cut (id::l)) d:=by
     intro F g;have D:AQ P tS hS id o=zo (.call f args):=Cf (sub F) (q (by simp) F) j i;obtain⟨⟨hS',e3,m⟩,K,L⟩:=ID (sub g) (q (by simp) g) w;exact⟨hS',D,e3,m,K,L⟩
    cases y:flat M with
    |true=>
     simp only[y,zb,Option.some.injEq,Prod.mk.injEq]at e;obtain⟨rfl,rfl,rfl,rfl⟩:=e
     have k:∀ x∈id::l,x∈(id::Au t h o.op)++l:=λx hx=>by
      simp only[ai,an]at hx ⊢;rcases hx with rfl|hx
      ·exact .inl (.inl rfl)
      ·exact .inr hx
     obtain⟨hS',e2,e3,m,K,L⟩:=key (λx hx=>ao _ hx) k;have:=K y;subst this;exact⟨hS',.inr (.inr ⟨f,args,e2,e3⟩),same k m rfl⟩
    |false=>
     simp only[y,zj]at e;obtain⟨p,n,e⟩:=AA e;simp only[Prod.mk.injEq]at e;obtain⟨rfl,rfl,rfl,rfl⟩:=e
     have k:∀ x∈id::l,x∈(id::Au t h o.op)++l:=λx hx=>by
      simp only[ai,an]at hx ⊢;rcases hx with rfl|hx
      ·exact .inl (.inl rfl)
      ·exact .inr hx
     obtain⟨hS',e2,e3,m,K,L⟩:=key (λx hx=>ao _ hx) k;exact⟨hS',.inr (.inr ⟨f,args,e2,e3⟩),lay (by simp) k m n (λx hx=>Ai hx) (λx d p=>By d p) (.inl L)⟩
   ·cases e
  ·cases e
 ·cases e
end
end
section
variable[Gl]
section
variable{P:Program}{rec:GE}
theorem HM{nt:Nat}{dst:Option Nat}{v:PV}{t t':T PV}(hnt:nt <= 1048575)(h:Ir nt dst v t t'){k:Nat}(hk:dst ≠ zo k):t'.get k=t.get k:=by
  unfold Ir at h;cases hd:dst with
  |none=>rw[hd]at h;rw[show t'=t from h]
  |some d=>
    rw[hd]at h;obtain⟨h1,rfl⟩:=h
    rw [T.get_put 20 t d v k (by have : (2 : Nat) ^ 20 - 1 = 1048575 := by decide
                                 omega),zx (by intro e;subst e;exact hk hd)]
theorem Lw{nt d:Nat}{v:PV}{t t':T PV}(hnt:nt <= 1048575)(h:Ir nt (zo d) v t t'):d < nt /\ t'.get d=zo v:=by
  obtain⟨h1,rfl⟩:=h
  exact ⟨h1, by rw [T.get_put 20 t d v d (by have : (2 : Nat) ^ 20 - 1 = 1048575 := by decide
                                             omega),zy rfl]⟩
theorem MA {base nt n : Nat} {opsl : List Oper} {tr : Tr} (hst : ∀ j, j < n -> ∃ o, opsl[j]? = zo o /\ tr.StepAt P rec base nt opsl j o)
    (hun:∀ j,j < n -> ∀ x,x ∉ tr.wr j -> (tr.hp (j + 1)).get x=(tr.hp j).get x) {x a:Nat}:∀ b,a <= b -> b <= n -> (∀ j,a <= j -> j < b -> x ∉ tr.wr j) -> (tr.hp b).get x=(tr.hp a).get x
  | 0, ha, _, _ => by have : a = 0 := by omega
                      subst this;rfl
  |b + 1,ha,hb,h=>by
    by_cases he:a=b + 1
    · subst he;rfl
    · rw[hun b (by omega) x (h b (by omega) (by omega)),MA hst hun b (by omega) (by omega) fun j h1 h2=>h j h1 (by omega)]
theorem MB{n:Nat}{ops:Array Oper}{tr:Tr}(hun:∀ j o,j < n -> ops[j]?=zo o -> ∀ k,o.dst ≠ zo k -> (tr.ts (j + 1)).get k=(tr.ts j).get k)(hops:ops.size=n){k a:Nat}:∀ b,a <= b -> b <= n -> (∀ j o,a <= j -> j < b -> ops[j]?=zo o -> o.dst ≠ zo k) -> (tr.ts b).get k=(tr.ts a).get k
  | 0, ha, _, _ => by have : a = 0 := by omega
                      subst this;rfl
  |b + 1,ha,hb,h=>by
    by_cases he:a=b + 1
    · subst he;rfl
    · have ho:=al (xs:=ops) (i:=b) (by omega)
      rw[hun b _ (by omega) ho k (h b _ (by omega) (by omega) ho),MB hun hops b (by omega) (by omega) fun j o h1 h2 h3=>h j o h1 (by omega) h3]
theorem LM{ops:Array Oper}{t tS:T PV}{g:Option (Nat×Bool)}(h:∀ k,Fm (D0 ops.toList g) k=zt->tS.get k=t.get k):A6 ops.toList tS g=A6 ops.toList t g:=by
 unfold A6;cases g with
 |none=>rfl
 |some g=>
  obtain⟨j,a⟩:=g;simp only;cases c:lget ops.toList j with
  |none=>rfl
  |some o=>
   simp only;cases b:o.dst with
   |none=>rfl
   |some d=>
    simp only;rw[h d (by simp only[D0,c,b,Fv,GH];simp)]
theorem GR(R:RecOK P rec):E6 P rec:=by
 intro ops base fr fr' h h' e hm M μ w b a cs k t s f;unfold drawn at e;split at e
 ·rename_i ms hmarks;split at e
  ·rename_i tE hE hgo;cases e
   let n:=ops.size
   obtain⟨⟨ms',hms',hmslen⟩,hms⟩:=Ld ops.toList 0 [] ms hmarks rfl;simp only[aN]at hms;obtain⟨g,k1,k2,k3,k4,_,k6⟩:=LL ops.toList ms 0 [] fr.t h hgo (λ_=>[]) (λ_=>[]) (λk Z=>by omega);simp only[aN,Array.length_toList]at k3 k4 k6;have hnt:fr.nt<=1048575:=by have:=f.t.1;omega
   have K:∀ j,j<n -> ∃ o m,ops[j]?=zo o/\ms[j]?=zo m/\Ky ops.toList ms j o m/\g.StepAt P rec base fr.nt ops.toList j o /\ ∀ k,k<j->g.Clear m.bef j k:=by
    intro j J;have E:ops[j]?=zo ops[j]:=al J;obtain⟨m,hm1,hm2⟩:=hms j ops[j] (by simp);obtain⟨q1,q2⟩:=k6 j ops[j] m (by simp) hm1;exact⟨_,m,E,hm1,hm2,q1,q2⟩
   have hedge:∀ i o,ops[i]?=zo o -> ∀ e∈o.after.toList,Region.binds .any e=zt->e.on<i:=by
    intro i o E e X hb;obtain⟨m,_,hm2⟩:=hms i o (by simpa using E);exact Ep hm2.2.2.2.1 e X hb
   obtain⟨sn,smem,spre⟩:=QU (mixed:=P.follows .mixedOrders) hm hedge t;generalize Region.schedule (P.follows .mixedOrders) ops t=σ at sn smem spre;have befIn:=Rs hms spre
   have tclear:∀ i o m,ops[i]?=zo o->ms[i]?=zo m->Ky ops.toList ms i o m -> ∀ j o' F,ops[j]?=zo o'->ms[j]?=zo F->Ky ops.toList ms j o' F->j<i ->
     Fm m.bef j=zt\/(HT F.wr (bS m.rd m.wr)=zt/\HT F.rd m.wr=zt):=by
    intro i o m E C A j o' F c W Y S;have:=Hf A.2.2.2.2 j F (by rw[aA,zy S];exact W);simpa using this
   have place:∀ {p:List Nat} {i:Nat} {q:List Nat},σ=p++i::q -> ∀ o m,ops[i]?=zo o->ms[i]?=zo m->Ky ops.toList ms i o m ->
     i ∉ p/\(∀ j,Fm m.bef j=zt->j∈p)/\(∀ j o' F,ops[j]?=zo o'->ms[j]?=zo F->Fm F.bef i=zt->j ∉ p):=by
    intro p i q X o m E C A;rw[X]at sn
    have hip:i ∉ p:=by
     intro y;have:=(List.nodup_append.1 sn).2.2 i y i (by simp);exact this rfl
    refine⟨hip,λj J=>befIn i o m E C p q X j J,?_⟩;intro j o' F c W hb y;obtain⟨p1,p2,hp⟩:=cK y;have:=befIn j o' F c W p1 (p2++i::q) (by rw[X,hp];simp) i hb;exact hip (by rw[hp];simp[this])
   have claimT:∀ {p:List Nat} {i:Nat} {q:List Nat},σ=p++i::q -> ∀ o m,ops[i]?=zo o->ms[i]?=zo m->Ky ops.toList ms i o m -> ∀ d,(Fm m.rd d=zt\/Fm m.wr d=zt) ->
     ∀ j o',ops[j]?=zo o'->o'.dst=zo d->(j∈p<->j<i):=by
    intro p i q X o m E C A d L j o' c l;obtain⟨hip,hb1,hb2⟩:=place X o m E C A;have J:j<n:=(bE.1 c).1;obtain⟨o2,F,ho2,W,Y,_,_⟩:=K j J;rw[c]at ho2;cases ho2;have hwj:Fm F.wr d=zt:=by rw[Y.2.1,l];simp only[Fv,GH];simp
    rcases cY j i with S|rfl|hgt
    ·refine⟨λ_=>S,λ_=> ?_⟩;rcases tclear i o m E C A j o' F c W Y S with hb|⟨c1,_⟩
     ·exact hb1 j hb
     ·exact absurd ⟨hwj,by rw[FB];rcases L with h|h<;>simp[h]⟩ (H6 c1 d)
    ·exact⟨λh=>absurd h hip,λh=>by omega⟩
    ·refine⟨λy=> ?_,λh=>by omega⟩;rcases tclear j o' F c W Y i o m E C A hgt with hb|⟨c1,c2⟩
     ·exact absurd y (hb2 j o' F c W hb)
     ·rcases L with h|h
      ·exact absurd ⟨h,hwj⟩ (H6 c2 d)
      ·exact absurd ⟨h,by rw[FB,hwj];simp⟩ (H6 c1 d)
   have claimH:∀ {p:List Nat} {i:Nat} {q:List Nat},σ=p++i::q->i<n -> ∀ x,x∈g.rd i -> ∀ j,j<n->x∈g.wr j->(j∈p<->j<i):=by
    intro p i q X hi x B j J G;obtain⟨o,m,E,C,A,D,hcl⟩:=K i hi;obtain⟨o',F,c,W,Y,hstep',hcl'⟩:=K j J;obtain⟨hip,hb1,hb2⟩:=place X o m E C A;rcases cY j i with S|rfl|hgt
    ·refine⟨λ_=>S,λ_=> ?_⟩;rcases hcl j S with hb|⟨c1,c2⟩
     ·exact hb1 j hb
     ·exact absurd ⟨G,B⟩ (BD c1 x)
    ·exact⟨λh=>absurd h hip,λh=>by omega⟩
    ·refine⟨λy=> ?_,λh=>by omega⟩;rcases hcl' i hgt with hb|⟨c1,c2⟩
     ·exact absurd y (hb2 j o' F c W hb)
     ·exact absurd ⟨G,B⟩ (BD c2 x)
   have unH:∀ j,j<n->(∀ x,x ∉ g.wr j->(g.hp (j+1)).get x=(g.hp j).get x)/\(∀ x,x∈g.wr j->x∈g.rd j):=by
    intro j J;obtain⟨o,m,E,C,A,D,hcl⟩:=K j J;rcases D with⟨_,v,L,_⟩|⟨_,h1,_,h3,_⟩
    ·obtain⟨hS',_,c1,c2⟩:=HX L (tS:=g.ts j) (hS:=g.hp j) (λ_ _=>rfl) (λ_ _=>rfl);exact⟨λx B=>(c1 x B).2,λx B=>(c2 x B).1⟩
    ·exact⟨λx _=>by rw[h1],λx B=>by rw[h3]at B;simp at B⟩
   have unT:∀ j o,j<n->ops[j]?=zo o -> ∀ k,o.dst≠zo k->(g.ts (j+1)).get k=(g.ts j).get k:=by
    intro j o J E k Z;obtain⟨o2,m,ho2,C,A,D,hcl⟩:=K j J;rw[E]at ho2;cases ho2;rcases D with⟨_,v,_,hp⟩|⟨_,_,_,_,hp⟩
    ·exact HM hnt hp Z
    ·exact HM hnt hp Z
   have hp_eq:∀ {x a b:Nat},a<=b->b<=n->(∀ j,a<=j->j<b->x ∉ g.wr j)->(g.hp b).get x=(g.hp a).get x:=λh1 h2 h3=>
    MA (P:=P) (rec:=rec) (base:=base) (nt:=fr.nt) (opsl:=ops.toList) (n:=n) (λj J=>let ⟨o,_,E,_,_,hs,_⟩:=K j J;⟨o,by simpa using E,hs⟩) (λj J x B=>(unH j J).1 x B) _ h1 h2 h3
   have ts_eq:∀ {k a b:Nat},a<=b->b<=n->(∀ j o,a<=j->j<b->ops[j]?=zo o->o.dst≠zo k)->(g.ts b).get k=(g.ts a).get k:=λh1 h2 h3=>
    MB unT rfl _ h1 h2 h3
   have main:∀ (N I:List Nat) (tS:T PV) (hS:Hp),σ=I++N->Qk n ops g I tS->Qj n g I hS ->
     ∃ tE hE,AZ P (λ_=>zf) rec base ops.toList (N.map λi=>(i,(ops[i]?).getD default)) { fr with t:=tS } hS=zo (.normal,{ fr with t:=tE },hE)/\Qk n ops g σ tE/\Qj n g σ hE:=by
    intro N
    induction N with
    |nil=>
     intro I tS hS X hT hH;rw[List.append_nil]at X;subst X;exact⟨tS,hS,rfl,hT,hH⟩
    |cons i N ih=>
     intro I tS hS X hT hH;have hi:i<n:=(smem i).1 (by rw[X];simp);obtain⟨o,m,E,C,A,D,hcl⟩:=K i hi;have cT:=claimT X o m E C A;have cH:=claimH X hi;obtain⟨hip,_,_⟩:=place X o m E C A;have agT:∀ d,(Fm m.rd d=zt\/Fm m.wr d=zt)->tS.get d=(g.ts i).get d:=λd L=>hT d i (by omega) (λj o' c l=>cT d L j o' c l);have agH:∀ x,x∈g.rd i->hS.get x=(g.hp i).get x:=λx B=>hH x i (by omega) (λj J G=>cH x B j J G);have hrdbit:∀ d,Fm m.rd d=(Fm (EX (Aw o.op)) d||Fm (D0 ops.toList o.guard) d):=by intro d;rw[A.1,FB]
     have agO:Fl (g.ts i) tS (Aw o.op):=λd L=>(agT d (.inl (by rw[hrdbit,Hk L];simp))).symm;have hwant:A6 ops.toList tS o.guard=A6 ops.toList (g.ts i) o.guard:=LM λd L=>agT d (.inl (by rw[hrdbit,L];simp))
     have next:∀ {v:PV} {hS':Hp} {fr1:Fr},Ir fr.nt o.dst v (g.ts i) (g.ts (i+1))->(∀ x,x ∉ g.wr i->hS'.get x=hS.get x)->(∀ x,x∈g.wr i->hS'.get x=(g.hp (i+1)).get x) ->
       ∃ z,Ir fr.nt o.dst v tS z/\Qk n ops g (I++[i]) z/\Qj n g (I++[i]) hS':=by
      intro v hS' _ AG h1 h2
      have hH':Qj n g (I++[i]) hS':=by
       intro x F U hw;by_cases B:x∈g.wr i
       ·have him:i<F:=(hw i hi B).1 (by simp);rw[h2 x B];refine(hp_eq (by omega) U λj hj1 hj2 G=> ?_).symm;have hjn:j<n:=by omega
        have y:=(hw j hjn G).2 hj2;simp only[an,aw]at y;rcases y with y|rfl
        ·have:=(cH x ((unH i hi).2 x B) j hjn G).1 y;omega
        ·omega
       ·rw[h1 x B];refine hH x F U λj J G=> ?_;have hji:j≠i:=by intro e;subst e;exact B G
        rw[<- hw j J G];simp[hji]
      have invT:∀ z,(∀ k,o.dst≠zo k->z.get k=tS.get k)->(∀ k,o.dst=zo k->z.get k=(g.ts (i+1)).get k)->Qk n ops g (I++[i]) z:=by
       intro z g1 g2 k F U hw;by_cases Z:o.dst=zo k
       ·have him:i<F:=(hw i o E Z).1 (by simp);rw[g2 k Z];refine(ts_eq (by omega) U λj o' hj1 hj2 c l=> ?_).symm;have y:=(hw j o' c l).2 hj2;simp only[an,aw]at y;rcases y with y|rfl
        ·have:=(cT k (.inr (by rw[A.2.1,Z];simp only[Fv,GH];simp)) j o' c l).1 y;omega
        ·omega
       ·rw[g1 k Z];refine hT k F U λj o' c l=> ?_;have hji:j≠i:=by intro e;subst e;rw[E]at c;cases c;exact Z l
        rw[<- hw j o' c l];simp[hji]
      cases L:o.dst with
      |none=>
       exact⟨tS,rfl,invT tS (λ_ _=>rfl) (λk Z=>by rw[L]at Z;cases Z),hH'⟩
      |some d=>
       rw[L]at AG;obtain⟨S,hget⟩:=Lw hnt AG;have hp2:Ir fr.nt (zo d) v tS (T.put 20 tS d v):=⟨S,rfl⟩;refine⟨T.put 20 tS d v,hp2,invT _ (λk Z=>HM hnt hp2 (by rw[<- L];exact Z)) (λk Z=> ?_),hH'⟩;rw[L]at Z;cases Z;rw[(Lw hnt hp2).2,hget]
     have hget:(ops[i]?).getD default=o:=by rw[E];rfl
     have O:∀ {v:PV} {z:T PV},Ir fr.nt o.dst v tS z->({ fr with t:=tS }:Fr).put o.dst v=zo { fr with t:=z }:=by
      intro v z AG;unfold Fr.put;cases L:o.dst with
      |none=>rw[L]at AG;rw[show z=tS from AG]
      |some d=>
       rw[L]at AG;obtain⟨h1,rfl⟩:=AG;have:af d fr.nt=zt:=by simpa using h1
       simp only[this,zb]
     have he2:σ=(I++[i])++N:=by rw[X];simp
     simp only[cB,hget];unfold AZ;rcases D with⟨hw1,v,L,AG⟩|⟨hw1,hh1,hrd,hwr,AG⟩
     ·simp only[hwant,hw1,zb];obtain⟨hS',hev,c1,c2⟩:=HX L agO agH;obtain⟨z,p1,p2,p3⟩:=next (fr1:=fr) AG (λx B=>(c1 x B).1) (λx B=>(c2 x B).2)
      obtain⟨tE,hE,q1,q2,q3⟩:=ih (I++[i]) z hS' he2 p2 p3;refine⟨tE,hE,?_,q2,q3⟩;rcases hev with hev|⟨hev,rfl⟩|⟨fid,args,hev,hcall⟩
      ·simp only[hev,O p1,q1]
      ·simp only[hev,O p1,q1]
      ·simp only[hev,hcall,O p1,q1]
     ·simp only[hwant,hw1,zj];obtain⟨z,p1,p2,p3⟩:=next (fr1:=fr) (hS':=hS) AG (λx B=>rfl) (λx B=>by rw[hwr]at B;simp at B)
      obtain⟨tE,hE,q1,q2,q3⟩:=ih (I++[i]) z hS he2 p2 p3;exact⟨tE,hE,by simp only[O p1,q1],q2,q3⟩
   obtain⟨tE',hE',q1,q2,q3⟩:=main σ [] fr.t h rfl
    (λk F U hw=>by
     rw[<- k1];refine(ts_eq (bD _) U λj o _ J E l=> ?_).symm;have:=(hw j o E l).2 J
     simp at this)
    (λx F U hw=>by
     rw[<- k2];refine(hp_eq (bD _) U λj _ J G=> ?_).symm;have:=(hw j (by omega) G).2 J
     simp at this)
   have eT:∀ k,tE'.get k=tE.get k:=by
    intro k;rw[<- k3];exact q2 k n (ad _) λj o E _=>by rw[smem]
   have eH:∀ x,hE'.get x=h'.get x:=by
    intro x;rw[<- k4];exact q3 x n (ad _) λj J _=>by rw[smem]
   have hran:=HP R (ops:=ops) (base:=base) _ q1 (λx B=>by
    obtain⟨i,hi,rfl⟩:=bl.1 B;have:=(smem i).1 hi
    simp[al this]) k s f
   have hσ:(σ.map λi=>(i,(ops[i]?).getD default)).map (·.1)=σ:=by simp[dm,Function.comp_def]
   rw[hσ]at hran;obtain⟨M',μ',w',a',cs',r1,r2,r3,r4,r5⟩:=hran
   exact⟨M',μ',w',a',cs',r1.nx (λx=>(eH x).symm),r2,⟨⟨r3.t.1,r3.t.2.1,λk=>by
    have:=r3.t.2.2 k;simp only at this;rw[eT k]at this
    exact this⟩,r3.d,r3.u,r3.r⟩,r4,r5⟩
  ·cases e
 ·cases e
end
end
section
variable[Gl]
end
section
variable[Gl]
open Go.RowKit
end
section
variable[Gl]
section
variable{P:Program}{sh:FuncId->Bool}{M:Ak}{μ:Mu}{h:Hp}{w:World}
structure Kn where
 f:FuncId
 args:List PV
 q:PV
 h:Hp
def Hn(e:PV->PV->Bool):List PV->List PV->Bool
 |[],[]=>zt
 |a::l,b::m=>e a b&&Hn e l m
 |_,_=>zf
theorem Ht{e:PV->PV->Bool}(c:∀ a b,e a b=zt->a=b):∀ {l m:List PV},Hn e l m=zt->l=m
 |[],[],_=>rfl
 |a::l,b::m,h=>by
  simp only[Hn,ac]at h;rw[c _ _ h.1,Ht c h.2]
 |[],_::_,h=>by simp[Hn]at h
 |_::_,[],h=>by simp[Hn]at h
def OS:List UInt8->List UInt8->Bool
 |[],[]=>zt
 |a::l,b::m=>aa a.toNat b.toNat&&OS l m
 |_,_=>zf
theorem NQ:∀ {l m:List UInt8},OS l m=zt->l=m
 |[],[],_=>rfl
 |a::l,b::m,h=>by
  simp only[OS,ac]at h;rw[UInt8.toNat_inj.1 (aj h.1),NQ h.2]
 |[],_::_,h=>by simp[OS]at h
 |_::_,[],h=>by simp[OS]at h
def O2:Nat->PV->PV->Bool
 |0,_,_=>zf
 |n+1,a,b=>match a with
  |.bool x=>(match b with
   |.bool y=>x == y
   |_=>zf)
  |.int k x=>(match b with
   |.int c y=>k == c&&x == y
   |_=>zf)
  |.str x=>(match b with
   |.str y=>OS x y
   |_=>zf)
  |.nilp=>(match b with
   |.nilp=>zt
   |_=>zf)
  |.nils=>(match b with
   |.nils=>zt
   |_=>zf)
  |.nilm=>(match b with
   |.nilm=>zt
   |_=>zf)
  |.nilf=>(match b with
   |.nilf=>zt
   |_=>zf)
  |.nili=>(match b with
   |.nili=>zt
   |_=>zf)
  |.agg x=>(match b with
   |.agg y=>Hn (O2 n) x y
   |_=>zf)
  |.tup x=>(match b with
   |.tup y=>Hn (O2 n) x y
   |_=>zf)
  |.lst f x=>(match b with
   |.lst g y=>f == g&&Hn (O2 n) x y
   |_=>zf)
  |.ifc t x=>(match b with
   |.ifc u y=>aa t u&&O2 n x y
   |_=>zf)
  |.own i x y=>(match b with
   |.own j u v=>aa i j&&(aa x u&&aa y v)
   |_=>zf)
  |_=>zf
theorem II:∀ (n:Nat) (a b:PV),O2 n a b=zt->a=b
 |0,_,_,h=>by simp[O2]at h
 |n+1,a,b,h=>by
  have c:∀ {l m:List PV},Hn (O2 n) l m=zt->l=m:=λh=>Ht (II n) h
  cases a<;>cases b<;>simp only[O2,ac,beq_iff_eq,reduceCtorEq]at h<;>first
   |rfl
   |(rw[h])
   |(rw[h.1,h.2])
   |(rw[NQ h])
   |(rw[c h])
   |(rw[h.1,c h.2])
   |(rw[aj h.1,II n _ _ h.2])
   |(rw[aj h.1,aj h.2.1,aj h.2.2])
def Tb(a b:Hp):Bool:=aa a.nx b.nx&&match a.m with
 |.lf=>(match b.m with
  |.lf=>zt
  |_=>zf)
 |.nd .lf (zo (.row es ex fz)) .lf=>(match b.m with
  |.nd .lf (zo (.row es' ex' fz')) .lf=>Hn (O2 60) es es'&&(ex == ex'&&fz == fz')
  |_=>zf)
 |_=>zf
theorem Rv{a b:Hp}(h:Tb a b=zt):a=b:=by
 unfold Tb at h;rw[ac]at h;obtain⟨d,c⟩:=h;have d:=aj d;obtain⟨m,x⟩:=a;obtain⟨e,f⟩:=b;simp only at d c;subst d;split at c
 ·split at c
  ·rfl
  ·cases c
 ·split at c
  ·simp only[ac,beq_iff_eq]at c;rw[Ht (II 60) c.1,c.2.1,c.2.2]
  ·cases c
 ·cases c
def look:List Kn->FuncId->List PV->Option (PV×Hp)
 |[],_,_=>zn
 |e::l,f,as=>bif aa e.f f&&Hn (O2 60) e.args as then zo (e.q,e.h)else look l f as
def R6(L:List Kn)(rec:GE):GE:=λa up args h=>match a with
 |.fn f=>match up with
  |none=>match h.m with
   |.lf=>match look L f args with
    |some (q,h1)=>zo (.ret q,zn,h1)
    |none=>rec (.fn f) zn args h
   |.nd _ _ _=>rec (.fn f) zn args h
  |some u=>rec (.fn f) (zo u) args h
 |.yl l=>rec (.yl l) up args h
def Ta(P:Program)(sh:FuncId->Bool)(F:Nat)(L:List Kn):Nat->GE
 |0=>λ_ _ _ _=>zn
 |n+1=>R6 L (PL P sh F (Ta P sh F L n))
def SZ(P:Program)(sh:FuncId->Bool)(F:Nat)(L:List Kn)(n:Nat)(f:FuncId)(args:List PV):Option (PV×Hp):=
 match PL P sh F (Ta P sh F L n) (.fn f) zn args { m:=.lf,nx:=0 }with
 |some (.ret r,_,h')=>Ag 0 [] { m:=.lf,nx:=0 } h' r
 |_=>zn
def NL(P:Program)(sh:FuncId->Bool)(F:Nat)(L:List Kn)(n:Nat)(k:Kn):Bool:=match SZ P sh F L n k.f k.args with
 |some (q,h)=>O2 60 q k.q&&Tb h k.h
 |none=>zf
theorem K1{P:Program}{sh:FuncId->Bool}{F:Nat}{L:List Kn}{n:Nat}{k:Kn}(e:NL P sh F L n k=zt):SZ P sh F L n k.f k.args=zo (k.q,k.h):=by
 unfold NL at e;split at e
 ·rename_i q h a;rw[ac]at e;rw[a,II 60 _ _ e.1,Rv e.2]
 ·cases e
def MI(P:Program)(L:List Kn):Prop:=∀ e∈L,∃ rec,RecOK P rec /\ ∃ r up h',rec (.fn e.f) zn e.args { m:=.lf,nx:=0 }=zo (.ret r,up,h')/\Ag 0 [] { m:=.lf,nx:=0 } h' r=zo (e.q,e.h)
theorem Nd:∀ {L:List Kn} {f:FuncId} {b:List PV} {q:PV} {a:Hp},look L f b=zo (q,a) -> ∃ e∈L,e.f=f/\e.args=b/\e.q=q/\e.h=a
 |[],_,_,_,_,h=>by cases h
 |e::l,f,b,q,a,h=>by
  unfold look at h;cases hc:aa e.f f&&Hn (O2 60) e.args b with
  |true=>
   rw[hc]at h;simp only[zb,Option.some.injEq,Prod.mk.injEq]at h;rw[ac]at hc;exact⟨e,bX ..,aj hc.1,Ht (II 60) hc.2,h.1,h.2⟩
  |false=>
   rw[hc]at h;obtain⟨c,a,d⟩:=Nd h;exact⟨c,aB _ a,d⟩
theorem NX(M:Ak)(h:Hp)(μ:Mu)(w:World):HZ M h μ w []=M:=by
 funext a
 unfold HZ Na;cases M a<;>rfl
theorem RE{L:List Kn}(K:MI P L){rec:GE}(R:RecOK P rec):RecOK P (R6 L rec):=by
 refine⟨?_,?_,?_⟩
 ·intro f args h o a h' e M μ w vs s b cs;simp only[R6]at e;split at e
  ·rename_i B;split at e
   ·rename_i q N A;cases e;obtain⟨e,z,rfl,rfl,rfl,rfl⟩:=Nd A;obtain⟨j,p,r,up,O,D,E⟩:=K e z;have i:∀ k,h.get k=zn:=λk=>by simp only[Hp.get,B];rfl
    have s0:Sim M μ { m:=.lf,nx:=0 } w:=s.nx λk=>by rw[i];rfl
    have hμ:μ=mu0:=by
     funext id
     cases hi:μ id with
     |none=>rfl
     |some r=>exact absurd (i id) (s.use id r hi).1
    subst hμ;obtain⟨J,μ2,I,fr,s2,t,G,c,x,C,d⟩:=p.nrm D s0 b cs;obtain⟨n,μ3,F,y,g⟩:=CH (L:=[]) s0 s2 (by rw[NX];exact t) C E;exact⟨n,μ3,I,fr,F,y,G,c,x,g,d⟩
   ·exact R.nrm e s b cs
  ·exact R.nrm e s b cs
 ·intro f u args h o a h' e;exact R.dfr e
 ·intro l args h o a h' e;exact R.yld e
theorem MT(a:Eg P){L:List Kn}(K:MI P L)(F:Nat):∀ n,RecOK P (Ta P sh F L n)
 |0=>Lj P
 |n+1=>RE K (Ju a (λrec R=>GR (P:=P) (rec:=rec) R) F (MT a K F n))
theorem Tu(P:Program):MI P []:=λe a=>by cases a
theorem TH(a:Eg P){L:List Kn}(K:MI P L){F n:Nat}{k:Kn}(e:NL P sh F L n k=zt):MI P (k::L):=λc hk=>by
 rcases ai.1 hk with rfl|hk
 ·have e:=K1 e;unfold SZ at e;split at e
  ·rename_i r u h' b;exact⟨_,Ju a (λrec R=>GR (P:=P) (rec:=rec) R) F (MT a K F n),r,u,h',b,e⟩
  ·cases e
 ·exact K c hk
theorem Q7(h:Eg P){L:List Kn}(K:MI P L){F n:Nat}{f:FuncId}{v:PV}{j:Hp}(e:SZ P sh F L n f []=zo (v,j))(m:flat v=zt)(w:World)(i:GlW w) :
  Calls P f #[] w λe w'=>(∃ x,e=.returned x/\Rep (λ_=>zn) mu0 v x)/\w.heap.size<=w'.heap.size/\(∀ b,b<w.heap.size->w'.heap[b]?=w.heap[b]?)/\w'.os=w.os/\w'.output=w.output/\w'.tape=w.tape /\ ∀ (b:Nat) (arr:Array Value) (ty:TypeId) (f:Nat×Nat),w'.heap[b]?=zo (.cells arr ty f)->f=(0,0) \/ ∃ c,w.heap[b]?=zo (.cells c ty f):=by
 intro cs;unfold SZ at e;split at e
 ·rename_i r u h' k;have R:=Ju (sh:=sh) h (λrec R=>GR (P:=P) (rec:=rec) R) F (MT (sh:=sh) h K F n);obtain⟨M0,s0⟩:=i.sim;obtain⟨q,μ',w',fr,s1,a,p,d,x,o,l⟩:=R.nrm k s0 (RepL.nil _ _) cs;obtain⟨s,μ3,y,t,g⟩:=CH (L:=[]) s0 s1 (by rw[NX];exact a) o e;exact⟨.returned x,w',fr,⟨⟨x,rfl,Dz m _ _ g⟩,a.size,a.keeps,a.os,a.output,a.tape,a.nf⟩,p,d,l⟩
 ·cases e
open Go.RowKit in
end
end
section
variable[Gl]
def GG(r b:GE):Prop:=∀ a up args h x,r a up args h=zo x->b a up args h=zo x
section
variable{P:Program}{sh:FuncId->Bool}{rec rec':GE}
theorem JC(L:GG rec rec'){id:Nat}{f:FuncId}{args:List PV}{h:Hp}{x:Out×Hp}(e:A8 sh rec id f args h=zo x):A8 sh rec' id f args h=zo x:=by
 unfold A8 at e ⊢;cases hs:sh f with
 |true=>
  simp only[hs,zb]at e ⊢;cases b:rec (.fn f) zn args h with
  |none=>rw[b]at e;cases e
  |some y=>rw[b]at e;rw[L _ _ _ _ _ b];exact e
 |false=>
  simp only[hs,zj]at e ⊢;cases c:Ao h args with
  |none=>rw[c]at e;cases e
  |some a=>
   rw[c]at e;simp only at e ⊢;cases b:rec (.fn f) zn a.1 { m:=.lf,nx:=0 }with
   |none=>rw[b]at e;cases e
   |some y=>rw[b]at e;rw[L _ _ _ _ _ b];exact e
theorem Ji(L:GG rec rec'){base:Nat}{ops:List Oper}:∀ {l:List (Nat×Oper)} {fr:Fr} {h:Hp} {x:Ex×Fr×Hp},AZ P sh rec base ops l fr h=zo x->AZ P sh rec' base ops l fr h=zo x
 |[],fr,h,x,e=>e
 |(i,o)::r,fr,h,x,e=>by
  unfold AZ at e ⊢
  have put:∀ {fr:Fr} {c:Option Nat} {v:PV} {h:Hp},(match fr.put c v with
    |some fr=>AZ P sh rec base ops r fr h
    |none=>zn)=zo x->(match fr.put c v with
    |some fr=>AZ P sh rec' base ops r fr h
    |none=>zn)=zo x:=by
   intro fr c v h e;split at e
   ·rename_i fr1 A;exact Ji L e
   ·cases e
  cases w:A6 ops fr.t o.guard with
  |false=>simp only[w,zj]at e ⊢;exact put (h:=h) e
  |true=>
   simp only[w,zb]at e ⊢;cases q:AQ P fr.t h (base+i) o with
   |none=>rw[q]at e;cases e
   |some y=>
    rw[q]at e;cases y with
    |val v j=>exact put (h:=j) e
    |skip j=>exact put (h:=j) e
    |dfr d=>
     simp only at e ⊢;cases b:fr.ro with
     |none=>rw[b]at e;exact put e
     |some _=>rw[b]at e;cases e
    |call f args=>
     simp only at e ⊢;cases k:A8 sh rec (base+i) f args h with
     |none=>rw[k]at e;cases e
     |some z=>
      rw[k]at e;rw[JC L k];obtain⟨o',h'⟩:=z;cases o' with
      |ret v=>exact put (h:=h') e
      |pan g=>
       cases g with
       |nil=>cases e
       |cons a l=>
        obtain⟨v,p⟩:=a;cases l<;>cases p<;>first|exact e|cases e
    |yield l args=>
     simp only at e ⊢;cases m:rec (.yl l) zn args h with
     |none=>rw[m]at e;cases e
     |some z=>
      rw[m]at e;rw[L _ _ _ _ _ m];obtain⟨o',B,h'⟩:=z;cases o' with
      |ret v=>exact put e
      |pan g=>exact e
    |pan v=>exact e
    |rcv=>
     simp only at e ⊢;cases b:fr.ro with
     |some _=>rw[b]at e;cases e
     |none=>
      rw[b]at e;simp only at e ⊢;cases s:fr.up with
      |none=>rw[s]at e;exact put (h:=h) e
      |some u=>
       rw[s]at e;cases u with
       |ret=>exact put (h:=h) e
       |pan g=>
        cases g with
        |nil=>exact put (h:=h) e
        |cons a n=>
         obtain⟨v,p⟩:=a;cases p<;>exact put (h:=h) e
theorem MV(L:GG rec rec'){t:T PV}{h:Hp}{id:Nat}{o:Oper}{x:PV×Hp×List Nat×List Nat}(e:Ax P rec t h id o=zo x):Ax P rec' t h id o=zo x:=by
 unfold Ax at e ⊢;dsimp only at e ⊢;cases hc : !As o.op || !af id (id+1)with
 |true=>rw[hc]at e;cases e
 |false=>
  rw[hc]at e;simp only[zj]at e ⊢;cases c:AQ P t (h.cut (id::Au t h o.op)) id o with
  |none=>rw[c]at e;cases e
  |some y=>
   rw[c]at e;cases y with
   |call f args=>
    simp only at e ⊢;cases d:Ao h args with
    |none=>rw[d]at e;cases e
    |some a=>
     rw[d]at e;simp only at e ⊢;cases b:A8 (λ_=>zf) rec id f args (h.cut (id::a.2))with
     |none=>rw[b]at e;cases e
     |some z=>rw[b]at e;rw[JC L b];exact e
   |_=>exact e
theorem DH(L:GG rec rec'){base nt:Nat}{ops:List Oper}:∀ {l:List Oper} {i:Nat} {f:List Mk} {a:List (Nat×List Nat×List Nat)} {t:T PV} {h:Hp} {x:T PV×Hp},AX P rec base nt ops i l f a t h=zo x->AX P rec' base nt ops i l f a t h=zo x
 |[],i,f,a,t,h,x,e=>by unfold AX at e ⊢;exact e
 |o::l,i,[],a,t,h,x,e=>by unfold AX at e;cases e
 |o::l,i,m::f,a,t,h,x,e=>by
  unfold AX at e ⊢;cases j:A6 ops t o.guard with
  |true=>
   simp only[j,zb]at e ⊢;cases g:Ax P rec t h (base+i) o with
   |none=>rw[g]at e;cases e
   |some z=>
    rw[g]at e;rw[MV L g];obtain⟨v,k,rd,wr⟩:=z;simp only at e ⊢;cases hh:Fz m.bef rd wr a with
    |false=>rw[hh]at e;cases e
    |true=>
     simp only[hh,zb]at e ⊢;cases b:o.dst with
     |none=>rw[b]at e;exact DH L e
     |some d=>
      rw[b]at e;simp only at e ⊢;cases c:af d nt with
      |false=>rw[c]at e;cases e
      |true=>rw[c]at e;exact DH L e
  |false=>
   simp only[j,zj]at e ⊢;cases b:o.dst with
   |none=>rw[b]at e;exact DH L e
   |some d=>
    rw[b]at e;simp only at e ⊢;cases c:af d nt with
    |false=>rw[c]at e;cases e
    |true=>rw[c]at e;exact DH L e
theorem PM(L:GG rec rec'){base:Nat}{ops:List Oper}{fr:Fr}{h:Hp}{x:Fr×Hp}(e:drawn P rec base ops fr h=zo x):drawn P rec' base ops fr h=zo x:=by
 unfold drawn at e ⊢;split at e
 ·rename_i b c;cases a:AX P rec base fr.nt ops 0 ops b [] fr.t h with
  |none=>rw[a]at e;cases e
  |some z=>rw[a]at e;rw[DH L a];exact e
 ·cases e
theorem Ck(L:GG rec rec'):∀ {n k:Nat} {c:Code} {fr:Fr} {h:Hp} {x:Ex×Fr×Hp},n<=k->exec P sh rec n c fr h=zo x->exec P sh rec' k c fr h=zo x
 |0,k,c,fr,h,x,j,e=>by unfold exec at e;cases e
 |n+1,k,c,fr,h,x,j,e=>by
  obtain⟨m,rfl⟩:∃ m,k=m+1:=⟨k-1,by omega⟩;have j:n<=m:=by omega
  unfold exec at e ⊢;cases c with
  |skip=>exact e
  |label _=>exact e
  |seq a b=>
   simp only at e ⊢;cases i:exec P sh rec n a fr h with
   |none=>rw[i]at e;cases e
   |some y=>
    rw[i]at e;rw[Ck L j i];obtain⟨ex,fr1,u⟩:=y;cases ex<;>first|exact Ck L j e|exact e
  |cond c a b=>
   simp only at e ⊢;cases hc:B1 fr.t c with
   |none=>rw[hc]at e;cases e
   |some v=>
    rw[hc]at e;cases v with
    |bool b=>cases b<;>exact Ck L j e
    |_=>cases e
  |block id b=>
   simp only at e ⊢;cases i:exec P sh rec n b fr h with
   |none=>rw[i]at e;cases e
   |some y=>rw[i]at e;rw[Ck L j i];exact e
  |loop b=>
   simp only at e ⊢;cases i:exec P sh rec n b fr h with
   |none=>rw[i]at e;cases e
   |some y=>
    rw[i]at e;rw[Ck L j i];obtain⟨ex,fr1,u⟩:=y;cases ex<;>first|exact Ck L j e|exact e
  |scope b=>
   simp only at e ⊢;cases i:exec P sh rec n b fr h with
   |none=>rw[i]at e;cases e
   |some y=>rw[i]at e;rw[Ck L j i];exact e
  |exit _=>exact e
  |goto _=>exact e
  |ret=>exact e
  |refuse _=>exact e
  |region id ops l=>
   cases l with
   |false=>exact Ji L e
   |true=>
    simp only[zb]at e ⊢;cases w:P.follows .mixedOrders || !Region.departs ops with
    |false=>rw[w]at e;cases e
    |true=>
     simp only[w,zb]at e ⊢;cases q:drawn P rec h.nx ops.toList fr { h with nx:=h.nx+ops.size }with
     |none=>rw[q]at e;cases e
     |some z=>rw[q]at e;rw[PM L q];exact e
  |rangeFunc g F A s=>
   simp only at e ⊢;split at e
   ·rename_i f a b D
    try simp only[D]
    split at e
    ·rename_i d mark u E
     try simp only[E]
     split at e
     ·rename_i C p
      try simp only[p]
      split at e
      ·rename_i B args o
       try simp only[o]
       cases r:rec (.fn B) zn args { C with nx:=h.nx+1+1 }with
       |none=>rw[r]at e;cases e
       |some z=>rw[r]at e;rw[L _ _ _ _ _ r];exact e
      ·cases e
     ·cases e
    ·cases e
   ·cases e
theorem Ga(L:GG rec rec'){q:Func}:∀ {n j:Nat} {i:List DF} {u:UM} {t:T PV} {h:Hp} {x:Out×Hp},n<=j->leave P rec q n i u t h=zo x->leave P rec' q j i u t h=zo x
 |0,j,i,u,t,h,x,o,e=>by unfold leave at e;cases e
 |n+1,j,i,u,t,h,x,o,e=>by
  obtain⟨m,rfl⟩:∃ m,j=m+1:=⟨j-1,by omega⟩;have o:n<=m:=by omega
  unfold leave at e ⊢;cases i with
  |nil=>exact e
  |cons d i=>
   cases d with
   |col id=>
    simp only at e ⊢;split at e
    ·rename_i l B
     try simp only[B]
     split at e
     ·rename_i y hs
      try simp only[hs]
      exact Ga L o e
     ·cases e
    ·cases e
   |bi b s ty args=>
    simp only at e ⊢;split at e
    ·split at e
     ·rename_i v y A
      try simp only[A]
      exact Ga L o e
     ·cases e
    ·cases e
   |call f args=>
    simp only at e ⊢;split at e
    ·rename_i g a b;split at e
     ·rename_i w c k
      try simp only[k]
      cases p:rec (.fn w) (zo u) c h with
      |none=>rw[p]at e;cases e
      |some z=>
       rw[p]at e;rw[L _ _ _ _ _ p];obtain⟨o',r,h'⟩:=z;cases o' with
       |ret v=>
        cases r with
        |some r=>exact Ga L o e
        |none=>cases e
       |pan C=>cases e
     ·cases e
    ·cases e
theorem PJ{F j:Nat}(k:F<=j):∀ {n i:Nat},n<=i->GG (B4 P sh F n) (B4 P sh j i)
 |0,i,_=>λG up args h x e=>by cases e
 |n+1,i,hn=>λG up args h x e=>by
  obtain⟨m,rfl⟩:∃ m,i=m+1:=⟨i-1,by omega⟩;have L:GG (B4 P sh F n) (B4 P sh j m):=PJ k (by omega);unfold B4 PL at e ⊢
  have tail:∀ {fn:Func} {fr:Fr} {ds:List DF} {u:UM} {h:Hp},(match leave P (B4 P sh F n) fn F ds u fr.t h with
    |some (o,h)=>zo (o,fr.up,h)
    |none=>zn)=zo x->(match leave P (B4 P sh j m) fn j ds u fr.t h with
    |some (o,h)=>zo (o,fr.up,h)
    |none=>zn)=zo x:=by
   intro fn fr ds u h e;cases A:leave P (B4 P sh F n) fn F ds u fr.t h with
   |none=>rw[A]at e;cases e
   |some z=>rw[A]at e;rw[Ga L k A];exact e
  cases G with
  |fn f=>
   simp only at e ⊢;split at e
   ·rename_i p B
    try simp only[B]
    exact e
   rename_i B
   try simp only[B]
   split at e
   ·rename_i fn s
    try simp only[s]
    split at e
    ·rename_i c hc
     try simp only[hc]
     cases D:ah args.length fn.ntmps&&af fn.ntmps 1048575 with
     |false=>simp only[D,zj]at e;cases e
     |true=>
      simp only[D,zb]at e ⊢;cases b:exec P sh (B4 P sh F n) F c { t:=Bl 0 args .lf,nt:=fn.ntmps,ds:=[],up,ro:=zn } h with
      |none=>rw[b]at e;cases e
      |some y=>
       rw[b]at e;rw[Ck L k b];obtain⟨ex,fr1,I⟩:=y;cases ex with
       |normal=>exact tail e
       |ret=>exact tail e
       |panic v=>exact tail e
       |_=>cases e
    ·cases e
   ·cases e
  |yl l=>
   simp only at e ⊢;split at e
   ·rename_i Y W nt t X q a d K
    try simp only[K]
    split at e
    ·rename_i S M
     try simp only[M]
     cases b:exec P sh (B4 P sh F n) F q { t:=S,nt,ds:=[],up:=zn,ro:=zo l } h with
     |none=>rw[b]at e;cases e
     |some y=>
      rw[b]at e;rw[Ck L k b];obtain⟨ex,fr1,I⟩:=y;cases ex with
      |normal=>
       simp only at e ⊢;split at e
       ·rename_i E N Z O C r U w
        try simp only[w]
        split at e
        ·rename_i J hs
         try simp only[hs]
         cases g:exec P sh (B4 P sh F n) F a fr1 J with
         |none=>rw[g]at e;cases e
         |some y2=>rw[g]at e;rw[Ck L k g];exact e
        ·cases e
       ·cases e
      |_=>cases e
    ·cases e
   ·cases e
end
end
section
variable[Gl]
open Go.RowKit
section
variable{P:Program}{M:Ak}{μ:Mu}{h:Hp}{w:World}
theorem Sim.junk(s:Sim M μ h w)(arr:Array Value)(ty:TypeId):∃ b,Sim b μ h (w.alloc (.cells arr ty))/\Grow M μ w b μ (w.alloc (.cells arr ty)):=
 have d:=s.data (w':=w.alloc (.cells arr ty)) (arr:=arr) (ty:=ty) rfl
 ⟨_,d.1,Grow.data (o:=.cells arr ty (0,0)) d.2 rfl rfl rfl rfl (λa t f e=>by cases e;rfl)⟩
theorem S5(s:Sim M μ h w){T:TypeId}{id off:Nat}{a:PV}{h':Hp}(e:A2 P h T (.ptr id off) a=zo (.skip h')){x:Value}(j:Rep M μ (.ptr id off) x) :
  ∃ b o k,x=.pointer (zo ⟨b,o,zn⟩)/\w.cell? ⟨b,o,zn⟩=zo k/\w.frozen? ⟨b,o,zn⟩=zf:=by
 unfold A2 at e;split at e
 ·rename_i n y;replace e:=Bn e;obtain⟨hc,e⟩:=e;simp only at e;split at e
  ·rename_i cs m;replace e:=Aa e;obtain⟨d,e⟩:=e;have d:=Nat.le_of_ble_eq_true d;simp only[ak,ay]at hc;have q:0<n:=by have:=hc.1;simpa using this
   cases j with
   |ptr _ _ _ r j=>
    obtain⟨z,f,g⟩:=s.blk id _ m;rw[j]at f;cases f;obtain⟨c,arr,ty,l,p,t,u⟩:=g;have i:off<arr.size:=by omega
    refine⟨r.b,r.base+off,arr[off],rfl,?_,?_⟩
    ·rw[cell?_eq (a:=⟨r.b,r.base+off,zn⟩) l rfl,c];simp[i]
    ·simp[World.frozen?,l]
  ·cases e
 ·cases e
theorem Gl.handle(c:GlOK M){g a b o:Nat}(e:Gl.g g=zo [.ifc a (.agg [.adr b o])]):M ⟨g,0,zn⟩=zo (.iface a (.agg #[.pointer (zo ⟨b,o,zn⟩)])):=by
 obtain⟨x,d,_,f⟩:=c g _ e;rw[d 0 _ rfl];have:=f 0 _ rfl;generalize x 0=v at this;cases this with
 |ifc _ _ _ y hy=>
  cases hy with
  |agg _ _ vs hl _ hv=>
   obtain⟨z,h⟩:∃ z,vs = #[z]:=by
    obtain⟨l⟩:=vs
    match l,hl with
    |[z],_=>exact⟨z,rfl⟩
   subst h;have:=hv 0 _ z rfl rfl;cases this;rfl
theorem S3{c:PV}{μ:Mu}{x:Value}(a:Rep M μ (.agg [c]) x):∃ z,x=.agg #[z]/\z.oneCell'=zt/\Rep M μ c z:=by
 cases a with
 |agg _ _ vs hl h1 hv=>
  obtain⟨z,b⟩:∃ z,vs = #[z]:=by
   obtain⟨l⟩:=vs
   match l,hl with
   |[z],_=>exact⟨z,rfl⟩
  subst b;exact⟨z,rfl,h1 0 z rfl,hv 0 _ z rfl rfl⟩
def D7(w:World):Ak:=λa=>if a.spot=zn then w.cell? a else zn
theorem Tf{w:World}(hc:∀ (g:Nat) (cs:List PV),Gl.g g=zo cs -> ∀ (j:Nat) (c:PV),cs[j]?=zo c -> ∃ x,w.cell? ⟨g,j,zn⟩=zo x/\x.oneCell'=zt/\Rep (D7 w) mu0 c x):GlW w:=by
 refine⟨D7 w,λg cs e=> ?_,λa v e=> ?_⟩
 ·have H:=hc g cs e;refine⟨λj=>match w.cell? ⟨g,j,zn⟩with|some x=>x|none=>.nilIface,λj c h=> ?_,λj c h=> ?_,λj c h=> ?_⟩
  all_goals obtain⟨x,b,d,f⟩:=H j c h
  ·unfold D7;simp only[zy,b]
  ·simp only[b];exact d
  ·simp only[b];exact f
 ·unfold D7 at e;by_cases hs:a.spot=zn
  ·rw[zy hs]at e;exact⟨hs,e⟩
  ·rw[zx hs]at e;cases e
theorem TK{f:FuncId}{vs:List Value}{v:Value}{Q:World->Prop}(hc:Calls P f vs.toArray w λe w'=>e=.returned v/\Q w')(cs:List Frame) :
  ∃ w' fr,Q w'/\Steps P (lone (Frame.enter P f vs.toArray .normal) cs w) (lone fr cs w')/\fr.fn=f/\fr.leaving P w' (.returned v):=by
 obtain⟨e,w',fr,⟨rfl,d⟩,a,b,c⟩:=hc cs;exact⟨w',fr,d,a,b,c⟩
theorem Hm:∀ (a b:List UInt8),(bif Op.bytesLess a b then(-1:Int)else bif a == b then 0 else 1)=Lib.compareBytes a b
 |[],[]=>rfl
 |[],_::_=>rfl
 |_::_,[]=>rfl
 |a::as,b::bs=>by
  unfold Lib.compareBytes;have k:=Hm as bs;by_cases h:a<b
  ·simp[Op.bytesLess,h]
  ·by_cases c:b<a
   ·have d:a≠b:=by intro e;subst e;exact absurd c h
    have i:(a == b)=zf:=by simpa using d
    simp[Op.bytesLess,h,c,i]
   ·have j:a=b:=by
     have f:=dl.1 h;have g:=dl.1 c;exact UInt8.le_antisymm g f
    subst j;simp only[h,if_false];rw[<- k];simp[Op.bytesLess,UInt8.lt_irrefl]
end
end
section
open Go.RowKit
@[reducible] def Pd(G:Gl)(a:FuncId)(b:Bool):Gl:=⟨G.g,λf=>bif aa f a then zo (.kn b)else G.pr f⟩
section
variable{G:Gl}{P:Program}{M:Ak}{μ:Mu}{h:Hp}{w:World}{f0:FuncId}{b:Bool}
theorem SI(s : @Sim G M μ h w) : @Sim (Pd G f0 b) M μ h w:=@Sim.mk (Pd G f0 b) M μ h w s.glb s.mem s.blk s.use s.inj s.sep
theorem M9(s : @Sim (Pd G f0 b) M μ h w) : @Sim G M μ h w:=by
 obtain⟨a,c,d,e,f,g⟩:=s;exact @Sim.mk G M μ h w a c d e f g
theorem Ow[Gl](s:Sim M μ h w){w':World}(hs:w.heap.size<=w'.heap.size)(i:∀ b,b<w.heap.size->w'.heap[b]?=w.heap[b]?):Sim M μ h w':=by
 refine⟨s.glb,λa v e=> ?_,λid b k=> ?_,λid r c=> ?_,s.inj,s.sep⟩
 ·obtain⟨j,g⟩:=s.mem a v e;refine⟨j,?_⟩
  have f:a.block<w.heap.size:=by
   rcases Nat.lt_or_ge a.block w.heap.size with h|h
   ·exact h
   ·simp[World.cell?,Array.getElem?_eq_none h]at g
  rw[<- g];simp only[World.cell?,i _ f]
 ·obtain⟨r,c,d⟩:=s.blk id b k;exact⟨r,c,by rw[i _ (s.use id r c).2];exact d⟩
 ·exact⟨(s.use id r c).1,Nat.lt_of_lt_of_le (s.use id r c).2 hs⟩
theorem TJ(m : @Eg G P){L:List Kn}(K : @MI G P L){sh:FuncId->Bool}{F n:Nat}(e : @NL G P sh F L n ⟨f0,[],.bool b,⟨.lf,0⟩⟩=zt) : @Eg (Pd G f0 b) P:=by
 intro f p D1 args h v h' g M μ w vs s o cs;have a:(bif aa f f0 then zo (Pr.kn b)else G.pr f)=zo p:=D1
 cases e1:aa f f0 with
 |true=>
  have:=aj e1;subst this;rw[e1]at a;simp only[zb,Option.some.injEq]at a;subst a;cases args with
  |cons _ _=>cases g
  |nil=>
   cases g;cases o.nil_inv;have y : @GlW G w:=⟨M,(M9 s).glb,(M9 s).mem⟩;obtain⟨O,w',fr,⟨⟨x,E,J⟩,d,q,k,c,l,j⟩,N,i,I⟩:=@Q7 G P sh m L K F n f (.bool b) ⟨.lf,0⟩ (@K1 G P sh F L n _ e) rfl w y cs;cases J;subst E;refine⟨M,μ,w',fr,.bool b,@Ow _ _ _ _ (Pd G f b) s w' d q,?_,N,i,.bool _ _,I⟩;exact⟨.refl _,.refl _,λ_ _ h=>.inl h,λid r h=>.inl ⟨id,r,h,rfl⟩,d,λb D _=>q b D,k,c,l,j⟩
 |false=>
  rw[e1]at a;simp only[zj]at a;obtain⟨t,μ',w',fr,x,s',u,z,A,B,C⟩:=m f p a args h v h' g M μ w vs (M9 s) o cs;exact⟨t,μ',w',fr,x,SI s',u,z,A,B,C⟩
end
end
end Go.Proofs.YtfceigpbgndbgaaGreatDoor.Pi
