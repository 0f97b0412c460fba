/- A part of the evaluator of the model's code for any program, and of the proof that it is sound. No condition. -/
import Derived.Test.YthpkjfabdccpdaaGreatPp1
import Derived.RowKit3
namespace Go.Proofs.YthpkjfabdccpdaaGreat.Pi
def Lc (P:Program) (rec:Np):Prop := ∀ {ops:Array Oper} {base:Nat} {fr fr':Fr} {h h':Hp},drawn P rec base ops.toList fr h=some (fr',h')->(P.follows .mixedOrders || !Region.departs ops)=true ->
 ∀ {M:B5} {μ:Mu} {w:World} {b:Frame} {a:Act} {cs:List Frame} (k:List Item) (t:Nat),Sim M μ h w->FrRep M μ fr b a cs->Ran P M μ w (lone (b.atR a (.inRegion ops (Region.schedule (P.follows .mixedOrders) ops t)::k)) cs w) b k cs .normal fr' h'
section
variable {P:Program} {sh:FuncId->Bool} {rec:Np}
theorem Vf {α:Type} : ∀ (l:List α) (n:Nat),(MJ n l).map (·.1)=(List.range l.length).map (n+·)
 | [],n=>rfl
 | a::l,n=>by
  simp only [MJ,List.map_cons,List.length_cons,List.range_succ_eq_map,List.map_map];rw [Vf l (n+1)];simp only [Nat.add_zero,List.cons.injEq,true_and];apply List.map_congr_left;intro x _;simp only [Function.comp];omega
theorem Vg {α:Type} : ∀ (l:List α) (n:Nat),∀ x∈MJ n l,n<=x.1/\l[x.1-n]? = some x.2
 | [],n,x,hx=>by simp [MJ] at hx
 | a::l,n,x,hx=>by
  simp only [MJ,List.mem_cons] at hx;rcases hx with rfl | hx
  ·simp
  ·obtain ⟨h1,h2⟩:=Vg l (n+1) x hx;refine ⟨by omega,?_⟩;rw [show x.1-n=(x.1-(n+1))+1 by omega];simpa using h2
section
variable {M:B5} {μ:Mu} {h h':Hp} {w:World} {b:Frame} {a:Act} {cs:List Frame} {k:List Item} {fr fr':Fr} {ex:Ex} {m:Machine}
theorem Ran.step {m1:Machine} (hs:step P m = .next m1) (hr:Ran P M μ w m1 b k cs ex fr' h'):Ran P M μ w m b k cs ex fr' h' :=
 let ⟨M',μ',w',a',cs',q1,q2,q3,q4,q5⟩:=hr
 ⟨M',μ',w',a',cs',q1,q2,q3,q4,.of_steps (.one hs) q5⟩
theorem Ran.then {fr1:Fr} {h1:Hp} {k1:List Item} (hr:Ran P M μ w m b k1 cs .normal fr1 h1)
  (hn : ∀ {M1 μ1 w1 a1 cs1},Sim M1 μ1 h1 w1->FrRep M1 μ1 fr1 b a1 cs1->Ran P M1 μ1 w1 (lone (b.atR a1 k1) cs1 w1) b k cs1 ex fr' h'):Ran P M μ w m b k cs ex fr' h':=by
 obtain ⟨M1,μ1,w1,a1,cs1,s1,g1,f1,t1,st⟩:=hr;obtain ⟨M',μ',w',a',cs',q1,q2,q3,q4,q5⟩:=hn s1 f1;exact ⟨M',μ',w',a',cs',q1,g1.trans q2,q3,t1.trans q4,.of_steps st q5⟩
theorem Ran.pass {x:Item} (hx:x.plain=true) (hne:ex ≠ .normal) (hr:Ran P M μ w m b (x::k) cs ex fr' h'):Ran P M μ w m b k cs ex fr' h':=by
 obtain ⟨M',μ',w',a',cs',q1,q2,q3,q4,q5⟩:=hr;refine ⟨M',μ',w',a',cs',q1,q2,q3,q4,?_⟩;cases ex with
 | normal=>exact absurd rfl hne
 | exit id=>obtain ⟨k1,h1,h2⟩:=q5;exact ⟨k1,by rw [h1];cases x<;>simp_all [exitTo,Item.plain],h2⟩
 | goto id=>obtain ⟨k1,h1,h2⟩:=q5;exact ⟨k1,by rw [h1];cases x<;>simp_all [gotoIn,Item.plain],h2⟩
 | ret=>exact q5
 | panic v=>exact q5
end
theorem Gk {r:Nat} {l:Loop} {w:World} (hb:w.heap[r]? = some (.loop l)):(Instr.getLoop r).run P w = .ok l w:=by
 simp [Instr.getLoop,getObj,Sem.run,hb]
theorem Qj (R:RecOK P rec) (D:Lc P rec) : ∀ (n:Nat),
  (∀ {c:Code} {fr fr':Fr} {h h':Hp} {ex:Ex},exec P sh rec n c fr h=some (ex,fr',h') ->
   ∀ {M:B5} {μ:Mu} {w:World} {b:Frame} {a:Act} {cs:List Frame} (k:List Item),Sim M μ h w->FrRep M μ fr b a cs->Ran P M μ w (lone (b.atR a (.code c::k)) cs w) b k cs ex fr' h') /\
  (∀ {c:Code} {fr fr':Fr} {h h':Hp} {ex:Ex},exec P sh rec n (.loop c) fr h=some (ex,fr',h') ->
   ∀ {M:B5} {μ:Mu} {w:World} {b:Frame} {a:Act} {cs:List Frame} (k:List Item),Sim M μ h w->FrRep M μ fr b a cs->Ran P M μ w (lone (b.atR a (.inLoop c::k)) cs w) b k cs ex fr' h')
 | 0=>⟨λe=>by simp [exec] at e,λe=>by simp [exec] at e⟩
 | n+1=>by
  obtain ⟨ihA,ihB⟩:=Qj R D n
  have loopRun : ∀ {c:Code} {fr fr':Fr} {h h':Hp} {ex:Ex},exec P sh rec (n+1) (.loop c) fr h=some (ex,fr',h') ->
    ∀ {M:B5} {μ:Mu} {w:World} {b:Frame} {a:Act} {cs:List Frame} (k:List Item),Sim M μ h w->FrRep M μ fr b a cs->Ran P M μ w (lone (b.atR a (.code c :: .inLoop c::k)) cs w) b k cs ex fr' h':=by
   intro c fr fr' h h' ex e M μ w b a cs k s f;simp only [exec] at e;cases hc:exec P sh rec n c fr h with
   | none=>rw [hc] at e;cases e
   | some r =>
    obtain ⟨ex1,fr1,h1⟩:=r;rw [hc] at e;have r1:=ihA hc (.inLoop c::k) s f;cases ex1 with
    | normal=>exact r1.then λs1 f1=>ihB e k s1 f1
    | exit id=>cases e;exact r1.pass rfl (by intro h;cases h)
    | goto id=>cases e;exact r1.pass rfl (by intro h;cases h)
    | ret=>cases e;exact r1.pass rfl (by intro h;cases h)
    | panic v=>cases e;exact r1.pass rfl (by intro h;cases h)
  refine ⟨?_,λe M μ w b a cs k s f=>(loopRun e k s f).step stepR_inLoop⟩;intro c fr fr' h h' ex e M μ w b a cs k s f;cases c with
  | skip=>simp only [exec] at e;cases e;exact ⟨M,μ,w,a,cs,s,.refl _ _ _,f,.refl _,.one stepR_skip⟩
  | label l=>simp only [exec] at e;cases e;exact ⟨M,μ,w,a,cs,s,.refl _ _ _,f,.refl _,.one stepR_label⟩
  | refuse _=>simp [exec] at e
  | exit id=>simp only [exec] at e;cases e;exact ⟨M,μ,w,a,cs,s,.refl _ _ _,f,.refl _,k,rfl,.refl _ _⟩
  | goto id=>simp only [exec] at e;cases e;exact ⟨M,μ,w,a,cs,s,.refl _ _ _,f,.refl _,k,rfl,.refl _ _⟩
  | ret=>simp only [exec] at e;cases e;exact ⟨M,μ,w,a,cs,s,.refl _ _ _,f,.refl _,k,.refl _ _⟩
  | seq x y =>
   simp only [exec] at e;refine Ran.step stepR_seq ?_;cases hc:exec P sh rec n x fr h with
   | none=>rw [hc] at e;cases e
   | some r =>
    obtain ⟨ex1,fr1,h1⟩:=r;rw [hc] at e;have r1:=ihA hc (.code y::k) s f;cases ex1 with
    | normal=>exact r1.then λs1 f1=>ihA e k s1 f1
    | exit id=>cases e;exact r1.pass rfl (by intro h;cases h)
    | goto id=>cases e;exact r1.pass rfl (by intro h;cases h)
    | ret=>cases e;exact r1.pass rfl (by intro h;cases h)
    | panic v=>cases e;exact r1.pass rfl (by intro h;cases h)
  | cond x y z =>
   simp only [exec] at e;split at e
   ·rename_i hx;have hv:=Fj f.t hx;generalize hev:a.eval x=v at hv;cases hv;exact (ihA e k s f).step (by rw [stepR_cond hev];rfl)
   ·rename_i hx;have hv:=Fj f.t hx;generalize hev:a.eval x=v at hv;cases hv;exact (ihA e k s f).step (by rw [stepR_cond hev];rfl)
   ·cases e
  | block id x =>
   simp only [exec] at e;refine Ran.step stepR_block ?_;cases hc:exec P sh rec n x fr h with
   | none=>rw [hc] at e;cases e
   | some r =>
    obtain ⟨ex1,fr1,h1⟩:=r;rw [hc] at e;have r1:=ihA hc (.inBlock id::k) s f;cases ex1 with
    | normal=>cases e;exact r1.then λs1 f1=>⟨_,_,_,_,_,s1,.refl _ _ _,f1,.refl _,.one stepR_inBlock⟩
    | exit j =>
     obtain ⟨M',μ',w',a',cs',q1,q2,q3,q4,k1,q5,q6⟩:=r1;simp only at e;cases hj:Nat.beq j id with
     | true =>
      simp only [hj,cond_true] at e;cases e;have:=Nat.eq_of_beq_eq_true hj;subst this;exact ⟨M',μ',w',a',cs',q1,q2,q3,q4,q6.trans (.one (stepR_exit (by rw [q5];simp [exitTo])))⟩
     | false =>
      simp only [hj,cond_false] at e;cases e;refine ⟨M',μ',w',a',cs',q1,q2,q3,q4,k1,?_,q6⟩;rw [q5]
      have:(id == j)=false:=by
       cases hij:id == j with
       | false=>rfl
       | true =>
        have:id=j:=by simpa using hij
        subst this;simp at hj
      simp [exitTo,this]
    | goto j =>
     cases e;obtain ⟨M',μ',w',a',cs',q1,q2,q3,q4,k1,q5,q6⟩:=r1;exact ⟨M',μ',w',a',cs',q1,q2,q3,q4,k1,by rw [q5];simp [gotoIn],q6⟩
    | ret=>cases e;exact r1
    | panic v=>cases e;exact r1
  | loop x=>exact (loopRun e k s f).step stepR_loop
  | scope x =>
   simp only [exec] at e;refine Ran.step Rx ?_;cases hc:exec P sh rec n x fr h with
   | none=>rw [hc] at e;cases e
   | some r =>
    obtain ⟨ex1,fr1,h1⟩:=r;rw [hc] at e;have r1:=ihA hc (.inScope x::k) s f;cases ex1 with
    | normal=>cases e;exact r1.then λs1 f1=>⟨_,_,_,_,_,s1,.refl _ _ _,f1,.refl _,.one PA⟩
    | exit j =>
     cases e;obtain ⟨M',μ',w',a',cs',q1,q2,q3,q4,k1,q5,q6⟩:=r1;exact ⟨M',μ',w',a',cs',q1,q2,q3,q4,k1,by rw [q5];simp [exitTo],q6⟩
    | goto j=>cases e
    | ret=>cases e;exact r1
    | panic v=>cases e;exact r1
  | region id ops draw =>
   simp only [exec] at e;have s0:Sim M μ { h with nx:=h.nx+ops.size } w:=s.nx λ_=>rfl
   cases draw with
   | false =>
    simp only [cond_false] at e;refine Ran.step stepR_region ?_
    have:=MS R _ e (λx hx=>by
     obtain ⟨h1,h2⟩:=Vg _ _ x hx
     simpa using h2) k s0 f
    have hidx:(MJ 0 ops.toList).map (·.1)=List.range ops.size:=by rw [Vf];simp
    rwa [hidx] at this
   | true =>
    simp only [cond_true] at e;replace e:=Be e;obtain ⟨hm,e⟩:=e;split at e
    ·rename_i fr1 h1 hd;cases e;refine Ran.step stepR_region_draw ?_;have s1:Sim M μ { h with nx:=h.nx+ops.size } { w with drawn:=w.drawn+1 }:=s0.drawn rfl
     obtain ⟨M',μ',w',a',cs',q1,q2,q3,q4,q5⟩:=D hd hm k (w.tape w.drawn (.order b.fn id)) s1 f;exact ⟨M',μ',w',a',cs',q1,(Grow.drawn (w:=w) (w':={ w with drawn:=w.drawn+1 }) rfl rfl rfl rfl).trans q2,q3,q4,q5⟩
    ·cases e
  | rangeFunc g ps asg body =>
   simp only [exec] at e;split at e
   ·rename_i fn va0 vb0 hg;have hv:=Fj f.t hg;generalize hev:a.eval g=v at hv;cases hv with
    | fn _ _ _ _ va vb hf hla hlb h2 h3 =>
    split at e
    ·rename_i d mark hd hmk;split at e
     ·rename_i hl hnewl;split at e
      ·rename_i fid args hinv;split at e
       ·rename_i rv u1 hc hcall;split at e
        ·rename_i st pend nt t pl as bd dd hgl;replace e:=EZ e;obtain ⟨hst,e⟩:=e;have hst:st≠1:=by intro h;subst h;simp at hst
         split at e
         ·rename_i hs hset
          have enter : ∃ (w1:World) (μ1:Mu) (rl:Bk) (mk:List Deferred) (lid:Nat),(Instr.enterLoop b.fn a.tmps ps asg body b.roundOf).run P w = .ok (rl.b,mk) w1/\Sim M μ1 hl w1/\Grow M μ w M μ1 w1/\lid=h.nx+1/\μ1 lid=some rl/\DefsRep M μ1 mark mk:=by
           obtain ⟨hget,hgs,_⟩:=Hp.get_new hnewl;split at hmk
           ·rename_i hro;have hbr:b.roundOf=none:=by have:=f.r;unfold PY at this;rw [hro] at this;exact this
            split at hmk
            ·rename_i hd1 hnewd;cases hmk;obtain ⟨dget,dgs,_⟩:=Hp.get_new hnewd
             let rd:Bk:=⟨w.heap.size,0,0,0⟩
             obtain ⟨s1,μd⟩:=s.fresh (w':=w.alloc (.deferred (some []))) (r:=rd) (o:=.deferred (some [])) dget dgs rfl rfl ⟨some [],rfl,trivial⟩;have g1:=Grow.newBlk (M:=M) (μ:=μ) (w:=w) (w':=w.alloc (.deferred (some []))) (r:=rd) (o:=.deferred (some [])) μd rfl rfl rfl rfl rfl (λ_ _ _ h=>by cases h)
             let lp:Loop:={ state:=.ready,pending:=none,fn:=b.fn,tmps:=a.tmps,params:=ps,assign:=asg,body:=body,defers:=w.heap.size }
             let rl:Bk:=⟨(w.alloc (.deferred (some []))).heap.size,0,0,0⟩
             have μl0:HX μ h.nx rd (h.nx+1)=none:=by
              cases hm:HX μ h.nx rd (h.nx+1) with
              | none=>rfl
              | some x=>exact absurd hget (s1.use _ x hm).1
             have hle2:=Ht (r:=rl) μl0
             obtain ⟨s2,μl⟩:=s1.fresh (w':=(w.alloc (.deferred (some []))).alloc (.loop lp)) (r:=rl) (o:=.loop lp) hget hgs rfl rfl
              ⟨lp,rd,rfl,rfl,by decide,rfl,f.t.mono (.refl _) (g1.u.trans hle2),by simp [lp],rfl,rfl,hle2 _ _ (by simp [HX]),rfl⟩
             have g2:=Grow.newBlk (M:=M) (w:=w.alloc (.deferred (some []))) (w':=(w.alloc (.deferred (some []))).alloc (.loop lp)) (r:=rl) (o:=.loop lp) μl rfl rfl rfl rfl rfl (λ_ _ _ h=>by cases h);refine ⟨_,_,rl,[{ target:=.collected w.heap.size,args := #[] }],_,?_,s2,g1.trans g2,rfl,by simp [HX],⟨⟨rd,hle2 _ _ (by simp [HX]),rfl,rfl⟩,trivial⟩⟩;rw [hbr];simp [Instr.enterLoop,lp,rl]
            ·cases hmk
           ·rename_i l0 hro;have hbr:=f.r;unfold PY at hbr;rw [hro] at hbr;obtain ⟨rb,hrb,hbr⟩:=hbr;split at hmk
            ·rename_i st0 pend0 nt0 t0 ps0 asg0 body0 d0 hb0;cases hmk;obtain ⟨r',hr',l1,rd,b1,b2,b3,b4,b5,b6,b7,b8,b9,b10⟩:=s.blk l0 _ hb0;rw [hrb] at hr';cases hr'
             let lp:Loop:={ state:=.ready,pending:=none,fn:=b.fn,tmps:=a.tmps,params:=ps,assign:=asg,body:=body,defers:=rd.b }
             let rl:Bk:=⟨w.heap.size,0,0,0⟩
             have μl0:μ (h.nx+1)=none:=by
              cases hm:μ (h.nx+1) with
              | none=>rfl
              | some x=>exact absurd hget (s.use _ x hm).1
             have hle2:=Ht (r:=rl) μl0
             obtain ⟨s2,μl⟩:=s.fresh (w':=w.alloc (.loop lp)) (r:=rl) (o:=.loop lp) hget hgs rfl rfl
              ⟨lp,rd,rfl,rfl,by decide,rfl,f.t.mono (.refl _) hle2,by simp [lp],rfl,rfl,hle2 _ _ b9,rfl⟩
             have g2:=Grow.newBlk (M:=M) (w:=w) (w':=w.alloc (.loop lp)) (r:=rl) (o:=.loop lp) μl rfl rfl rfl rfl rfl (λ_ _ _ h=>by cases h);refine ⟨_,_,rl,[],_,?_,s2,g2,rfl,by simp [HX],trivial⟩;rw [hbr];simp [Instr.enterLoop,lp,rl,Gk b1,b10]
            ·cases hmk
          obtain ⟨w1,μ1,rl,mk,lid,hent,s1,g1,rfl,hrl,hdm⟩:=enter;have hyl:Rep M μ1 (.yl (h.nx+1)) (.func (.yield rl.b) #[] #[]):=.yl _ _ rl hrl
          obtain ⟨k1,g0,as0,k2⟩:=Jy (P:=P) (w:=w1) (vf:=va.toList) (vc:=vb.toList) (va:=[.func (.yield rl.b) #[] #[]])
           ⟨by simpa using hla,λi c v p q=>(h2 i c v p (by simpa using q)).mono (.refl _) g1.u⟩ ⟨by simpa using hlb,λi c v p q=>(h3 i c v p (by simpa using q)).mono (.refl _) g1.u⟩ (RepL.cons hyl (RepL.nil _ _)) hinv
          obtain ⟨vs,hrun,hargs,fn1,c1,hfn1,hbody1⟩:=k1
          have hres:(resolve a.eval (rangeCall g rl.b) 0).run P w1 = .ok { target:=.fn fn vb,args:=va ++ #[.func (.yield rl.b) #[] #[]] } w1:=by
           show Sem.run P (Deferred.ofValue (a.eval g) (#[Operand.const (.func (.yield rl.b) #[] #[])].map a.eval)) w1=_;have hm1 : #[Operand.const (.func (.yield rl.b) #[] #[])].map a.eval = #[Value.func (.yield rl.b) #[] #[]]:=by simp [Act.eval]
           rw [hev,hm1];rfl
          have hcat:(va.toList++[Value.func (.yield rl.b) #[] #[]]).toArray=va ++ #[.func (.yield rl.b) #[] #[]]:=by apply Array.ext';simp
          have hstep:=stepR_rangeFunc (P:=P) (b:=b) (a:=a) (k:=k) (cs:=cs) hent hres (by rw [hcat] at hrun;exact hrun);have s1n:Sim M μ1 { hl with nx:=h.nx+1+1 } w1:=s1.nx λ_=>rfl
          obtain ⟨M2,μ2,w2,fr2,s2,g2,st2,hfn2,x2,hx2,hl2⟩:=R.nrm hcall s1n hargs (b.atR { a with defers:=mk++a.defers } (.inRangeFunc rl.b::k)::cs)
          obtain ⟨r',hr',l1,rd,b1,b2,b3,b4,b5,b6,b7,b8,b9,b10⟩:=s2.blk _ _ hgl;rw [g2.u _ _ hrl] at hr';cases hr';subst b4
          have hnb:(l1.state == LoopState.busy)=false:=by
           rw [b2]
           match st,hst,b3 with
           | 0,_,_=>rfl
           | 2,_,_=>rfl
           | 3,_,_=>rfl
          have hnb2 : ¬ ((l1.state == LoopState.busy)=true):=by rw [hnb];exact Bool.false_ne_true
          have so:=Dx (P:=P) (o':=.loop { l1 with state:=.exhausted }) b1 (by intro a t f hc;cases hc)
          have hend:(Instr.endLoop rl.b).run P w2 = .ok l1.pending { w2 with heap:=w2.heap.setIfInBounds rl.b (.loop { l1 with state:=.exhausted }) }:=by
           simp only [Instr.endLoop,Sem.run_bind,Gk b1,Result.andThen,if_neg hnb2,so,Sem.run_pure]
          obtain ⟨s3,g3⟩:=s2.object (o':=.loop { l1 with state:=.exhausted }) hgl (g2.u _ _ hrl) trivial hset b1 (by intro a t f hc;cases hc)
           ⟨_,rd,rfl,rfl,by decide,rfl,b5,b6,b7,b8,b9,b10⟩
          have f3:FrRep M2 μ2 { fr with ds:=mark++fr.ds } b { a with defers:=mk++a.defers } cs:=by
           have f2:=f.mono (g1.m.trans g2.m) (g1.u.trans g2.u);refine ⟨f2.t,?_,f2.u,f2.r⟩;have hdm2:=hdm.mono g2.m g2.u
           have app : ∀ {x:List DF} {y:List Deferred},DefsRep M2 μ2 x y->DefsRep M2 μ2 (x++fr.ds) (y++a.defers):=by
            intro x
            induction x with
            | nil=>intro y hy;cases y with
             | nil=>exact f2.d
             | cons _ _=>exact hy.elim
            | cons d0 x ih=>intro y hy;cases y with
             | nil=>exact hy.elim
             | cons _ _=>exact ⟨hy.1,ih hy.2⟩
           exact app hdm2
          have hgr:=(g1.trans g2).trans g3
          have st3:Steps P (lone (b.atR a (.code (.rangeFunc g ps asg body)::k)) cs w) (lone (b.atR { a with defers:=mk++a.defers } ((l1.pending.map Item.code).toList++k)) cs { w2 with heap:=w2.heap.setIfInBounds rl.b (.loop { l1 with state:=.exhausted }) }):=by
           refine .head hstep (st2.trans (.head ?_ (.one (stepR_endRangeFunc hend))));rw [<- finish_atR_inRangeFunc rl.b x2];exact step_leave_returned hl2
          clear hend so g3;generalize ({ w2 with heap:=w2.heap.setIfInBounds rl.b (.loop { l1 with state:=.exhausted }) }:World)=w3 at s3 hgr st3
          split at e<;>rename_i hpd<;>(try rw [hpd] at st3)
          ·cases e;exact ⟨M2,μ2,_,_,cs,s3,hgr,f3,.refl _,st3⟩
          ·cases e;exact ⟨M2,μ2,_,_,cs,s3,hgr,f3,.refl _,k,st3⟩
          ·cases e;exact ⟨M2,μ2,_,_,cs,s3,hgr,f3,.refl _,k,rfl,st3⟩
          ·cases e;exact ⟨M2,μ2,_,_,cs,s3,hgr,f3,.refl _,k,rfl,st3⟩
          ·cases e
         ·cases e
        ·cases e
       ·cases e
      ·cases e
     ·cases e
    ·cases e
   ·cases e
end
end Go.Proofs.YthpkjfabdccpdaaGreat.Pi
namespace Go.Proofs.YthpkjfabdccpdaaGreat.Pi
section
variable {P:Program} {sh:FuncId->Bool} {rec:Np} {M:B5} {μ:Mu} {h:Hp} {w:World}
theorem ec (s:Sim M μ h w) {t:T PV} {nt:Nat} {tmps:Array Value} (ht:TmpsRep M μ t nt tmps) {r:ResultVar} {p:PV} (e:YI P h t r=some p) :
  ∃ x,(match r with
   | .tmp t=>pure (tmps.getD t undef)
   | .cell a t=>do loadVar t (<- asAddr (tmps.getD a undef)):Sem Value).run P w = .ok x w/\Rep M μ p x:=by
 unfold YI at e;split at e
 ·rename_i k;cases e;exact ⟨_,rfl,ht.2.2 k⟩
 ·rename_i a ty;split at e
  ·rename_i j off hp;split at e
   ·rename_i cs fz hb;have h3:=ht.2.2 a;rw [hp] at h3;simp only [Option.getD_some] at h3;obtain ⟨r,hr,hc⟩:=PO s (off:=off) hb;obtain ⟨v,h1,h2⟩:=IX (P:=P) hc e;generalize hv:tmps.getD a undef=x at h3;cases h3 with
    | ptr _ _ _ r' hr' =>
     rw [hr] at hr';cases hr';refine ⟨v,?_,h2⟩;simp only [hv];simpa [asAddr] using h1
   ·cases e
  ·cases e
theorem J0 (s:Sim M μ h w) {t:T PV} {nt:Nat} {tmps:Array Value} (ht:TmpsRep M μ t nt tmps) : ∀ {l:List ResultVar} {ps:List PV},O4 P h t l=some ps ->
  ∃ xs:List Value,(l.mapM (fun | .tmp t=>pure (tmps.getD t undef) | .cell a t=>do loadVar t (<- asAddr (tmps.getD a undef)):ResultVar->Sem Value)).run P w = .ok xs w/\RepL M μ ps xs
 | [],ps,e=>by simp [O4] at e;subst e;exact ⟨[],by simp,RepL.nil _ _⟩
 | r::l,ps,e=>by
  unfold O4 at e;split at e
  ·rename_i p ps' hp hps;cases e;obtain ⟨x,h1,h2⟩:=ec s ht hp;obtain ⟨xs,h3,h4⟩:=J0 s ht hps;refine ⟨x::xs,?_,RepL.cons h2 h4⟩;rw [List.mapM_cons];simp only [Sem.run_bind,h1,Result.andThen,h3,Sem.run_pure]
  ·cases e
theorem Ks (s:Sim M μ h w) {fn:Func} {t:T PV} {nt:Nat} {tmps:Array Value} (ht:TmpsRep M μ t nt tmps) {v:PV} (e:results P fn h t=some v) : ∃ x,(Go.results fn tmps).run P w = .ok x w/\Rep M μ v x:=by
 unfold results at e
 have key : ∀ {ps:List PV},O4 P h t fn.results.toList=some ps -> ∃ xs:Array Value,(fn.results.mapM (fun | .tmp t=>pure (tmps.getD t undef) | .cell a t=>do loadVar t (<- asAddr (tmps.getD a undef)):ResultVar->Sem Value)).run P w = .ok xs w/\RepL M μ ps xs.toList:=by
  intro ps hps;obtain ⟨xs,h1,h2⟩:=J0 s ht hps;refine ⟨xs.toArray,?_,by simpa using h2⟩;rw [Array.mapM_eq_mapM_toList];simp only [Sem.run_map,h1];rfl
 have shape:(Go.results fn tmps).run P w=((fn.results.mapM (fun | .tmp t=>pure (tmps.getD t undef) | .cell a t=>do loadVar t (<- asAddr (tmps.getD a undef)):ResultVar->Sem Value)) >>= λvs=>(pure (if h:vs.size=1 then vs[0] else .tuple vs):Sem Value)).run P w:=rfl
 rw [shape];split at e
 ·rename_i v0 hps;cases e;obtain ⟨xs,h1,h2⟩:=key hps;obtain ⟨x,hx,hr⟩:=Ro h2 rfl;have hxs:xs = #[x]:=by rw [<- Array.toArray_toList (xs:=xs),hx]
  subst hxs;exact ⟨x,by simp only [Sem.run_bind,h1,Result.andThen,Sem.run_pure];rfl,hr⟩
 ·rename_i ps hne hps;cases e;obtain ⟨xs,h1,h2⟩:=key hps
  have hsz:xs.size≠1:=by
   intro h;have:ps.length=1:=by rw [h2.1];simpa using h
   match ps,this with
   | [p],_=>exact hne p rfl
  refine ⟨.tuple xs,by simp only [Sem.run_bind,h1,Result.andThen,Sem.run_pure,dif_neg hsz],.tup _ _ _ (by simpa using h2.1) λi c v a b=>h2.2 i c v a (by simpa using b)⟩
 ·cases e
theorem MT {u:UM} {m:FrameMode} (hr:UMRep M μ u m):UMRep M μ (QV u) (settle m):=by
 cases u with
 | ret=>have hr:m = .returning:=hr;subst hr;rfl
 | pan ch =>
  obtain ⟨chain,rfl,hc⟩:=hr;cases ch with
  | nil=>cases chain with
   | nil=>exact ⟨[],rfl,trivial⟩
   | cons _ _=>exact hc.elim
  | cons e older =>
   cases chain with
   | nil=>exact hc.elim
   | cons p ps =>
    obtain ⟨c1,c2,c3,c4⟩:=hc;obtain ⟨ev,er⟩:=e;obtain ⟨pv,pr,pg⟩:=p;simp only at c2 c3;subst c2;subst c3;cases er with
    | false=>exact ⟨_,rfl,c1,rfl,rfl,c4⟩
    | true =>
     have drop : ∀ {l:List PE} {m:List PanicEntry},ChRep M μ l m->m.dropWhile (!·.goexit)=[]:=by
      intro l
      induction l with
      | nil=>intro m hm;cases m with
       | nil=>rfl
       | cons _ _=>exact hm.elim
      | cons _ _ ih=>intro m hm;cases m with
       | nil=>rfl
       | cons q qs =>
        obtain ⟨_,_,d3,d4⟩:=hm;simp [d3,ih d4]
     have:=drop c4;show settle (.panicking ({ v:=pv,recovered:=true }::ps)) = .returning;simp [settle,this]
theorem Qk {u:UM} {m:FrameMode} (hr:UMRep M μ u m):m ≠ .run:=by
 cases u with
 | ret=>have hr:m = .returning:=hr;subst hr;intro h;cases h
 | pan ch=>obtain ⟨chain,rfl,_⟩:=hr;intro h;cases h
theorem YZ {x y:List DF} {X Y:List Deferred} (hx:DefsRep M μ x X) (hy:DefsRep M μ y Y):DefsRep M μ (x++y) (X++Y):=by
 induction x generalizing X with
 | nil=>cases X with
  | nil=>exact hy
  | cons _ _=>exact hx.elim
 | cons d x ih=>cases X with
  | nil=>exact hx.elim
  | cons _ _=>exact ⟨hx.1,ih hx.2⟩
theorem Ld (R:RecOK P rec) {fn:Func} {t:T PV} {nt:Nat} : ∀ (n:Nat) {ds:List DF} {u:UM} {h h':Hp} {o:Out},leave P rec fn n ds u t h=some (o,h') ->
  ∀ {M:B5} {μ:Mu} {w:World} {fr:Frame} (cs:List Frame),Sim M μ h w->UMRep M μ u fr.mode->DefsRep M μ ds fr.defers->TmpsRep M μ t nt fr.tmps->P.funcs[fr.fn]? = some fn ->
  ∃ M' μ' w' fr',Sim M' μ' h' w'/\Grow M μ w M' μ' w'/\Steps P (lone fr cs w) (lone fr' cs w')/\fr'.fn=fr.fn/\fr'.kind=fr.kind/\eZ P M' μ' fr' w' o
 | 0,_,_,_,_,_,e,_,_,_,_,_,_,_,_,_,_=>by simp [leave] at e
 | n+1,ds,u,h,h',o,e,M,μ,w,fr,cs,s,hu,hd,ht,hfn=>by
  unfold leave at e;split at e
  ·have hdn:fr.defers=[]:=by
    cases hfd:fr.defers with
    | nil=>rfl
    | cons _ _=>rw [hfd] at hd;exact hd.elim
   split at e
   ·split at e
    ·rename_i v hv;cases e;obtain ⟨x,h1,h2⟩:=Ks s ht hv;exact ⟨M,μ,w,fr,s,.refl _ _ _,.refl _ _,rfl,rfl,x,h2,hu,hdn,fn,hfn,h1⟩
    ·cases e
   ·rename_i ch;cases e;obtain ⟨chain,h1,h2⟩:=hu;exact ⟨M,μ,w,fr,s,.refl _ _ _,.refl _ _,rfl,rfl,chain,h2,h1,hdn,fn,hfn⟩
  ·rename_i id ds;cases hfd:fr.defers with
   | nil=>rw [hfd] at hd;exact hd.elim
   | cons D Ds =>
    rw [hfd] at hd;obtain ⟨⟨r,hr,htar,hargs⟩,hds⟩:=hd;obtain ⟨Dt,Da⟩:=D;simp only at htar hargs;subst htar;subst hargs;split at e
    ·rename_i l hb;split at e
     ·rename_i h1 hset;obtain ⟨r',hr',dd,b1,b2⟩:=s.blk id _ hb;rw [hr] at hr';cases hr';cases dd with
      | none=>exact b2.elim
      | some calls =>
       have so:=Dx (P:=P) (o':=.deferred none) b1 (by intro a t f hc;cases hc);obtain ⟨s1,g1⟩:=s.object (o':=.deferred none) hb hr trivial hset b1 (by intro a t f hc;cases hc) ⟨none,rfl,trivial⟩
       have hrun:(Instr.takeDeferred r.b).run P w = .ok calls { w with heap:=w.heap.setIfInBounds r.b (.deferred none) }:=by
        have hg:(getObj r.b).run P w = .ok (.deferred (some calls)) w:=by simp [getObj,Sem.run,b1]
        simp only [Instr.takeDeferred,Sem.run_bind,hg,Result.andThen,so,Sem.run_pure]
       have st:=Qi (P:=P) (cs:=cs) (Qk hu) hfd hrun;obtain ⟨M',μ',w',fr',q1,q2,q3,q4,q5,q6⟩:=Ld R n e (fr:={ fr with defers:=calls++Ds }) cs s1 hu (YZ b2 hds) ht hfn
       exact ⟨M',μ',w',fr',q1,g1.trans q2,.head st q3,q4,q5,q6⟩
     ·cases e
    ·cases e
  ·rename_i b ats ty args ds;cases hfd:fr.defers with
   | nil=>rw [hfd] at hd;exact hd.elim
   | cons D Ds =>
    rw [hfd] at hd;obtain ⟨⟨consts,va,htar,hargs,hra⟩,hds⟩:=hd;obtain ⟨Dt,Da⟩:=D;simp only at htar hargs;subst htar;subst hargs;split at e
    ·split at e
     ·rename_i v h1 hbt;obtain ⟨M1,μ1,w1,x,hrun,s1,g1,hx⟩:=Nx (ty:=ty) (cs:=consts) s hra hbt;have st:=Lb (P:=P) (cs:=cs) (Qk hu) hfd hrun;obtain ⟨M',μ',w',fr',q1,q2,q3,q4,q5,q6⟩:=Ld R n e (fr:={ fr with defers:=Ds }) cs s1 (hu.mono g1.m g1.u) (hds.mono g1.m g1.u) (ht.mono g1.m g1.u) hfn
      exact ⟨M',μ',w',fr',q1,g1.trans q2,.head st q3,q4,q5,q6⟩
     ·cases e
    ·cases e
  ·rename_i f args ds;cases hfd:fr.defers with
   | nil=>rw [hfd] at hd;exact hd.elim
   | cons D Ds =>
    rw [hfd] at hd;obtain ⟨⟨fv,first,cap,vf,vc,va,hfe,hny,htar,hargs,hra,hrb,hrc⟩,hds⟩:=hd
    obtain ⟨Dt,Da⟩:=D;simp only at htar hargs;subst htar;subst hargs;subst hfe;cases fv with
    | func g =>
     simp only at e;cases hinv:FP P (.func g) first cap args with
     | none=>rw [hinv] at e;cases e
     | some rr =>
      rw [hinv] at e;obtain ⟨hsay,g',args',rfl⟩:=Jy (P:=P) (w:=w) hra hrb hrc hinv;obtain ⟨vs,hrun,hvs,_⟩:=hsay;simp only at e;split at e
      ·rename_i rv u1 h1 hcall;obtain ⟨M1,μ1,w1,frX,m1,u1',s1,g1,st1,hup,hum,hkX,x,hx,hgo⟩:=R.dfr hcall s hvs { fr with defers:=Ds } cs hu
       cases hup;have st:=step_defer (P:=P) (cs:=cs) (Qk hu) hfd rfl hrun;have st2:=step_going_returned (c:={ { fr with defers:=Ds } with mode:=m1 }) (cs:=cs) hkX hgo
       obtain ⟨M',μ',w',fr',q1,q2,q3,q4,q5,q6⟩:=Ld R n e (fr:={ { { fr with defers:=Ds } with mode:=m1 } with mode:=settle m1 }) cs s1 (MT hum) (hds.mono g1.m g1.u) (ht.mono g1.m g1.u) hfn
       exact ⟨M',μ',w',fr',q1,g1.trans q2,.head st (st1.trans (.head st2 q3)),q4,q5,q6⟩
      ·cases e
    | _=>cases e
theorem NJ : ∀ (l : List PV) (i : Nat) (t : T PV) (k : Nat), i + l.length <= 1048575 -> (EO i l t).get k = if i <= k /\ k < i + l.length then l[k - i]? else t.get k
  | [], i, t, k, _ => by simp [EO]; intro a b; omega
  | a :: l, i, t, k, hle => by
    simp only [List.length_cons] at hle;unfold EO
    rw [NJ l (i + 1) _ k (by omega), T.get_put 20 t i a k (by have : (2 : Nat) ^ 20 - 1 = 1048575 := by decide
                                                              omega)]
    by_cases hk : k = i
    · subst hk; rw [if_neg (by omega), if_pos rfl, if_pos (by simp)]; simp
    · by_cases h1 : i + 1 <= k /\ k < i + 1 + l.length
      · rw [if_pos h1, if_pos (by simp; omega), show k - i = (k - (i + 1)) + 1 by omega]; simp
      · rw [if_neg h1, if_neg hk, if_neg (by simp; omega)]
theorem Tf {args:List PV} {vs:List Value} (ha:RepL M μ args vs) {n:Nat} (h1:args.length<=n) (h2:n<1048575):TmpsRep M μ (EO 0 args .lf) n (vs.toArray++Array.replicate (n-vs.toArray.size) undef):=by
 have hl:=ha.1;refine ⟨h2,by simp;omega,λk => ?_⟩;rw [NJ args 0 .lf k (by omega)];by_cases hk:k<args.length
 ·rw [if_pos (by omega)];obtain ⟨v,hv,hr⟩:=ha.get (i:=k) (List.getElem?_eq_getElem hk)
  have:(vs.toArray++Array.replicate (n-vs.toArray.size) undef).getD k undef=v:=by
   rw [Array.getD_eq_getD_getElem?,Array.getElem?_append_left (by simp;omega)];simp [hv]
  rw [this];simpa [List.getElem?_eq_getElem hk] using hr
 ·rw [if_neg (by omega)]
  have:(vs.toArray++Array.replicate (n-vs.toArray.size) undef).getD k undef=undef:=by
   rw [Array.getD_eq_getD_getElem?,Array.getElem?_append_right (by simp;omega),Array.getElem?_replicate];split<;>rfl
  rw [this];exact Jz M μ
theorem Fl {nt:Nat} : ∀ {ps:List Nat} {args:List PV} {vs:List Value} {t t':T PV} {tmps:Array Value},Ep nt ps args t=some t'->RepL M μ args vs->TmpsRep M μ t nt tmps ->
  ps.length=vs.length/\TmpsRep M μ t' nt ((ps.zip vs).foldl (λtmps (x:Nat×Value)=>tmps.setIfInBounds x.1 x.2) tmps)
 | [],[],vs,t,t',tmps,e,hr,ht=>by
  simp [Ep] at e;subst e;rw [hr.nil_inv];exact ⟨rfl,ht⟩
 | [],_::_,vs,t,t',tmps,e,hr,ht=>by simp [Ep] at e
 | _::_,[],vs,t,t',tmps,e,hr,ht=>by simp [Ep] at e
 | p::ps,a::args,vs,t,t',tmps,e,hr,ht=>by
  unfold Ep at e;replace e:=Be e;obtain ⟨hp,e⟩:=e;obtain ⟨x,ws,rfl,hx,hrest⟩:=hr.cons_inv;obtain ⟨h1,h2⟩:=Fl e hrest (Ry ht (by simpa using hp) hx);exact ⟨by simp [h1],by simpa using h2⟩
end
end Go.Proofs.YthpkjfabdccpdaaGreat.Pi
namespace Go.Proofs.YthpkjfabdccpdaaGreat.Pi
section
variable {P:Program} {sh:FuncId->Bool} {M:B5} {μ:Mu} {h:Hp} {w:World}
theorem Ya (P:Program):RecOK P (λ_ _ _ _=>none):=by constructor<;>(intros;contradiction)
theorem JM {kd:CallKind} {cs cs':List Frame} (hk:kd = .normal) (h:Tail kd cs cs'):cs'=cs:=by
 rcases h with h | ⟨hd,_⟩
 ·exact h
 ·rw [hk] at hd;cases hd
theorem Vh {rec:Np} (R:RecOK P rec) (D:Lc P rec) {F:Nat} {f:FuncId} {fn:Func} {c:Code} {up:Option UM} {args:List PV} {h h':Hp} {o:Out} {up':Option UM} (hfn:P.funcs[f]? = some fn) (hbody:fn.body=some c)
  (e:(match (bif Nat.ble args.length fn.ntmps&&Nat.blt fn.ntmps 1048575 then exec P sh rec F c { t:=EO 0 args .lf,nt:=fn.ntmps,ds:=[],up,ro:=none } h else none) with
   | some (.normal,fr,h) | some (.ret,fr,h)=>(match leave P rec fn F fr.ds .ret fr.t h with
    | some (o,h)=>some (o,fr.up,h)
    | none=>none)
   | some (.panic e,fr,h)=>(match leave P rec fn F fr.ds (.pan [{ v:=e,recovered:=false }]) fr.t h with
    | some (o,h)=>some (o,fr.up,h)
    | none=>none)
   | _=>none)=some (o,up',h')) {M:B5} {μ:Mu} {w:World} {vs:List Value} (s:Sim M μ h w) (ha:RepL M μ args vs) (kd:CallKind) (cs:List Frame) (hup:Ve M μ kd cs up) :
  ∃ M' μ' w' fr cs',Sim M' μ' h' w'/\Grow M μ w M' μ' w'/\Steps P (lone (Frame.enter P f vs.toArray kd) cs w) (lone fr cs' w')/\Tail kd cs cs'/\Ve M' μ' kd cs' up'/\fr.fn=f/\fr.kind=kd/\eZ P M' μ' fr w' o:=by
 let b:Frame:={ fn:=f,tmps := #[],todo:=[],defers:=[],mode:=.run,kind:=kd }
 have henter:Frame.enter P f vs.toArray kd=b.atR { tmps:=vs.toArray++Array.replicate (fn.ntmps-vs.toArray.size) undef,defers:=[] } [.code c]:=by
  simp [Frame.enter,Frame.atR,hfn,hbody,b]
 have Lp : ∀ {c:Code} {fr fr':Fr} {h h':Hp} {ex:Ex},exec P sh rec F c fr h=some (ex,fr',h') ->
   ∀ {M:B5} {μ:Mu} {w:World} {b:Frame} {a:Act} {cs:List Frame} (k:List Item),Sim M μ h w->FrRep M μ fr b a cs->Ran P M μ w (lone (b.atR a (.code c::k)) cs w) b k cs ex fr' h':=(Qj R D F).1
 have fin : ∀ {ex:Ex} {fr:Fr} {h1:Hp},exec P sh rec F c { t:=EO 0 args .lf,nt:=fn.ntmps,ds:=[],up,ro:=none } h=some (ex,fr,h1)->args.length<=fn.ntmps->fn.ntmps<1048575 ->
   ∀ {u:UM},((ex = .normal\/ex = .ret)/\u = .ret \/ ∃ v,ex = .panic v/\u = .pan [{ v,recovered:=false }])->(match leave P rec fn F fr.ds u fr.t h1 with
    | some (o,h)=>some (o,fr.up,h)
    | none=>none)=some (o,up',h') ->
   ∃ M' μ' w' fr cs',Sim M' μ' h' w'/\Grow M μ w M' μ' w'/\Steps P (lone (Frame.enter P f vs.toArray kd) cs w) (lone fr cs' w')/\Tail kd cs cs'/\Ve M' μ' kd cs' up'/\fr.fn=f/\fr.kind=kd/\eZ P M' μ' fr w' o:=by
  intro ex fr h1 hex hl1 hl2 u hu e
  have f0:FrRep M μ { t:=EO 0 args .lf,nt:=fn.ntmps,ds:=[],up,ro:=none } b { tmps:=vs.toArray++Array.replicate (fn.ntmps-vs.toArray.size) undef,defers:=[] } cs :=
   ⟨Tf ha hl1 hl2,trivial,hup,rfl⟩
  obtain ⟨M1,μ1,w1,a1,cs1,s1,g1,f1,t1,arr⟩:=Lp hex (b:=b) [] s f0;rw [<- henter] at arr;split at e
  ·rename_i o1 h2 hleave;cases e
   have out : ∃ frM:Frame,Steps P (lone (Frame.enter P f vs.toArray kd) cs w) (lone frM cs1 w1)/\frM.fn=f/\frM.kind=kd/\frM.defers=a1.defers/\frM.tmps=a1.tmps/\UMRep M1 μ1 u frM.mode:=by
    rcases hu with ⟨rfl | rfl,rfl⟩ | ⟨v,rfl,rfl⟩
    ·exact ⟨{ b.atR a1 [] with mode:=.returning },Steps.trans arr (.one (stepR_end rfl)),rfl,rfl,rfl,rfl,rfl⟩
    ·obtain ⟨k1,arr⟩:=arr;exact ⟨{ b.atR a1 (.code .ret::k1) with mode:=.returning },Steps.trans arr (.one (stepR_ret rfl)),rfl,rfl,rfl,rfl,rfl⟩
    ·obtain ⟨todo,x,hx,arr⟩:=arr;exact ⟨{ b.atR a1 todo with mode:=.panicking [{ v:=x,recovered:=false }] },arr,rfl,rfl,rfl,rfl,_,rfl,hx,rfl,rfl,trivial⟩
   obtain ⟨frM,st,m1,m2,m3,m4,m5⟩:=out;obtain ⟨M',μ',w',fr',q1,q2,q3,q4,q5,q6⟩:=Ld R F hleave (fr:=frM) cs1 s1 m5 (by rw [m3];exact f1.d) (by rw [m4];exact f1.t) (by rw [m1];exact hfn);refine ⟨M',μ',w',fr',cs1,q1,g1.trans q2,st.trans q3,t1,?_,by rw [q4,m1],by rw [q5,m2],q6⟩;exact (f1.mono q2.m q2.u).u
  ·cases e
 cases hcond:(Nat.ble args.length fn.ntmps&&Nat.blt fn.ntmps 1048575) with
 | false=>rw [hcond] at e;cases e
 | true =>
  rw [hcond] at e;simp only [cond_true] at e;simp only [Bool.and_eq_true,Nat.ble_eq,Nat.blt_eq] at hcond;split at e
  ·rename_i fr h1 hex;exact fin hex hcond.1 hcond.2 (.inl ⟨.inl rfl,rfl⟩) e
  ·rename_i fr h1 hex;exact fin hex hcond.1 hcond.2 (.inl ⟨.inr rfl,rfl⟩) e
  ·rename_i v fr h1 hex;exact fin hex hcond.1 hcond.2 (.inr ⟨v,rfl,rfl⟩) e
  ·cases e
theorem JN (s:Sim M μ h w) {l:Nat} {r:Bk} {jump:Option Code} {o:Out} {up':Option UM} {h':Hp} (hr:μ l=some r) (e:Cp h l jump=some (o,up',h')) :
  ∃ w',(Instr.endRound r.b jump).run P w = .ok (.bool jump.isNone) w'/\o = .ret (.bool jump.isNone)/\Sim M μ h' w'/\Grow M μ w M μ w':=by
 unfold Cp at e;split at e
 ·rename_i st pend nt t ps asg body d hb;split at e
  ·rename_i h1 hset;cases e;obtain ⟨r',hr',l1,rd,b1,b2,b3,b4,b5,b6,b7,b8,b9,b10⟩:=s.blk l _ hb;rw [hr] at hr';cases hr';have so:=Dx (P:=P) (o':=.loop { l1 with state:=if jump.isNone then .ready else .done,pending:=jump }) b1 (by intro a t f hc;cases hc)
   obtain ⟨s1,g1⟩:=s.object (o':=.loop { l1 with state:=if jump.isNone then .ready else .done,pending:=jump }) hb hr trivial hset b1 (by intro a t f hc;cases hc)
    ⟨_,rd,rfl,by cases jump<;>rfl,(by cases jump;exact (by decide:0<4);exact (by decide:2<4)),rfl,b5,b6,b7,b8,b9,b10⟩
   refine ⟨_,?_,rfl,s1,g1⟩;simp only [Instr.endRound,Sem.run_bind,Gk b1,Result.andThen,so,Sem.run_pure]
  ·cases e
 ·cases e
theorem Yb (hD : ∀ rec,RecOK P rec->Lc P rec) (F:Nat) : ∀ n,RecOK P (EQ P sh F n)
 | 0=>Ya P
 | n+1=>by
  have R:=Yb hD F n;have D:Lc P (EQ P sh F n):=hD _ R
  have Lp : ∀ {c:Code} {fr fr':Fr} {h h':Hp} {ex:Ex},exec P sh (EQ P sh F n) F c fr h=some (ex,fr',h') ->
   ∀ {M:B5} {μ:Mu} {w:World} {b:Frame} {a:Act} {cs:List Frame} (k:List Item),Sim M μ h w->FrRep M μ fr b a cs->Ran P M μ w (lone (b.atR a (.code c::k)) cs w) b k cs ex fr' h':=(Qj R D F).1
  refine ⟨?_,?_,?_⟩
  ·intro f args h o up' h' e M μ w vs s ha cs;simp only [EQ] at e;split at e
   ·rename_i fn hfn;split at e
    ·rename_i c hc;obtain ⟨M',μ',w',fr,cs',q1,q2,q3,q4,q5,q6,q7,q8⟩:=Vh R D hfn hc e s ha .normal cs rfl;have:=JM rfl q4;subst this;refine ⟨M',μ',w',fr,q1,q2,q3,q6,?_⟩;cases o with
     | ret v=>obtain ⟨x,hx,h1,h2,h3⟩:=q8;exact ⟨x,hx,h1,h2,q7,h3⟩
     | pan ch=>exact q8
    ·cases e
   ·cases e
  ·intro f u args h o up' h' e M μ w vs s ha c cs hu;simp only [EQ] at e;split at e
   ·rename_i fn hfn;split at e
    ·rename_i c' hc;obtain ⟨M',μ',w',fr,cs',q1,q2,q3,q4,q5,q6,q7,q8⟩:=Vh R D hfn hc e s ha .deferred (c::cs) ⟨rfl,c,cs,rfl,hu⟩;cases up' with
     | none=>cases q5
     | some u' =>
      obtain ⟨_,c1,tl,rfl,hm⟩:=q5;rcases q4 with h0 | ⟨_,c2,tl2,m,h1,h2⟩
      ·cases h0;refine ⟨M',μ',w',fr,c.mode,u',q1,q2,q3,rfl,hm,q7,q8⟩
      ·cases h1;cases h2;exact ⟨M',μ',w',fr,m,u',q1,q2,q3,rfl,hm,q7,q8⟩
    ·cases e
   ·cases e
  ·intro l args h o up' h' e M μ w vs r s ha hr c cs;simp only [EQ] at e;split at e
   ·rename_i st pend nt t ps asg body0 d hb;split at e
    ·rename_i t1 hset;split at e
     ·rename_i fr1 h1 hasg;split at e
      ·rename_i pend2 nt2 t2 ps2 asg2 body2 d2 hb2;split at e
       ·rename_i h2 hset2;obtain ⟨r',hr',l1,rd,b1,b2,b3,b4,b5,b6,b7,b8,b9,b10⟩:=s.blk l _ hb;rw [hr] at hr';cases hr';obtain ⟨hlen,htm⟩:=Fl hset ha b5
        have hy:(Instr.yield r.b vs.toArray).run P w = .ok (.round r.b l1.fn ((l1.params.zip vs.toArray).foldl (λtmps (t,a)=>tmps.setIfInBounds t a) l1.tmps) l1.assign l1.body) w:=by
         have : ¬ (vs.toArray.size≠l1.params.size):=by rw [b6];simp [hlen]
         simp only [Instr.yield,Sem.run_bind,Gk b1,Result.andThen,if_neg this,Sem.run_pure]
        let b:Frame:={ fn:=l1.fn,tmps := #[],todo:=[],defers:=[],mode:=.run,kind:=.normal,roundOf:=some r.b }
        have htm2:TmpsRep M μ t1 nt ((l1.params.zip vs.toArray).foldl (λtmps (t,a)=>tmps.setIfInBounds t a) l1.tmps):=by
         rw [b6];simpa using htm
        have hb0 : ∀ tm,Frame.round r.b l1.fn tm l1.assign l1.body .normal=b.atR { tmps:=tm,defers:=[] } [.code asg,.beginRound,.code body0]:=by
         intro tm;simp [Frame.round,Frame.atR,b,b7,b8]
        generalize (l1.params.zip vs.toArray).foldl (λtmps (t,a)=>tmps.setIfInBounds t a) l1.tmps=tm at hy htm2;have f0:FrRep M μ { t:=t1,nt,ds:=[],up:=none,ro:=some l } b { tmps:=tm,defers:=[] } (c::cs):=⟨htm2,trivial,rfl,r,hr,rfl⟩;obtain ⟨M1,μ1,w1,a1,cs1,s1,g1,f1,t1',arr⟩:=Lp hasg (b:=b) [.beginRound,.code body0] s f0;have:=JM rfl t1';subst this;rw [<- hb0] at arr;obtain ⟨r2,hr2,l2,rd2,c1,c2,c3,c4,c5,c6,c7,c8,c9,c10⟩:=s1.blk l _ hb2;rw [g1.u _ _ hr] at hr2;cases hr2;have so:=Dx (P:=P) (o':=.loop { l2 with state:=.busy }) c1 (by intro a t f hc;cases hc)
        obtain ⟨s2,g2⟩:=s1.object (o':=.loop { l2 with state:=.busy }) hb2 (g1.u _ _ hr) trivial hset2 c1 (by intro a t f hc;cases hc)
         ⟨_,rd2,rfl,rfl,by decide,c4,c5,c6,c7,c8,c9,c10⟩
        have hbr:(Instr.beginRound r.b).run P w1 = .ok () { w1 with heap:=w1.heap.setIfInBounds r.b (.loop { l2 with state:=.busy }) }:=by
         have:l2.state = .ready:=c2;simp only [Instr.beginRound,Sem.run_bind,Gk c1,Result.andThen,so,this,Sem.run_pure]
        have st1:Steps P (lone (Frame.round r.b l1.fn tm l1.assign l1.body .normal) (c::cs) w) (lone (b.atR a1 [.code body0]) (c::cs) _):=Steps.trans arr (.one (stepR_beginRound rfl hbr));have f1':=f1.mono g2.m g2.u
        have fin : ∀ {ex:Ex} {fr3:Fr} {h3:Hp} {jump:Option Code},exec P sh (EQ P sh F n) F body0 fr1 h2=some (ex,fr3,h3) ->
          (ex = .normal/\jump=none\/ex = .ret/\jump=some .ret\/(∃ id,ex = .exit id/\jump=some (.exit id)) \/ ∃ id,ex = .goto id/\jump=some (.goto id))->Cp h3 l jump=some (o,up',h') ->
          ∃ M' μ' w' x v fn tmps asg body,o = .ret v/\(Instr.yield r.b vs.toArray).run P w = .ok (.round r.b fn tmps asg body) w/\Sim M' μ' h' w'/\Grow M μ w M' μ' w'/\Rep M' μ' v x /\
           Steps P (lone (Frame.round r.b fn tmps asg body .normal) (c::cs) w) (lone (c.finish x) cs w'):=by
         intro ex fr3 h3 jump hex hj he;obtain ⟨M3,μ3,w3,a3,cs3,s3,g3,f3,t3,arr3⟩:=Lp hex (b:=b) [] s2 f1';have:=JM rfl t3;subst this;obtain ⟨w4,hend,ho,s4,g4⟩:=JN (P:=P) s3 (g3.u _ _ (g1.u _ _ hr)) he;refine ⟨M3,μ3,w4,.bool jump.isNone,.bool jump.isNone,l1.fn,tm,l1.assign,l1.body,ho,hy,s4,(g1.trans g2).trans (g3.trans g4),.bool _ _,st1.trans ?_⟩;rcases hj with ⟨rfl,rfl⟩ | ⟨rfl,rfl⟩ | ⟨id,rfl,rfl⟩ | ⟨id,rfl,rfl⟩
         ·exact Steps.trans arr3 (.one (stepR_round_end rfl rfl hend))
         ·obtain ⟨k1,arr3⟩:=arr3;exact Steps.trans arr3 (.one (stepR_round_ret rfl rfl hend))
         ·obtain ⟨k1,hk,arr3⟩:=arr3;exact Steps.trans arr3 (.one (stepR_round_exit rfl rfl (by rw [hk];rfl) hend))
         ·obtain ⟨k1,hk,arr3⟩:=arr3;exact Steps.trans arr3 (.one (stepR_round_goto rfl rfl (by rw [hk];rfl) hend))
        split at e
        ·rename_i fr3 h3 hex;exact fin hex (.inl ⟨rfl,rfl⟩) e
        ·rename_i fr3 h3 hex;exact fin hex (.inr (.inl ⟨rfl,rfl⟩)) e
        ·rename_i id fr3 h3 hex;exact fin hex (.inr (.inr (.inl ⟨id,rfl,rfl⟩))) e
        ·rename_i id fr3 h3 hex;exact fin hex (.inr (.inr (.inr ⟨id,rfl,rfl⟩))) e
        ·cases e
       ·cases e
      ·cases e
     ·cases e
    ·cases e
   ·cases e
end
end Go.Proofs.YthpkjfabdccpdaaGreat.Pi
namespace Go.Proofs.YthpkjfabdccpdaaGreat.Pi
section
variable {P:Program} {hs h h1 h2:Hp} {id:Nat}
def JF (hs h:Hp):Prop := ∀ x b,hs.get x=some b->h.get x=some b
structure Lay (hs h h1 h2:Hp) (id:Nat):Prop where
 get : ∀ x,h2.get x=match h1.get x with
  | some b=>some b
  | none=>h.get x
 keys : ∀ x b,h1.get x=some b->(∃ b0,hs.get x=some b0)\/x=id
 up : ∀ x,h1.get x=none->hs.get x=none
theorem Lay.refl (s:JF hs h) (id:Nat):Lay hs h hs h id:=⟨λx=>by
 cases e:hs.get x with
 | none=>rfl
 | some b=>exact s x b e,λx b e => .inl ⟨b,e⟩,λ_ h=>h⟩
theorem Lay.sub (l:Lay hs h h1 h2 id):JF h1 h2:=λx b e=>by rw [l.get,e]
theorem Hp.set_some {h:Hp} {j:Nat} {b b':Blk} {h':Hp} (e:h.set j b=some h') (g:Hp) : ∃ g',g.set j b'=some g':=by
 unfold Hp.set at e ⊢;cases hb:Nat.blt j (j+1) with
 | false=>rw [hb] at e;cases e
 | true=>exact ⟨_,rfl⟩
theorem Lay.set (l:Lay hs h h1 h2 id) {j:Nat} {b b0:Blk} {h1':Hp} (hk:h1.get j=some b0) (e:h1.set j b=some h1') : ∃ h2',h2.set j b=some h2'/\Lay hs h h1' h2' id:=by
 obtain ⟨h2',e2⟩:=Hp.set_some (b':=b) e h2;have g1:=(Hp.get_set e).1;have g2:=(Hp.get_set e2).1
 refine ⟨h2',e2,⟨λx => ?_,λx c hx => ?_,λx hx=>l.up x (by
  rw [g1] at hx;by_cases hxj:x=j
  ·rw [if_pos hxj] at hx;cases hx
  ·rw [if_neg hxj] at hx;exact hx)⟩⟩
 ·rw [g1,g2];by_cases hx:x=j
  ·simp [hx]
  ·simp only [if_neg hx];exact l.get x
 ·rw [g1] at hx;by_cases hxj:x=j
  ·subst hxj;exact l.keys x b0 hk
  ·rw [if_neg hxj] at hx;exact l.keys x c hx
theorem Lay.new (l:Lay hs h h1 h2 id) (hid:hs.get id=none->h.get id=none) {b:Blk} {h1':Hp} (e:h1.new id b=some h1') : ∃ h2',h2.new id b=some h2'/\Lay hs h h1' h2' id:=by
 obtain ⟨hn,g1,_⟩:=Hp.get_new e;have hn2:h2.get id=none:=by rw [l.get,hn];exact hid (l.up id hn)
 unfold Hp.new at e;have hn':h1.m.get id=none:=hn;rw [hn'] at e;obtain ⟨h2',e2⟩:=Hp.set_some (b':=b) e h2;have g2:=(Hp.get_set e2).1
 refine ⟨h2',?_,⟨λx => ?_,λx c hx => ?_,λx hx=>l.up x (by
  rw [g1] at hx;by_cases hxj:x=id
  ·rw [if_pos hxj] at hx;cases hx
  ·rw [if_neg hxj] at hx;exact hx)⟩⟩
 ·unfold Hp.new;have hn2':h2.m.get id=none:=hn2;rw [hn2'];exact e2
 ·rw [g1,g2];by_cases hx:x=id
  ·simp [hx]
  ·simp only [if_neg hx];exact l.get x
 ·rw [g1] at hx;by_cases hxj:x=id
  ·exact .inr hxj
  ·rw [if_neg hxj] at hx;exact l.keys x c hx
theorem Ec {f g:PV->Option (PV×List Nat)} (hfg : ∀ p r,f p=some r->g p=some r) : ∀ {ps:List PV} {r:List PV×List Nat},AM f ps=some r->AM g ps=some r
 | [],r,e=>e
 | p::ps,r,e=>by
  unfold AM at e ⊢;split at e
  ·rename_i q a qs b h1 h2;rw [hfg _ _ h1,Ec hfg h2];exact e
  ·cases e
theorem Ql (s:JF hs h) : ∀ (n:Nat) (p:PV) (r:PV×List Nat),BO hs n p=some r->BO h n p=some r
 | 0,p,r,e=>by simp [BO] at e
 | n+1,p,r,e=>by
  have ih:=Ql s n;cases p with
  | agg cs=>simp only [BO] at e ⊢;obtain ⟨x,hx,rfl⟩:=AL e;rw [Ec ih hx];rfl
  | tup cs=>simp only [BO] at e ⊢;obtain ⟨x,hx,rfl⟩:=AL e;rw [Ec ih hx];rfl
  | ifc t x=>simp only [BO] at e ⊢;obtain ⟨y,hy,rfl⟩:=AL e;rw [ih _ _ hy];rfl
  | fn f a b =>
   simp only [BO] at e ⊢;split at e
   ·rename_i x l y m h1 h2;rw [Ec ih h1,Ec ih h2];exact e
   ·cases e
  | own j off len =>
   simp only [BO] at e ⊢;split at e
   ·rename_i es ex fz hb;rw [s j _ hb];replace e:=Be e;obtain ⟨hc,e⟩:=e;obtain ⟨x,hx,rfl⟩:=AL e;simp only [hc,cond_true];rw [Ec ih hx];rfl
   ·cases e
  | ptr j off =>
   simp only [BO] at e ⊢;split at e
   ·rename_i cs fz hb;rw [s j _ hb];replace e:=Be e;obtain ⟨hc,e⟩:=e;obtain ⟨x,hx,rfl⟩:=AL e;simp only [hc,cond_true];rw [Ec ih hx];rfl
   ·cases e
  | ept j i off =>
   simp only [BO] at e ⊢;split at e
   ·rename_i es ex fz hb;rw [s j _ hb];dsimp only;split at e
    ·rename_i el hel
     try rw [hel]
     replace e:=Be e;obtain ⟨hc,e⟩:=e;obtain ⟨x,hx,rfl⟩:=AL e;simp only [hc,cond_true];rw [Ec ih hx];rfl
    ·cases e
   ·cases e
  | yl _=>simp [BO] at e
  | mp _=>simp [BO] at e
  | _=>exact e
theorem Ny (s:JF hs h) : ∀ {ps:List PV} {r:List PV×List Nat},By hs ps=some r->By h ps=some r
 | [],r,e=>e
 | p::ps,r,e=>by
  unfold By at e ⊢;split at e
  ·rename_i q a qs b k1 k2;rw [Ql s _ _ _ k1,Ny s k2];exact e
  ·cases e
theorem Pb (s:JF hs h) {p:PV} {es:List PV} (e:Dv hs p=some es):Dv h p=some es:=by
 unfold Dv at e ⊢;cases p with
 | own j off len =>
  simp only at e ⊢;split at e
  ·rename_i es0 ex fz hb;rw [s j _ hb];exact e
  ·cases e
 | _=>exact e
theorem Lay.freeze : ∀ (L:List Nat) {h1 h2 h1':Hp},Lay hs h h1 h2 id->Pi.freeze h1 L=some h1' -> ∃ h2',Pi.freeze h2 L=some h2'/\Lay hs h h1' h2' id
 | [],h1,h2,h1',l,e=>by simp [Pi.freeze] at e;subst e;exact ⟨h2,rfl,l⟩
 | j::L,h1,h2,h1',l,e=>by
  unfold Pi.freeze at e ⊢;split at e
  ·rename_i cs fz hb;rw [l.sub j _ hb];split at e
   ·rename_i h3 hset;obtain ⟨h4,e4,l4⟩:=l.set hb hset;dsimp only;rw [e4];exact Lay.freeze L l4 e
   ·cases e
  ·rename_i es ex fz hb;rw [l.sub j _ hb];split at e
   ·rename_i h3 hset;obtain ⟨h4,e4,l4⟩:=l.set hb hset;dsimp only;rw [e4];exact Lay.freeze L l4 e
   ·cases e
  ·cases e
def Ff (hs h:Hp) (id:Nat) (F:Option R):R->Prop
 | .val v h1 => ∃ h2,F=some (.val v h2)/\Lay hs h h1 h2 id
 | .skip h1 => ∃ h2,F=some (.skip h2)/\Lay hs h h1 h2 id
 | .call f args=>F=some (.call f args)
 | _=>True
theorem Aq (s:JF hs h) {F:Option R} {v:PV} (e:F=some (.val v h)):Ff hs h id F (.val v hs):=⟨h,e,.refl s id⟩
theorem Gt (s:JF hs h) {o:Option PV} {r:R} (e:vl o hs=some r):Ff hs h id (vl o h) r:=by
 obtain ⟨v,rfl,rfl⟩:=Hb e;exact Aq s rfl
theorem Yc (s:JF hs h) {c a b:PV} {r:R} (e:Hs hs c a b=some r):Ff hs h id (Hs h c a b) r:=by
 unfold Hs at e ⊢;split at e<;>cases e<;>exact Aq s rfl
theorem Wg (s:JF hs h) (hid:hs.get id=none->h.get id=none) {el:TypeId} {r:R} (e:Gb P hs id el=some r):Ff hs h id (Gb P h id el) r:=by
 unfold Gb at e ⊢;split at e
 ·obtain ⟨h1,hn,rfl⟩:=AL e;obtain ⟨h2,e2,l2⟩:=(Lay.refl s id).new hid hn;exact ⟨h2,by rw [e2];rfl,l2⟩
 ·cases e
theorem ef (s:JF hs h) (hid:hs.get id=none->h.get id=none) {v:PV} {r:R} (e:KX hs id v=some r):Ff hs h id (KX h id v) r:=by
 unfold KX at e ⊢;split at e
 ·cases e
 ·obtain ⟨h1,hn,rfl⟩:=AL e;obtain ⟨h2,e2,l2⟩:=(Lay.refl s id).new hid hn;exact ⟨h2,by rw [e2];rfl,l2⟩
theorem Wh (s:JF hs h) {ty:TypeId} {ps:List (Nat×PV)} {r:R} (e:En P hs ty ps=some r):Ff hs h id (En P h ty ps) r:=by
 unfold En at e ⊢;split at e
 ·replace e:=Be e;obtain ⟨hc,e⟩:=e;split at e
  ·rename_i pl hpl;obtain ⟨cs,hcs,rfl⟩:=AL e;refine Aq s ?_;simp only [hc,cond_true,hcs,Option.map_some]
  ·cases e
 ·split at e
  ·rename_i n hn;replace e:=Be e;obtain ⟨hc,e⟩:=e;obtain ⟨cs,hcs,rfl⟩:=AL e;refine Aq s ?_;simp only [hc,cond_true,hcs,Option.map_some]
  ·cases e
 ·cases e
theorem Nz (s:JF hs h) {ty:TypeId} {len:Nat} {ps:List (Nat×PV)} {r:R} (e:Bi P hs ty len ps=some r):Ff hs h id (Bi P h ty len ps) r:=by
 unfold Bi at e ⊢;split at e
 ·split at e
  ·rename_i n ag z hn hag hz
   try rw [hn,hag,hz]
   try dsimp only
   split at e
   ·rename_i z1 hz1
    try rw [hz1]
    replace e:=EZ e;obtain ⟨hc,e⟩:=e;split at e
    ·rename_i es hes;split at e
     ·rename_i qs l hp;obtain ⟨h1,hf,rfl⟩:=AL e;obtain ⟨h2,e2,l2⟩:=Lay.freeze l (Lay.refl s id) hf;refine ⟨h2,?_,l2⟩;simp only [hc,cond_false,Ny s hp,e2,Option.map_some]
     ·cases e
    ·cases e
   ·cases e
  ·cases e
 ·cases e
theorem Yd (s:JF hs h) {ty:TypeId} {p:PV} {r:R} (e:Fh P hs ty p=some r):Ff hs h id (Fh P h ty p) r:=by
 unfold Fh at e ⊢;split at e
 ·split at e
  ·rename_i cs fz hb;rw [s _ _ hb];exact Gt s e
  ·cases e
 ·exact Gt s e
 ·split at e
  ·rename_i es ex fz hb;rw [s _ _ hb];dsimp only;split at e
   ·rename_i el hel;try rw [hel]
    exact Gt s e
   ·cases e
  ·cases e
 ·cases e
theorem Wi (s:JF hs h) {ty:TypeId} {p v:PV} {r:R} (e:Dd P hs ty p v=some r):Ff hs h id (Dd P h ty p v) r:=by
 unfold Dd at e ⊢;split at e
 ·rename_i n hn;replace e:=EZ e;obtain ⟨hc,e⟩:=e;simp only [hc,cond_false];split at e
  ·split at e
   ·rename_i cs hb;rw [s _ _ hb];replace e:=Be e;obtain ⟨hc2,e⟩:=e;obtain ⟨h1,hset,rfl⟩:=AL e;obtain ⟨h2,e2,l2⟩:=(Lay.refl s id).set hb hset;exact ⟨h2,by simp only [hc2,cond_true,e2,Option.map_some],l2⟩
   ·cases e
  ·split at e
   ·rename_i es ex hb;rw [s _ _ hb];dsimp only;split at e
    ·rename_i el hel
     try rw [hel]
     replace e:=Be e;obtain ⟨hc2,e⟩:=e;simp only [hc2,cond_true];split at e
     ·obtain ⟨h1,hset,rfl⟩:=AL e;obtain ⟨h2,e2,l2⟩:=(Lay.refl s id).set hb hset;exact ⟨h2,by simp only [e2,Option.map_some],l2⟩
     ·split at e
      ·rename_i c hvc
       try rw [hvc]
       replace e:=Be e;obtain ⟨hc3,e⟩:=e;simp only [hc3,cond_true];split at e
       ·cases e
       ·cases e
       ·obtain ⟨h1,hset,rfl⟩:=AL e;obtain ⟨h2,e2,l2⟩:=(Lay.refl s id).set hb hset;exact ⟨h2,by simp only [e2,Option.map_some],l2⟩
      ·cases e
    ·cases e
   ·cases e
  ·cases e
 ·cases e
end
end Go.Proofs.YthpkjfabdccpdaaGreat.Pi
namespace Go.Proofs.YthpkjfabdccpdaaGreat.Pi
section
variable {P:Program} {hs h h1 h2:Hp} {id:Nat}
theorem eh (s:JF hs h) {p:PV} {r:R} (e:JH hs p=some r):Ff hs h id (JH h p) r:=by
 unfold JH at e ⊢;split at e<;>first | (cases e;exact Aq s rfl) | cases e
theorem ei (s:JF hs h) {op:BinOp} {ty:TypeId} {x y:Operand} {p q:PV} {r:R} (e:HZ P hs op ty x y p q=some r):Ff hs h id (HZ P h op ty x y p q) r:=by
 unfold HZ at e ⊢;split at e
 ·replace e:=Be e;obtain ⟨hc,e⟩:=e;simp only [hc,cond_true];exact Gt s e
 ·replace e:=EZ e;obtain ⟨hc,e⟩:=e;simp only [hc,cond_false];exact Gt s e
 ·exact Gt s e
theorem Rz (s:JF hs h) {src dst:TypeId} {p:PV} {r:R} (e:DE P hs src dst p=some r):Ff hs h id (DE P h src dst p) r:=by
 unfold DE at e ⊢;split at e
 ·cases e;exact Aq s rfl
 ·cases e;exact Aq s rfl
 ·split at e
  ·cases e;exact Aq s rfl
  ·cases e
 ·cases e
theorem ej (s:JF hs h) {ty:TypeId} {p:PV} {r:R} (e:I6 P hs ty p=some r):Ff hs h id (I6 P h ty p) r:=by
 unfold I6 at e ⊢;split at e<;>first | (cases e;exact Aq s rfl) | cases e
theorem Qm (s:JF hs h) {f:Fn} {a b:List PV} {r:R} (e:C1 hs f a b=some r):Ff hs h id (C1 h f a b) r:=by
 unfold C1 at e ⊢;split at e<;>first | (cases e;exact Aq s rfl) | cases e
theorem R0 (s:JF hs h) {p:PV} {i:Nat} {r:R} (e:EE hs p i=some r):Ff hs h id (EE h p i) r:=by
 unfold EE at e ⊢;split at e
 ·exact Gt s e
 ·cases e
theorem Wj (s:JF hs h) {ty:TypeId} {p:PV} {f:Nat} {r:R} (e:FQ P hs ty p f=some r):Ff hs h id (FQ P h ty p f) r:=by
 unfold FQ at e ⊢;split at e
 ·split at e
  ·rename_i fd hfd
   try rw [hfd]
   exact Gt s e
  ·cases e
 ·cases e
theorem PB (s:JF hs h) {ty:TypeId} {p:PV} {f:Nat} {r:R} (e:CG P hs ty p f=some r):Ff hs h id (CG P h ty p f) r:=by
 unfold CG at e ⊢;split at e
 ·split at e
  ·rename_i fd hfd;split at e
   ·rename_i n hn;replace e:=EZ e;obtain ⟨hc,e⟩:=e
    try simp only [hfd,hn]
    simp only [hc,cond_false];split at e<;>first | (cases e;exact Aq s rfl) | cases e
   ·cases e
  ·cases e
 ·cases e
theorem PC (s:JF hs h) {ty:TypeId} {p q:PV} {r:R} (e:B0 P hs ty p q=some r):Ff hs h id (B0 P h ty p q) r:=by
 unfold B0 at e ⊢;split at e
 ·split at e
  ·rename_i n hn
   try simp only [hn]
   split at e
   ·split at e
    ·rename_i el hel
     try simp only [hel]
     replace e:=Be e;obtain ⟨hc,e⟩:=e;cases e;simp only [hc,cond_true];exact Aq s rfl
    ·cases e
   ·replace e:=Be e;obtain ⟨hc,e⟩:=e;simp only [hc,cond_true];split at e
    ·rename_i es ex fz hb;rw [s _ _ hb]
     try dsimp only
     split at e
     ·rename_i el hel
      try simp only [hel]
      replace e:=Be e;obtain ⟨hc2,e⟩:=e;cases e;simp only [hc2,cond_true];exact Aq s rfl
     ·cases e
    ·cases e
   ·cases e
  ·cases e
 ·split at e
  ·rename_i n hn
   try simp only [hn]
   replace e:=Be e;obtain ⟨hc,e⟩:=e;simp only [hc,cond_true];split at e<;>first | (cases e;exact Aq s rfl) | cases e
  ·cases e
 ·cases e
theorem Wk (s:JF hs h) {ty:TypeId} {p q:PV} {r:R} (e:Eo P hs ty p q=some r):Ff hs h id (Eo P h ty p q) r:=by
 unfold Eo at e ⊢;split at e
 ·replace e:=Be e;obtain ⟨hc,e⟩:=e;simp only [hc,cond_true];split at e
  ·rename_i n hn
   try simp only [hn]
   exact Gt s e
  ·cases e
 ·split at e
  ·rename_i b hb
   try simp only [hb]
   cases e;exact Aq s rfl
  ·cases e
 ·cases e
theorem Th (s:JF hs h) {ty:TypeId} {p:PV} {ok:Bool} {r:R} (e:DJ P hs ty p ok=some r):Ff hs h id (DJ P h ty p ok) r:=by
 have z : ∀ {r:R},(bif ok then (match EW P ty with
   | some z=>some (R.val (.tup [z,.bool false]) hs)
   | none=>none) else none)=some r->Ff hs h id (bif ok then (match EW P ty with
   | some z=>some (R.val (.tup [z,.bool false]) h)
   | none=>none) else none) r:=by
  intro r e;replace e:=Be e;obtain ⟨hc,e⟩:=e;simp only [hc,cond_true];split at e
  ·rename_i z hz
   try simp only [hz]
   cases e;exact Aq s rfl
  ·cases e
 unfold DJ at e ⊢;split at e
 ·split at e
  ·split at e
   ·rename_i i hi
    try simp only [hi]
    split at e
    ·rename_i hm
     try simp only [hm]
     cases e;exact Aq s rfl
    ·rename_i mm hm
     try simp only [hm]
     exact z e
   ·cases e
  ·exact z e
  ·cases e
 ·split at e
  ·cases hc:Nat.beq _ ty with
   | true=>rw [hc] at e;cases e;simp only [cond_true];exact Aq s rfl
   | false=>rw [hc] at e;simp only [cond_false] at e ⊢;exact z e
  ·exact z e
  ·cases e
 ·cases e
theorem Ye (s:JF hs h) (hid:hs.get id=none->h.get id=none) {ty:TypeId} {l c:PV} {r:R} (e:Gs P hs id ty l c=some r):Ff hs h id (Gs P h id ty l c) r:=by
 unfold Gs at e ⊢;split at e
 ·split at e
  ·rename_i n ag z ti k1 k2 k3 k4
   try simp only [k1,k2,k3,k4]
   split at e
   ·rename_i z1 hz1
    try simp only [hz1]
    replace e:=Be e;obtain ⟨hc,e⟩:=e;obtain ⟨h1,hn,rfl⟩:=AL e;obtain ⟨h2,e2,l2⟩:=(Lay.refl s id).new hid hn;exact ⟨h2,by simp only [hc,cond_true,e2,Option.map_some],l2⟩
   ·cases e
  ·cases e
 ·cases e
theorem eu (s:JF hs h) {j off len:Nat} {r:R} (e:Ha hs j off len=some r):Ff hs h id (Ha h j off len) r:=by
 unfold Ha at e ⊢;split at e
 ·rename_i f xs ids hp;rw [Ql s _ _ _ hp];obtain ⟨h1,hf,rfl⟩:=AL e;obtain ⟨h2,e2,l2⟩:=Lay.freeze ids (Lay.refl s id) hf;exact ⟨h2,by simp only [e2,Option.map_some],l2⟩
 ·cases e
theorem Wl (s:JF hs h) {ty:TypeId} {p:PV} {lo hi mx:Option PV} {r:R} (e:Bq P hs ty p lo hi mx=some r):Ff hs h id (Bq P h ty p lo hi mx) r:=by
 unfold Bq at e ⊢;split at e
 ·split at e
  ·rename_i hh l k1 k2
   try simp only [k1,k2]
   replace e:=Be e;obtain ⟨hc,e⟩:=e;cases e;simp only [hc,cond_true];exact Aq s rfl
  ·cases e
 ·split at e
  ·cases e
  ·rename_i n hn
   try simp only [hn]
   split at e
   ·split at e
    ·rename_i k1 k2 k3
     try simp only [k1,k2,k3]
     replace e:=EZ e;obtain ⟨hc,e⟩:=e;cases e;simp only [hc,cond_false];exact Aq s rfl
    ·cases e
   ·replace e:=EZ e;obtain ⟨hc,e⟩:=e;simp only [hc,cond_false];split at e
    ·rename_i l hh k1 k2
     try simp only [k1,k2]
     split at e
     ·replace e:=Be e;obtain ⟨hc2,e⟩:=e;cases e;simp only [hc2,cond_true];exact Aq s rfl
     ·split at e
      ·rename_i m hm
       try simp only [hm]
       replace e:=Be e;obtain ⟨hc2,e⟩:=e;cases e;simp only [hc2,cond_true];exact Aq s rfl
      ·cases e
    ·cases e
   ·split at e
    ·rename_i es ex fz hb;rw [s _ _ hb]
     try dsimp only
     replace e:=EZ e;obtain ⟨hc,e⟩:=e;simp only [hc,cond_false];split at e
     ·rename_i l hh k1 k2
      try simp only [k1,k2]
      replace e:=EZ e;obtain ⟨hc1,e⟩:=e;simp only [hc1,cond_false];split at e
      ·cases hlt:Nat.blt _ es.length with
       | true=>rw [hlt] at e;cases e;simp only [cond_true];exact Aq s rfl
       | false=>rw [hlt] at e;cases e;simp only [cond_false];exact Aq s rfl
      ·split at e
       ·rename_i m hm
        try simp only [hm]
        generalize hA:(hi.isSome&&Nat.ble hh m&&ex&&Nat.beq _ es.length)=A at e ⊢;cases A with
        | true =>
         simp only [cond_true] at e ⊢;cases hlt:Nat.blt _ es.length with
         | true=>rw [hlt] at e;cases e;simp only [cond_true];exact Aq s rfl
         | false=>rw [hlt] at e;cases e;simp only [cond_false];exact Aq s rfl
        | false =>
         simp only [cond_false] at e ⊢;replace e:=Be e;obtain ⟨hc2,e⟩:=e;simp only [hc2,cond_true];exact eu s e
       ·cases e
     ·cases e
    ·cases e
   ·cases e
 ·cases e
theorem ew (s:JF hs h) (hid:hs.get id=none->h.get id=none) {t:TypeId} {p q:PV} {r:R} (e:JD P hs id t p q=some r):Ff hs h id (JD P h id t p q) r:=by
 unfold JD at e ⊢;split at e
 ·split at e
  ·rename_i sz ti new z k1 k2 k3 k4;rw [Pb s k3]
   try simp only [k1,k2,k4]
   replace e:=EZ e;obtain ⟨hc,e⟩:=e;simp only [hc,cond_false]
   have fresh : ∀ {row:Blk} {v:PV} {r:R},(hs.new id row).map (λh=>R.val v h)=some r->Ff hs h id ((h.new id row).map λh=>R.val v h) r:=by
    intro row v r e;obtain ⟨h1,hn,rfl⟩:=AL e;obtain ⟨h2,e2,l2⟩:=(Lay.refl s id).new hid hn;exact ⟨h2,by rw [e2];rfl,l2⟩
   split at e
   ·cases hem:new.isEmpty with
    | true=>rw [hem] at e;cases e;simp only [cond_true];exact Aq s rfl
    | false =>
     rw [hem] at e;simp only [cond_false] at e ⊢;replace e:=Be e;obtain ⟨hc2,e⟩:=e;simp only [hc2,cond_true];exact fresh e
   ·cases hem:new.isEmpty with
    | true=>rw [hem] at e;cases e;simp only [cond_true];exact Aq s rfl
    | false =>
     rw [hem] at e;simp only [cond_false] at e ⊢;replace e:=Be e;obtain ⟨hc2,e⟩:=e;simp only [hc2,cond_true];exact fresh e
   ·split at e
    ·rename_i es ex fz hb;rw [s _ _ hb]
     try dsimp only
     replace e:=EZ e;obtain ⟨hc2,e⟩:=e;simp only [hc2,cond_false];cases ex with
     | true =>
      simp only [cond_true] at e ⊢;cases hem:new.isEmpty with
      | true=>rw [hem] at e;cases e;simp only [cond_true];exact Aq s rfl
      | false =>
      rw [hem] at e;simp only [cond_false] at e ⊢;generalize Nat.ble _ es.length=A at e ⊢;cases A with
      | true =>
       simp only [cond_true] at e ⊢;replace e:=EZ e;obtain ⟨hc3,e⟩:=e;simp only [hc3,cond_false];obtain ⟨h1,hset,rfl⟩:=AL e;obtain ⟨h2,e2,l2⟩:=(Lay.refl s id).set hb hset;exact ⟨h2,by rw [e2];rfl,l2⟩
      | false =>
       simp only [cond_false] at e ⊢;exact fresh e
     | false =>
      simp only [cond_false] at e ⊢;replace e:=Be e;obtain ⟨hc3,e⟩:=e;simp only [hc3,cond_true];split at e
      ·rename_i hd hset;obtain ⟨h1,hn,rfl⟩:=AL e;obtain ⟨h2,e2,l2⟩:=(Lay.refl s id).set hb hset;obtain ⟨h3,e3,l3⟩:=l2.new hid hn;exact ⟨h3,by simp only [e2,e3,Option.map_some],l3⟩
      ·cases e
    ·cases e
   ·cases e
  ·cases e
 ·cases e
theorem Hf {f:Fn} {a b args:List PV} {r:R} (e:FP P f a b args=some r) : ∃ g as,r = .call g as:=by
 unfold FP at e;split at e
 ·obtain ⟨rfl,_⟩:=YV e;exact ⟨_,_,rfl⟩
 ·split at e
  ·split at e
   ·split at e
    ·split at e
     ·obtain ⟨rfl,_⟩:=Nh e;exact ⟨_,_,rfl⟩
     ·cases e
     ·obtain ⟨rfl,_⟩:=Nh e;exact ⟨_,_,rfl⟩
     ·cases e
    ·cases e
   ·cases e
  ·cases e
 ·cases e
end
end Go.Proofs.YthpkjfabdccpdaaGreat.Pi
namespace Go.Proofs.YthpkjfabdccpdaaGreat.Pi
section
variable {P:Program} {hs h h1 h2:Hp} {id:Nat}
def Kt (t t':T PV) (l:List Operand):Prop := ∀ k,.tmp k∈l->t.get k=t'.get k
theorem J1 {t t':T PV} {l:List Operand} (ha:Kt t t' l) {o:Operand} (ho:o∈l):GI t o=GI t' o:=by
 cases o with
 | tmp k=>simp only [GI,ha k ho]
 | _=>rfl
theorem G8 {t t':T PV} {l:List Operand} (ha:Kt t t' l) : ∀ {os:List Operand},(∀ o∈os,o∈l)->TQ t os=TQ t' os
 | [],_=>rfl
 | o::os,ho=>by
  unfold TQ;rw [J1 ha (ho o (by simp)),G8 ha λx hx=>ho x (by simp [hx])]
theorem Hy {t t':T PV} {l:List Operand} (ha:Kt t t' l) : ∀ {ps:List (Nat×Operand)},(∀ o∈ps,o.2∈l)->FN t ps=FN t' ps
 | [],_=>rfl
 | (i,o)::os,ho=>by
  unfold FN;rw [J1 ha (ho (i,o) (by simp)),Hy ha λx hx=>ho x (by simp [hx])]
theorem MU {t t':T PV} {l:List Operand} (ha:Kt t t' l) {o:Option Operand} (ho : ∀ x∈o.toList,x∈l):eP t o=eP t' o:=by
 cases o with
 | none=>rfl
 | some x=>simp only [eP,J1 ha (ho x (by simp))]
theorem Ia {t t':T PV} {o:Oper} (hdr:CA o.op=true) (ha:Kt t t' (CN o.op)):A0 P t h id o=A0 P t' h id o:=by
 unfold A0;generalize hop:o.op=op at ha hdr;have e:=λx hx=>J1 ha (o:=x) hx;cases op with
 | call c =>
  simp only [CA] at hdr;simp only [CN] at ha e;cases hc:c.callee with
  | builtin b =>
   rw [hc] at ha;simp only [hc];rw [G8 ha λx hx=>hx]
  | value f =>
   rw [hc] at ha e;simp only [hc,e1];rw [G8 ha λx hx=>by simp [hx],e f (by simp)]
  | invoke r nm =>
   rw [hc] at ha e;simp only [hc,e1];rw [G8 ha λx hx=>by simp [hx],e r (by simp)]
 | build ty ps =>
  simp only [CN] at ha;simp only;rw [Hy ha λx hx=>List.mem_map.2 ⟨x,hx,rfl⟩]
 | buildSlice ty n ps =>
  simp only [CN] at ha;simp only;rw [Hy ha λx hx=>List.mem_map.2 ⟨x,hx,rfl⟩]
 | makeFunc f x y =>
  simp only [CN] at ha;simp only;rw [G8 ha λz hz=>List.mem_append_left _ hz,G8 ha λz hz=>List.mem_append_right _ hz]
 | slice ty x lo hi mx =>
  simp only [CN] at ha e;simp only [e1];rw [MU (o:=lo) ha λz hz=>by simp at hz ⊢;simp [hz],MU (o:=hi) ha λz hz=>by simp at hz ⊢;simp [hz],MU (o:=mx) ha λz hz=>by simp at hz ⊢;simp [hz],e x (by simp)]
 | lookup _ _ _ _=>cases hdr
 | mapUpdate _ _ _ _=>cases hdr
 | insert _ _ _ _=>cases hdr
 | defer _=>cases hdr
 | panic _=>cases hdr
 | move x=>simp only [CN] at e;simp only [e x (by simp)]
 | assign x=>simp only [CN] at e;simp only [e x (by simp)]
 | pick c x y=>simp only [CN] at e;simp only [e3,e c (by simp),e x (by simp),e y (by simp)]
 | alloc _=>rfl
 | box _ x=>simp only [CN] at e;simp only [e1,e x (by simp)]
 | load _ x=>simp only [CN] at e;simp only [e1,e x (by simp)]
 | store _ x y=>simp only [CN] at e;simp only [e2,e x (by simp),e y (by simp)]
 | nilCheck x=>simp only [CN] at e;simp only [e1,e x (by simp)]
 | binOp _ _ x y _=>simp only [CN] at e;simp only [e2,e x (by simp),e y (by simp)]
 | unOp _ _ x=>simp only [CN] at e;simp only [e1,e x (by simp)]
 | convert _ _ x=>simp only [CN] at e;simp only [e1,e x (by simp)]
 | makeInterface _ x=>simp only [CN] at e;simp only [e1,e x (by simp)]
 | makeMap ty r=>cases r<;>rfl
 | makeSlice _ x y=>simp only [CN] at e;simp only [e2,e x (by simp),e y (by simp)]
 | fieldAddr _ x _=>simp only [CN] at e;simp only [e1,e x (by simp)]
 | field _ x _=>simp only [CN] at e;simp only [e1,e x (by simp)]
 | indexAddr _ x y=>simp only [CN] at e;simp only [e2,e x (by simp),e y (by simp)]
 | index _ x y=>simp only [CN] at e;simp only [e2,e x (by simp),e y (by simp)]
 | typeAssert x _ _ _=>simp only [CN] at e;simp only [e1,e x (by simp)]
 | extract x _=>simp only [CN] at e;simp only [e1,e x (by simp)]
 | _=>rfl
theorem BZ {t:T PV} {x:Operand} {k:PV->Option R} {r:R} (e:e1 t x k=some r) : ∃ p,GI t x=some p/\k p=some r:=by
 unfold e1 at e;split at e
 ·rename_i p hp;exact ⟨p,hp,e⟩
 ·cases e
theorem Fm {t:T PV} {x y:Operand} {k:PV->PV->Option R} {r:R} (e:e2 t x y k=some r) : ∃ p q,GI t x=some p/\GI t y=some q/\k p q=some r:=by
 unfold e2 at e;split at e
 ·rename_i p q hp hq;exact ⟨p,q,hp,hq,e⟩
 ·cases e
theorem Vi {t:T PV} {x y z:Operand} {k:PV->PV->PV->Option R} {r:R} (e:e3 t x y z k=some r) : ∃ p q s,GI t x=some p/\GI t y=some q/\GI t z=some s/\k p q s=some r:=by
 unfold e3 at e;split at e
 ·rename_i p q s hp hq hs;exact ⟨p,q,s,hp,hq,hs,e⟩
 ·cases e
theorem R1 (s:JF hs h) {f:Int->Int->Int} {a:Int} {l:List PV} {k:IntKind} {r:R} (e:(FO f a l k).map (λm=>R.val (.int k m) hs)=some r):Ff hs h id ((FO f a l k).map λm=>R.val (.int k m) h) r:=by
 obtain ⟨m,hm,rfl⟩:=AL e;exact Aq s (by rw [hm];rfl)
theorem R3 (s:JF hs h) (hid:hs.get id=none->h.get id=none) {b:Builtin} (hb:b = .len\/b = .cap\/b = .append\/b = .copy\/b = .max\/b = .min) {ats:Array TypeId} {args:List PV} {r:R} (e:Af P hs id b ats args=some r) :
  Ff hs h id (Af P h id b ats args) r:=by
 rcases hb with rfl | rfl | rfl | rfl | rfl | rfl
 ·simp only [Af] at e ⊢;split at e
  ·rename_i x t hat
   try simp only [hat]
   split at e
   ·split at e
    ·rename_i es hbk
     try simp only [hbk]
     rw [s _ _ hbk];cases e;exact Aq s rfl
    ·cases e
   all_goals first | (cases e;done) | (cases e;exact Aq s rfl)
  ·cases e
 ·simp only [Af] at e ⊢;split at e
  ·rename_i x t hat
   try simp only [hat]
   split at e
   ·split at e
    ·rename_i es fz hbk
     try simp only [hbk]
     rw [s _ _ hbk];cases e;exact Aq s rfl
    ·cases e
   all_goals first | (cases e;done) | (cases e;exact Aq s rfl)
  ·cases e
 ·simp only [Af] at e ⊢;split at e
  ·rename_i p q t t' hats
   try simp only [hats]
   replace e:=Be e;obtain ⟨hc,e⟩:=e;simp only [hc,cond_true];exact ew s hid e
  ·cases e
 ·simp only [Af] at e ⊢;split at e
  ·rename_i j off len x t hat
   try simp only [hat]
   split at e
   ·rename_i ety es ex new k1 k2 k3;simp only [k1,s _ _ k2,Pb s k3];split at e
    ·rename_i sz hsz;replace e:=EZ e;obtain ⟨hc,e⟩:=e;simp only [hc,cond_false];obtain ⟨h1,hset,rfl⟩:=AL e;obtain ⟨h2,e2,l2⟩:=(Lay.refl s id).set k2 hset;exact ⟨h2,by simp only [e2,Option.map_some],l2⟩
    ·cases e
   ·cases e
  ·cases e
 ·simp only [Af] at e ⊢;split at e
  ·exact R1 s e
  ·cases e;exact Aq s rfl
  ·cases e
 ·simp only [Af] at e ⊢;split at e
  ·exact R1 s e
  ·cases e;exact Aq s rfl
  ·cases e
theorem Pc {F:Option R} {r:R} (e:F=some r) (hc : ∃ g as,r = .call g as):Ff hs h id F r:=by
 obtain ⟨g,as,rfl⟩:=hc;exact e
theorem GL (s:JF hs h) (hid:hs.get id=none->h.get id=none) {t:T PV} {o:Oper} (hdr:CA o.op=true) {r:R} (e:A0 P t hs id o=some r):Ff hs h id (A0 P t h id o) r:=by
 unfold A0 at e ⊢;generalize hop:o.op=op at hdr e ⊢;cases op with
 | lookup _ _ _ _=>cases hdr
 | mapUpdate _ _ _ _=>cases hdr
 | insert _ _ _ _=>cases hdr
 | defer _=>cases hdr
 | panic _=>cases hdr
 | move x=>exact Gt s e
 | assign x=>exact Gt s e
 | pick c x y=>obtain ⟨p,q,u,h1,h2,h3,e⟩:=Vi e;simp only [e3,h1,h2,h3];exact Yc s e
 | alloc _=>exact Wg s hid e
 | box _ x=>obtain ⟨p,h1,e⟩:=BZ e;simp only [e1,h1];exact ef s hid e
 | build ty ps =>
  simp only at e ⊢;split at e
  ·rename_i p hp;try simp only [hp]
   exact Wh s e
  ·cases e
 | buildSlice ty n ps =>
  simp only at e ⊢;split at e
  ·rename_i p hp;try simp only [hp]
   exact Nz s e
  ·cases e
 | load _ x=>obtain ⟨p,h1,e⟩:=BZ e;simp only [e1,h1];exact Yd s e
 | store _ x y=>obtain ⟨p,q,h1,h2,e⟩:=Fm e;simp only [e2,h1,h2];exact Wi s e
 | nilCheck x=>obtain ⟨p,h1,e⟩:=BZ e;simp only [e1,h1];exact eh s e
 | binOp _ _ x y _=>obtain ⟨p,q,h1,h2,e⟩:=Fm e;simp only [e2,h1,h2];exact ei s e
 | unOp _ _ x=>obtain ⟨p,h1,e⟩:=BZ e;simp only [e1,h1];exact Gt s e
 | convert _ _ x=>obtain ⟨p,h1,e⟩:=BZ e;simp only [e1,h1];exact Rz s e
 | makeInterface _ x=>obtain ⟨p,h1,e⟩:=BZ e;simp only [e1,h1];exact ej s e
 | makeFunc f x y =>
  simp only at e ⊢;split at e
  ·rename_i p q hp hq;try simp only [hp,hq]
   exact Qm s e
  ·cases e
 | makeMap ty rs =>
  cases rs with
  | none =>
   simp only at e ⊢;obtain ⟨h1,hn,rfl⟩:=AL e;obtain ⟨h2,e2,l2⟩:=(Lay.refl s id).new hid hn;exact ⟨h2,by rw [e2];rfl,l2⟩
  | some _=>cases e
 | makeSlice _ x y=>obtain ⟨p,q,h1,h2,e⟩:=Fm e;simp only [e2,h1,h2];exact Ye s hid e
 | slice ty x lo hi mx =>
  simp only at e ⊢;split at e
  ·rename_i k1 k2 k3;try simp only [k1,k2,k3]
   obtain ⟨p,h1,e⟩:=BZ e;simp only [e1,h1];exact Wl s e
  ·cases e
 | fieldAddr _ x _=>obtain ⟨p,h1,e⟩:=BZ e;simp only [e1,h1];exact PB s e
 | field _ x _=>obtain ⟨p,h1,e⟩:=BZ e;simp only [e1,h1];exact Wj s e
 | indexAddr _ x y=>obtain ⟨p,q,h1,h2,e⟩:=Fm e;simp only [e2,h1,h2];exact PC s e
 | index _ x y=>obtain ⟨p,q,h1,h2,e⟩:=Fm e;simp only [e2,h1,h2];exact Wk s e
 | typeAssert x _ _ _=>obtain ⟨p,h1,e⟩:=BZ e;simp only [e1,h1];exact Th s e
 | extract x _=>obtain ⟨p,h1,e⟩:=BZ e;simp only [e1,h1];exact R0 s e
 | call c =>
  simp only at e ⊢;split at e
  ·rename_i args hargs
   try simp only [hargs]
   cases hc:c.callee with
   | builtin b =>
    simp only [hc] at e ⊢;simp only [CA,hc] at hdr;exact R3 s hid (by cases b<;>simp_all) e
   | value f =>
    simp only [hc] at e ⊢;obtain ⟨p,h1,e⟩:=BZ e;simp only [e1,h1];unfold Nc at e ⊢;split at e
    ·exact Pc e (Hf e)
    ·cases e;exact True.intro
    ·cases e
   | invoke rc nm =>
    simp only [hc] at e ⊢;obtain ⟨p,h1,e⟩:=BZ e;simp only [e1,h1];exact Pc e (Hf e)
  ·cases e
 | _=>cases e
theorem Le {t:T PV} {o:Oper} (hq:Gz o.op=true) (hdr:CA o.op=true) {v:PV} {h1:Hp} (e:A0 P t h id o=some (.val v h1)):h1=h:=by
 have vlq : ∀ {x:Option PV},vl x h=some (.val v h1)->h1=h:=by
  intro x e;obtain ⟨y,_,e⟩:=Hb e;cases e;rfl
 unfold A0 at e;generalize hop:o.op=op at hdr hq e;cases op with
 | lookup _ _ _ _=>cases hdr
 | mapUpdate _ _ _ _=>cases hdr
 | insert _ _ _ _=>cases hdr
 | defer _=>cases hdr
 | panic _=>cases hdr
 | buildSlice _ _ _=>cases hq
 | store _ _ _=>cases hq
 | alloc _=>cases hq
 | box _ _=>cases hq
 | makeMap _ _=>cases hq
 | makeSlice _ _ _=>cases hq
 | move x=>exact vlq e
 | assign x=>exact vlq e
 | pick c x y =>
  obtain ⟨p,q,u,_,_,_,e⟩:=Vi e;unfold Hs at e;split at e<;>cases e<;>rfl
 | build ty ps =>
  simp only at e;split at e
  ·unfold En at e;simp only [Bool.cond_eq_ite] at e
   repeat' split at e
   all_goals first | (cases e;done) | (obtain ⟨cs,_,e⟩:=AL e;cases e;rfl)
  ·cases e
 | load _ x =>
  obtain ⟨p,_,e⟩:=BZ e;unfold Fh at e
  repeat' split at e
  all_goals first | (cases e;done) | exact vlq e
 | nilCheck x =>
  obtain ⟨p,_,e⟩:=BZ e;unfold JH at e;split at e<;>first | (cases e;done) | (cases e;rfl)
 | binOp _ _ x y _ =>
  obtain ⟨p,q,_,_,e⟩:=Fm e;unfold HZ at e;simp only [Bool.cond_eq_ite] at e
  repeat' split at e
  all_goals first | (cases e;done) | exact vlq e
 | unOp _ _ x=>obtain ⟨p,_,e⟩:=BZ e;exact vlq e
 | convert _ _ x =>
  obtain ⟨p,_,e⟩:=BZ e;unfold DE at e
  repeat' split at e
  all_goals first | (cases e;done) | (cases e;rfl)
 | makeInterface _ x =>
  obtain ⟨p,_,e⟩:=BZ e;unfold I6 at e;split at e<;>first | (cases e;done) | (cases e;rfl)
 | makeFunc f x y =>
  simp only at e;split at e
  ·unfold C1 at e;split at e<;>first | (cases e;done) | (cases e;rfl)
  ·cases e
 | slice ty x lo hi mx =>
  simp only [Gz] at hq
  have hmx:mx=none:=by cases mx with
   | none=>rfl
   | some _=>cases hq
  subst hmx;simp only [eP] at e;split at e
  ·rename_i k3;cases k3;obtain ⟨p,_,e⟩:=BZ e;unfold Bq at e;simp only [Bool.cond_eq_ite] at e
   repeat' split at e
   all_goals first | (cases e;done) | (cases e;rfl) | (simp at *;done)
  ·cases e
 | fieldAddr _ x _ =>
  obtain ⟨p,_,e⟩:=BZ e;unfold CG at e;simp only [Bool.cond_eq_ite] at e
  repeat' split at e
  all_goals first | (cases e;done) | (cases e;rfl)
 | field _ x _ =>
  obtain ⟨p,_,e⟩:=BZ e;unfold FQ at e
  repeat' split at e
  all_goals first | (cases e;done) | exact vlq e
 | indexAddr _ x y =>
  obtain ⟨p,q,_,_,e⟩:=Fm e;unfold B0 at e;simp only [Bool.cond_eq_ite] at e
  repeat' split at e
  all_goals first | (cases e;done) | (cases e;rfl)
 | index _ x y =>
  obtain ⟨p,q,_,_,e⟩:=Fm e;unfold Eo at e;simp only [Bool.cond_eq_ite] at e
  repeat' split at e
  all_goals first | (cases e;done) | exact vlq e | (cases e;rfl)
 | typeAssert x _ _ _ =>
  obtain ⟨p,_,e⟩:=BZ e;unfold DJ at e;simp only [Bool.cond_eq_ite] at e
  repeat' split at e
  all_goals first | (cases e;done) | (cases e;rfl)
 | extract x _ =>
  obtain ⟨p,_,e⟩:=BZ e;unfold EE at e;split at e
  ·exact vlq e
  ·cases e
 | call c =>
  simp only [CA] at hdr;simp only [Gz] at hq;simp only at e;split at e
  ·cases hc:c.callee with
   | builtin b =>
    simp only [hc] at e hdr hq;have hb:b = .len\/b = .cap\/b = .max\/b = .min:=by cases b<;>simp_all
    rcases hb with rfl | rfl | rfl | rfl<;>simp only [Af] at e<;>(repeat' split at e)
    all_goals first | (cases e;done) | (cases e;rfl) | (obtain ⟨cs,_,e⟩:=AL e;cases e;rfl)
   | value f=>simp only [hc] at hq;cases hq
   | invoke rc nm=>simp only [hc] at hq;cases hq
  ·cases e
 | _=>cases e
end
end Go.Proofs.YthpkjfabdccpdaaGreat.Pi
namespace Go.Proofs.YthpkjfabdccpdaaGreat.Pi
section
variable {P:Program} {rec:Np} {hs h h1 h2:Hp} {id:Nat}
theorem J2 : ∀ (l:List Nat) (m:T Blk) (x:Nat),(NC h l m).get x=if x∈l/\x<x+1/\(h.get x).isSome then h.get x else m.get x
 | [],m,x=>by simp [NC]
 | j::l,m,x=>by
  unfold NC;split
  ·rename_i b hb;cases hlt:Nat.blt j (j+1) with
   | true =>
    simp only [cond_true];have hlt':j<j+1:=by omega
    rw [J2 l _ x,T.get_put (j+1) m j b x (YJ j)];by_cases hx:x∈l/\x<x+1/\(h.get x).isSome
    ·rw [if_pos hx,if_pos ⟨by simp [hx.1],hx.2⟩]
    ·rw [if_neg hx];by_cases hxj:x=j
     ·subst hxj;rw [if_pos rfl,if_pos ⟨by simp,hlt',by simp [hb]⟩,hb]
     ·rw [if_neg hxj,if_neg];rintro ⟨a,b,c⟩;simp only [List.mem_cons] at a;rcases a with a | a
      ·exact hxj a
      ·exact hx ⟨a,b,c⟩
   | false =>
    simp only [cond_false];rw [J2 l m x]
    have hge : ¬ j<j+1:=by
     intro h;have:Nat.blt j (j+1)=true:=by simp
     rw [this] at hlt;cases hlt
    by_cases hx:x∈l/\x<x+1/\(h.get x).isSome
    ·rw [if_pos hx,if_pos ⟨by simp [hx.1],hx.2⟩]
    ·rw [if_neg hx,if_neg];rintro ⟨a,b,c⟩;simp only [List.mem_cons] at a;rcases a with a | a
     ·subst a;exact hge b
     ·exact hx ⟨a,b,c⟩
  ·rename_i hb;rw [J2 l m x];by_cases hx:x∈l/\x<x+1/\(h.get x).isSome
   ·rw [if_pos hx,if_pos ⟨by simp [hx.1],hx.2⟩]
   ·rw [if_neg hx,if_neg];rintro ⟨a,b,c⟩;simp only [List.mem_cons] at a;rcases a with a | a
    ·subst a;rw [hb] at c;cases c
    ·exact hx ⟨a,b,c⟩
theorem Hg (l:List Nat) (x:Nat):(h.cut l).get x=if x∈l/\x<x+1 then h.get x else none:=by
 have:=J2 (h:=h) l .lf x;show (NC h l .lf).get x=_;rw [this];by_cases hx:x∈l/\x<x+1
 ·rw [if_pos hx];cases hg:h.get x with
  | none=>rw [if_neg (by simp)];rfl
  | some b=>rw [if_pos ⟨hx.1,hx.2,by simp⟩]
 ·rw [if_neg hx,if_neg λh=>hx ⟨h.1,h.2.1⟩];rfl
theorem IC {l:List Nat} {x:Nat} {b:Blk} (e:(h.cut l).get x=some b):x∈l/\h.get x=some b:=by
 rw [Hg] at e;split at e
 ·rename_i hx;exact ⟨hx.1,e⟩
 ·cases e
theorem Gl : ∀ {l:List Nat} {h h2:Hp},over h1 l h=some h2 -> ∀ x,h2.get x=if x∈l then (match h1.get x with
  | some b=>some b
  | none=>h.get x) else h.get x
 | [],h,h2,e,x=>by simp [over] at e;subst e;simp
 | j::l,h,h2,e,x=>by
  unfold over at e;split at e
  ·rename_i b hb;split at e
   ·rename_i h3 hset;rw [Gl e x,(Hp.get_set hset).1 x];by_cases hxj:x=j
    ·subst hxj;simp [hb]
    ·by_cases hx:x∈l
     ·rw [if_pos hx,if_pos (show x∈j::l by simp [hx]),if_neg hxj]
     ·rw [if_neg hx,if_neg (show ¬ x∈j::l by simp [hxj,hx]),if_neg hxj]
   ·cases e
  ·rename_i hb;rw [Gl e x];by_cases hxj:x=j
   ·subst hxj;simp [hb]
   ·by_cases hx:x∈l
    ·rw [if_pos hx,if_pos (show x∈j::l by simp [hx])]
    ·rw [if_neg hx,if_neg (show ¬ x∈j::l by simp [hxj,hx])]
def ez:Blk->Prop
 | .box _ fz=>fz=true
 | .row _ _ fz=>fz=true
 | _=>False
theorem Es : ∀ {l:List Nat} {x:Nat},x∈l->x ∉ Co h l -> ∃ b,h.get x=some b/\ez b
 | [],x,hx,_=>by simp at hx
 | j::l,x,hx,hn=>by
  unfold Co at hn;simp only [List.mem_cons] at hx;split at hn
  ·rename_i cs hb;rcases hx with rfl | hx
   ·exact ⟨_,hb,rfl⟩
   ·exact Es hx hn
  ·rename_i es ex hb;rcases hx with rfl | hx
   ·exact ⟨_,hb,rfl⟩
   ·exact Es hx hn
  ·simp only [List.mem_cons,not_or] at hn;rcases hx with rfl | hx
   ·exact absurd rfl hn.1
   ·exact Es hx hn.2
theorem Bj : ∀ {l:List Nat} {x:Nat},x∈Co h l->x∈l
 | [],x,hx=>by simp [Co] at hx
 | j::l,x,hx=>by
  unfold Co at hx;split at hx
  ·simp [Bj hx]
  ·simp [Bj hx]
  ·simp only [List.mem_cons] at hx;rcases hx with rfl | hx
   ·simp
   ·simp [Bj hx]
def Stays (hs h1:Hp):Prop := ∀ x b,hs.get x=some b->ez b->h1.get x=some b
theorem Stays.refl (hs:Hp):Stays hs hs:=λ_ _ h _=>h
theorem MV {b:Blk} (e:hs.new id b=some h1):Stays hs h1:=by
 obtain ⟨hn,hg,_⟩:=Hp.get_new e;intro x c hx _;rw [hg,if_neg (by intro h;subst h;rw [hn] at hx;cases hx)];exact hx
theorem J3 {j:Nat} {b b0:Blk} (hb:hs.get j=some b0) (e:hs.set j b=some h1) (h0:ez b0->b=b0):Stays hs h1:=by
 have hg:=(Hp.get_set e).1;intro x c hx hf;rw [hg];by_cases hxj:x=j
 ·subst hxj;rw [hb] at hx;cases hx;rw [if_pos rfl,h0 hf]
 ·rw [if_neg hxj];exact hx
theorem Stays.trans {h3:Hp} (a:Stays hs h1) (b:Stays h1 h3):Stays hs h3:=λx c hx hf=>b x c (a x c hx hf) hf
theorem Fo : ∀ (L:List Nat) {hs h1:Hp},freeze hs L=some h1->Stays hs h1
 | [],hs,h1,e=>by simp [freeze] at e;subst e;exact .refl _
 | j::L,hs,h1,e=>by
  unfold freeze at e;split at e
  ·rename_i cs fz hb;split at e
   ·rename_i h3 hset;exact (J3 hb hset λh=>by have h:fz=true:=h;subst h;rfl).trans (Fo L e)
   ·cases e
  ·rename_i es ex fz hb;split at e
   ·rename_i h3 hset;exact (J3 hb hset λh=>by have h:fz=true:=h;subst h;rfl).trans (Fo L e)
   ·cases e
  ·cases e
theorem Lf {t:T PV} {o:Oper} (hdr:CA o.op=true) (happ:I8 o.op=false) (hq:Gz o.op=false) {r:R} (e:A0 P t hs id o=some r) : ∀ h1,((∃ v,r = .val v h1)\/r = .skip h1)->Stays hs h1:=by
 intro h1 hr;unfold A0 at e;generalize hop:o.op=op at hdr hq happ e
 have nw : ∀ {b:Blk} {v:PV},(hs.new id b).map (λh=>R.val v h)=some r->Stays hs h1:=by
  intro b v e;obtain ⟨h3,hn,rfl⟩:=AL e;rcases hr with ⟨v',hr⟩ | hr<;>cases hr
  exact MV hn
 have fr : ∀ {L:List Nat} {v:PV},(freeze hs L).map (λh=>R.val v h)=some r->Stays hs h1:=by
  intro L v e;obtain ⟨h3,hn,rfl⟩:=AL e;rcases hr with ⟨v',hr⟩ | hr<;>cases hr
  exact Fo L hn
 have same : ∀ {v:PV},R.val v hs=r->Stays hs h1:=by
  intro v e;subst e;rcases hr with ⟨v',hr⟩ | hr<;>cases hr
  exact .refl _
 cases op with
 | alloc _ =>
  simp only at e;unfold Gb at e;split at e
  ·exact nw e
  ·cases e
 | box _ x =>
  obtain ⟨p,_,e⟩:=BZ e;unfold KX at e;split at e
  ·cases e
  ·exact nw e
 | makeMap ty rs =>
  cases rs with
  | none=>exact nw e
  | some _=>cases e
 | makeSlice _ x y =>
  obtain ⟨p,q,_,_,e⟩:=Fm e;unfold Gs at e;simp only [Bool.cond_eq_ite] at e
  repeat' split at e
  all_goals first | (cases e;done) | exact nw e
 | buildSlice ty n ps =>
  simp only at e;split at e
  ·unfold Bi at e;simp only [Bool.cond_eq_ite] at e
   repeat' split at e
   all_goals first | (cases e;done) | exact fr e
  ·cases e
 | slice ty x lo hi mx =>
  simp only at e;split at e
  ·obtain ⟨p,_,e⟩:=BZ e;unfold Bq Ha at e;simp only [Bool.cond_eq_ite] at e
   repeat' split at e
   all_goals first | (cases e;done) | exact fr e | exact same (Option.some.inj e)
  ·cases e
 | store _ x y =>
  obtain ⟨p,q,_,_,e⟩:=Fm e;unfold Dd at e;simp only [Bool.cond_eq_ite] at e
  repeat' split at e
  all_goals first | (cases e;done) | skip
  all_goals
   obtain ⟨h3,hn,rfl⟩:=AL e;rcases hr with ⟨v',hr⟩ | hr<;>cases hr
   refine J3 (by assumption) hn λh => ?_;cases h
 | call c =>
  simp only [CA,I8,Gz] at hdr happ hq;simp only at e;split at e
  ·cases hc:c.callee with
   | builtin b =>
    simp only [hc] at hdr happ hq;by_cases hb:b = .copy
    ·subst hb;simp only [hc] at e;simp only [Af,Bool.cond_eq_ite] at e
     repeat' split at e
     all_goals first | (cases e;done) | skip
     all_goals
      obtain ⟨h3,hn,rfl⟩:=AL e;rcases hr with ⟨v',hr⟩ | hr<;>cases hr
      refine J3 (by assumption) hn λh => ?_;cases h
    ·cases b<;>simp_all
   | value f =>
    simp only [hc] at e;obtain ⟨p,_,e⟩:=BZ e;unfold Nc at e;split at e
    ·obtain ⟨g,as,rfl⟩:=Hf e;rcases hr with ⟨v',hr⟩ | hr<;>cases hr
    ·cases e;rcases hr with ⟨v',hr⟩ | hr<;>cases hr
    ·cases e
   | invoke rc nm =>
    simp only [hc] at e;obtain ⟨p,_,e⟩:=BZ e;obtain ⟨g,as,rfl⟩:=Hf e;rcases hr with ⟨v',hr⟩ | hr<;>cases hr
  ·cases e
 | lookup _ _ _ _=>cases hdr
 | mapUpdate _ _ _ _=>cases hdr
 | insert _ _ _ _=>cases hdr
 | defer _=>cases hdr
 | panic _=>cases hdr
 | _=>first | cases hq | cases e
theorem N4 (s:JF hs h) (hid:hs.get id=none->h.get id=none) {f:FuncId} {args:List PV} {v:PV} (e:Cj (λ_=>false) rec id f args hs=some (.ret v,h1)) :
  (∃ h2,Cj (λ_=>false) rec id f args h=some (.ret v,h2)/\Lay hs h h1 h2 id)/\(flat v=true->h1=hs)/\Stays hs h1:=by
 unfold Cj at e ⊢;simp only [cond_false] at e ⊢;split at e
 ·rename_i as l hp;rw [Ny s hp];dsimp only;split at e
  ·rename_i r u1 h' hrec
   try simp only [hrec]
   obtain ⟨⟨q,hq⟩,hb,e⟩:=AL e;cases e;unfold B8 at hb ⊢;split at hb
   ·rename_i len qs ex hm
    try dsimp only
    split at hb
    ·rename_i h3 hf;obtain ⟨h4,hn,hb⟩:=AL hb;cases hb;cases hfl:DI qs with
     | true =>
      simp only [hfl,cond_true] at hf ⊢;cases hf;obtain ⟨h5,e5,l5⟩:=(Lay.refl s id).new hid hn;refine ⟨⟨h5,by simp only [e5,Option.map_some],l5⟩,(by intro h;cases h),MV hn⟩
     | false =>
      simp only [hfl,cond_false] at hf ⊢;obtain ⟨h6,e6,l6⟩:=Lay.freeze l (Lay.refl s id) hf;obtain ⟨h5,e5,l5⟩:=l6.new hid hn;refine ⟨⟨h5,by simp only [e6,e5,Option.map_some],l5⟩,(by intro h;cases h),(Fo l hf).trans (MV hn)⟩
    ·cases hb
   ·rename_i hm
    try dsimp only
    split at hb
    ·rename_i q' l2 hq'
     try simp only [hq']
     cases hfl:flat q' with
     | true =>
      simp only [hfl,cond_true] at hb ⊢;cases hb;exact ⟨⟨h,rfl,.refl s id⟩,λ_=>rfl,.refl _⟩
     | false =>
      simp only [hfl,cond_false] at hb ⊢;obtain ⟨h4,hf,hb⟩:=AL hb;cases hb;obtain ⟨h6,e6,l6⟩:=Lay.freeze l (Lay.refl s id) hf;exact ⟨⟨h6,by simp only [e6,Option.map_some],l6⟩,(by intro h;rw [hfl] at h;cases h),Fo l hf⟩
    ·cases hb
  ·split at e
   ·replace e:=Be e;cases e.2
   ·cases e
  ·cases e
 ·cases e
end
end Go.Proofs.YthpkjfabdccpdaaGreat.Pi
namespace Go.Proofs.YthpkjfabdccpdaaGreat.Pi
section
theorem JO (m k:Nat):Kk m k=m.testBit k:=by
 unfold Kk;show (!Nat.beq (m &&& 2 ^ k) 0)=m.testBit k;cases hb:m.testBit k with
 | false =>
  have:m &&& 2 ^ k=0:=by
   apply Nat.eq_of_testBit_eq;intro j;rw [Nat.testBit_and,Nat.testBit_two_pow,Nat.zero_testBit];by_cases hj:k=j
   ·subst hj;simp [hb]
   ·simp [hj]
  rw [this];rfl
 | true =>
  have:m &&& 2 ^ k≠0:=by
   intro h0;have h1:(m &&& 2 ^ k).testBit k=true:=by rw [Nat.testBit_and,hb,Nat.testBit_two_pow];simp
   rw [h0] at h1;simp at h1
  rw [KY this];rfl
theorem J4 (a b k:Nat):Kk (Nat.lor a b) k=(Kk a k||Kk b k):=by
 simp only [JO];exact Nat.testBit_or a b k
theorem Lg (j k:Nat):Kk (Nat.pow 2 j) k=decide (j=k):=by
 rw [JO];exact Nat.testBit_two_pow
theorem N5 {a b:Nat} (h:ND a b=true) (k:Nat) : ¬ (Kk a k=true/\Kk b k=true):=by
 unfold ND at h;have h0:a &&& b=0:=Nat.eq_of_beq_eq_true h;rintro ⟨h1,h2⟩;rw [JO] at h1 h2;have:(a &&& b).testBit k=true:=by rw [Nat.testBit_and,h1,h2];rfl
 rw [h0] at this;simp at this
theorem NK : ∀ {l:List Operand} {k:Nat},.tmp k∈l->Kk (IW l) k=true
 | [],k,h=>by simp at h
 | o::l,k,h=>by
  unfold IW;rw [J4];simp only [List.mem_cons] at h;rcases h with rfl | h
  ·simp only [YH,Lg];simp
  ·rw [NK h];simp
theorem Cr {a b:List Nat} (h:GH a b=false) (x:Nat) : ¬ (x∈a/\x∈b):=by
 induction a with
 | nil=>simp
 | cons y a ih =>
  unfold GH at h;simp only [Bool.or_eq_false_iff] at h;rintro ⟨h1,h2⟩;simp only [List.mem_cons] at h1;rcases h1 with rfl | h1
  ·rw [List.any_eq_false] at h;exact h.1 x h2 (by simp)
  ·exact ih h.2 ⟨h1,h2⟩
theorem J5 : ∀ (a:List Nat),GH a []=false
 | []=>rfl
 | x::a=>by unfold GH;rw [J5 a];rfl
variable {P:Program} {rec:Np}
def PF (nt:Nat) (dst:Option Nat) (v:PV) (t t':T PV):Prop:=match dst with
 | none=>t'=t
 | some d=>d<nt/\t'=T.put 20 t d v
structure Tr where
 ts:Nat->T PV
 hp:Nat->Hp
 rd:Nat->List Nat
 wr:Nat->List Nat
def Tr.StepAt (P:Program) (rec:Np) (base nt:Nat) (opsl:List Oper) (tr:Tr) (j:Nat) (o:Oper):Prop :=
 (Cd opsl (tr.ts j) o.guard=true /\ ∃ v,CL P rec (tr.ts j) (tr.hp j) (base+j) o=some (v,tr.hp (j+1),tr.rd j,tr.wr j)/\PF nt o.dst v (tr.ts j) (tr.ts (j+1))) \/
 (Cd opsl (tr.ts j) o.guard=false/\tr.hp (j+1)=tr.hp j/\tr.rd j=[]/\tr.wr j=[]/\PF nt o.dst (.tup []) (tr.ts j) (tr.ts (j+1)))
def Tr.Clear (tr:Tr) (bef j k:Nat):Prop:=Kk bef k=true\/(GH (tr.wr k) (tr.rd j)=false/\GH (tr.wr j) (tr.rd k)=false)
theorem Ku {bef:Nat} {rd wr:List Nat} : ∀ {past:List (Nat×List Nat×List Nat)},Kl bef rd wr past=true -> ∀ k r w,(k,r,w)∈past->Kk bef k=true\/(GH w rd=false/\GH wr r=false)
 | [],_,k,r,w,h=>by simp at h
 | (k0,r0,w0)::past,e,k,r,w,h=>by
  unfold Kl at e;simp only [Bool.and_eq_true,Bool.or_eq_true,Bool.not_eq_true',Bool.or_eq_false_iff] at e;simp only [List.mem_cons] at h;rcases h with h | h
  ·cases h;exact e.1
  ·exact Ku e.2 k r w h
theorem R4 {base nt:Nat} {opsl:List Oper} {t':T PV} {h':Hp} : ∀ (l:List Oper) (ms:List Mk) (i:Nat) (past:List (Nat×List Nat×List Nat)) (t:T PV) (h:Hp),
  BP P rec base nt opsl i l ms past t h=some (t',h') -> ∀ (rd0 wr0:Nat->List Nat),(∀ k,k<i->(k,rd0 k,wr0 k)∈past\/(rd0 k=[]/\wr0 k=[])) ->
  ∃ tr:Tr,tr.ts i=t/\tr.hp i=h/\tr.ts (i+l.length)=t'/\tr.hp (i+l.length)=h'/\(∀ k,k<i->tr.rd k=rd0 k/\tr.wr k=wr0 k) /\
   ∀ j o m,l[j]? = some o->ms[j]? = some m->tr.StepAt P rec base nt opsl (i+j) o /\ ∀ k,k<i+j->tr.Clear m.bef (i+j) k
 | [],ms,i,past,t,h,e,rd0,wr0,hpast=>by
  unfold BP at e;cases e;exact ⟨⟨λ_=>t',λ_=>h',rd0,wr0⟩,rfl,rfl,rfl,rfl,λ_ _=>⟨rfl,rfl⟩,λj o m hj=>by simp at hj⟩
 | o::l,[],i,past,t,h,e,rd0,wr0,hpast=>by unfold BP at e;cases e
 | o::l,m::ms,i,past,t,h,e,rd0,wr0,hpast=>by
  unfold BP at e
  have fin : ∀ {v:PV} {t1:T PV} {h1:Hp} {rd1 wr1:List Nat} {past1:List (Nat×List Nat×List Nat)},BP P rec base nt opsl (i+1) l ms past1 t1 h1=some (t',h')->PF nt o.dst v t t1 ->
    (Cd opsl t o.guard=true/\CL P rec t h (base+i) o=some (v,h1,rd1,wr1)\/Cd opsl t o.guard=false/\h1=h/\rd1=[]/\wr1=[]/\v = .tup []) ->
    (∀ k r w,(k,r,w)∈past->(k,r,w)∈past1)->((i,rd1,wr1)∈past1\/(rd1=[]/\wr1=[]))->(∀ k r w,(k,r,w)∈past->Kk m.bef k=true\/(GH w rd1=false/\GH wr1 r=false)) ->
    ∃ tr:Tr,tr.ts i=t/\tr.hp i=h/\tr.ts (i+(o::l).length)=t'/\tr.hp (i+(o::l).length)=h'/\(∀ k,k<i->tr.rd k=rd0 k/\tr.wr k=wr0 k) /\
     ∀ j o' m',(o::l)[j]? = some o'->(m::ms)[j]? = some m'->tr.StepAt P rec base nt opsl (i+j) o' /\ ∀ k,k<i+j->tr.Clear m'.bef (i+j) k:=by
   intro v t1 h1 rd1 wr1 past1 e1 Ad hstep hsub hin hok
   obtain ⟨tr,k1,k2,k3,k4,k5,k6⟩:=R4 l ms (i+1) past1 t1 h1 e1 (λk=>if k=i then rd1 else rd0 k) (λk=>if k=i then wr1 else wr0 k) (by
    intro k hk;by_cases hki:k=i
    ·subst hki;simpa using hin
    ·simp only [if_neg hki];rcases hpast k (by omega) with hp | hp
     ·exact .inl (hsub _ _ _ hp)
     ·exact .inr hp)
   obtain ⟨hrd,hwr⟩:=k5 i (by omega);simp only [if_true] at hrd hwr;refine ⟨⟨λk=>if k=i then t else tr.ts k,λk=>if k=i then h else tr.hp k,tr.rd,tr.wr⟩,by simp,by simp,?_,?_,?_,?_⟩
   ·simp only [List.length_cons];rw [if_neg (by omega),show i+(l.length+1)=i+1+l.length by omega];exact k3
   ·simp only [List.length_cons];rw [if_neg (by omega),show i+(l.length+1)=i+1+l.length by omega];exact k4
   ·intro k hk;have:=k5 k (by omega);simp only [if_neg (show k≠i by omega)] at this;exact this
   ·intro j o' m' hj hm';cases j with
    | zero =>
     simp only [List.getElem?_cons_zero,Option.some.injEq] at hj hm';subst hj;subst hm';simp only [Nat.add_zero];constructor
     ·rcases hstep with ⟨a1,a2⟩ | ⟨a1,a2,a3,a4,a5⟩
      ·refine .inl ⟨by simpa using a1,v,?_,?_⟩
       ·simp only [if_true,if_neg (show i+1≠i by omega)];rw [k2,hrd,hwr];exact a2
       ·simp only [if_true,if_neg (show i+1≠i by omega)];rw [k1];exact Ad
      ·refine .inr ⟨by simpa using a1,?_,by rw [hrd,a3],by rw [hwr,a4],?_⟩
       ·simp only [if_true,if_neg (show i+1≠i by omega)];rw [k2,a2]
       ·simp only [if_true,if_neg (show i+1≠i by omega)];rw [k1,<- a5];exact Ad
     ·intro k hk;have hkk:=k5 k (by omega);simp only [if_neg (show k≠i by omega)] at hkk;unfold Tr.Clear;simp only [hrd,hwr,hkk.1,hkk.2];rcases hpast k hk with hp | ⟨hp1,hp2⟩
      ·exact hok _ _ _ hp
      ·rw [hp1,hp2];exact .inr ⟨rfl,J5 _⟩
    | succ j =>
     obtain ⟨q1,q2⟩:=k6 j o' m' (by simpa using hj) (by simpa using hm');rw [show i+(j+1)=i+1+j by omega];refine ⟨?_,q2⟩;unfold Tr.StepAt at q1 ⊢;simp only [if_neg (show i+1+j≠i by omega),if_neg (show i+1+j+1≠i by omega)];exact q1
  cases hw:Cd opsl t o.guard with
  | true =>
   simp only [hw,cond_true] at e;split at e
   ·rename_i v h1 rd1 wr1 hd;replace e:=Be e;obtain ⟨hok,e⟩:=e;cases hdst:o.dst with
    | some d =>
     simp only [hdst] at e;replace e:=Be e;obtain ⟨hlt,e⟩:=e;exact fin e (by rw [hdst];exact ⟨by simpa using hlt,rfl⟩) (.inl ⟨hw,hd⟩) (λk r w hp=>List.mem_cons_of_mem _ hp) (.inl List.mem_cons_self) (λk r w hp=>Ku hok k r w hp)
    | none =>
     simp only [hdst] at e;exact fin e (by rw [hdst];exact rfl) (.inl ⟨hw,hd⟩) (λk r w hp=>List.mem_cons_of_mem _ hp) (.inl List.mem_cons_self) (λk r w hp=>Ku hok k r w hp)
   ·cases e
  | false =>
   simp only [hw,cond_false] at e;cases hdst:o.dst with
   | some d =>
    simp only [hdst] at e;replace e:=Be e;obtain ⟨hlt,e⟩:=e;exact fin (v:=.tup []) e (by rw [hdst];exact ⟨by simpa using hlt,rfl⟩) (.inr ⟨hw,rfl,rfl,rfl,rfl⟩) (λk r w hp=>hp) (.inr ⟨rfl,rfl⟩) (λk r w hp => .inr ⟨J5 _,rfl⟩)
   | none =>
    simp only [hdst] at e;exact fin (v:=.tup []) e (by rw [hdst];exact rfl) (.inr ⟨hw,rfl,rfl,rfl,rfl⟩) (λk r w hp=>hp) (.inr ⟨rfl,rfl⟩) (λk r w hp => .inr ⟨J5 _,rfl⟩)
theorem NL {m:Mk} : ∀ {l:List Mk} {j:Nat},LQ m j l=true -> ∀ k x,l[k]? = some x->Kk m.bef (j+k)=true\/(ND x.wr (Nat.lor m.rd m.wr)=true/\ND x.rd m.wr=true)
 | [],j,_,k,x,h=>by simp at h
 | y::l,j,e,k,x,h=>by
  unfold LQ at e;simp only [Bool.and_eq_true,Bool.or_eq_true] at e;cases k with
  | zero=>simp only [List.getElem?_cons_zero,Option.some.injEq] at h;subst h;exact e.1
  | succ k =>
   have:=NL e.2 k x (by simpa using h)
   rwa [show j+1+k=j+(k+1) by omega] at this
def R5 (opsl:List Oper) (ms:List Mk) (i:Nat) (o:Oper) (m:Mk):Prop :=
 m.rd=Nat.lor (IW (CN o.op)) (H9 opsl o.guard)/\m.wr=Kj o.dst/\m.bef=Gj (ms.take i) o.after.toList/\LS i o.after.toList=true/\LQ m 0 (ms.take i)=true
theorem R6 {opsl:List Oper} : ∀ (l:List Oper) (i:Nat) (acc ms:List Mk),Ju opsl i l acc=some ms->acc.length=i ->
  (∃ ms',ms=acc++ms'/\ms'.length=l.length) /\ ∀ j o,l[j]? = some o -> ∃ m,ms[i+j]? = some m/\R5 opsl ms (i+j) o m
 | [],i,acc,ms,e,hl=>by simp [Ju] at e;subst e;exact ⟨⟨[],by simp,rfl⟩,λj o h=>by simp at h⟩
 | o::l,i,acc,ms,e,hl=>by
  unfold Ju at e;simp only at e;replace e:=Be e;obtain ⟨hc,e⟩:=e;simp only [Bool.and_eq_true] at hc;obtain ⟨⟨ms',hms,hlen⟩,hrest⟩:=R6 l (i+1) _ ms e (by simp [hl]);refine ⟨⟨_::ms',by rw [hms,List.append_assoc];rfl,by simp [hlen]⟩,λj o' hj => ?_⟩;cases j with
  | zero =>
   simp only [List.getElem?_cons_zero,Option.some.injEq] at hj;subst hj;have htake:ms.take i=acc:=by rw [hms,List.append_assoc,<- hl];simp
   refine ⟨{ rd:=Nat.lor (IW (CN o.op)) (H9 opsl o.guard),wr:=Kj o.dst,bef:=Gj acc o.after.toList },?_,?_⟩
   ·rw [hms,<- hl];simp
   ·rw [Nat.add_zero];unfold R5;rw [htake];exact ⟨rfl,rfl,rfl,hc.1,hc.2⟩
  | succ j =>
   obtain ⟨m,h1,h2⟩:=hrest j o' (by simpa using hj);rw [show i+(j+1)=i+1+j by omega];exact ⟨m,h1,h2⟩
theorem Ib {acc:List Mk} : ∀ {es:List Edge} {k:Nat},Kk (Gj acc es) k=true -> ∃ e∈es,Region.binds .any e=true/\(e.on=k \/ ∃ m,acc[e.on]? = some m/\Kk m.bef k=true)
 | [],k,h=>by rw [JO] at h;simp [Gj] at h
 | e::es,k,h=>by
  unfold Gj at h;cases hb:Region.binds .any e with
  | true =>
   simp only [hb,cond_true] at h;rw [J4,J4,Lg] at h;simp only [Bool.or_eq_true,decide_eq_true_eq] at h;rcases h with (h | h) | h
   ·exact ⟨e,by simp,hb,.inl h⟩
   ·rw [Au] at h;cases hm:acc[e.on]? with
    | none=>rw [hm,JO] at h;simp at h
    | some m=>rw [hm] at h;exact ⟨e,by simp,hb,.inr ⟨m,hm,h⟩⟩
   ·obtain ⟨e',h1,h2,h3⟩:=Ib h;exact ⟨e',by simp [h1],h2,h3⟩
  | false =>
   simp only [hb,cond_false] at h;obtain ⟨e',h1,h2,h3⟩:=Ib h;exact ⟨e',by simp [h1],h2,h3⟩
theorem JP {i:Nat} : ∀ {es:List Edge},LS i es=true -> ∀ e∈es,Region.binds .any e=true->e.on<i
 | [],_,e,he=>by simp at he
 | e0::es,h,e,he=>by
  unfold LS at h;simp only [Bool.and_eq_true,Bool.or_eq_true,Bool.not_eq_true',Nat.blt_eq] at h;intro hb;simp only [List.mem_cons] at he;rcases he with rfl | he
  ·rcases h.1 with h1 | h1
   ·rw [hb] at h1;cases h1
   ·exact h1
  ·exact JP h.2 e he hb
end
end Go.Proofs.YthpkjfabdccpdaaGreat.Pi
namespace Go.Proofs.YthpkjfabdccpdaaGreat.Pi
section
theorem Gu : ∀ (n:Nat) (l:List Nat),l.Nodup->(∀ x∈l,x<n)->l.length<=n
 | 0,l,_,h=>by
  cases l with
  | nil=>simp
  | cons a l=>have:=h a (by simp);omega
 | n+1,l,hn,h=>by
  by_cases hm:n∈l
  ·have h1:=Gu n (l.erase n) (hn.erase n) (λx hx=>by
    have h2:=(hn.mem_erase_iff).1 hx;have:=h x h2.2;have:=h2.1
    omega)
   rw [List.length_erase_of_mem hm] at h1;omega
  ·have:=Gu n l hn (λx hx=>by
    have h2:=h x hx;have:x≠n:=by intro e;subst e;exact hm hx
    omega)
   omega
theorem ID : ∀ (n:Nat) (l:List Nat),(∀ x,x<n->x∈l)->n<=l.length
 | 0,l,_=>by omega
 | n+1,l,h=>by
  have h1:=ID n (l.erase n) (λx hx=>(List.mem_erase_of_ne (by omega)).2 (h x (by omega)));have hm:=h n (by omega);rw [List.length_erase_of_mem hm] at h1;have:0<l.length:=List.length_pos_of_mem hm;omega
def MW (ops:Array Oper) (l:List Nat):Prop := ∀ p i q,l=p++i::q -> ∀ o,ops[i]? = some o -> ∀ e∈o.after.toList,Region.binds .any e=true->e.on∈p
theorem R7 {ops:Array Oper} {l:List Nat} {i:Nat} (hl:MW ops l) (hi : ∀ o,ops[i]? = some o -> ∀ e∈o.after.toList,Region.binds .any e=true->e.on∈l):MW ops (l++[i]):=by
 intro p j q he o ho e hem hb;rcases List.eq_nil_or_concat q with rfl | ⟨q',z,rfl⟩
 ·have:=List.append_inj' he (by simp);obtain ⟨rfl,h2⟩:=this;simp only [List.cons.injEq,and_true] at h2;subst h2;exact hi o ho e hem hb
 ·have he2:l++[i]=(p++j::q')++[z]:=by rw [he];simp
  have:=List.append_inj' he2 (by simp);exact hl p j q' this.1 o ho e hem hb
theorem Yf {ops:Array Oper} (hedge : ∀ i o,ops[i]? = some o -> ∀ e∈o.after.toList,Region.binds .any e=true->e.on<i) :
  ∀ (fuel t:Nat) (listed:Array Bool) (acc:List Nat),fuel+acc.length=ops.size->listed.size=ops.size->(∀ i,i<ops.size->listed[i]? = some (decide (i∈acc)))->acc.Nodup->(∀ i∈acc,i<ops.size)->MW ops acc.reverse ->
  (Region.linearise.go .any ops fuel t listed acc).Nodup/\(∀ i,i∈Region.linearise.go .any ops fuel t listed acc<->i<ops.size)/\MW ops (Region.linearise.go .any ops fuel t listed acc)
 | 0,t,listed,acc,hf,hs,hl,hn,hlt,hp=>by
  simp only [Region.linearise.go];refine ⟨List.pairwise_reverse.2 (hn.imp λh=>Ne.symm h),λi=>⟨λh=>hlt i (by simpa using h),λhi => ?_⟩,hp⟩;rw [List.mem_reverse];by_cases hm:i∈acc
  ·exact hm
  ·have:=Gu ops.size (i::acc) (List.nodup_cons.2 ⟨hm,hn⟩) (λx hx=>by
    simp only [List.mem_cons] at hx;rcases hx with rfl | hx
    ·exact hi
    ·exact hlt x hx)
   simp only [List.length_cons] at this;omega
 | fuel+1,t,listed,acc,hf,hs,hl,hn,hlt,hp=>by
  simp only [Region.linearise.go];generalize hrs:(List.range ops.size).filter (λi => !listed.getD i true&&((ops[i]?).map (λo=>o.after.all λe => !Region.binds .any e||listed.getD e.on false)).getD false)=rs
  have mem : ∀ i,i∈rs<->i<ops.size/\i ∉ acc /\ ∀ o,ops[i]? = some o -> ∀ e∈o.after.toList,Region.binds .any e=true->e.on∈acc:=by
   intro i;rw [<- hrs,List.mem_filter,List.mem_range];constructor
   ·rintro ⟨h1,h2⟩;simp only [Bool.and_eq_true,Bool.not_eq_true'] at h2;have hli:=hl i h1;refine ⟨h1,?_,?_⟩
    ·intro hm;rw [Array.getD_eq_getD_getElem?,hli] at h2;simp [hm] at h2
    ·intro o ho e he hb;rw [ho] at h2;simp only [Option.map_some,Option.getD_some,Array.all_eq_true_iff_forall_mem] at h2;have:=h2.2 e (Array.mem_toList_iff.1 he);rw [hb] at this;simp only [Bool.not_true,Bool.false_or] at this;have hlt2:=hedge i o ho e he hb;rw [Array.getD_eq_getD_getElem?,hl e.on (by omega)] at this;simpa using this
   ·rintro ⟨h1,h2,h3⟩;refine ⟨h1,?_⟩;simp only [Bool.and_eq_true,Bool.not_eq_true'];refine ⟨by rw [Array.getD_eq_getD_getElem?,hl i h1];simpa using h2,?_⟩;rw [Array.getElem?_eq_getElem h1];simp only [Option.map_some,Option.getD_some,Array.all_eq_true_iff_forall_mem];intro e he;cases hb:Region.binds .any e with
    | false=>rfl
    | true =>
     simp only [Bool.not_true,Bool.false_or];have ho:=Array.getElem?_eq_getElem h1;have hlt2:=hedge i _ ho e (Array.mem_toList_iff.2 he) hb;rw [Array.getD_eq_getD_getElem?,hl e.on (by omega)];simpa using h3 _ ho e (Array.mem_toList_iff.2 he) hb
  have hne:rs≠[]:=by
   intro h0
   have all : ∀ i,i<ops.size->i∈acc:=by
    intro i
    induction i using Nat.strongRecOn with
    | _ i ih =>
     intro hi;by_cases hm:i∈acc
     ·exact hm
     ·have:i∈rs:=(mem i).2 ⟨hi,hm,λo ho e he hb=>ih e.on (hedge i o ho e he hb) (by have:=hedge i o ho e he hb;omega)⟩;rw [h0] at this;simp at this
   have:=ID ops.size acc all;omega
  have hlen:t % rs.length<rs.length:=Nat.mod_lt _ (List.length_pos_iff.2 hne);rw [List.getElem?_eq_getElem hlen];simp only;obtain ⟨m1,m2,m3⟩:=(mem _).1 (List.getElem_mem hlen);generalize rs[t % rs.length]=i at m1 m2 m3;refine Yf hedge fuel _ _ (i::acc) (by simp only [List.length_cons];omega) (by simpa using hs) ?_ (List.nodup_cons.2 ⟨m2,hn⟩) ?_ ?_
  ·intro j hj;rw [Array.getElem?_setIfInBounds];by_cases hij:i=j
   ·subst hij;rw [if_pos rfl,if_pos (by omega)];simp
   ·rw [if_neg hij,hl j hj];simp [Ne.symm hij]
  ·intro j hj;simp only [List.mem_cons] at hj;rcases hj with rfl | hj
   ·exact m1
   ·exact hlt j hj
  ·rw [List.reverse_cons];exact R7 hp λo ho e he hb=>by rw [List.mem_reverse];exact m3 o ho e he hb
theorem Yg {ops:Array Oper} {mixed:Bool} (hm:(mixed || !Region.departs ops)=true) (hedge : ∀ i o,ops[i]? = some o -> ∀ e∈o.after.toList,Region.binds .any e=true->e.on<i) (t:Nat) :
  (Region.schedule mixed ops t).Nodup/\(∀ i,i∈Region.schedule mixed ops t<->i<ops.size)/\MW ops (Region.schedule mixed ops t):=by
 unfold Region.schedule;rw [if_pos hm];unfold Region.linearise;exact Yf hedge ops.size t _ [] (by simp) (by simp) (λi hi=>by simp [hi]) List.nodup_nil (by simp) (by intro p i q h;simp at h)
theorem iG {ops:Array Oper} {ms:List Mk} (hms : ∀ j o,ops.toList[j]? = some o -> ∃ m,ms[j]? = some m/\R5 ops.toList ms j o m) {σ:List Nat} (hσ:MW ops σ) :
  ∀ (i:Nat) (o:Oper) (m:Mk),ops[i]? = some o->ms[i]? = some m -> ∀ p q,σ=p++i::q -> ∀ k,Kk m.bef k=true->k∈p:=by
 intro i
 induction i using Nat.strongRecOn with
 | _ i ih =>
  intro o m ho hm p q he k hk;obtain ⟨m',hm',hat⟩:=hms i o (by simpa using ho);rw [hm] at hm';cases hm';rw [hat.2.2.1] at hk;obtain ⟨e,he1,he2,he3⟩:=Ib hk;have hlt:=JP hat.2.2.2.1 e he1 he2;have hin:=hσ p i q he o ho e he1 he2;rcases he3 with rfl | ⟨m2,hm2,hk2⟩
  ·exact hin
  ·obtain ⟨p1,p2,hp⟩:=List.append_of_mem hin;rw [List.getElem?_take,if_pos hlt] at hm2;have hi:i<ops.size:=(Array.getElem?_eq_some_iff.1 ho).1;have ho2:=Array.getElem?_eq_getElem (xs:=ops) (i:=e.on) (by omega);have:=ih e.on hlt _ m2 ho2 hm2 p1 (p2++i::q) (by rw [he,hp];simp) k hk2;rw [hp];simp [this]
end
end Go.Proofs.YthpkjfabdccpdaaGreat.Pi
namespace Go.Proofs.YthpkjfabdccpdaaGreat.Pi
section
variable {P:Program} {rec:Np}
def e8 (n:Nat) (ops:Array Oper) (tr:Tr) (pre:List Nat) (t:T PV):Prop :=
 ∀ k m,m<=n->(∀ j o,ops[j]? = some o->o.dst=some k->(j∈pre<->j<m))->t.get k=(tr.ts m).get k
def e9 (n:Nat) (tr:Tr) (pre:List Nat) (h:Hp):Prop :=
 ∀ x m,m<=n->(∀ j,j<n->x∈tr.wr j->(j∈pre<->j<m))->h.get x=(tr.hp m).get x
theorem NM {t tS:T PV} {h hS h':Hp} {id:Nat} {o:Oper} {v:PV} {rd wr:List Nat} (e:CL P rec t h id o=some (v,h',rd,wr)) (ht:Kt t tS (CN o.op)) (hh : ∀ x∈rd,hS.get x=h.get x) :
  ∃ hS',((A0 P tS hS id o=some (.val v hS'))\/(A0 P tS hS id o=some (.skip hS')/\v = .tup []) \/ ∃ f args,A0 P tS hS id o=some (.call f args)/\Cj (λ_=>false) rec id f args hS=some (.ret v,hS')) /\
   (∀ x,x ∉ wr->hS'.get x=hS.get x/\h'.get x=h.get x)/\(∀ x,x∈wr->x∈rd/\hS'.get x=h'.get x):=by
 unfold CL at e;simp only at e;replace e:=EZ e;obtain ⟨hc,e⟩:=e;simp only [Bool.or_eq_false_iff,Bool.not_eq_false',Nat.blt_eq] at hc;obtain ⟨hdr,hidlt⟩:=hc
 have sub : ∀ {l:List Nat},(∀ x∈l,x∈rd)->JF (h.cut l) hS:=by
  intro l hl x b hx;obtain ⟨h1,h2⟩:=IC hx;rw [hh x (hl x h1)];exact h2
 have hid : ∀ {l:List Nat},id∈l->(∀ x∈l,x∈rd)->(h.cut l).get id=none->hS.get id=none:=by
  intro l hin hl hx;rw [Hg,if_pos ⟨hin,hidlt⟩] at hx;rw [hh id (hl id hin)];exact hx
 have cutin : ∀ {l:List Nat} {x:Nat} {b:Blk},(h.cut l).get x=some b->x∈l:=λhx=>(IC hx).1
 have lay : ∀ {l wl:List Nat} {h1 hS':Hp},id∈l->(∀ x∈l,x∈rd)->Lay (h.cut l) hS h1 hS' id->over h1 l h=some h'->(∀ x∈wl,x∈l)->(∀ x∈l,x ∉ wl -> ∃ b,h.get x=some b/\ez b)->Stays (h.cut l) h1\/(∀ x∈l,x∈wl) ->
   (∀ x,x ∉ wl->hS'.get x=hS.get x/\h'.get x=h.get x)/\(∀ x,x∈wl->x∈rd/\hS'.get x=h'.get x):=by
  intro l wl h1 hS' hin hl la ho hwl hfz hst;refine ⟨λx hx => ?_,λx hx => ?_⟩
  ·by_cases hxl:x∈l
   ·rcases hst with hst | hst
    ·obtain ⟨b,hb,hbf⟩:=hfz x hxl hx;have hx2:x<x+1 \/ ¬ x<x+1:=by omega
     rcases hx2 with hlt | hge
     ·have h1b:=hst x b (by rw [Hg,if_pos ⟨hxl,hlt⟩];exact hb) hbf;refine ⟨by rw [la.get,h1b,hh x (hl x hxl),hb],by rw [Gl ho,if_pos hxl,h1b,hb]⟩
     ·have hn:h1.get x=none:=by
       cases hg:h1.get x with
       | none=>rfl
       | some c =>
        rcases la.keys x c hg with ⟨b0,hb0⟩ | rfl
        ·rw [Hg,if_neg (λh=>hge h.2)] at hb0;cases hb0
        ·exact absurd hidlt hge
      exact ⟨by rw [la.get,hn],by rw [Gl ho,if_pos hxl,hn]⟩
    ·exact absurd (hst x hxl) hx
   ·have hn:h1.get x=none:=by
     cases hg:h1.get x with
     | none=>rfl
     | some c =>
      rcases la.keys x c hg with ⟨b0,hb0⟩ | rfl
      ·exact absurd (cutin hb0) hxl
      ·exact absurd hin hxl
    exact ⟨by rw [la.get,hn],by rw [Gl ho,if_neg hxl]⟩
  ·have hxl:=hwl x hx;refine ⟨hl x hxl,?_⟩;rw [la.get,Gl ho,if_pos hxl];cases h1.get x with
   | some b=>rfl
   | none=>exact hh x (hl x hxl)
 have same : ∀ {l:List Nat} {hS':Hp},(∀ x∈l,x∈rd)->Lay (h.cut l) hS (h.cut l) hS' id->h'=h->(∀ x,x ∉ ([]:List Nat)->hS'.get x=hS.get x/\h'.get x=h.get x)/\(∀ x,x∈([]:List Nat)->x∈rd/\hS'.get x=h'.get x):=by
  intro l hS' hl la he;refine ⟨λx _=>⟨?_,by rw [he]⟩,λx hx=>by simp at hx⟩;rw [la.get];cases hg:(h.cut l).get x with
  | none=>rfl
  | some b=>exact (sub hl x b hg).symm
 split at e
 ·rename_i v0 h1 hev;rw [Ia hdr ht] at hev;cases hq:Gz o.op with
  | true =>
   simp only [hq,cond_true,Option.some.injEq,Prod.mk.injEq] at e;obtain ⟨rfl,rfl,rfl,rfl⟩:=e;have h1eq:=Le hq hdr hev;subst h1eq;have hl : ∀ x∈id::B9 t h o.op,x∈id::B9 t h o.op:=λx hx=>hx;obtain ⟨hS',e2,la⟩:=GL (sub hl) (hid (by simp) hl) hdr hev;exact ⟨hS',.inl e2,same hl la rfl⟩
  | false =>
   simp only [hq,cond_false] at e;obtain ⟨h2,hov,e⟩:=AL e;simp only [Prod.mk.injEq] at e;obtain ⟨rfl,rfl,rfl,rfl⟩:=e;have hl : ∀ x∈id::B9 t h o.op,x∈id::B9 t h o.op:=λx hx=>hx;obtain ⟨hS',e2,la⟩:=GL (sub hl) (hid (by simp) hl) hdr hev;refine ⟨hS',.inl e2,?_⟩;cases ha:I8 o.op with
   | true=>exact lay (by simp) hl la hov (λx hx=>hx) (λx h1 h2=>absurd h1 h2) (.inr λx hx=>hx)
   | false=>exact lay (by simp) hl la hov (λx hx=>Bj hx) (λx h1 h2=>Es h1 h2) (.inl (Lf hdr ha hq hev _ (.inl ⟨_,rfl⟩)))
 ·rename_i h1 hev;rw [Ia hdr ht] at hev;replace e:=EZ e;obtain ⟨hqa,e⟩:=e;simp only [Bool.or_eq_false_iff] at hqa;obtain ⟨h2,hov,e⟩:=AL e;simp only [Prod.mk.injEq] at e;obtain ⟨rfl,rfl,rfl,rfl⟩:=e;have hl : ∀ x∈id::B9 t h o.op,x∈id::B9 t h o.op:=λx hx=>hx;obtain ⟨hS',e2,la⟩:=GL (sub hl) (hid (by simp) hl) hdr hev;have hst:Stays (h.cut (id::B9 t h o.op)) h1:=Lf hdr hqa.2 hqa.1 hev _ (.inr rfl);exact ⟨hS',.inr (.inl ⟨e2,rfl⟩),lay (by simp) hl la hov (λx hx=>Bj hx) (λx h1 h2=>Es h1 h2) (.inl hst)⟩
 ·rename_i f args hev;rw [Ia hdr ht] at hev;split at e
  ·rename_i as l hp;split at e
   ·rename_i v0 h1 hcall
    have key:(∀ x∈id::B9 t h o.op,x∈rd) -> ∀ (hl : ∀ x∈id::l,x∈rd),∃ hS',A0 P tS hS id o=some (.call f args)/\Cj (λ_=>false) rec id f args hS=some (.ret v0,hS')/\Lay (h.cut (id::l)) hS h1 hS' id/\(flat v0=true->h1=h.cut (id::l))/\Stays (h.cut (id::l)) h1:=by
     intro hl0 hl;have hev2:A0 P tS hS id o=some (.call f args):=GL (sub hl0) (hid (by simp) hl0) hdr hev;obtain ⟨⟨hS',e3,la⟩,k2,k3⟩:=N4 (sub hl) (hid (by simp) hl) hcall;exact ⟨hS',hev2,e3,la,k2,k3⟩
    cases hfl:flat v0 with
    | true =>
     simp only [hfl,cond_true,Option.some.injEq,Prod.mk.injEq] at e;obtain ⟨rfl,rfl,rfl,rfl⟩:=e
     have hin : ∀ x∈id::l,x∈(id::B9 t h o.op)++l:=λx hx=>by
      simp only [List.mem_cons,List.mem_append] at hx ⊢;rcases hx with rfl | hx
      ·exact .inl (.inl rfl)
      ·exact .inr hx
     obtain ⟨hS',e2,e3,la,k2,k3⟩:=key (λx hx=>List.mem_append_left _ hx) hin;have:=k2 hfl;subst this;exact ⟨hS',.inr (.inr ⟨f,args,e2,e3⟩),same hin la rfl⟩
    | false =>
     simp only [hfl,cond_false] at e;obtain ⟨h2,hov,e⟩:=AL e;simp only [Prod.mk.injEq] at e;obtain ⟨rfl,rfl,rfl,rfl⟩:=e
     have hin : ∀ x∈id::l,x∈(id::B9 t h o.op)++l:=λx hx=>by
      simp only [List.mem_cons,List.mem_append] at hx ⊢;rcases hx with rfl | hx
      ·exact .inl (.inl rfl)
      ·exact .inr hx
     obtain ⟨hS',e2,e3,la,k2,k3⟩:=key (λx hx=>List.mem_append_left _ hx) hin;exact ⟨hS',.inr (.inr ⟨f,args,e2,e3⟩),lay (by simp) hin la hov (λx hx=>Bj hx) (λx h1 h2=>Es h1 h2) (.inl k3)⟩
   ·cases e
  ·cases e
 ·cases e
end
end Go.Proofs.YthpkjfabdccpdaaGreat.Pi
namespace Go.Proofs.YthpkjfabdccpdaaGreat.Pi
section
variable {P:Program} {rec:Np}
theorem MX {nt : Nat} {dst : Option Nat} {v : PV} {t t' : T PV} (hnt : nt <= 1048575) (h : PF nt dst v t t') {k : Nat} (hk : dst ≠ some k) : t'.get k = t.get k := by
  unfold PF at h;cases hd : dst with
  | none => rw [hd] at h; rw [show t' = t from h]
  | some d =>
    rw [hd] at h;obtain ⟨h1, rfl⟩ := h
    rw [T.get_put 20 t d v k (by have : (2 : Nat) ^ 20 - 1 = 1048575 := by decide
                                 omega), if_neg (by intro e; subst e; exact hk hd)]
theorem R8 {nt d : Nat} {v : PV} {t t' : T PV} (hnt : nt <= 1048575) (h : PF nt (some d) v t t') : d < nt /\ t'.get d = some v := by
  obtain ⟨h1, rfl⟩ := h
  exact ⟨h1, by rw [T.get_put 20 t d v d (by have : (2 : Nat) ^ 20 - 1 = 1048575 := by decide
                                             omega), if_pos rfl]⟩
theorem R9 {base nt n : Nat} {opsl : List Oper} {tr : Tr} (hst : ∀ j, j < n -> ∃ o, opsl[j]? = some o /\ tr.StepAt P rec base nt opsl j o)
    (hun : ∀ j, j < n -> ∀ x, x ∉ tr.wr j -> (tr.hp (j + 1)).get x = (tr.hp j).get x) {x a : Nat} : ∀ b, a <= b -> b <= n -> (∀ j, a <= j -> j < b -> x ∉ tr.wr j) -> (tr.hp b).get x = (tr.hp a).get x
  | 0, ha, _, _ => by have : a = 0 := by omega
                      subst this; rfl
  | b + 1, ha, hb, h => by
    by_cases he : a = b + 1
    · subst he; rfl
    · rw [hun b (by omega) x (h b (by omega) (by omega)), R9 hst hun b (by omega) (by omega) fun j h1 h2 => h j h1 (by omega)]
theorem SA {n : Nat} {ops : Array Oper} {tr : Tr} (hun : ∀ j o, j < n -> ops[j]? = some o -> ∀ k, o.dst ≠ some k -> (tr.ts (j + 1)).get k = (tr.ts j).get k) (hops : ops.size = n) {k a : Nat} : ∀ b, a <= b -> b <= n -> (∀ j o, a <= j -> j < b -> ops[j]? = some o -> o.dst ≠ some k) -> (tr.ts b).get k = (tr.ts a).get k
  | 0, ha, _, _ => by have : a = 0 := by omega
                      subst this; rfl
  | b + 1, ha, hb, h => by
    by_cases he : a = b + 1
    · subst he; rfl
    · have ho := Array.getElem?_eq_getElem (xs := ops) (i := b) (by omega)
      rw [hun b _ (by omega) ho k (h b _ (by omega) (by omega) ho), SA hun hops b (by omega) (by omega) fun j o h1 h2 h3 => h j o h1 (by omega) h3]
theorem SB {ops:Array Oper} {t tS:T PV} {g:Option (Nat×Bool)} (h : ∀ k,Kk (H9 ops.toList g) k=true->tS.get k=t.get k):Cd ops.toList tS g=Cd ops.toList t g:=by
 unfold Cd;cases g with
 | none=>rfl
 | some g =>
  obtain ⟨j,want⟩:=g;simp only;cases hj:lget ops.toList j with
  | none=>rfl
  | some o =>
   simp only;cases hd:o.dst with
   | none=>rfl
   | some d =>
    simp only;rw [h d (by simp only [H9,hj,hd,Kj,Lg];simp)]
theorem Yh (R:RecOK P rec):Lc P rec:=by
 intro ops base fr fr' h h' e hm M μ w b a cs k t s f;unfold drawn at e;split at e
 ·rename_i ms hmarks;split at e
  ·rename_i tE hE hgo;cases e
   let n:=ops.size
   obtain ⟨⟨ms',hms',hmslen⟩,hms⟩:=R6 ops.toList 0 [] ms hmarks rfl;simp only [Nat.zero_add] at hms;obtain ⟨tr,k1,k2,k3,k4,_,k6⟩:=R4 ops.toList ms 0 [] fr.t h hgo (λ_=>[]) (λ_=>[]) (λk hk=>by omega);simp only [Nat.zero_add,Array.length_toList] at k3 k4 k6;have hnt:fr.nt<=1048575:=by have:=f.t.1;omega
   have opAt : ∀ j,j<n -> ∃ o m,ops[j]? = some o/\ms[j]? = some m/\R5 ops.toList ms j o m/\tr.StepAt P rec base fr.nt ops.toList j o /\ ∀ k,k<j->tr.Clear m.bef j k:=by
    intro j hj;have ho:ops[j]? = some ops[j]:=Array.getElem?_eq_getElem hj;obtain ⟨m,hm1,hm2⟩:=hms j ops[j] (by simp);obtain ⟨q1,q2⟩:=k6 j ops[j] m (by simp) hm1;exact ⟨_,m,ho,hm1,hm2,q1,q2⟩
   have hedge : ∀ i o,ops[i]? = some o -> ∀ e∈o.after.toList,Region.binds .any e=true->e.on<i:=by
    intro i o ho e he hb;obtain ⟨m,_,hm2⟩:=hms i o (by simpa using ho);exact JP hm2.2.2.2.1 e he hb
   obtain ⟨sn,smem,spre⟩:=Yg (mixed:=P.follows .mixedOrders) hm hedge t;generalize Region.schedule (P.follows .mixedOrders) ops t=σ at sn smem spre;have befIn:=iG hms spre
   have tclear : ∀ i o m,ops[i]? = some o->ms[i]? = some m->R5 ops.toList ms i o m -> ∀ j o' m',ops[j]? = some o'->ms[j]? = some m'->R5 ops.toList ms j o' m'->j<i ->
     Kk m.bef j=true\/(ND m'.wr (Nat.lor m.rd m.wr)=true/\ND m'.rd m.wr=true):=by
    intro i o m ho hmi hat j o' m' ho' hmj hat' hlt;have:=NL hat.2.2.2.2 j m' (by rw [List.getElem?_take,if_pos hlt];exact hmj);simpa using this
   have place : ∀ {p:List Nat} {i:Nat} {q:List Nat},σ=p++i::q -> ∀ o m,ops[i]? = some o->ms[i]? = some m->R5 ops.toList ms i o m ->
     i ∉ p/\(∀ j,Kk m.bef j=true->j∈p)/\(∀ j o' m',ops[j]? = some o'->ms[j]? = some m'->Kk m'.bef i=true->j ∉ p):=by
    intro p i q he o m ho hmi hat;rw [he] at sn
    have hip:i ∉ p:=by
     intro hin;have:=(List.nodup_append.1 sn).2.2 i hin i (by simp);exact this rfl
    refine ⟨hip,λj hj=>befIn i o m ho hmi p q he j hj,?_⟩;intro j o' m' ho' hmj hb hin;obtain ⟨p1,p2,hp⟩:=List.append_of_mem hin;have:=befIn j o' m' ho' hmj p1 (p2++i::q) (by rw [he,hp];simp) i hb;exact hip (by rw [hp];simp [this])
   have claimT : ∀ {p:List Nat} {i:Nat} {q:List Nat},σ=p++i::q -> ∀ o m,ops[i]? = some o->ms[i]? = some m->R5 ops.toList ms i o m -> ∀ d,(Kk m.rd d=true\/Kk m.wr d=true) ->
     ∀ j o',ops[j]? = some o'->o'.dst=some d->(j∈p<->j<i):=by
    intro p i q he o m ho hmi hat d hd j o' ho' hdst;obtain ⟨hip,hb1,hb2⟩:=place he o m ho hmi hat;have hj:j<n:=(Array.getElem?_eq_some_iff.1 ho').1;obtain ⟨o2,m',ho2,hmj,hat',_,_⟩:=opAt j hj;rw [ho'] at ho2;cases ho2;have hwj:Kk m'.wr d=true:=by rw [hat'.2.1,hdst];simp only [Kj,Lg];simp
    rcases Nat.lt_trichotomy j i with hlt | rfl | iv
    ·refine ⟨λ_=>hlt,λ_ => ?_⟩;rcases tclear i o m ho hmi hat j o' m' ho' hmj hat' hlt with hb | ⟨c1,_⟩
     ·exact hb1 j hb
     ·exact absurd ⟨hwj,by rw [J4];rcases hd with h | h<;>simp [h]⟩ (N5 c1 d)
    ·exact ⟨λh=>absurd h hip,λh=>by omega⟩
    ·refine ⟨λhin => ?_,λh=>by omega⟩;rcases tclear j o' m' ho' hmj hat' i o m ho hmi hat iv with hb | ⟨c1,c2⟩
     ·exact absurd hin (hb2 j o' m' ho' hmj hb)
     ·rcases hd with h | h
      ·exact absurd ⟨h,hwj⟩ (N5 c2 d)
      ·exact absurd ⟨h,by rw [J4,hwj];simp⟩ (N5 c1 d)
   have claimH : ∀ {p:List Nat} {i:Nat} {q:List Nat},σ=p++i::q->i<n -> ∀ x,x∈tr.rd i -> ∀ j,j<n->x∈tr.wr j->(j∈p<->j<i):=by
    intro p i q he hi x hx j hj hxj;obtain ⟨o,m,ho,hmi,hat,hstep,hcl⟩:=opAt i hi;obtain ⟨o',m',ho',hmj,hat',hstep',hcl'⟩:=opAt j hj;obtain ⟨hip,hb1,hb2⟩:=place he o m ho hmi hat;rcases Nat.lt_trichotomy j i with hlt | rfl | iv
    ·refine ⟨λ_=>hlt,λ_ => ?_⟩;rcases hcl j hlt with hb | ⟨c1,c2⟩
     ·exact hb1 j hb
     ·exact absurd ⟨hxj,hx⟩ (Cr c1 x)
    ·exact ⟨λh=>absurd h hip,λh=>by omega⟩
    ·refine ⟨λhin => ?_,λh=>by omega⟩;rcases hcl' i iv with hb | ⟨c1,c2⟩
     ·exact absurd hin (hb2 j o' m' ho' hmj hb)
     ·exact absurd ⟨hxj,hx⟩ (Cr c2 x)
   have unH : ∀ j,j<n->(∀ x,x ∉ tr.wr j->(tr.hp (j+1)).get x=(tr.hp j).get x)/\(∀ x,x∈tr.wr j->x∈tr.rd j):=by
    intro j hj;obtain ⟨o,m,ho,hmi,hat,hstep,hcl⟩:=opAt j hj;rcases hstep with ⟨_,v,hd,_⟩ | ⟨_,h1,_,h3,_⟩
    ·obtain ⟨hS',_,c1,c2⟩:=NM hd (tS:=tr.ts j) (hS:=tr.hp j) (λ_ _=>rfl) (λ_ _=>rfl);exact ⟨λx hx=>(c1 x hx).2,λx hx=>(c2 x hx).1⟩
    ·exact ⟨λx _=>by rw [h1],λx hx=>by rw [h3] at hx;simp at hx⟩
   have unT : ∀ j o,j<n->ops[j]? = some o -> ∀ k,o.dst≠some k->(tr.ts (j+1)).get k=(tr.ts j).get k:=by
    intro j o hj ho k hk;obtain ⟨o2,m,ho2,hmi,hat,hstep,hcl⟩:=opAt j hj;rw [ho] at ho2;cases ho2;rcases hstep with ⟨_,v,_,hp⟩ | ⟨_,_,_,_,hp⟩
    ·exact MX hnt hp hk
    ·exact MX hnt hp hk
   have hp_eq : ∀ {x a b:Nat},a<=b->b<=n->(∀ j,a<=j->j<b->x ∉ tr.wr j)->(tr.hp b).get x=(tr.hp a).get x:=λh1 h2 h3 =>
    R9 (P:=P) (rec:=rec) (base:=base) (nt:=fr.nt) (opsl:=ops.toList) (n:=n) (λj hj=>let ⟨o,_,ho,_,_,hs,_⟩:=opAt j hj;⟨o,by simpa using ho,hs⟩) (λj hj x hx=>(unH j hj).1 x hx) _ h1 h2 h3
   have ts_eq : ∀ {k a b:Nat},a<=b->b<=n->(∀ j o,a<=j->j<b->ops[j]? = some o->o.dst≠some k)->(tr.ts b).get k=(tr.ts a).get k:=λh1 h2 h3 =>
    SA unT rfl _ h1 h2 h3
   have main : ∀ (post pre:List Nat) (tS:T PV) (hS:Hp),σ=pre++post->e8 n ops tr pre tS->e9 n tr pre hS ->
     ∃ tE hE,BW P (λ_=>false) rec base ops.toList (post.map λi=>(i,(ops[i]?).getD default)) { fr with t:=tS } hS=some (.normal,{ fr with t:=tE },hE)/\e8 n ops tr σ tE/\e9 n tr σ hE:=by
    intro post
    induction post with
    | nil =>
     intro pre tS hS he hT hH;rw [List.append_nil] at he;subst he;exact ⟨tS,hS,rfl,hT,hH⟩
    | cons i post ih =>
     intro pre tS hS he hT hH;have hi:i<n:=(smem i).1 (by rw [he];simp);obtain ⟨o,m,ho,hmi,hat,hstep,hcl⟩:=opAt i hi;have cT:=claimT he o m ho hmi hat;have cH:=claimH he hi;obtain ⟨hip,_,_⟩:=place he o m ho hmi hat;have agT : ∀ d,(Kk m.rd d=true\/Kk m.wr d=true)->tS.get d=(tr.ts i).get d:=λd hd=>hT d i (by omega) (λj o' ho' hdst=>cT d hd j o' ho' hdst);have agH : ∀ x,x∈tr.rd i->hS.get x=(tr.hp i).get x:=λx hx=>hH x i (by omega) (λj hj hxj=>cH x hx j hj hxj);have hrdbit : ∀ d,Kk m.rd d=(Kk (IW (CN o.op)) d||Kk (H9 ops.toList o.guard) d):=by intro d;rw [hat.1,J4]
     have agO:Kt (tr.ts i) tS (CN o.op):=λd hd=>(agT d (.inl (by rw [hrdbit,NK hd];simp))).symm;have hwant:Cd ops.toList tS o.guard=Cd ops.toList (tr.ts i) o.guard:=SB λd hd=>agT d (.inl (by rw [hrdbit,hd];simp))
     have next : ∀ {v:PV} {hS':Hp} {fr1:Fr},PF fr.nt o.dst v (tr.ts i) (tr.ts (i+1))->(∀ x,x ∉ tr.wr i->hS'.get x=hS.get x)->(∀ x,x∈tr.wr i->hS'.get x=(tr.hp (i+1)).get x) ->
       ∃ tS',PF fr.nt o.dst v tS tS'/\e8 n ops tr (pre++[i]) tS'/\e9 n tr (pre++[i]) hS':=by
      intro v hS' _ Ad h1 h2
      have hH':e9 n tr (pre++[i]) hS':=by
       intro x m' hm' hw;by_cases hx:x∈tr.wr i
       ·have him:i<m':=(hw i hi hx).1 (by simp);rw [h2 x hx];refine (hp_eq (by omega) hm' λj hj1 hj2 hxj => ?_).symm;have hjn:j<n:=by omega
        have hin:=(hw j hjn hxj).2 hj2;simp only [List.mem_append,List.mem_singleton] at hin;rcases hin with hin | rfl
        ·have:=(cH x ((unH i hi).2 x hx) j hjn hxj).1 hin;omega
        ·omega
       ·rw [h1 x hx];refine hH x m' hm' λj hj hxj => ?_;have hji:j≠i:=by intro e;subst e;exact hx hxj
        rw [<- hw j hj hxj];simp [hji]
      have invT : ∀ tS',(∀ k,o.dst≠some k->tS'.get k=tS.get k)->(∀ k,o.dst=some k->tS'.get k=(tr.ts (i+1)).get k)->e8 n ops tr (pre++[i]) tS':=by
       intro tS' g1 g2 k m' hm' hw;by_cases hk:o.dst=some k
       ·have him:i<m':=(hw i o ho hk).1 (by simp);rw [g2 k hk];refine (ts_eq (by omega) hm' λj o' hj1 hj2 ho' hdst => ?_).symm;have hin:=(hw j o' ho' hdst).2 hj2;simp only [List.mem_append,List.mem_singleton] at hin;rcases hin with hin | rfl
        ·have:=(cT k (.inr (by rw [hat.2.1,hk];simp only [Kj,Lg];simp)) j o' ho' hdst).1 hin;omega
        ·omega
       ·rw [g1 k hk];refine hT k m' hm' λj o' ho' hdst => ?_;have hji:j≠i:=by intro e;subst e;rw [ho] at ho';cases ho';exact hk hdst
        rw [<- hw j o' ho' hdst];simp [hji]
      cases hd:o.dst with
      | none =>
       exact ⟨tS,rfl,invT tS (λ_ _=>rfl) (λk hk=>by rw [hd] at hk;cases hk),hH'⟩
      | some d =>
       rw [hd] at Ad;obtain ⟨hlt,hget⟩:=R8 hnt Ad;have hp2:PF fr.nt (some d) v tS (T.put 20 tS d v):=⟨hlt,rfl⟩;refine ⟨T.put 20 tS d v,hp2,invT _ (λk hk=>MX hnt hp2 (by rw [<- hd];exact hk)) (λk hk => ?_),hH'⟩;rw [hd] at hk;cases hk;rw [(R8 hnt hp2).2,hget]
     have hget:(ops[i]?).getD default=o:=by rw [ho];rfl
     have frput : ∀ {v:PV} {tS':T PV},PF fr.nt o.dst v tS tS'->({ fr with t:=tS }:Fr).put o.dst v=some { fr with t:=tS' }:=by
      intro v tS' Ad;unfold Fr.put;cases hd:o.dst with
      | none=>rw [hd] at Ad;rw [show tS'=tS from Ad]
      | some d =>
       rw [hd] at Ad;obtain ⟨h1,rfl⟩:=Ad;have:Nat.blt d fr.nt=true:=by simpa using h1
       simp only [this,cond_true]
     have he2:σ=(pre++[i])++post:=by rw [he];simp
     simp only [List.map_cons,hget];unfold BW;rcases hstep with ⟨hw1,v,hd,Ad⟩ | ⟨hw1,hh1,hrd,hwr,Ad⟩
     ·simp only [hwant,hw1,cond_true];obtain ⟨hS',hev,c1,c2⟩:=NM hd agO agH;obtain ⟨tS',p1,p2,p3⟩:=next (fr1:=fr) Ad (λx hx=>(c1 x hx).1) (λx hx=>(c2 x hx).2)
      obtain ⟨tE,hE,q1,q2,q3⟩:=ih (pre++[i]) tS' hS' he2 p2 p3;refine ⟨tE,hE,?_,q2,q3⟩;rcases hev with hev | ⟨hev,rfl⟩ | ⟨fid,args,hev,hcall⟩
      ·simp only [hev,frput p1,q1]
      ·simp only [hev,frput p1,q1]
      ·simp only [hev,hcall,frput p1,q1]
     ·simp only [hwant,hw1,cond_false];obtain ⟨tS',p1,p2,p3⟩:=next (fr1:=fr) (hS':=hS) Ad (λx hx=>rfl) (λx hx=>by rw [hwr] at hx;simp at hx)
      obtain ⟨tE,hE,q1,q2,q3⟩:=ih (pre++[i]) tS' hS he2 p2 p3;exact ⟨tE,hE,by simp only [frput p1,q1],q2,q3⟩
   obtain ⟨tE',hE',q1,q2,q3⟩:=main σ [] fr.t h rfl
    (λk m' hm' hw=>by
     rw [<- k1];refine (ts_eq (Nat.zero_le _) hm' λj o _ hj ho hdst => ?_).symm;have:=(hw j o ho hdst).2 hj
     simp at this)
    (λx m' hm' hw=>by
     rw [<- k2];refine (hp_eq (Nat.zero_le _) hm' λj _ hj hxj => ?_).symm;have:=(hw j (by omega) hxj).2 hj
     simp at this)
   have eT : ∀ k,tE'.get k=tE.get k:=by
    intro k;rw [<- k3];exact q2 k n (Nat.le_refl _) λj o ho _=>by rw [smem]
   have eH : ∀ x,hE'.get x=h'.get x:=by
    intro x;rw [<- k4];exact q3 x n (Nat.le_refl _) λj hj _=>by rw [smem]
   have hran:=MS R (ops:=ops) (base:=base) _ q1 (λx hx=>by
    obtain ⟨i,hi,rfl⟩:=List.mem_map.1 hx;have:=(smem i).1 hi
    simp [Array.getElem?_eq_getElem this]) k s f
   have hσ:(σ.map λi=>(i,(ops[i]?).getD default)).map (·.1)=σ:=by simp [List.map_map,Function.comp_def]
   rw [hσ] at hran;obtain ⟨M',μ',w',a',cs',r1,r2,r3,r4,r5⟩:=hran
   exact ⟨M',μ',w',a',cs',r1.nx (λx=>(eH x).symm),r2,⟨⟨r3.t.1,r3.t.2.1,λk=>by
    have:=r3.t.2.2 k;simp only at this;rw [eT k] at this
    exact this⟩,r3.d,r3.u,r3.r⟩,r4,r5⟩
  ·cases e
 ·cases e
end
end Go.Proofs.YthpkjfabdccpdaaGreat.Pi
namespace Go.Proofs.YthpkjfabdccpdaaGreat.Pi
end Go.Proofs.YthpkjfabdccpdaaGreat.Pi
namespace Go.Proofs.YthpkjfabdccpdaaGreat.Pi
open Go.RowKit
end Go.Proofs.YthpkjfabdccpdaaGreat.Pi
namespace Go.Proofs.YthpkjfabdccpdaaGreat.Pi
section
variable {P:Program} {sh:FuncId->Bool} {M:B5} {μ:Mu} {h:Hp} {w:World}
structure Kn where
 f:FuncId
 args:List PV
 q:PV
 h:Hp
open Go.RowKit in
end
end Go.Proofs.YthpkjfabdccpdaaGreat.Pi
namespace Go.Proofs.YthpkjfabdccpdaaGreat.Pi
def Lh (r r':Np):Prop := ∀ tg up args h x,r tg up args h=some x->r' tg up args h=some x
section
variable {P:Program} {sh:FuncId->Bool} {rec rec':Np}
theorem Pd (L:Lh rec rec') {id:Nat} {f:FuncId} {args:List PV} {h:Hp} {x:Out×Hp} (e:Cj sh rec id f args h=some x):Cj sh rec' id f args h=some x:=by
 unfold Cj at e ⊢;cases hs:sh f with
 | true =>
  simp only [hs,cond_true] at e ⊢;cases hr:rec (.fn f) none args h with
  | none=>rw [hr] at e;cases e
  | some y=>rw [hr] at e;rw [L _ _ _ _ _ hr];exact e
 | false =>
  simp only [hs,cond_false] at e ⊢;cases hp:By h args with
  | none=>rw [hp] at e;cases e
  | some a =>
   rw [hp] at e;simp only at e ⊢;cases hr:rec (.fn f) none a.1 { m:=.lf,nx:=0 } with
   | none=>rw [hr] at e;cases e
   | some y=>rw [hr] at e;rw [L _ _ _ _ _ hr];exact e
theorem Pe (L:Lh rec rec') {base:Nat} {ops:List Oper} : ∀ {l:List (Nat×Oper)} {fr:Fr} {h:Hp} {x:Ex×Fr×Hp},BW P sh rec base ops l fr h=some x->BW P sh rec' base ops l fr h=some x
 | [],fr,h,x,e=>e
 | (i,o)::r,fr,h,x,e=>by
  unfold BW at e ⊢
  have put : ∀ {fr:Fr} {dst:Option Nat} {v:PV} {h:Hp},(match fr.put dst v with
    | some fr=>BW P sh rec base ops r fr h
    | none=>none)=some x->(match fr.put dst v with
    | some fr=>BW P sh rec' base ops r fr h
    | none=>none)=some x:=by
   intro fr dst v h e;split at e
   ·rename_i fr1 hp;exact Pe L e
   ·cases e
  cases hw:Cd ops fr.t o.guard with
  | false=>simp only [hw,cond_false] at e ⊢;exact put (h:=h) e
  | true =>
   simp only [hw,cond_true] at e ⊢;cases he:A0 P fr.t h (base+i) o with
   | none=>rw [he] at e;cases e
   | some y =>
    rw [he] at e;cases y with
    | val v h1=>exact put (h:=h1) e
    | skip h1=>exact put (h:=h1) e
    | dfr d =>
     simp only at e ⊢;cases hro:fr.ro with
     | none=>rw [hro] at e;exact put e
     | some _=>rw [hro] at e;cases e
    | call f args =>
     simp only at e ⊢;cases hd:Cj sh rec (base+i) f args h with
     | none=>rw [hd] at e;cases e
     | some z =>
      rw [hd] at e;rw [Pd L hd];obtain ⟨o',h'⟩:=z;cases o' with
      | ret v=>exact put (h:=h') e
      | pan ch =>
       cases ch with
       | nil=>cases e
       | cons a l =>
        obtain ⟨v,rc⟩:=a;cases l<;>cases rc<;>first | exact e | cases e
    | yield l args =>
     simp only at e ⊢;cases hr:rec (.yl l) none args h with
     | none=>rw [hr] at e;cases e
     | some z =>
      rw [hr] at e;rw [L _ _ _ _ _ hr];obtain ⟨o',u',h'⟩:=z;cases o' with
      | ret v=>exact put e
      | pan ch=>exact e
    | pan v=>exact e
    | rcv =>
     simp only at e ⊢;cases hro:fr.ro with
     | some _=>rw [hro] at e;cases e
     | none =>
      rw [hro] at e;simp only at e ⊢;cases hu:fr.up with
      | none=>rw [hu] at e;exact put (h:=h) e
      | some u =>
       rw [hu] at e;cases u with
       | ret=>exact put (h:=h) e
       | pan ch =>
        cases ch with
        | nil=>exact put (h:=h) e
        | cons a older =>
         obtain ⟨v,rc⟩:=a;cases rc<;>exact put (h:=h) e
theorem Ti (L:Lh rec rec') {t:T PV} {h:Hp} {id:Nat} {o:Oper} {x:PV×Hp×List Nat×List Nat} (e:CL P rec t h id o=some x):CL P rec' t h id o=some x:=by
 unfold CL at e ⊢;dsimp only at e ⊢;cases hc : !CA o.op || !Nat.blt id (id+1) with
 | true=>rw [hc] at e;cases e
 | false =>
  rw [hc] at e;simp only [cond_false] at e ⊢;cases he:A0 P t (h.cut (id::B9 t h o.op)) id o with
  | none=>rw [he] at e;cases e
  | some y =>
   rw [he] at e;cases y with
   | call f args =>
    simp only at e ⊢;cases hp:By h args with
    | none=>rw [hp] at e;cases e
    | some a =>
     rw [hp] at e;simp only at e ⊢;cases hd:Cj (λ_=>false) rec id f args (h.cut (id::a.2)) with
     | none=>rw [hd] at e;cases e
     | some z=>rw [hd] at e;rw [Pd L hd];exact e
   | _=>exact e
theorem HG (L:Lh rec rec') {base nt:Nat} {ops:List Oper} : ∀ {l:List Oper} {i:Nat} {ms:List Mk} {past:List (Nat×List Nat×List Nat)} {t:T PV} {h:Hp} {x:T PV×Hp},BP P rec base nt ops i l ms past t h=some x->BP P rec' base nt ops i l ms past t h=some x
 | [],i,ms,past,t,h,x,e=>by unfold BP at e ⊢;exact e
 | o::l,i,[],past,t,h,x,e=>by unfold BP at e;cases e
 | o::l,i,m::ms,past,t,h,x,e=>by
  unfold BP at e ⊢;cases hw:Cd ops t o.guard with
  | true =>
   simp only [hw,cond_true] at e ⊢;cases hd:CL P rec t h (base+i) o with
   | none=>rw [hd] at e;cases e
   | some z =>
    rw [hd] at e;rw [Ti L hd];obtain ⟨v,h1,rd,wr⟩:=z;simp only at e ⊢;cases hh:Kl m.bef rd wr past with
    | false=>rw [hh] at e;cases e
    | true =>
     simp only [hh,cond_true] at e ⊢;cases hdst:o.dst with
     | none=>rw [hdst] at e;exact HG L e
     | some d =>
      rw [hdst] at e;simp only at e ⊢;cases hb:Nat.blt d nt with
      | false=>rw [hb] at e;cases e
      | true=>rw [hb] at e;exact HG L e
  | false =>
   simp only [hw,cond_false] at e ⊢;cases hdst:o.dst with
   | none=>rw [hdst] at e;exact HG L e
   | some d =>
    rw [hdst] at e;simp only at e ⊢;cases hb:Nat.blt d nt with
    | false=>rw [hb] at e;cases e
    | true=>rw [hb] at e;exact HG L e
theorem Yi (L:Lh rec rec') {base:Nat} {ops:List Oper} {fr:Fr} {h:Hp} {x:Fr×Hp} (e:drawn P rec base ops fr h=some x):drawn P rec' base ops fr h=some x:=by
 unfold drawn at e ⊢;split at e
 ·rename_i ms hm;cases hd:BP P rec base fr.nt ops 0 ops ms [] fr.t h with
  | none=>rw [hd] at e;cases e
  | some z=>rw [hd] at e;rw [HG L hd];exact e
 ·cases e
theorem Ge (L:Lh rec rec') : ∀ {n n':Nat} {c:Code} {fr:Fr} {h:Hp} {x:Ex×Fr×Hp},n<=n'->exec P sh rec n c fr h=some x->exec P sh rec' n' c fr h=some x
 | 0,n',c,fr,h,x,hn,e=>by unfold exec at e;cases e
 | n+1,n',c,fr,h,x,hn,e=>by
  obtain ⟨m,rfl⟩ : ∃ m,n'=m+1:=⟨n'-1,by omega⟩;have hn:n<=m:=by omega
  unfold exec at e ⊢;cases c with
  | skip=>exact e
  | label _=>exact e
  | seq a b =>
   simp only at e ⊢;cases hx:exec P sh rec n a fr h with
   | none=>rw [hx] at e;cases e
   | some y =>
    rw [hx] at e;rw [Ge L hn hx];obtain ⟨ex,fr1,h1⟩:=y;cases ex<;>first | exact Ge L hn e | exact e
  | cond c a b =>
   simp only at e ⊢;cases hc:GI fr.t c with
   | none=>rw [hc] at e;cases e
   | some v =>
    rw [hc] at e;cases v with
    | bool b=>cases b<;>exact Ge L hn e
    | _=>cases e
  | block id b =>
   simp only at e ⊢;cases hx:exec P sh rec n b fr h with
   | none=>rw [hx] at e;cases e
   | some y=>rw [hx] at e;rw [Ge L hn hx];exact e
  | loop b =>
   simp only at e ⊢;cases hx:exec P sh rec n b fr h with
   | none=>rw [hx] at e;cases e
   | some y =>
    rw [hx] at e;rw [Ge L hn hx];obtain ⟨ex,fr1,h1⟩:=y;cases ex<;>first | exact Ge L hn e | exact e
  | scope b =>
   simp only at e ⊢;cases hx:exec P sh rec n b fr h with
   | none=>rw [hx] at e;cases e
   | some y=>rw [hx] at e;rw [Ge L hn hx];exact e
  | exit _=>exact e
  | goto _=>exact e
  | ret=>exact e
  | refuse _=>exact e
  | region id ops draw =>
   cases draw with
   | false=>exact Pe L e
   | true =>
    simp only [cond_true] at e ⊢;cases hb:P.follows .mixedOrders || !Region.departs ops with
    | false=>rw [hb] at e;cases e
    | true =>
     simp only [hb,cond_true] at e ⊢;cases hd:drawn P rec h.nx ops.toList fr { h with nx:=h.nx+ops.size } with
     | none=>rw [hd] at e;cases e
     | some z=>rw [hd] at e;rw [Yi L hd];exact e
  | rangeFunc g ps asg body =>
   simp only at e ⊢;split at e
   ·rename_i f a b hg
    try simp only [hg]
    split at e
    ·rename_i d mark h1 hm
     try simp only [hm]
     split at e
     ·rename_i h2 hnew
      try simp only [hnew]
      split at e
      ·rename_i f2 args hinv
       try simp only [hinv]
       cases hr:rec (.fn f2) none args { h2 with nx:=h.nx+1+1 } with
       | none=>rw [hr] at e;cases e
       | some z=>rw [hr] at e;rw [L _ _ _ _ _ hr];exact e
      ·cases e
     ·cases e
    ·cases e
   ·cases e
theorem Li (L:Lh rec rec') {fn:Func} : ∀ {n n':Nat} {ds:List DF} {u:UM} {t:T PV} {h:Hp} {x:Out×Hp},n<=n'->leave P rec fn n ds u t h=some x->leave P rec' fn n' ds u t h=some x
 | 0,n',ds,u,t,h,x,hn,e=>by unfold leave at e;cases e
 | n+1,n',ds,u,t,h,x,hn,e=>by
  obtain ⟨m,rfl⟩ : ∃ m,n'=m+1:=⟨n'-1,by omega⟩;have hn:n<=m:=by omega
  unfold leave at e ⊢;cases ds with
  | nil=>exact e
  | cons d ds =>
   cases d with
   | col id =>
    simp only at e ⊢;split at e
    ·rename_i l hg
     try simp only [hg]
     split at e
     ·rename_i h1 hs
      try simp only [hs]
      exact Li L hn e
     ·cases e
    ·cases e
   | bi b ats ty args =>
    simp only at e ⊢;split at e
    ·split at e
     ·rename_i v h1 hb
      try simp only [hb]
      exact Li L hn e
     ·cases e
    ·cases e
   | call f args =>
    simp only at e ⊢;split at e
    ·rename_i g a b;split at e
     ·rename_i g2 args2 hinv
      try simp only [hinv]
      cases hr:rec (.fn g2) (some u) args2 h with
      | none=>rw [hr] at e;cases e
      | some z =>
       rw [hr] at e;rw [L _ _ _ _ _ hr];obtain ⟨o',u',h'⟩:=z;cases o' with
       | ret v =>
        cases u' with
        | some u'=>exact Li L hn e
        | none=>cases e
       | pan ch=>cases e
     ·cases e
    ·cases e
theorem Yj {F F':Nat} (hF:F<=F') : ∀ {n n':Nat},n<=n'->Lh (EQ P sh F n) (EQ P sh F' n')
 | 0,n',_=>λtg up args h x e=>by cases e
 | n+1,n',hn=>λtg up args h x e=>by
  obtain ⟨m,rfl⟩ : ∃ m,n'=m+1:=⟨n'-1,by omega⟩;have L:Lh (EQ P sh F n) (EQ P sh F' m):=Yj hF (by omega);unfold EQ at e ⊢
  have tail : ∀ {fn:Func} {fr:Fr} {ds:List DF} {u:UM} {h:Hp},(match leave P (EQ P sh F n) fn F ds u fr.t h with
    | some (o,h)=>some (o,fr.up,h)
    | none=>none)=some x->(match leave P (EQ P sh F' m) fn F' ds u fr.t h with
    | some (o,h)=>some (o,fr.up,h)
    | none=>none)=some x:=by
   intro fn fr ds u h e;cases hl:leave P (EQ P sh F n) fn F ds u fr.t h with
   | none=>rw [hl] at e;cases e
   | some z=>rw [hl] at e;rw [Li L hF hl];exact e
  cases tg with
  | fn f =>
   simp only at e ⊢;split at e
   ·rename_i fn hfn
    try simp only [hfn]
    split at e
    ·rename_i c hc
     try simp only [hc]
     cases hb:Nat.ble args.length fn.ntmps&&Nat.blt fn.ntmps 1048575 with
     | false=>simp only [hb,cond_false] at e;cases e
     | true =>
      simp only [hb,cond_true] at e ⊢;cases hx:exec P sh (EQ P sh F n) F c { t:=EO 0 args .lf,nt:=fn.ntmps,ds:=[],up,ro:=none } h with
      | none=>rw [hx] at e;cases e
      | some y =>
       rw [hx] at e;rw [Ge L hF hx];obtain ⟨ex,fr1,h1⟩:=y;cases ex with
       | normal=>exact tail e
       | ret=>exact tail e
       | panic v=>exact tail e
       | _=>cases e
    ·cases e
   ·cases e
  | yl l =>
   simp only at e ⊢;split at e
   ·rename_i st pd nt t ps asg body0 d hg
    try simp only [hg]
    split at e
    ·rename_i t1 ht
     try simp only [ht]
     cases hx:exec P sh (EQ P sh F n) F asg { t:=t1,nt,ds:=[],up:=none,ro:=some l } h with
     | none=>rw [hx] at e;cases e
     | some y =>
      rw [hx] at e;rw [Ge L hF hx];obtain ⟨ex,fr1,h1⟩:=y;cases ex with
      | normal =>
       simp only at e ⊢;split at e
       ·rename_i pend nt2 t2 ps2 asg2 body2 d2 hg2
        try simp only [hg2]
        split at e
        ·rename_i h3 hs
         try simp only [hs]
         cases hx2:exec P sh (EQ P sh F n) F body0 fr1 h3 with
         | none=>rw [hx2] at e;cases e
         | some y2=>rw [hx2] at e;rw [Ge L hF hx2];exact e
        ·cases e
       ·cases e
      | _=>cases e
    ·cases e
   ·cases e
end
end Go.Proofs.YthpkjfabdccpdaaGreat.Pi
