/- A part of the evaluator of the model's code for any program, and of the proof that it is sound. No condition. -/
import Derived.Test.YtfilfloanndddaaGreatPp1
import Derived.RowKit3
set_option linter.all false
namespace Go.Proofs.YtfilfloanndddaaGreat.Pi
variable [Gl]
def LD (P:Program) (rec:OZ):Prop := ∀ {ops:Array Oper} {base:Nat} {fr c:Fr} {h h':Hp},drawn P rec base ops.toList fr h=some (c,h')->(P.follows .mixedOrders || !Region.departs ops)=true ->
 ∀ {M:CJ} {μ:Mu} {w:World} {b:Frame} {a:Act} {cs:List Frame} (k:List Item) (t:Nat),Sim M μ h w->FrRep M μ fr b a cs->Ran P M μ w (lone (b.atR a (.inRegion ops (Region.schedule (P.follows .mixedOrders) ops t)::k)) cs w) b k cs .normal c h'
section
variable {P:Program} {sh:FuncId->Bool} {rec:OZ}
theorem X4 {α:Type} : ∀ (l:List α) (n:Nat),(Nh n l).map (·.1)=(List.range l.length).map (n+·)
 | [],n=>rfl
 | a::l,n=>by
  simp only [Nh,List.map_cons,List.length_cons,List.range_succ_eq_map,List.map_map];rw [X4 l (n+1)];simp only [Nat.add_zero,List.cons.injEq,true_and];apply List.map_congr_left;intro x _;simp only [Function.comp];omega
theorem X5 {α:Type} : ∀ (l:List α) (n:Nat),∀ x∈Nh n l,n<=x.1/\l[x.1-n]? = some x.2
 | [],n,x,hx=>by simp [Nh] at hx
 | a::l,n,x,hx=>by
  simp only [Nh,List.mem_cons] at hx;rcases hx with rfl | hx
  ·simp
  ·obtain ⟨c,b⟩:=X5 l (n+1) x hx;refine ⟨by omega,?_⟩;rw [show x.1-n=(x.1-(n+1))+1 by omega];simpa using b
section
variable {M:CJ} {μ:Mu} {h h':Hp} {w:World} {b:Frame} {a:Act} {cs:List Frame} {k:List Item} {fr fr':Fr} {ex:Ex} {m:Machine}
theorem Ran.step {a:Machine} (hs:step P m = .next a) (c:Ran P M μ w a b k cs ex fr' h'):Ran P M μ w m b k cs ex fr' h' :=
 let ⟨M',μ',w',a',cs',q1,q2,q3,q4,q5⟩:=c
 ⟨M',μ',w',a',cs',q1,q2,q3,q4,.of_steps (.one hs) q5⟩
theorem Ran.then {fr1:Fr} {g:Hp} {h:List Item} (l:Ran P M μ w m b h cs .normal fr1 g)
  (p : ∀ {d μ1 c e a},Sim d μ1 g c->FrRep d μ1 fr1 b e a->Ran P d μ1 c (lone (b.atR e h) a c) b k a ex fr' h'):Ran P M μ w m b k cs ex fr' h':=by
 obtain ⟨d,μ1,c,e,a,s1,u,j,q,o⟩:=l;obtain ⟨s,μ',w',y,f,r,i,t,n,x⟩:=p s1 j;exact ⟨s,μ',w',y,f,r,u.trans i,t,q.trans n,.of_steps o x⟩
theorem Ran.pass {x:Item} (q:x.plain=true) (e:ex ≠ .normal) (p:Ran P M μ w m b (x::k) cs ex fr' h'):Ran P M μ w m b k cs ex fr' h':=by
 obtain ⟨n,μ',w',l,d,i,h,o,j,a⟩:=p;refine ⟨n,μ',w',l,d,i,h,o,j,?_⟩;cases ex with
 | normal=>exact absurd rfl e
 | exit id=>obtain ⟨g,f,c⟩:=a;exact ⟨g,by rw [f];cases x<;>simp_all [exitTo,Item.plain],c⟩
 | goto id=>obtain ⟨g,f,c⟩:=a;exact ⟨g,by rw [f];cases x<;>simp_all [gotoIn,Item.plain],c⟩
 | ret=>exact a
 | panic v=>exact a
end
theorem Hg {r:Nat} {l:Loop} {w:World} (a:w.heap[r]? = some (.loop l)):(Instr.getLoop r).run P w = .ok l w:=by
 simp [Instr.getLoop,getObj,Sem.run,a]
theorem SR (R:RecOK P rec) (D:LD P rec) : ∀ (n:Nat),
  (∀ {c:Code} {fr B:Fr} {h h':Hp} {ex:Ex},exec P sh rec n c fr h=some (ex,B,h') ->
   ∀ {M:CJ} {μ:Mu} {w:World} {b:Frame} {a:Act} {cs:List Frame} (k:List Item),Sim M μ h w->FrRep M μ fr b a cs->Ran P M μ w (lone (b.atR a (.code c::k)) cs w) b k cs ex B h') /\
  (∀ {c:Code} {fr B:Fr} {h h':Hp} {ex:Ex},exec P sh rec n (.loop c) fr h=some (ex,B,h') ->
   ∀ {M:CJ} {μ:Mu} {w:World} {b:Frame} {a:Act} {cs:List Frame} (k:List Item),Sim M μ h w->FrRep M μ fr b a cs->Ran P M μ w (lone (b.atR a (.inLoop c::k)) cs w) b k cs ex B h')
 | 0=>⟨λe=>by simp [exec] at e,λe=>by simp [exec] at e⟩
 | n+1=>by
  obtain ⟨G,ihB⟩:=SR R D n
  have E : ∀ {c:Code} {fr B:Fr} {h h':Hp} {ex:Ex},exec P sh rec (n+1) (.loop c) fr h=some (ex,B,h') ->
    ∀ {M:CJ} {μ:Mu} {w:World} {b:Frame} {a:Act} {cs:List Frame} (k:List Item),Sim M μ h w->FrRep M μ fr b a cs->Ran P M μ w (lone (b.atR a (.code c :: .inLoop c::k)) cs w) b k cs ex B h':=by
   intro c fr B h h' ex e M μ w b a cs k s f;simp only [exec] at e;cases hc:exec P sh rec n c fr h with
   | none=>rw [hc] at e;cases e
   | some r =>
    obtain ⟨J,fr1,h1⟩:=r;rw [hc] at e;have A:=G hc (.inLoop c::k) s f;cases J with
    | normal=>exact A.then λs1 f1=>ihB e k s1 f1
    | exit id=>cases e;exact A.pass rfl (by intro h;cases h)
    | goto id=>cases e;exact A.pass rfl (by intro h;cases h)
    | ret=>cases e;exact A.pass rfl (by intro h;cases h)
    | panic v=>cases e;exact A.pass rfl (by intro h;cases h)
  refine ⟨?_,λe M μ w b a cs k s f=>(E e k s f).step stepR_inLoop⟩;intro c fr B h h' ex e M μ w b a cs k s f;cases c with
  | skip=>simp only [exec] at e;cases e;exact ⟨M,μ,w,a,cs,s,.refl _ _ _,f,.refl _,.one stepR_skip⟩
  | label l=>simp only [exec] at e;cases e;exact ⟨M,μ,w,a,cs,s,.refl _ _ _,f,.refl _,.one stepR_label⟩
  | refuse _=>simp [exec] at e
  | exit id=>simp only [exec] at e;cases e;exact ⟨M,μ,w,a,cs,s,.refl _ _ _,f,.refl _,k,rfl,.refl _ _⟩
  | goto id=>simp only [exec] at e;cases e;exact ⟨M,μ,w,a,cs,s,.refl _ _ _,f,.refl _,k,rfl,.refl _ _⟩
  | ret=>simp only [exec] at e;cases e;exact ⟨M,μ,w,a,cs,s,.refl _ _ _,f,.refl _,k,.refl _ _⟩
  | seq x y =>
   simp only [exec] at e;refine Ran.step stepR_seq ?_;cases hc:exec P sh rec n x fr h with
   | none=>rw [hc] at e;cases e
   | some r =>
    obtain ⟨J,fr1,h1⟩:=r;rw [hc] at e;have A:=G hc (.code y::k) s f;cases J with
    | normal=>exact A.then λs1 f1=>G e k s1 f1
    | exit id=>cases e;exact A.pass rfl (by intro h;cases h)
    | goto id=>cases e;exact A.pass rfl (by intro h;cases h)
    | ret=>cases e;exact A.pass rfl (by intro h;cases h)
    | panic v=>cases e;exact A.pass rfl (by intro h;cases h)
  | cond x y z =>
   simp only [exec] at e;split at e
   ·rename_i hx;have hv:=GX s.glb f.t hx;generalize X:a.eval x=v at hv;cases hv;exact (G e k s f).step (by rw [stepR_cond X];rfl)
   ·rename_i hx;have hv:=GX s.glb f.t hx;generalize X:a.eval x=v at hv;cases hv;exact (G e k s f).step (by rw [stepR_cond X];rfl)
   ·cases e
  | block id x =>
   simp only [exec] at e;refine Ran.step stepR_block ?_;cases hc:exec P sh rec n x fr h with
   | none=>rw [hc] at e;cases e
   | some r =>
    obtain ⟨J,fr1,h1⟩:=r;rw [hc] at e;have A:=G hc (.inBlock id::k) s f;cases J with
    | normal=>cases e;exact A.then λs1 f1=>⟨_,_,_,_,_,s1,.refl _ _ _,f1,.refl _,.one stepR_inBlock⟩
    | exit j =>
     obtain ⟨M',μ',w',a',F,q1,q2,q3,q4,k1,q5,q6⟩:=A;simp only at e;cases hj:Nat.beq j id with
     | true =>
      simp only [hj,cond_true] at e;cases e;have:=Nat.eq_of_beq_eq_true hj;subst this;exact ⟨M',μ',w',a',F,q1,q2,q3,q4,q6.trans (.one (stepR_exit (by rw [q5];simp [exitTo])))⟩
     | false =>
      simp only [hj,cond_false] at e;cases e;refine ⟨M',μ',w',a',F,q1,q2,q3,q4,k1,?_,q6⟩;rw [q5]
      have:(id == j)=false:=by
       cases hij:id == j with
       | false=>rfl
       | true =>
        have:id=j:=by simpa using hij
        subst this;simp at hj
      simp [exitTo,this]
    | goto j =>
     cases e;obtain ⟨M',μ',w',a',F,q1,q2,q3,q4,k1,q5,q6⟩:=A;exact ⟨M',μ',w',a',F,q1,q2,q3,q4,k1,by rw [q5];simp [gotoIn],q6⟩
    | ret=>cases e;exact A
    | panic v=>cases e;exact A
  | loop x=>exact (E e k s f).step stepR_loop
  | scope x =>
   simp only [exec] at e;refine Ran.step Tx ?_;cases hc:exec P sh rec n x fr h with
   | none=>rw [hc] at e;cases e
   | some r =>
    obtain ⟨J,fr1,h1⟩:=r;rw [hc] at e;have A:=G hc (.inScope x::k) s f;cases J with
    | normal=>cases e;exact A.then λs1 f1=>⟨_,_,_,_,_,s1,.refl _ _ _,f1,.refl _,.one Qu⟩
    | exit j =>
     cases e;obtain ⟨M',μ',w',a',F,q1,q2,q3,q4,k1,q5,q6⟩:=A;exact ⟨M',μ',w',a',F,q1,q2,q3,q4,k1,by rw [q5];simp [exitTo],q6⟩
    | goto j=>cases e
    | ret=>cases e;exact A
    | panic v=>cases e;exact A
  | region id ops draw =>
   simp only [exec] at e;have s0:Sim M μ { h with nx:=h.nx+ops.size } w:=s.nx λ_=>rfl
   cases draw with
   | false =>
    simp only [cond_false] at e;refine Ran.step stepR_region ?_
    have:=Nq R _ e (λx hx=>by
     obtain ⟨h1,h2⟩:=X5 _ _ x hx
     simpa using h2) k s0 f
    have hidx:(Nh 0 ops.toList).map (·.1)=List.range ops.size:=by rw [X4];simp
    rwa [hidx] at this
   | true =>
    simp only [cond_true] at e;replace e:=Bs e;obtain ⟨hm,e⟩:=e;split at e
    ·rename_i fr1 h1 hd;cases e;refine Ran.step stepR_region_draw ?_;have s1:Sim M μ { h with nx:=h.nx+ops.size } { w with drawn:=w.drawn+1 }:=s0.drawn rfl
     obtain ⟨M',μ',w',a',F,q1,q2,q3,q4,q5⟩:=D hd hm k (w.tape w.drawn (.order b.fn id)) s1 f;exact ⟨M',μ',w',a',F,q1,(Grow.drawn (w:=w) (w':={ w with drawn:=w.drawn+1 }) rfl rfl rfl rfl).trans q2,q3,q4,q5⟩
    ·cases e
  | rangeFunc g ps Z body =>
   simp only [exec] at e;split at e
   ·rename_i fn va0 vb0 hg;have hv:=GX s.glb f.t hg;generalize X:a.eval g=v at hv;cases hv with
    | fn _ _ _ _ va vb hf hla hlb h2 h3 =>
    split at e
    ·rename_i d mark hd L;split at e
     ·rename_i hl hnewl;split at e
      ·rename_i fid args hinv;split at e
       ·rename_i rv u1 hc hcall;split at e
        ·rename_i st pend nt t pl as bd dd hgl;replace e:=E6 e;obtain ⟨hst,e⟩:=e;have hst:st≠1:=by intro h;subst h;simp at hst
         split at e
         ·rename_i hs hset
          have enter : ∃ (w1:World) (μ1:Mu) (rl:Bk) (mk:List Deferred) (lid:Nat),(Instr.enterLoop b.fn a.tmps ps Z body b.roundOf).run P w = .ok (rl.b,mk) w1/\Sim M μ1 hl w1/\Grow M μ w M μ1 w1/\lid=h.nx+1/\μ1 lid=some rl/\DefsRep M μ1 mark mk:=by
           obtain ⟨N,hgs,_⟩:=Hp.get_new hnewl;split at L
           ·rename_i hro;have K:b.roundOf=none:=by have:=f.r;unfold RI at this;rw [hro] at this;exact this
            split at L
            ·rename_i hd1 hnewd;cases L;obtain ⟨dget,dgs,_⟩:=Hp.get_new hnewd
             let rd:Bk:=⟨w.heap.size,0,0,0⟩
             obtain ⟨s1,μd⟩:=s.fresh (w':=w.alloc (.deferred (some []))) (r:=rd) (o:=.deferred (some [])) dget dgs rfl rfl ⟨some [],rfl,trivial⟩;have g1:=Grow.newBlk (M:=M) (μ:=μ) (w:=w) (w':=w.alloc (.deferred (some []))) (r:=rd) (o:=.deferred (some [])) μd rfl rfl rfl rfl rfl (λ_ _ _ h=>by cases h)
             let I:Loop:={ state:=.ready,pending:=none,fn:=b.fn,tmps:=a.tmps,params:=ps,assign:=Z,body:=body,defers:=w.heap.size }
             let rl:Bk:=⟨(w.alloc (.deferred (some []))).heap.size,0,0,0⟩
             have μl0:IX μ h.nx rd (h.nx+1)=none:=by
              cases hm:IX μ h.nx rd (h.nx+1) with
              | none=>rfl
              | some x=>exact absurd N (s1.use _ x hm).1
             have C:=Iw (r:=rl) μl0
             obtain ⟨s2,μl⟩:=s1.fresh (w':=(w.alloc (.deferred (some []))).alloc (.loop I)) (r:=rl) (o:=.loop I) N hgs rfl rfl
              ⟨I,rd,rfl,rfl,by decide,rfl,f.t.mono (.refl _) (g1.u.trans C),by simp [I],rfl,rfl,C _ _ (by simp [IX]),rfl⟩
             have S:=Grow.newBlk (M:=M) (w:=w.alloc (.deferred (some []))) (w':=(w.alloc (.deferred (some []))).alloc (.loop I)) (r:=rl) (o:=.loop I) μl rfl rfl rfl rfl rfl (λ_ _ _ h=>by cases h);refine ⟨_,_,rl,[{ target:=.collected w.heap.size,args := #[] }],_,?_,s2,g1.trans S,rfl,by simp [IX],⟨⟨rd,C _ _ (by simp [IX]),rfl,rfl⟩,trivial⟩⟩;rw [K];simp [Instr.enterLoop,I,rl]
            ·cases L
           ·rename_i l0 hro;have K:=f.r;unfold RI at K;rw [hro] at K;obtain ⟨rb,hrb,K⟩:=K;split at L
            ·rename_i st0 pend0 nt0 t0 ps0 asg0 body0 d0 hb0;cases L;obtain ⟨r',U,Y,rd,b1,b2,b3,b4,b5,b6,b7,b8,b9,b10⟩:=s.blk l0 _ hb0;rw [hrb] at U;cases U
             let I:Loop:={ state:=.ready,pending:=none,fn:=b.fn,tmps:=a.tmps,params:=ps,assign:=Z,body:=body,defers:=rd.b }
             let rl:Bk:=⟨w.heap.size,0,0,0⟩
             have μl0:μ (h.nx+1)=none:=by
              cases hm:μ (h.nx+1) with
              | none=>rfl
              | some x=>exact absurd N (s.use _ x hm).1
             have C:=Iw (r:=rl) μl0
             obtain ⟨s2,μl⟩:=s.fresh (w':=w.alloc (.loop I)) (r:=rl) (o:=.loop I) N hgs rfl rfl
              ⟨I,rd,rfl,rfl,by decide,rfl,f.t.mono (.refl _) C,by simp [I],rfl,rfl,C _ _ b9,rfl⟩
             have S:=Grow.newBlk (M:=M) (w:=w) (w':=w.alloc (.loop I)) (r:=rl) (o:=.loop I) μl rfl rfl rfl rfl rfl (λ_ _ _ h=>by cases h);refine ⟨_,_,rl,[],_,?_,s2,S,rfl,by simp [IX],trivial⟩;rw [K];simp [Instr.enterLoop,I,rl,Hg b1,b10]
            ·cases L
          obtain ⟨w1,μ1,rl,mk,lid,hent,s1,g1,rfl,hrl,hdm⟩:=enter;have hyl:Rep M μ1 (.yl (h.nx+1)) (.func (.yield rl.b) #[] #[]):=.yl _ _ rl hrl
          obtain ⟨k1,g0,as0,k2⟩:=LB (P:=P) (w:=w1) (vf:=va.toList) (vc:=vb.toList) (va:=[.func (.yield rl.b) #[] #[]])
           ⟨by simpa using hla,λi c v p q=>(h2 i c v p (by simpa using q)).mono (.refl _) g1.u⟩ ⟨by simpa using hlb,λi c v p q=>(h3 i c v p (by simpa using q)).mono (.refl _) g1.u⟩ (RepL.cons hyl (RepL.nil _ _)) hinv
          obtain ⟨vs,hrun,hargs,fn1,c1,hfn1,hbody1⟩:=k1
          have hres:(resolve a.eval (rangeCall g rl.b) 0).run P w1 = .ok { target:=.fn fn vb,args:=va ++ #[.func (.yield rl.b) #[] #[]] } w1:=by
           show Sem.run P (Deferred.ofValue (a.eval g) (#[Operand.const (.func (.yield rl.b) #[] #[])].map a.eval)) w1=_;have hm1 : #[Operand.const (.func (.yield rl.b) #[] #[])].map a.eval = #[Value.func (.yield rl.b) #[] #[]]:=by simp [Act.eval]
           rw [X,hm1];rfl
          have hcat:(va.toList++[Value.func (.yield rl.b) #[] #[]]).toArray=va ++ #[.func (.yield rl.b) #[] #[]]:=by apply Array.ext';simp
          have hstep:=stepR_rangeFunc (P:=P) (b:=b) (a:=a) (k:=k) (cs:=cs) hent hres (by rw [hcat] at hrun;exact hrun);have s1n:Sim M μ1 { hl with nx:=h.nx+1+1 } w1:=s1.nx λ_=>rfl
          obtain ⟨M2,μ2,w2,fr2,s2,S,st2,hfn2,x2,hx2,hl2⟩:=R.nrm hcall s1n hargs (b.atR { a with defers:=mk++a.defers } (.inRangeFunc rl.b::k)::cs)
          obtain ⟨r',U,Y,rd,b1,b2,b3,b4,b5,b6,b7,b8,b9,b10⟩:=s2.blk _ _ hgl;rw [S.u _ _ hrl] at U;cases U;subst b4
          have hnb:(Y.state == LoopState.busy)=false:=by
           rw [b2]
           match st,hst,b3 with
           | 0,_,_=>rfl
           | 2,_,_=>rfl
           | 3,_,_=>rfl
          have hnb2 : ¬ ((Y.state == LoopState.busy)=true):=by rw [hnb];exact Bool.false_ne_true
          have so:=EQ (P:=P) (o':=.loop { Y with state:=.exhausted }) b1 (by intro a t f hc;cases hc)
          have hend:(Instr.endLoop rl.b).run P w2 = .ok Y.pending { w2 with heap:=w2.heap.setIfInBounds rl.b (.loop { Y with state:=.exhausted }) }:=by
           simp only [Instr.endLoop,Sem.run_bind,Hg b1,Result.andThen,if_neg hnb2,so,Sem.run_pure]
          obtain ⟨s3,g3⟩:=s2.object (o':=.loop { Y with state:=.exhausted }) hgl (S.u _ _ hrl) trivial hset b1 (by intro a t f hc;cases hc)
           ⟨_,rd,rfl,rfl,by decide,rfl,b5,b6,b7,b8,b9,b10⟩
          have f3:FrRep M2 μ2 { fr with ds:=mark++fr.ds } b { a with defers:=mk++a.defers } cs:=by
           have f2:=f.mono (g1.m.trans S.m) (g1.u.trans S.u);refine ⟨f2.t,?_,f2.u,f2.r⟩;have hdm2:=hdm.mono S.m S.u
           have app : ∀ {x:List DF} {y:List Deferred},DefsRep M2 μ2 x y->DefsRep M2 μ2 (x++fr.ds) (y++a.defers):=by
            intro x
            induction x with
            | nil=>intro y hy;cases y with
             | nil=>exact f2.d
             | cons _ _=>exact hy.elim
            | cons d0 x ih=>intro y hy;cases y with
             | nil=>exact hy.elim
             | cons _ _=>exact ⟨hy.1,ih hy.2⟩
           exact app hdm2
          have W:=(g1.trans S).trans g3
          have O:Steps P (lone (b.atR a (.code (.rangeFunc g ps Z body)::k)) cs w) (lone (b.atR { a with defers:=mk++a.defers } ((Y.pending.map Item.code).toList++k)) cs { w2 with heap:=w2.heap.setIfInBounds rl.b (.loop { Y with state:=.exhausted }) }):=by
           refine .head hstep (st2.trans (.head ?_ (.one (stepR_endRangeFunc hend))));rw [<- finish_atR_inRangeFunc rl.b x2];exact step_leave_returned hl2
          clear hend so g3;generalize ({ w2 with heap:=w2.heap.setIfInBounds rl.b (.loop { Y with state:=.exhausted }) }:World)=w3 at s3 W O
          split at e<;>rename_i hpd<;>(try rw [hpd] at O)
          ·cases e;exact ⟨M2,μ2,_,_,cs,s3,W,f3,.refl _,O⟩
          ·cases e;exact ⟨M2,μ2,_,_,cs,s3,W,f3,.refl _,k,O⟩
          ·cases e;exact ⟨M2,μ2,_,_,cs,s3,W,f3,.refl _,k,rfl,O⟩
          ·cases e;exact ⟨M2,μ2,_,_,cs,s3,W,f3,.refl _,k,rfl,O⟩
          ·cases e
         ·cases e
        ·cases e
       ·cases e
      ·cases e
     ·cases e
    ·cases e
   ·cases e
end
end Go.Proofs.YtfilfloanndddaaGreat.Pi
namespace Go.Proofs.YtfilfloanndddaaGreat.Pi
variable [Gl]
section
variable {P:Program} {sh:FuncId->Bool} {rec:OZ} {M:CJ} {μ:Mu} {h:Hp} {w:World}
theorem jt (s:Sim M μ h w) {t:T PV} {nt:Nat} {b:Array Value} (d:TmpsRep M μ t nt b) {r:ResultVar} {p:PV} (e:bg P h t r=some p) :
  ∃ x,(match r with
   | .tmp t=>pure (b.getD t undef)
   | .cell a t=>do loadVar t (<- asAddr (b.getD a undef)):Sem Value).run P w = .ok x w/\Rep M μ p x:=by
 unfold bg at e;split at e
 ·rename_i k;cases e;exact ⟨_,rfl,d.2.2 k⟩
 ·rename_i a ty;split at e
  ·rename_i j off i;split at e
   ·rename_i cs fz f;have c:=d.2.2 a;rw [i] at c;simp only [Option.getD_some] at c;obtain ⟨r,n,hc⟩:=Q8 s (off:=off) f;obtain ⟨v,l,g⟩:=Jg (P:=P) hc e;generalize m:b.getD a undef=x at c;cases c with
    | ptr _ _ _ r' hr' =>
     rw [n] at hr';cases hr';refine ⟨v,?_,g⟩;simp only [m];simpa [asAddr] using l
   ·cases e
  ·cases e
theorem LF (s:Sim M μ h w) {t:T PV} {nt:Nat} {b:Array Value} (f:TmpsRep M μ t nt b) : ∀ {l:List ResultVar} {c:List PV},Qo P h t l=some c ->
  ∃ xs:List Value,(l.mapM (fun | .tmp t=>pure (b.getD t undef) | .cell a t=>do loadVar t (<- asAddr (b.getD a undef)):ResultVar->Sem Value)).run P w = .ok xs w/\RepL M μ c xs
 | [],c,e=>by simp [Qo] at e;subst e;exact ⟨[],by simp,RepL.nil _ _⟩
 | r::l,c,e=>by
  unfold Qo at e;split at e
  ·rename_i p j k d;cases e;obtain ⟨x,m,i⟩:=jt s f k;obtain ⟨xs,n,g⟩:=LF s f d;refine ⟨x::xs,?_,RepL.cons i g⟩;rw [List.mapM_cons];simp only [Sem.run_bind,m,Result.andThen,n,Sem.run_pure]
  ·cases e
theorem L0 (s:Sim M μ h w) {l:Func} {t:T PV} {nt:Nat} {d:Array Value} (y:TmpsRep M μ t nt d) {v:PV} (e:results P l h t=some v) : ∃ x,(Go.results l d).run P w = .ok x w/\Rep M μ v x:=by
 unfold results at e
 have key : ∀ {k:List PV},Qo P h t l.results.toList=some k -> ∃ xs:Array Value,(l.results.mapM (fun | .tmp t=>pure (d.getD t undef) | .cell a t=>do loadVar t (<- asAddr (d.getD a undef)):ResultVar->Sem Value)).run P w = .ok xs w/\RepL M μ k xs.toList:=by
  intro k f;obtain ⟨xs,m,j⟩:=LF s y f;refine ⟨xs.toArray,?_,by simpa using j⟩;rw [Array.mapM_eq_mapM_toList];simp only [Sem.run_map,m];rfl
 have g:(Go.results l d).run P w=((l.results.mapM (fun | .tmp t=>pure (d.getD t undef) | .cell a t=>do loadVar t (<- asAddr (d.getD a undef)):ResultVar->Sem Value)) >>= λvs=>(pure (if h:vs.size=1 then vs[0] else .tuple vs):Sem Value)).run P w:=rfl
 rw [g];split at e
 ·rename_i z f;cases e;obtain ⟨xs,m,j⟩:=key f;obtain ⟨x,r,u⟩:=Tl j rfl;have q:xs = #[x]:=by rw [<- Array.toArray_toList (xs:=xs),r]
  subst q;exact ⟨x,by simp only [Sem.run_bind,m,Result.andThen,Sem.run_pure];rfl,u⟩
 ·rename_i k o f;cases e;obtain ⟨xs,m,j⟩:=key f
  have n:xs.size≠1:=by
   intro h;have:k.length=1:=by rw [j.1];simpa using h
   match k,this with
   | [p],_=>exact o p rfl
  refine ⟨.tuple xs,by simp only [Sem.run_bind,m,Result.andThen,Sem.run_pure,dif_neg n],.tup _ _ _ (by simpa using j.1) λi c v a b=>j.2 i c v a (by simpa using b)⟩
 ·cases e
theorem Nr {u:UM} {m:FrameMode} (b:UMRep M μ u m):UMRep M μ (SC u) (settle m):=by
 cases u with
 | ret=>have b:m = .returning:=b;subst b;rfl
 | pan j =>
  obtain ⟨a,rfl,hc⟩:=b;cases j with
  | nil=>cases a with
   | nil=>exact ⟨[],rfl,trivial⟩
   | cons _ _=>exact hc.elim
  | cons e d =>
   cases a with
   | nil=>exact hc.elim
   | cons p i =>
    obtain ⟨o,f,g,h⟩:=hc;obtain ⟨ev,n⟩:=e;obtain ⟨pv,t,w⟩:=p;simp only at f g;subst f;subst g;cases n with
    | false=>exact ⟨_,rfl,o,rfl,rfl,h⟩
    | true =>
     have drop : ∀ {l:List PE} {m:List PanicEntry},ChRep M μ l m->m.dropWhile (!·.goexit)=[]:=by
      intro l
      induction l with
      | nil=>intro m c;cases m with
       | nil=>rfl
       | cons _ _=>exact c.elim
      | cons _ _ ih=>intro m c;cases m with
       | nil=>rfl
       | cons q s =>
        obtain ⟨_,_,r,k⟩:=c;simp [r,ih k]
     have:=drop h;show settle (.panicking ({ v:=pv,recovered:=true }::i)) = .returning;simp [settle,this]
theorem SS {u:UM} {m:FrameMode} (a:UMRep M μ u m):m ≠ .run:=by
 cases u with
 | ret=>have a:m = .returning:=a;subst a;intro h;cases h
 | pan c=>obtain ⟨b,rfl,_⟩:=a;intro h;cases h
theorem cE {x y:List DF} {X Y:List Deferred} (a:DefsRep M μ x X) (c:DefsRep M μ y Y):DefsRep M μ (x++y) (X++Y):=by
 induction x generalizing X with
 | nil=>cases X with
  | nil=>exact c
  | cons _ _=>exact a.elim
 | cons d x b=>cases X with
  | nil=>exact a.elim
  | cons _ _=>exact ⟨a.1,b a.2⟩
theorem Mn (R:RecOK P rec) {fn:Func} {t:T PV} {nt:Nat} : ∀ (n:Nat) {K:List DF} {u:UM} {h h':Hp} {o:Out},leave P rec fn n K u t h=some (o,h') ->
  ∀ {M:CJ} {μ:Mu} {w:World} {fr:Frame} (cs:List Frame),Sim M μ h w->UMRep M μ u fr.mode->DefsRep M μ K fr.defers->TmpsRep M μ t nt fr.tmps->P.funcs[fr.fn]? = some fn ->
  ∃ C μ' w' k,Sim C μ' h' w'/\Grow M μ w C μ' w'/\Steps P (lone fr cs w) (lone k cs w')/\k.fn=fr.fn/\k.kind=fr.kind/\jr P C μ' k w' o
 | 0,_,_,_,_,_,e,_,_,_,_,_,_,_,_,_,_=>by simp [leave] at e
 | n+1,K,u,h,h',o,e,M,μ,w,fr,cs,s,hu,hd,ht,hfn=>by
  unfold leave at e;split at e
  ·have O:fr.defers=[]:=by
    cases i:fr.defers with
    | nil=>rfl
    | cons _ _=>rw [i] at hd;exact hd.elim
   split at e
   ·split at e
    ·rename_i v hv;cases e;obtain ⟨x,J,h2⟩:=L0 s ht hv;exact ⟨M,μ,w,fr,s,.refl _ _ _,.refl _ _,rfl,rfl,x,h2,hu,O,fn,hfn,J⟩
    ·cases e
   ·rename_i ch;cases e;obtain ⟨F,J,h2⟩:=hu;exact ⟨M,μ,w,fr,s,.refl _ _ _,.refl _ _,rfl,rfl,F,h2,J,O,fn,hfn⟩
  ·rename_i id K;cases i:fr.defers with
   | nil=>rw [i] at hd;exact hd.elim
   | cons D G =>
    rw [i] at hd;obtain ⟨⟨r,hr,j,d⟩,A⟩:=hd;obtain ⟨Dt,Da⟩:=D;simp only at j d;subst j;subst d;split at e
    ·rename_i l hb;split at e
     ·rename_i J U;obtain ⟨r',hr',dd,b1,b2⟩:=s.blk id _ hb;rw [hr] at hr';cases hr';cases dd with
      | none=>exact b2.elim
      | some q =>
       have so:=EQ (P:=P) (o':=.deferred none) b1 (by intro a t f hc;cases hc);obtain ⟨s1,y⟩:=s.object (o':=.deferred none) hb hr trivial U b1 (by intro a t f hc;cases hc) ⟨none,rfl,trivial⟩
       have p:(Instr.takeDeferred r.b).run P w = .ok q { w with heap:=w.heap.setIfInBounds r.b (.deferred none) }:=by
        have hg:(getObj r.b).run P w = .ok (.deferred (some q)) w:=by simp [getObj,Sem.run,b1]
        simp only [Instr.takeDeferred,Sem.run_bind,hg,Result.andThen,so,Sem.run_pure]
       have X:=SP (P:=P) (cs:=cs) (SS hu) i p;obtain ⟨C,μ',w',k,Y,S,Z,W,q5,N⟩:=Mn R n e (fr:={ fr with defers:=q++G }) cs s1 hu (cE b2 A) ht hfn
       exact ⟨C,μ',w',k,Y,y.trans S,.head X Z,W,q5,N⟩
     ·cases e
    ·cases e
  ·rename_i b ats ty args K;cases i:fr.defers with
   | nil=>rw [i] at hd;exact hd.elim
   | cons D G =>
    rw [i] at hd;obtain ⟨⟨B,va,j,d,I⟩,A⟩:=hd;obtain ⟨Dt,Da⟩:=D;simp only at j d;subst j;subst d;split at e
    ·split at e
     ·rename_i v J hbt;obtain ⟨M1,μ1,w1,x,p,s1,y,hx⟩:=PY (ty:=ty) (cs:=B) s I hbt;have X:=Mm (P:=P) (cs:=cs) (SS hu) i p;obtain ⟨C,μ',w',k,Y,S,Z,W,q5,N⟩:=Mn R n e (fr:={ fr with defers:=G }) cs s1 (hu.mono y.m y.u) (A.mono y.m y.u) (ht.mono y.m y.u) hfn
      exact ⟨C,μ',w',k,Y,y.trans S,.head X Z,W,q5,N⟩
     ·cases e
    ·cases e
  ·rename_i f args K;cases i:fr.defers with
   | nil=>rw [i] at hd;exact hd.elim
   | cons D G =>
    rw [i] at hd;obtain ⟨⟨fv,first,cap,vf,vc,va,hfe,hny,j,d,I,hrb,hrc⟩,A⟩:=hd
    obtain ⟨Dt,Da⟩:=D;simp only at j d;subst j;subst d;subst hfe;cases fv with
    | func g =>
     simp only at e;cases z:F8 P (.func g) first cap args with
     | none=>rw [z] at e;cases e
     | some rr =>
      rw [z] at e;obtain ⟨L,g',args',rfl⟩:=LB (P:=P) (w:=w) I hrb hrc z;obtain ⟨vs,p,hvs,_⟩:=L;simp only at e;split at e
      ·rename_i rv u1 J E;obtain ⟨M1,μ1,w1,frX,m1,u1',s1,y,st1,hup,hum,hkX,x,hx,hgo⟩:=R.dfr E s hvs { fr with defers:=G } cs hu
       cases hup;have X:=step_defer (P:=P) (cs:=cs) (SS hu) i rfl p;have st2:=step_going_returned (c:={ { fr with defers:=G } with mode:=m1 }) (cs:=cs) hkX hgo
       obtain ⟨C,μ',w',k,Y,S,Z,W,q5,N⟩:=Mn R n e (fr:={ { { fr with defers:=G } with mode:=m1 } with mode:=settle m1 }) cs s1 (Nr hum) (A.mono y.m y.u) (ht.mono y.m y.u) hfn
       exact ⟨C,μ',w',k,Y,y.trans S,.head X (st1.trans (.head st2 Z)),W,q5,N⟩
      ·cases e
    | _=>cases e
theorem Og : ∀ (l : List PV) (i : Nat) (t : T PV) (k : Nat), i + l.length <= 1048575 -> (Eu i l t).get k = if i <= k /\ k < i + l.length then l[k - i]? else t.get k
  | [], i, t, k, _ => by simp [Eu]; intro a b; omega
  | a :: l, i, t, k, hle => by
    simp only [List.length_cons] at hle;unfold Eu
    rw [Og l (i + 1) _ k (by omega), T.get_put 20 t i a k (by have : (2 : Nat) ^ 20 - 1 = 1048575 := by decide
                                                              omega)]
    by_cases hk : k = i
    · subst hk; rw [if_neg (by omega), if_pos rfl, if_pos (by simp)]; simp
    · by_cases h1 : i + 1 <= k /\ k < i + 1 + l.length
      · rw [if_pos h1, if_pos (by simp; omega), show k - i = (k - (i + 1)) + 1 by omega]; simp
      · rw [if_neg h1, if_neg hk, if_neg (by simp; omega)]
theorem Vw {args:List PV} {vs:List Value} (b:RepL M μ args vs) {n:Nat} (f:args.length<=n) (c:n<1048575):TmpsRep M μ (Eu 0 args .lf) n (vs.toArray++Array.replicate (n-vs.toArray.size) undef):=by
 have g:=b.1;refine ⟨c,by simp;omega,λk => ?_⟩;rw [Og args 0 .lf k (by omega)];by_cases a:k<args.length
 ·rw [if_pos (by omega)];obtain ⟨v,d,e⟩:=b.get (i:=k) (List.getElem?_eq_getElem a)
  have:(vs.toArray++Array.replicate (n-vs.toArray.size) undef).getD k undef=v:=by
   rw [Array.getD_eq_getD_getElem?,Array.getElem?_append_left (by simp;omega)];simp [d]
  rw [this];simpa [List.getElem?_eq_getElem a] using e
 ·rw [if_neg (by omega)]
  have:(vs.toArray++Array.replicate (n-vs.toArray.size) undef).getD k undef=undef:=by
   rw [Array.getD_eq_getD_getElem?,Array.getElem?_append_right (by simp;omega),Array.getElem?_replicate];split<;>rfl
  rw [this];exact LC M μ
theorem GZ {nt:Nat} : ∀ {f:List Nat} {args:List PV} {vs:List Value} {t d:T PV} {b:Array Value},FS nt f args t=some d->RepL M μ args vs->TmpsRep M μ t nt b ->
  f.length=vs.length/\TmpsRep M μ d nt ((f.zip vs).foldl (λb (x:Nat×Value)=>b.setIfInBounds x.1 x.2) b)
 | [],[],vs,t,d,b,e,hr,ht=>by
  simp [FS] at e;subst e;rw [hr.nil_inv];exact ⟨rfl,ht⟩
 | [],_::_,vs,t,d,b,e,hr,ht=>by simp [FS] at e
 | _::_,[],vs,t,d,b,e,hr,ht=>by simp [FS] at e
 | p::f,a::args,vs,t,d,b,e,hr,ht=>by
  unfold FS at e;replace e:=Bs e;obtain ⟨i,e⟩:=e;obtain ⟨x,k,rfl,g,c⟩:=hr.cons_inv;obtain ⟨j,h⟩:=GZ e c (UA ht (by simpa using i) g);exact ⟨by simp [j],by simpa using h⟩
end
end Go.Proofs.YtfilfloanndddaaGreat.Pi
namespace Go.Proofs.YtfilfloanndddaaGreat.Pi
variable [Gl]
section
variable {P:Program} {sh:FuncId->Bool} {M:CJ} {μ:Mu} {h:Hp} {w:World}
theorem cF (P:Program):RecOK P (λ_ _ _ _=>none):=by constructor<;>(intros;contradiction)
theorem KT {c:CallKind} {cs a:List Frame} (d:c = .normal) (h:Tail c cs a):a=cs:=by
 rcases h with h | ⟨b,_⟩
 ·exact h
 ·rw [d] at b;cases b
theorem X6 {rec:OZ} (R:RecOK P rec) (D:LD P rec) {F:Nat} {f:FuncId} {fn:Func} {c:Code} {up:Option UM} {args:List PV} {h h':Hp} {o:Out} {y:Option UM} (G:P.funcs[f]? = some fn) (B:fn.body=some c)
  (e:(match (bif Nat.ble args.length fn.ntmps&&Nat.blt fn.ntmps 1048575 then exec P sh rec F c { t:=Eu 0 args .lf,nt:=fn.ntmps,ds:=[],up,ro:=none } h else none) with
   | some (.normal,fr,h) | some (.ret,fr,h)=>(match leave P rec fn F fr.ds .ret fr.t h with
    | some (o,h)=>some (o,fr.up,h)
    | none=>none)
   | some (.panic e,fr,h)=>(match leave P rec fn F fr.ds (.pan [{ v:=e,recovered:=false }]) fr.t h with
    | some (o,h)=>some (o,fr.up,h)
    | none=>none)
   | _=>none)=some (o,y,h')) {M:CJ} {μ:Mu} {w:World} {vs:List Value} (s:Sim M μ h w) (Z:RepL M μ args vs) (l:CallKind) (cs:List Frame) (L:X3 M μ l cs up) :
  ∃ n μ' w' fr cs',Sim n μ' h' w'/\Grow M μ w n μ' w'/\Steps P (lone (Frame.enter P f vs.toArray l) cs w) (lone fr cs' w')/\Tail l cs cs'/\X3 n μ' l cs' y/\fr.fn=f/\fr.kind=l/\jr P n μ' fr w' o:=by
 let b:Frame:={ fn:=f,tmps := #[],todo:=[],defers:=[],mode:=.run,kind:=l }
 have q:Frame.enter P f vs.toArray l=b.atR { tmps:=vs.toArray++Array.replicate (fn.ntmps-vs.toArray.size) undef,defers:=[] } [.code c]:=by
  simp [Frame.enter,Frame.atR,G,B,b]
 have M8 : ∀ {c:Code} {fr p:Fr} {h h':Hp} {ex:Ex},exec P sh rec F c fr h=some (ex,p,h') ->
   ∀ {M:CJ} {μ:Mu} {w:World} {b:Frame} {a:Act} {cs:List Frame} (k:List Item),Sim M μ h w->FrRep M μ fr b a cs->Ran P M μ w (lone (b.atR a (.code c::k)) cs w) b k cs ex p h':=(SR R D F).1
 have z : ∀ {ex:Ex} {fr:Fr} {C:Hp},exec P sh rec F c { t:=Eu 0 args .lf,nt:=fn.ntmps,ds:=[],up,ro:=none } h=some (ex,fr,C)->args.length<=fn.ntmps->fn.ntmps<1048575 ->
   ∀ {u:UM},((ex = .normal\/ex = .ret)/\u = .ret \/ ∃ v,ex = .panic v/\u = .pan [{ v,recovered:=false }])->(match leave P rec fn F fr.ds u fr.t C with
    | some (o,h)=>some (o,fr.up,h)
    | none=>none)=some (o,y,h') ->
   ∃ n μ' w' fr cs',Sim n μ' h' w'/\Grow M μ w n μ' w'/\Steps P (lone (Frame.enter P f vs.toArray l) cs w) (lone fr cs' w')/\Tail l cs cs'/\X3 n μ' l cs' y/\fr.fn=f/\fr.kind=l/\jr P n μ' fr w' o:=by
  intro ex fr C j I N u X e
  have U:FrRep M μ { t:=Eu 0 args .lf,nt:=fn.ntmps,ds:=[],up,ro:=none } b { tmps:=vs.toArray++Array.replicate (fn.ntmps-vs.toArray.size) undef,defers:=[] } cs :=
   ⟨Vw Z I N,trivial,L,rfl⟩
  obtain ⟨M1,μ1,w1,E,A,s1,g1,K,t1,arr⟩:=M8 j (b:=b) [] s U;rw [<- q] at arr;split at e
  ·rename_i o1 h2 r;cases e
   have out : ∃ i:Frame,Steps P (lone (Frame.enter P f vs.toArray l) cs w) (lone i A w1)/\i.fn=f/\i.kind=l/\i.defers=E.defers/\i.tmps=E.tmps/\UMRep M1 μ1 u i.mode:=by
    rcases X with ⟨rfl | rfl,rfl⟩ | ⟨v,rfl,rfl⟩
    ·exact ⟨{ b.atR E [] with mode:=.returning },Steps.trans arr (.one (stepR_end rfl)),rfl,rfl,rfl,rfl,rfl⟩
    ·obtain ⟨Y,arr⟩:=arr;exact ⟨{ b.atR E (.code .ret::Y) with mode:=.returning },Steps.trans arr (.one (stepR_ret rfl)),rfl,rfl,rfl,rfl,rfl⟩
    ·obtain ⟨todo,x,hx,arr⟩:=arr;exact ⟨{ b.atR E todo with mode:=.panicking [{ v:=x,recovered:=false }] },arr,rfl,rfl,rfl,rfl,_,rfl,hx,rfl,rfl,trivial⟩
   obtain ⟨i,st,O,m2,m3,m4,W⟩:=out;obtain ⟨n,μ',w',p,q1,J,q3,q4,q5,S⟩:=Mn R F r (fr:=i) A s1 W (by rw [m3];exact K.d) (by rw [m4];exact K.t) (by rw [O];exact G);refine ⟨n,μ',w',p,A,q1,g1.trans J,st.trans q3,t1,?_,by rw [q4,O],by rw [q5,m2],S⟩;exact (K.mono J.m J.u).u
  ·cases e
 cases g:(Nat.ble args.length fn.ntmps&&Nat.blt fn.ntmps 1048575) with
 | false=>rw [g] at e;cases e
 | true =>
  rw [g] at e;simp only [cond_true] at e;simp only [Bool.and_eq_true,Nat.ble_eq,Nat.blt_eq] at g;split at e
  ·rename_i fr C j;exact z j g.1 g.2 (.inl ⟨.inl rfl,rfl⟩) e
  ·rename_i fr C j;exact z j g.1 g.2 (.inl ⟨.inr rfl,rfl⟩) e
  ·rename_i v fr C j;exact z j g.1 g.2 (.inr ⟨v,rfl,rfl⟩) e
  ·cases e
theorem KU (s:Sim M μ h w) {l:Nat} {r:Bk} {c:Option Code} {o:Out} {m:Option UM} {h':Hp} (p:μ l=some r) (e:DB h l c=some (o,m,h')) :
  ∃ w',(Instr.endRound r.b c).run P w = .ok (.bool c.isNone) w'/\o = .ret (.bool c.isNone)/\Sim M μ h' w'/\Grow M μ w M μ w':=by
 unfold DB at e;split at e
 ·rename_i L u nt t G y x d q;split at e
  ·rename_i I g;cases e;obtain ⟨O,i,n,rd,j,J,N,K,C,D,A,F,B,k⟩:=s.blk l _ q;rw [p] at i;cases i;have z:=EQ (P:=P) (o':=.loop { n with state:=if c.isNone then .ready else .done,pending:=c }) j (by intro a t f hc;cases hc)
   obtain ⟨s1,E⟩:=s.object (o':=.loop { n with state:=if c.isNone then .ready else .done,pending:=c }) q p trivial g j (by intro a t f hc;cases hc)
    ⟨_,rd,rfl,by cases c<;>rfl,(by cases c;exact (by decide:0<4);exact (by decide:2<4)),rfl,C,D,A,F,B,k⟩
   refine ⟨_,?_,rfl,s1,E⟩;simp only [Instr.endRound,Sem.run_bind,Hg j,Result.andThen,z,Sem.run_pure]
  ·cases e
 ·cases e
theorem mF (PO:SQ P) (hD : ∀ rec,RecOK P rec->LD P rec) (F:Nat) {rec:OZ} (R:RecOK P rec):RecOK P (ld P sh F rec):=by
 have D:LD P rec:=hD _ R
 have M8 : ∀ {c:Code} {fr X:Fr} {h h':Hp} {ex:Ex},exec P sh rec F c fr h=some (ex,X,h') ->
  ∀ {M:CJ} {μ:Mu} {w:World} {b:Frame} {a:Act} {cs:List Frame} (k:List Item),Sim M μ h w->FrRep M μ fr b a cs->Ran P M μ w (lone (b.atR a (.code c::k)) cs w) b k cs ex X h':=(SR R D F).1
 refine ⟨?_,?_,?_⟩
 ·intro f args h o G h' e M μ w vs s U cs;simp only [ld] at e;split at e
  ·rename_i p hp;obtain ⟨⟨v,S⟩,hd,e⟩:=AQ e;cases e;obtain ⟨A,μ',w',fr,x,W,N,O,Z,q5,q6⟩:=PO f p hp args h v S hd M μ w vs s U cs;exact ⟨A,μ',w',fr,W,N,O,Z,x,q5,q6⟩
  ·split at e
   ·rename_i fn L;split at e
    ·rename_i c hc;obtain ⟨A,μ',w',fr,cs',W,N,O,Z,q5,q6,q7,q8⟩:=X6 R D L hc e s U .normal cs rfl;have:=KT rfl Z;subst this;refine ⟨A,μ',w',fr,W,N,O,q6,?_⟩;cases o with
     | ret v=>obtain ⟨x,hx,S,h2,E⟩:=q8;exact ⟨x,hx,S,h2,q7,E⟩
     | pan ch=>exact q8
    ·cases e
   ·cases e
 ·intro f u args h o G h' e M μ w vs s U c cs hu;simp only [ld] at e;split at e
  ·cases e
  split at e
  ·rename_i fn L;split at e
   ·rename_i c' hc;obtain ⟨A,μ',w',fr,cs',W,N,O,Z,q5,q6,q7,q8⟩:=X6 R D L hc e s U .deferred (c::cs) ⟨rfl,c,cs,rfl,hu⟩;cases G with
    | none=>cases q5
    | some u' =>
     obtain ⟨_,c1,tl,rfl,hm⟩:=q5;rcases Z with h0 | ⟨_,c2,tl2,m,S,h2⟩
     ·cases h0;refine ⟨A,μ',w',fr,c.mode,u',W,N,O,rfl,hm,q7,q8⟩
     ·cases S;cases h2;exact ⟨A,μ',w',fr,m,u',W,N,O,rfl,hm,q7,q8⟩
   ·cases e
  ·cases e
 ·intro l args h o G h' e M μ w vs r s U Y c cs;simp only [ld] at e;split at e
  ·rename_i st pend nt t ps C q d hb;split at e
   ·rename_i t1 hset;split at e
    ·rename_i fr1 S hasg;split at e
     ·rename_i pend2 nt2 t2 ps2 asg2 body2 d2 hb2;split at e
      ·rename_i h2 J;obtain ⟨r',hr',j,rd,b1,b2,b3,b4,b5,b6,b7,b8,b9,b10⟩:=s.blk l _ hb;rw [Y] at hr';cases hr';obtain ⟨hlen,htm⟩:=GZ hset U b5
       have hy:(Instr.yield r.b vs.toArray).run P w = .ok (.round r.b j.fn ((j.params.zip vs.toArray).foldl (λtmps (t,a)=>tmps.setIfInBounds t a) j.tmps) j.assign j.body) w:=by
        have : ¬ (vs.toArray.size≠j.params.size):=by rw [b6];simp [hlen]
        simp only [Instr.yield,Sem.run_bind,Hg b1,Result.andThen,if_neg this,Sem.run_pure]
       let b:Frame:={ fn:=j.fn,tmps := #[],todo:=[],defers:=[],mode:=.run,kind:=.normal,roundOf:=some r.b }
       have I:TmpsRep M μ t1 nt ((j.params.zip vs.toArray).foldl (λtmps (t,a)=>tmps.setIfInBounds t a) j.tmps):=by
        rw [b6];simpa using htm
       have hb0 : ∀ K,Frame.round r.b j.fn K j.assign j.body .normal=b.atR { tmps:=K,defers:=[] } [.code C,.beginRound,.code q]:=by
        intro K;simp [Frame.round,Frame.atR,b,b7,b8]
       generalize (j.params.zip vs.toArray).foldl (λtmps (t,a)=>tmps.setIfInBounds t a) j.tmps=K at hy I;have f0:FrRep M μ { t:=t1,nt,ds:=[],up:=none,ro:=some l } b { tmps:=K,defers:=[] } (c::cs):=⟨I,trivial,rfl,r,Y,rfl⟩;obtain ⟨M1,μ1,w1,a1,cs1,s1,g1,f1,t1',arr⟩:=M8 hasg (b:=b) [.beginRound,.code q] s f0;have:=KT rfl t1';subst this;rw [<- hb0] at arr;obtain ⟨r2,hr2,l2,rd2,c1,c2,c3,c4,c5,c6,c7,c8,c9,c10⟩:=s1.blk l _ hb2;rw [g1.u _ _ Y] at hr2;cases hr2;have so:=EQ (P:=P) (o':=.loop { l2 with state:=.busy }) c1 (by intro a t f hc;cases hc)
       obtain ⟨s2,g2⟩:=s1.object (o':=.loop { l2 with state:=.busy }) hb2 (g1.u _ _ Y) trivial J c1 (by intro a t f hc;cases hc)
        ⟨_,rd2,rfl,rfl,by decide,c4,c5,c6,c7,c8,c9,c10⟩
       have hbr:(Instr.beginRound r.b).run P w1 = .ok () { w1 with heap:=w1.heap.setIfInBounds r.b (.loop { l2 with state:=.busy }) }:=by
        have:l2.state = .ready:=c2;simp only [Instr.beginRound,Sem.run_bind,Hg c1,Result.andThen,so,this,Sem.run_pure]
       have st1:Steps P (lone (Frame.round r.b j.fn K j.assign j.body .normal) (c::cs) w) (lone (b.atR a1 [.code q]) (c::cs) _):=Steps.trans arr (.one (stepR_beginRound rfl hbr));have f1':=f1.mono g2.m g2.u
       have B : ∀ {ex:Ex} {z:Fr} {E:Hp} {i:Option Code},exec P sh rec F q fr1 h2=some (ex,z,E) ->
         (ex = .normal/\i=none\/ex = .ret/\i=some .ret\/(∃ id,ex = .exit id/\i=some (.exit id)) \/ ∃ id,ex = .goto id/\i=some (.goto id))->DB E l i=some (o,G,h') ->
         ∃ A μ' w' x v fn tmps C body,o = .ret v/\(Instr.yield r.b vs.toArray).run P w = .ok (.round r.b fn tmps C body) w/\Sim A μ' h' w'/\Grow M μ w A μ' w'/\Rep A μ' v x /\
          Steps P (lone (Frame.round r.b fn tmps C body .normal) (c::cs) w) (lone (c.finish x) cs w'):=by
        intro ex z E i n hj he;obtain ⟨M3,μ3,w3,a3,cs3,s3,g3,f3,t3,g⟩:=M8 n (b:=b) [] s2 f1';have:=KT rfl t3;subst this;obtain ⟨w4,y,ho,s4,g4⟩:=KU (P:=P) s3 (g3.u _ _ (g1.u _ _ Y)) he;refine ⟨M3,μ3,w4,.bool i.isNone,.bool i.isNone,j.fn,K,j.assign,j.body,ho,hy,s4,(g1.trans g2).trans (g3.trans g4),.bool _ _,st1.trans ?_⟩;rcases hj with ⟨rfl,rfl⟩ | ⟨rfl,rfl⟩ | ⟨id,rfl,rfl⟩ | ⟨id,rfl,rfl⟩
        ·exact Steps.trans g (.one (stepR_round_end rfl rfl y))
        ·obtain ⟨k1,g⟩:=g;exact Steps.trans g (.one (stepR_round_ret rfl rfl y))
        ·obtain ⟨k1,hk,g⟩:=g;exact Steps.trans g (.one (stepR_round_exit rfl rfl (by rw [hk];rfl) y))
        ·obtain ⟨k1,hk,g⟩:=g;exact Steps.trans g (.one (stepR_round_goto rfl rfl (by rw [hk];rfl) y))
       split at e
       ·rename_i z E n;exact B n (.inl ⟨rfl,rfl⟩) e
       ·rename_i z E n;exact B n (.inr (.inl ⟨rfl,rfl⟩)) e
       ·rename_i id z E n;exact B n (.inr (.inr (.inl ⟨id,rfl,rfl⟩))) e
       ·rename_i id z E n;exact B n (.inr (.inr (.inr ⟨id,rfl,rfl⟩))) e
       ·cases e
      ·cases e
     ·cases e
    ·cases e
   ·cases e
  ·cases e
theorem cG (b:SQ P) (a : ∀ rec,RecOK P rec->LD P rec) (F:Nat) : ∀ n,RecOK P (GA P sh F n)
 | 0=>cF P
 | n+1=>mF b a F (cG b a F n)
end
end Go.Proofs.YtfilfloanndddaaGreat.Pi
namespace Go.Proofs.YtfilfloanndddaaGreat.Pi
variable [Gl]
section
variable {P:Program} {hs h h1 h2:Hp} {id:Nat}
def KM (hs h:Hp):Prop := ∀ x b,hs.get x=some b->h.get x=some b
structure Lay (hs h h1 h2:Hp) (id:Nat):Prop where
 get : ∀ x,h2.get x=match h1.get x with
  | some b=>some b
  | none=>h.get x
 keys : ∀ x b,h1.get x=some b->(∃ b0,hs.get x=some b0)\/x=id
 up : ∀ x,h1.get x=none->hs.get x=none
theorem Lay.refl (s:KM hs h) (id:Nat):Lay hs h hs h id:=⟨λx=>by
 cases e:hs.get x with
 | none=>rfl
 | some b=>exact s x b e,λx b e => .inl ⟨b,e⟩,λ_ h=>h⟩
theorem Lay.sub (l:Lay hs h h1 h2 id):KM h1 h2:=λx b e=>by rw [l.get,e]
theorem Hp.set_some {h:Hp} {j:Nat} {b b':Blk} {h':Hp} (e:h.set j b=some h') (g:Hp) : ∃ a,g.set j b'=some a:=by
 unfold Hp.set at e ⊢;cases c:Nat.blt j (j+1) with
 | false=>rw [c] at e;cases e
 | true=>exact ⟨_,rfl⟩
theorem Lay.set (l:Lay hs h h1 h2 id) {j:Nat} {b b0:Blk} {g:Hp} (k:h1.get j=some b0) (e:h1.set j b=some g) : ∃ f,h2.set j b=some f/\Lay hs h g f id:=by
 obtain ⟨f,e2⟩:=Hp.set_some (b':=b) e h2;have i:=(Hp.get_set e).1;have m:=(Hp.get_set e2).1
 refine ⟨f,e2,⟨λx => ?_,λx c a => ?_,λx a=>l.up x (by
  rw [i] at a;by_cases d:x=j
  ·rw [if_pos d] at a;cases a
  ·rw [if_neg d] at a;exact a)⟩⟩
 ·rw [i,m];by_cases a:x=j
  ·simp [a]
  ·simp only [if_neg a];exact l.get x
 ·rw [i] at a;by_cases d:x=j
  ·subst d;exact l.keys x b0 k
  ·rw [if_neg d] at a;exact l.keys x c a
theorem Lay.new (l:Lay hs h h1 h2 id) (p:hs.get id=none->h.get id=none) {b:Blk} {i:Hp} (e:h1.new id b=some i) : ∃ f,h2.new id b=some f/\Lay hs h i f id:=by
 obtain ⟨j,k,_⟩:=Hp.get_new e;have o:h2.get id=none:=by rw [l.get,j];exact p (l.up id j)
 unfold Hp.new at e;have n:h1.m.get id=none:=j;rw [n] at e;obtain ⟨f,e2⟩:=Hp.set_some (b':=b) e h2;have q:=(Hp.get_set e2).1
 refine ⟨f,?_,⟨λx => ?_,λx c a => ?_,λx a=>l.up x (by
  rw [k] at a;by_cases d:x=id
  ·rw [if_pos d] at a;cases a
  ·rw [if_neg d] at a;exact a)⟩⟩
 ·unfold Hp.new;have g:h2.m.get id=none:=o;rw [g];exact e2
 ·rw [k,q];by_cases a:x=id
  ·simp [a]
  ·simp only [if_neg a];exact l.get x
 ·rw [k] at a;by_cases d:x=id
  ·exact .inr d
  ·rw [if_neg d] at a;exact l.keys x c a
theorem E9 {f g:PV->Option (PV×List Nat)} (c : ∀ p r,f p=some r->g p=some r) : ∀ {d:List PV} {r:List PV×List Nat},AS f d=some r->AS g d=some r
 | [],r,e=>e
 | p::d,r,e=>by
  unfold AS at e ⊢;split at e
  ·rename_i q a j b i h;rw [c _ _ i,E9 c h];exact e
  ·cases e
theorem ST (s:KM hs h) : ∀ (n:Nat) (p:PV) (r:PV×List Nat),Bg hs n p=some r->Bg h n p=some r
 | 0,p,r,e=>by simp [Bg] at e
 | n+1,p,r,e=>by
  have d:=ST s n;cases p with
  | agg cs=>simp only [Bg] at e ⊢;obtain ⟨x,c,rfl⟩:=AQ e;rw [E9 d c];rfl
  | tup cs=>simp only [Bg] at e ⊢;obtain ⟨x,c,rfl⟩:=AQ e;rw [E9 d c];rfl
  | ifc t x=>simp only [Bg] at e ⊢;obtain ⟨y,u,rfl⟩:=AQ e;rw [d _ _ u];rfl
  | fn f a b =>
   simp only [Bg] at e ⊢;split at e
   ·rename_i x l y m q o;rw [E9 d q,E9 d o];exact e
   ·cases e
  | own j off len =>
   simp only [Bg] at e ⊢;split at e
   ·rename_i es ex fz g;rw [s j _ g];replace e:=Bs e;obtain ⟨hc,e⟩:=e;obtain ⟨x,c,rfl⟩:=AQ e;simp only [hc,cond_true];rw [E9 d c];rfl
   ·cases e
  | ptr j off =>
   simp only [Bg] at e ⊢;split at e
   ·rename_i cs fz g;rw [s j _ g];replace e:=Bs e;obtain ⟨hc,e⟩:=e;obtain ⟨x,c,rfl⟩:=AQ e;simp only [hc,cond_true];rw [E9 d c];rfl
   ·cases e
  | ept j i off =>
   simp only [Bg] at e ⊢;split at e
   ·rename_i es ex fz g;rw [s j _ g];dsimp only;split at e
    ·rename_i w k
     try rw [k]
     replace e:=Bs e;obtain ⟨hc,e⟩:=e;obtain ⟨x,c,rfl⟩:=AQ e;simp only [hc,cond_true];rw [E9 d c];rfl
    ·cases e
   ·cases e
  | yl _=>simp [Bg] at e
  | mp _=>simp [Bg] at e
  | _=>exact e
theorem PZ (s:KM hs h) : ∀ {c:List PV} {r:List PV×List Nat},CH hs c=some r->CH h c=some r
 | [],r,e=>e
 | p::c,r,e=>by
  unfold CH at e ⊢;split at e
  ·rename_i q a g b f d;rw [ST s _ _ _ f,PZ s d];exact e
  ·cases e
theorem RL (s:KM hs h) {p:PV} {es:List PV} (e:EN hs p=some es):EN h p=some es:=by
 unfold EN at e ⊢;cases p with
 | own j off len =>
  simp only at e ⊢;split at e
  ·rename_i a ex fz b;rw [s j _ b];exact e
  ·cases e
 | _=>exact e
theorem Lay.freeze : ∀ (L:List Nat) {g d b:Hp},Lay hs h g d id->Pi.freeze g L=some b -> ∃ f,Pi.freeze d L=some f/\Lay hs h b f id
 | [],g,d,b,l,e=>by simp [Pi.freeze] at e;subst e;exact ⟨d,rfl,l⟩
 | j::L,g,d,b,l,e=>by
  unfold Pi.freeze at e ⊢;split at e
  ·rename_i cs fz c;rw [l.sub j _ c];split at e
   ·rename_i n a;obtain ⟨m,k,i⟩:=l.set c a;dsimp only;rw [k];exact Lay.freeze L i e
   ·cases e
  ·rename_i es ex fz c;rw [l.sub j _ c];split at e
   ·rename_i n a;obtain ⟨m,k,i⟩:=l.set c a;dsimp only;rw [k];exact Lay.freeze L i e
   ·cases e
  ·cases e
def GR (hs h:Hp) (id:Nat) (F:Option R):R->Prop
 | .val v b => ∃ a,F=some (.val v a)/\Lay hs h b a id
 | .skip b => ∃ a,F=some (.skip a)/\Lay hs h b a id
 | .call f args=>F=some (.call f args)
 | _=>True
theorem A0 (s:KM hs h) {F:Option R} {v:PV} (e:F=some (.val v h)):GR hs h id F (.val v hs):=⟨h,e,.refl s id⟩
theorem Ht (s:KM hs h) {o:Option PV} {r:R} (e:vl o hs=some r):GR hs h id (vl o h) r:=by
 obtain ⟨v,rfl,rfl⟩:=Ic e;exact A0 s rfl
theorem cI (s:KM hs h) {c a b:PV} {r:R} (e:Iv hs c a b=some r):GR hs h id (Iv h c a b) r:=by
 unfold Iv at e ⊢;split at e<;>cases e<;>exact A0 s rfl
theorem ZJ (s:KM hs h) (a:hs.get id=none->h.get id=none) {b:TypeId} {r:R} (e:HU P hs id b=some r):GR hs h id (HU P h id b) r:=by
 unfold HU at e ⊢;split at e
 ·obtain ⟨g,c,rfl⟩:=AQ e;obtain ⟨d,e2,f⟩:=(Lay.refl s id).new a c;exact ⟨d,by rw [e2];rfl,f⟩
 ·cases e
theorem ju (s:KM hs h) (a:hs.get id=none->h.get id=none) {v:PV} {r:R} (e:Lh hs id v=some r):GR hs h id (Lh h id v) r:=by
 unfold Lh at e ⊢;split at e
 ·cases e
 ·obtain ⟨f,b,rfl⟩:=AQ e;obtain ⟨c,e2,d⟩:=(Lay.refl s id).new a b;exact ⟨c,by rw [e2];rfl,d⟩
theorem ZK (s:KM hs h) {ty:TypeId} {b:List (Nat×PV)} {r:R} (e:FP P hs ty b=some r):GR hs h id (FP P h ty b) r:=by
 unfold FP at e ⊢;split at e
 ·replace e:=Bs e;obtain ⟨hc,e⟩:=e;split at e
  ·rename_i pl c;obtain ⟨cs,a,rfl⟩:=AQ e;refine A0 s ?_;simp only [hc,cond_true,a,Option.map_some]
  ·cases e
 ·split at e
  ·rename_i n d;replace e:=Bs e;obtain ⟨hc,e⟩:=e;obtain ⟨cs,a,rfl⟩:=AQ e;refine A0 s ?_;simp only [hc,cond_true,a,Option.map_some]
  ·cases e
 ·cases e
theorem Pa (s:KM hs h) {ty:TypeId} {len:Nat} {c:List (Nat×PV)} {r:R} (e:By P hs ty len c=some r):GR hs h id (By P h ty len c) r:=by
 unfold By at e ⊢;split at e
 ·split at e
  ·rename_i n p z f b d
   try rw [f,b,d]
   try dsimp only
   split at e
   ·rename_i o a
    try rw [a]
    replace e:=E6 e;obtain ⟨hc,e⟩:=e;split at e
    ·rename_i es m;split at e
     ·rename_i t l j;obtain ⟨q,g,rfl⟩:=AQ e;obtain ⟨i,e2,k⟩:=Lay.freeze l (Lay.refl s id) g;refine ⟨i,?_,k⟩;simp only [hc,cond_false,PZ s j,e2,Option.map_some]
     ·cases e
    ·cases e
   ·cases e
  ·cases e
 ·cases e
theorem cJ (s:KM hs h) {ty:TypeId} {p:PV} {r:R} (e:GD P hs ty p=some r):GR hs h id (GD P h ty p) r:=by
 unfold GD at e ⊢;split at e
 ·split at e
  ·rename_i cs fz a;rw [s _ _ a];exact Ht s e
  ·cases e
 ·exact Ht s e
 ·split at e
  ·rename_i es ex fz a;rw [s _ _ a];dsimp only;split at e
   ·rename_i c b;try rw [b]
    exact Ht s e
   ·cases e
  ·cases e
 ·cases e
theorem ZL (s:KM hs h) {ty:TypeId} {p v:PV} {r:R} (e:DU P hs ty p v=some r):GR hs h id (DU P h ty p v) r:=by
 unfold DU at e ⊢;split at e
 ·rename_i n m;replace e:=E6 e;obtain ⟨hc,e⟩:=e;simp only [hc,cond_false];split at e
  ·split at e
   ·rename_i cs d;rw [s _ _ d];replace e:=Bs e;obtain ⟨b,e⟩:=e;obtain ⟨l,a,rfl⟩:=AQ e;obtain ⟨f,e2,g⟩:=(Lay.refl s id).set d a;exact ⟨f,by simp only [b,cond_true,e2,Option.map_some],g⟩
   ·cases e
  ·split at e
   ·rename_i es ex d;rw [s _ _ d];dsimp only;split at e
    ·rename_i o i
     try rw [i]
     replace e:=Bs e;obtain ⟨b,e⟩:=e;simp only [b,cond_true];split at e
     ·obtain ⟨l,a,rfl⟩:=AQ e;obtain ⟨f,e2,g⟩:=(Lay.refl s id).set d a;exact ⟨f,by simp only [e2,Option.map_some],g⟩
     ·split at e
      ·rename_i c k
       try rw [k]
       replace e:=Bs e;obtain ⟨j,e⟩:=e;simp only [j,cond_true];split at e
       ·cases e
       ·cases e
       ·obtain ⟨l,a,rfl⟩:=AQ e;obtain ⟨f,e2,g⟩:=(Lay.refl s id).set d a;exact ⟨f,by simp only [e2,Option.map_some],g⟩
      ·cases e
    ·cases e
   ·cases e
  ·cases e
 ·cases e
end
end Go.Proofs.YtfilfloanndddaaGreat.Pi
namespace Go.Proofs.YtfilfloanndddaaGreat.Pi
variable [Gl]
section
variable {P:Program} {hs h h1 h2:Hp} {id:Nat}
theorem jv (s:KM hs h) {p:PV} {r:R} (e:KO hs p=some r):GR hs h id (KO h p) r:=by
 unfold KO at e ⊢;split at e<;>first | (cases e;exact A0 s rfl) | cases e
theorem jw (s:KM hs h) {a:BinOp} {ty:TypeId} {x y:Operand} {p q:PV} {r:R} (e:Ia P hs a ty x y p q=some r):GR hs h id (Ia P h a ty x y p q) r:=by
 unfold Ia at e ⊢;split at e
 ·replace e:=Bs e;obtain ⟨hc,e⟩:=e;simp only [hc,cond_true];exact Ht s e
 ·replace e:=E6 e;obtain ⟨hc,e⟩:=e;simp only [hc,cond_false];exact Ht s e
 ·exact Ht s e
theorem UB (s:KM hs h) {a b:TypeId} {p:PV} {r:R} (e:Dc P hs a b p=some r):GR hs h id (Dc P h a b p) r:=by
 unfold Dc at e ⊢;split at e
 ·cases e;exact A0 s rfl
 ·cases e;exact A0 s rfl
 ·split at e
  ·cases e;exact A0 s rfl
  ·cases e
 ·cases e
theorem jx (s:KM hs h) {ty:TypeId} {p:PV} {r:R} (e:KC P hs ty p=some r):GR hs h id (KC P h ty p) r:=by
 unfold KC at e ⊢;split at e<;>first | (cases e;exact A0 s rfl) | cases e
theorem SU (s:KM hs h) {f:Fn} {a b:List PV} {r:R} (e:DK hs f a b=some r):GR hs h id (DK h f a b) r:=by
 unfold DK at e ⊢;split at e<;>first | (cases e;exact A0 s rfl) | cases e
theorem UC (s:KM hs h) {p:PV} {i:Nat} {r:R} (e:El hs p i=some r):GR hs h id (El h p i) r:=by
 unfold El at e ⊢;split at e
 ·exact Ht s e
 ·cases e
theorem ZM (s:KM hs h) {ty:TypeId} {p:PV} {f:Nat} {r:R} (e:F9 P hs ty p f=some r):GR hs h id (F9 P h ty p f) r:=by
 unfold F9 at e ⊢;split at e
 ·split at e
  ·rename_i b a
   try rw [a]
   exact Ht s e
  ·cases e
 ·cases e
theorem Qv (s:KM hs h) {ty:TypeId} {p:PV} {f:Nat} {r:R} (e:CV P hs ty p f=some r):GR hs h id (CV P h ty p f) r:=by
 unfold CV at e ⊢;split at e
 ·split at e
  ·rename_i c a;split at e
   ·rename_i n b;replace e:=E6 e;obtain ⟨hc,e⟩:=e
    try simp only [a,b]
    simp only [hc,cond_false];split at e<;>first | (cases e;exact A0 s rfl) | cases e
   ·cases e
  ·cases e
 ·cases e
theorem Qw (s:KM hs h) {ty:TypeId} {p q:PV} {r:R} (e:CK P hs ty p q=some r):GR hs h id (CK P h ty p q) r:=by
 unfold CK at e ⊢;split at e
 ·split at e
  ·rename_i n b
   try simp only [b]
   split at e
   ·split at e
    ·rename_i f a
     try simp only [a]
     replace e:=Bs e;obtain ⟨hc,e⟩:=e;cases e;simp only [hc,cond_true];exact A0 s rfl
    ·cases e
   ·replace e:=Bs e;obtain ⟨hc,e⟩:=e;simp only [hc,cond_true];split at e
    ·rename_i es ex fz d;rw [s _ _ d]
     try dsimp only
     split at e
     ·rename_i f a
      try simp only [a]
      replace e:=Bs e;obtain ⟨c,e⟩:=e;cases e;simp only [c,cond_true];exact A0 s rfl
     ·cases e
    ·cases e
   ·cases e
  ·cases e
 ·split at e
  ·rename_i n b
   try simp only [b]
   replace e:=Bs e;obtain ⟨hc,e⟩:=e;simp only [hc,cond_true];split at e<;>first | (cases e;exact A0 s rfl) | cases e
  ·cases e
 ·cases e
theorem ZN (s:KM hs h) {ty:TypeId} {p q:PV} {r:R} (e:FQ P hs ty p q=some r):GR hs h id (FQ P h ty p q) r:=by
 unfold FQ at e ⊢;split at e
 ·replace e:=Bs e;obtain ⟨hc,e⟩:=e;simp only [hc,cond_true];split at e
  ·rename_i n a
   try simp only [a]
   exact Ht s e
  ·cases e
 ·split at e
  ·rename_i b c
   try simp only [c]
   cases e;exact A0 s rfl
  ·cases e
 ·cases e
theorem Vx (s:KM hs h) {ty:TypeId} {p:PV} {a:Bool} {r:R} (e:Dh P hs ty p a=some r):GR hs h id (Dh P h ty p a) r:=by
 have z : ∀ {r:R},(bif a then (match E3 P ty with
   | some z=>some (R.val (.tup [z,.bool false]) hs)
   | none=>none) else none)=some r->GR hs h id (bif a then (match E3 P ty with
   | some z=>some (R.val (.tup [z,.bool false]) h)
   | none=>none) else none) r:=by
  intro r e;replace e:=Bs e;obtain ⟨hc,e⟩:=e;simp only [hc,cond_true];split at e
  ·rename_i z c
   try simp only [c]
   cases e;exact A0 s rfl
  ·cases e
 unfold Dh at e ⊢;split at e
 ·split at e
  ·split at e
   ·rename_i i hi
    try simp only [hi]
    split at e
    ·rename_i b
     try simp only [b]
     cases e;exact A0 s rfl
    ·rename_i d b
     try simp only [b]
     exact z e
   ·cases e
  ·exact z e
  ·cases e
 ·split at e
  ·cases hc:Nat.beq _ ty with
   | true=>rw [hc] at e;cases e;simp only [cond_true];exact A0 s rfl
   | false=>rw [hc] at e;simp only [cond_false] at e ⊢;exact z e
  ·exact z e
  ·cases e
 ·cases e
theorem cK (s:KM hs h) (b:hs.get id=none->h.get id=none) {ty:TypeId} {l c:PV} {r:R} (e:Hr P hs id ty l c=some r):GR hs h id (Hr P h id ty l c) r:=by
 unfold Hr at e ⊢;split at e
 ·split at e
  ·rename_i n p z t m g j i
   try simp only [m,g,j,i]
   split at e
   ·rename_i o a
    try simp only [a]
    replace e:=Bs e;obtain ⟨hc,e⟩:=e;obtain ⟨q,d,rfl⟩:=AQ e;obtain ⟨f,e2,k⟩:=(Lay.refl s id).new b d;exact ⟨f,by simp only [hc,cond_true,e2,Option.map_some],k⟩
   ·cases e
  ·cases e
 ·cases e
theorem jy (s:KM hs h) {j off len:Nat} {r:R} (e:Ib hs j off len=some r):GR hs h id (Ib h j off len) r:=by
 unfold Ib at e ⊢;split at e
 ·rename_i f xs a d;rw [ST s _ _ _ d];obtain ⟨i,b,rfl⟩:=AQ e;obtain ⟨c,e2,g⟩:=Lay.freeze a (Lay.refl s id) b;exact ⟨c,by simp only [e2,Option.map_some],g⟩
 ·cases e
theorem ZO (s:KM hs h) {ty:TypeId} {p:PV} {lo hi mx:Option PV} {r:R} (e:B7 P hs ty p lo hi mx=some r):GR hs h id (B7 P h ty p lo hi mx) r:=by
 unfold B7 at e ⊢;split at e
 ·split at e
  ·rename_i hh l d c
   try simp only [d,c]
   replace e:=Bs e;obtain ⟨hc,e⟩:=e;cases e;simp only [hc,cond_true];exact A0 s rfl
  ·cases e
 ·split at e
  ·cases e
  ·rename_i n i
   try simp only [i]
   split at e
   ·split at e
    ·rename_i d c k
     try simp only [d,c,k]
     replace e:=E6 e;obtain ⟨hc,e⟩:=e;cases e;simp only [hc,cond_false];exact A0 s rfl
    ·cases e
   ·replace e:=E6 e;obtain ⟨hc,e⟩:=e;simp only [hc,cond_false];split at e
    ·rename_i l hh d c
     try simp only [d,c]
     split at e
     ·replace e:=Bs e;obtain ⟨b,e⟩:=e;cases e;simp only [b,cond_true];exact A0 s rfl
     ·split at e
      ·rename_i m f
       try simp only [f]
       replace e:=Bs e;obtain ⟨b,e⟩:=e;cases e;simp only [b,cond_true];exact A0 s rfl
      ·cases e
    ·cases e
   ·split at e
    ·rename_i es ex fz j;rw [s _ _ j]
     try dsimp only
     replace e:=E6 e;obtain ⟨hc,e⟩:=e;simp only [hc,cond_false];split at e
     ·rename_i l hh d c
      try simp only [d,c]
      replace e:=E6 e;obtain ⟨g,e⟩:=e;simp only [g,cond_false];split at e
      ·cases a:Nat.blt _ es.length with
       | true=>rw [a] at e;cases e;simp only [cond_true];exact A0 s rfl
       | false=>rw [a] at e;cases e;simp only [cond_false];exact A0 s rfl
      ·split at e
       ·rename_i m f
        try simp only [f]
        generalize o:(hi.isSome&&Nat.ble hh m&&ex&&Nat.beq _ es.length)=A at e ⊢;cases A with
        | true =>
         simp only [cond_true] at e ⊢;cases a:Nat.blt _ es.length with
         | true=>rw [a] at e;cases e;simp only [cond_true];exact A0 s rfl
         | false=>rw [a] at e;cases e;simp only [cond_false];exact A0 s rfl
        | false =>
         simp only [cond_false] at e ⊢;replace e:=Bs e;obtain ⟨b,e⟩:=e;simp only [b,cond_true];exact jy s e
       ·cases e
     ·cases e
    ·cases e
   ·cases e
 ·cases e
theorem jz (s:KM hs h) (f:hs.get id=none->h.get id=none) {t:TypeId} {p q:PV} {r:R} (e:KL P hs id t p q=some r):GR hs h id (KL P h id t p q) r:=by
 unfold KL at e ⊢;split at e
 ·split at e
  ·rename_i B C new z m w x o;rw [RL s x]
   try simp only [m,w,o]
   replace e:=E6 e;obtain ⟨hc,e⟩:=e;simp only [hc,cond_false]
   have fresh : ∀ {row:Blk} {v:PV} {r:R},(hs.new id row).map (λh=>R.val v h)=some r->GR hs h id ((h.new id row).map λh=>R.val v h) r:=by
    intro row v r e;obtain ⟨l,k,rfl⟩:=AQ e;obtain ⟨i,e2,g⟩:=(Lay.refl s id).new f k;exact ⟨i,by rw [e2];rfl,g⟩
   split at e
   ·cases a:new.isEmpty with
    | true=>rw [a] at e;cases e;simp only [cond_true];exact A0 s rfl
    | false =>
     rw [a] at e;simp only [cond_false] at e ⊢;replace e:=Bs e;obtain ⟨c,e⟩:=e;simp only [c,cond_true];exact fresh e
   ·cases a:new.isEmpty with
    | true=>rw [a] at e;cases e;simp only [cond_true];exact A0 s rfl
    | false =>
     rw [a] at e;simp only [cond_false] at e ⊢;replace e:=Bs e;obtain ⟨c,e⟩:=e;simp only [c,cond_true];exact fresh e
   ·split at e
    ·rename_i es ex fz j;rw [s _ _ j]
     try dsimp only
     replace e:=E6 e;obtain ⟨c,e⟩:=e;simp only [c,cond_false];cases ex with
     | true =>
      simp only [cond_true] at e ⊢;cases a:new.isEmpty with
      | true=>rw [a] at e;cases e;simp only [cond_true];exact A0 s rfl
      | false =>
      rw [a] at e;simp only [cond_false] at e ⊢;generalize Nat.ble _ es.length=A at e ⊢;cases A with
      | true =>
       simp only [cond_true] at e ⊢;replace e:=E6 e;obtain ⟨d,e⟩:=e;simp only [d,cond_false];obtain ⟨l,b,rfl⟩:=AQ e;obtain ⟨i,e2,g⟩:=(Lay.refl s id).set j b;exact ⟨i,by rw [e2];rfl,g⟩
      | false =>
       simp only [cond_false] at e ⊢;exact fresh e
     | false =>
      simp only [cond_false] at e ⊢;replace e:=Bs e;obtain ⟨d,e⟩:=e;simp only [d,cond_true];split at e
      ·rename_i y b;obtain ⟨l,k,rfl⟩:=AQ e;obtain ⟨i,e2,g⟩:=(Lay.refl s id).set j b;obtain ⟨u,e3,n⟩:=g.new f k;exact ⟨u,by simp only [e2,e3,Option.map_some],n⟩
      ·cases e
    ·cases e
   ·cases e
  ·cases e
 ·cases e
theorem Ih {f:Fn} {a b args:List PV} {r:R} (e:F8 P f a b args=some r) : ∃ g c,r = .call g c:=by
 unfold F8 at e;split at e
 ·obtain ⟨rfl,_⟩:=cA e;exact ⟨_,_,rfl⟩
 ·split at e
  ·split at e
   ·split at e
    ·split at e
     ·obtain ⟨rfl,_⟩:=PC e;exact ⟨_,_,rfl⟩
     ·cases e
     ·obtain ⟨rfl,_⟩:=PC e;exact ⟨_,_,rfl⟩
     ·cases e
    ·cases e
   ·cases e
  ·cases e
 ·cases e
end
end Go.Proofs.YtfilfloanndddaaGreat.Pi
namespace Go.Proofs.YtfilfloanndddaaGreat.Pi
variable [Gl]
section
variable {P:Program} {hs h h1 h2:Hp} {id:Nat}
def L1 (t a:T PV) (l:List Operand):Prop := ∀ k,.tmp k∈l->t.get k=a.get k
theorem LG {t a:T PV} {l:List Operand} (c:L1 t a l) {o:Operand} (b:o∈l):GU t o=GU a o:=by
 cases o with
 | tmp k=>simp only [GU,c k b]
 | _=>rfl
theorem H6 {t b:T PV} {l:List Operand} (c:L1 t b l) : ∀ {a:List Operand},(∀ o∈a,o∈l)->Vh t a=Vh b a
 | [],_=>rfl
 | o::a,ho=>by
  unfold Vh;rw [LG c (ho o (by simp)),H6 c λx d=>ho x (by simp [d])]
theorem I0 {t b:T PV} {l:List Operand} (c:L1 t b l) : ∀ {a:List (Nat×Operand)},(∀ o∈a,o.2∈l)->F6 t a=F6 b a
 | [],_=>rfl
 | (i,o)::os,ho=>by
  unfold F6;rw [LG c (ho (i,o) (by simp)),I0 c λx d=>ho x (by simp [d])]
theorem Ns {t a:T PV} {l:List Operand} (c:L1 t a l) {o:Option Operand} (b : ∀ x∈o.toList,x∈l):jh t o=jh a o:=by
 cases o with
 | none=>rfl
 | some x=>simp only [jh,LG c (b x (by simp))]
theorem Jj {t j:T PV} {o:Oper} (d:CQ o.op=true) (a:L1 t j (Cb o.op)):BC P t h id o=BC P j h id o:=by
 unfold BC;generalize m:o.op=l at a d;have e:=λx i=>LG a (o:=x) i;cases l with
 | call c =>
  simp only [CQ] at d;simp only [Cb] at a e;cases hc:c.callee with
  | builtin b =>
   rw [hc] at a;simp only [hc];rw [H6 a λx i=>i]
  | value f =>
   rw [hc] at a e;simp only [hc,e1];rw [H6 a λx i=>by simp [i],e f (by simp)]
  | invoke r p =>
   rw [hc] at a e;simp only [hc,e1];rw [H6 a λx i=>by simp [i],e r (by simp)]
 | build ty k =>
  simp only [Cb] at a;simp only;rw [I0 a λx i=>List.mem_map.2 ⟨x,i,rfl⟩]
 | buildSlice ty n k =>
  simp only [Cb] at a;simp only;rw [I0 a λx i=>List.mem_map.2 ⟨x,i,rfl⟩]
 | makeFunc f x y =>
  simp only [Cb] at a;simp only;rw [H6 a λz g=>List.mem_append_left _ g,H6 a λz g=>List.mem_append_right _ g]
 | slice ty x lo hi mx =>
  simp only [Cb] at a e;simp only [e1];rw [Ns (o:=lo) a λz g=>by simp at g ⊢;simp [g],Ns (o:=hi) a λz g=>by simp at g ⊢;simp [g],Ns (o:=mx) a λz g=>by simp at g ⊢;simp [g],e x (by simp)]
 | lookup _ _ _ _=>cases d
 | mapUpdate _ _ _ _=>cases d
 | insert _ _ _ _=>cases d
 | defer _=>cases d
 | panic _=>cases d
 | move x=>simp only [Cb] at e;simp only [e x (by simp)]
 | assign x=>simp only [Cb] at e;simp only [e x (by simp)]
 | pick c x y=>simp only [Cb] at e;simp only [e3,e c (by simp),e x (by simp),e y (by simp)]
 | alloc _=>rfl
 | box _ x=>simp only [Cb] at e;simp only [e1,e x (by simp)]
 | load _ x=>simp only [Cb] at e;simp only [e1,e x (by simp)]
 | store _ x y=>simp only [Cb] at e;simp only [e2,e x (by simp),e y (by simp)]
 | nilCheck x=>simp only [Cb] at e;simp only [e1,e x (by simp)]
 | binOp _ _ x y _=>simp only [Cb] at e;simp only [e2,e x (by simp),e y (by simp)]
 | unOp _ _ x=>simp only [Cb] at e;simp only [e1,e x (by simp)]
 | convert _ _ x=>simp only [Cb] at e;simp only [e1,e x (by simp)]
 | makeInterface _ x=>simp only [Cb] at e;simp only [e1,e x (by simp)]
 | makeMap ty r=>cases r<;>rfl
 | makeSlice _ x y=>simp only [Cb] at e;simp only [e2,e x (by simp),e y (by simp)]
 | fieldAddr _ x _=>simp only [Cb] at e;simp only [e1,e x (by simp)]
 | field _ x _=>simp only [Cb] at e;simp only [e1,e x (by simp)]
 | indexAddr _ x y=>simp only [Cb] at e;simp only [e2,e x (by simp),e y (by simp)]
 | index _ x y=>simp only [Cb] at e;simp only [e2,e x (by simp),e y (by simp)]
 | typeAssert x _ _ _=>simp only [Cb] at e;simp only [e1,e x (by simp)]
 | extract x _=>simp only [Cb] at e;simp only [e1,e x (by simp)]
 | _=>rfl
theorem Bn {t:T PV} {x:Operand} {k:PV->Option R} {r:R} (e:e1 t x k=some r) : ∃ p,GU t x=some p/\k p=some r:=by
 unfold e1 at e;split at e
 ·rename_i p a;exact ⟨p,a,e⟩
 ·cases e
theorem Ga {t:T PV} {x y:Operand} {k:PV->PV->Option R} {r:R} (e:e2 t x y k=some r) : ∃ p q,GU t x=some p/\GU t y=some q/\k p q=some r:=by
 unfold e2 at e;split at e
 ·rename_i p q a b;exact ⟨p,q,a,b,e⟩
 ·cases e
theorem X7 {t:T PV} {x y z:Operand} {k:PV->PV->PV->Option R} {r:R} (e:e3 t x y z k=some r) : ∃ p q s,GU t x=some p/\GU t y=some q/\GU t z=some s/\k p q s=some r:=by
 unfold e3 at e;split at e
 ·rename_i p q s a b hs;exact ⟨p,q,s,a,b,hs,e⟩
 ·cases e
theorem UD (s:KM hs h) {f:Int->Int->Int} {a:Int} {l:List PV} {k:IntKind} {r:R} (e:(F7 f a l k).map (λm=>R.val (.int k m) hs)=some r):GR hs h id ((F7 f a l k).map λm=>R.val (.int k m) h) r:=by
 obtain ⟨m,b,rfl⟩:=AQ e;exact A0 s (by rw [b];rfl)
theorem UE (s:KM hs h) (i:hs.get id=none->h.get id=none) {b:Builtin} (m:b = .len\/b = .cap\/b = .append\/b = .copy\/b = .max\/b = .min) {d:Array TypeId} {args:List PV} {r:R} (e:Al P hs id b d args=some r) :
  GR hs h id (Al P h id b d args) r:=by
 rcases m with rfl | rfl | rfl | rfl | rfl | rfl
 ·simp only [Al] at e ⊢;split at e
  ·rename_i x t a
   try simp only [a]
   split at e
   ·split at e
    ·rename_i es c
     try simp only [c]
     rw [s _ _ c];cases e;exact A0 s rfl
    ·cases e
   all_goals first | (cases e;done) | (cases e;exact A0 s rfl)
  ·cases e
 ·simp only [Al] at e ⊢;split at e
  ·rename_i x t a
   try simp only [a]
   split at e
   ·split at e
    ·rename_i es fz c
     try simp only [c]
     rw [s _ _ c];cases e;exact A0 s rfl
    ·cases e
   all_goals first | (cases e;done) | (cases e;exact A0 s rfl)
  ·cases e
 ·simp only [Al] at e ⊢;split at e
  ·rename_i p q t B g
   try simp only [g]
   replace e:=Bs e;obtain ⟨hc,e⟩:=e;simp only [hc,cond_true];exact jz s i e
  ·cases e
 ·simp only [Al] at e ⊢;split at e
  ·rename_i j off len x t a
   try simp only [a]
   split at e
   ·rename_i y es ex new w k o;simp only [w,s _ _ k,RL s o];split at e
    ·rename_i z l;replace e:=E6 e;obtain ⟨hc,e⟩:=e;simp only [hc,cond_false];obtain ⟨A,f,rfl⟩:=AQ e;obtain ⟨n,e2,u⟩:=(Lay.refl s id).set k f;exact ⟨n,by simp only [e2,Option.map_some],u⟩
    ·cases e
   ·cases e
  ·cases e
 ·simp only [Al] at e ⊢;split at e
  ·exact UD s e
  ·cases e;exact A0 s rfl
  ·cases e
 ·simp only [Al] at e ⊢;split at e
  ·exact UD s e
  ·cases e;exact A0 s rfl
  ·cases e
theorem RM {F:Option R} {r:R} (e:F=some r) (hc : ∃ g a,r = .call g a):GR hs h id F r:=by
 obtain ⟨g,a,rfl⟩:=hc;exact e
theorem HF (s:KM hs h) (i:hs.get id=none->h.get id=none) {t:T PV} {o:Oper} (d:CQ o.op=true) {r:R} (e:BC P t hs id o=some r):GR hs h id (BC P t h id o) r:=by
 unfold BC at e ⊢;generalize A:o.op=m at d e ⊢;cases m with
 | lookup _ _ _ _=>cases d
 | mapUpdate _ _ _ _=>cases d
 | insert _ _ _ _=>cases d
 | defer _=>cases d
 | panic _=>cases d
 | move x=>exact Ht s e
 | assign x=>exact Ht s e
 | pick c x y=>obtain ⟨p,q,u,a,g,F,e⟩:=X7 e;simp only [e3,a,g,F];exact cI s e
 | alloc _=>exact ZJ s i e
 | box _ x=>obtain ⟨p,a,e⟩:=Bn e;simp only [e1,a];exact ju s i e
 | build ty l =>
  simp only at e ⊢;split at e
  ·rename_i p k;try simp only [k]
   exact ZK s e
  ·cases e
 | buildSlice ty n l =>
  simp only at e ⊢;split at e
  ·rename_i p k;try simp only [k]
   exact Pa s e
  ·cases e
 | load _ x=>obtain ⟨p,a,e⟩:=Bn e;simp only [e1,a];exact cJ s e
 | store _ x y=>obtain ⟨p,q,a,g,e⟩:=Ga e;simp only [e2,a,g];exact ZL s e
 | nilCheck x=>obtain ⟨p,a,e⟩:=Bn e;simp only [e1,a];exact jv s e
 | binOp _ _ x y _=>obtain ⟨p,q,a,g,e⟩:=Ga e;simp only [e2,a,g];exact jw s e
 | unOp _ _ x=>obtain ⟨p,a,e⟩:=Bn e;simp only [e1,a];exact Ht s e
 | convert _ _ x=>obtain ⟨p,a,e⟩:=Bn e;simp only [e1,a];exact UB s e
 | makeInterface _ x=>obtain ⟨p,a,e⟩:=Bn e;simp only [e1,a];exact jx s e
 | makeFunc f x y =>
  simp only at e ⊢;split at e
  ·rename_i p q k z;try simp only [k,z]
   exact SU s e
  ·cases e
 | makeMap ty rs =>
  cases rs with
  | none =>
   simp only at e ⊢;obtain ⟨a,w,rfl⟩:=AQ e;obtain ⟨g,e2,D⟩:=(Lay.refl s id).new i w;exact ⟨g,by rw [e2];rfl,D⟩
  | some _=>cases e
 | makeSlice _ x y=>obtain ⟨p,q,a,g,e⟩:=Ga e;simp only [e2,a,g];exact cK s i e
 | slice ty x lo hi mx =>
  simp only at e ⊢;split at e
  ·rename_i E B C;try simp only [E,B,C]
   obtain ⟨p,a,e⟩:=Bn e;simp only [e1,a];exact ZO s e
  ·cases e
 | fieldAddr _ x _=>obtain ⟨p,a,e⟩:=Bn e;simp only [e1,a];exact Qv s e
 | field _ x _=>obtain ⟨p,a,e⟩:=Bn e;simp only [e1,a];exact ZM s e
 | indexAddr _ x y=>obtain ⟨p,q,a,g,e⟩:=Ga e;simp only [e2,a,g];exact Qw s e
 | index _ x y=>obtain ⟨p,q,a,g,e⟩:=Ga e;simp only [e2,a,g];exact ZN s e
 | typeAssert x _ _ _=>obtain ⟨p,a,e⟩:=Bn e;simp only [e1,a];exact Vx s e
 | extract x _=>obtain ⟨p,a,e⟩:=Bn e;simp only [e1,a];exact UC s e
 | call c =>
  simp only at e ⊢;split at e
  ·rename_i args j
   try simp only [j]
   cases hc:c.callee with
   | builtin b =>
    simp only [hc] at e ⊢;simp only [CQ,hc] at d;exact UE s i (by cases b<;>simp_all) e
   | value f =>
    simp only [hc] at e ⊢;obtain ⟨p,a,e⟩:=Bn e;simp only [e1,a];unfold O7 at e ⊢;split at e
    ·exact RM e (Ih e)
    ·cases e;exact True.intro
    ·cases e
   | invoke G I =>
    simp only [hc] at e ⊢;obtain ⟨p,a,e⟩:=Bn e;simp only [e1,a];exact RM e (Ih e)
  ·cases e
 | _=>cases e
theorem Mo {t:T PV} {o:Oper} (g:Hy o.op=true) (d:CQ o.op=true) {v:PV} {i:Hp} (e:BC P t h id o=some (.val v i)):i=h:=by
 have a : ∀ {x:Option PV},vl x h=some (.val v i)->i=h:=by
  intro x e;obtain ⟨y,_,e⟩:=Ic e;cases e;rfl
 unfold BC at e;generalize m:o.op=k at d g e;cases k with
 | lookup _ _ _ _=>cases d
 | mapUpdate _ _ _ _=>cases d
 | insert _ _ _ _=>cases d
 | defer _=>cases d
 | panic _=>cases d
 | buildSlice _ _ _=>cases g
 | store _ _ _=>cases g
 | alloc _=>cases g
 | box _ _=>cases g
 | makeMap _ _=>cases g
 | makeSlice _ _ _=>cases g
 | move x=>exact a e
 | assign x=>exact a e
 | pick c x y =>
  obtain ⟨p,q,u,_,_,_,e⟩:=X7 e;unfold Iv at e;split at e<;>cases e<;>rfl
 | build ty r =>
  simp only at e;split at e
  ·unfold FP at e;simp only [Bool.cond_eq_ite] at e
   repeat' split at e
   all_goals first | (cases e;done) | (obtain ⟨cs,_,e⟩:=AQ e;cases e;rfl)
  ·cases e
 | load _ x =>
  obtain ⟨p,_,e⟩:=Bn e;unfold GD at e
  repeat' split at e
  all_goals first | (cases e;done) | exact a e
 | nilCheck x =>
  obtain ⟨p,_,e⟩:=Bn e;unfold KO at e;split at e<;>first | (cases e;done) | (cases e;rfl)
 | binOp _ _ x y _ =>
  obtain ⟨p,q,_,_,e⟩:=Ga e;unfold Ia at e;simp only [Bool.cond_eq_ite] at e
  repeat' split at e
  all_goals first | (cases e;done) | exact a e
 | unOp _ _ x=>obtain ⟨p,_,e⟩:=Bn e;exact a e
 | convert _ _ x =>
  obtain ⟨p,_,e⟩:=Bn e;unfold Dc at e
  repeat' split at e
  all_goals first | (cases e;done) | (cases e;rfl)
 | makeInterface _ x =>
  obtain ⟨p,_,e⟩:=Bn e;unfold KC at e;split at e<;>first | (cases e;done) | (cases e;rfl)
 | makeFunc f x y =>
  simp only at e;split at e
  ·unfold DK at e;split at e<;>first | (cases e;done) | (cases e;rfl)
  ·cases e
 | slice ty x lo hi mx =>
  simp only [Hy] at g
  have j:mx=none:=by cases mx with
   | none=>rfl
   | some _=>cases g
  subst j;simp only [jh] at e;split at e
  ·rename_i n;cases n;obtain ⟨p,_,e⟩:=Bn e;unfold B7 at e;simp only [Bool.cond_eq_ite] at e
   repeat' split at e
   all_goals first | (cases e;done) | (cases e;rfl) | (simp at *;done)
  ·cases e
 | fieldAddr _ x _ =>
  obtain ⟨p,_,e⟩:=Bn e;unfold CV at e;simp only [Bool.cond_eq_ite] at e
  repeat' split at e
  all_goals first | (cases e;done) | (cases e;rfl)
 | field _ x _ =>
  obtain ⟨p,_,e⟩:=Bn e;unfold F9 at e
  repeat' split at e
  all_goals first | (cases e;done) | exact a e
 | indexAddr _ x y =>
  obtain ⟨p,q,_,_,e⟩:=Ga e;unfold CK at e;simp only [Bool.cond_eq_ite] at e
  repeat' split at e
  all_goals first | (cases e;done) | (cases e;rfl)
 | index _ x y =>
  obtain ⟨p,q,_,_,e⟩:=Ga e;unfold FQ at e;simp only [Bool.cond_eq_ite] at e
  repeat' split at e
  all_goals first | (cases e;done) | exact a e | (cases e;rfl)
 | typeAssert x _ _ _ =>
  obtain ⟨p,_,e⟩:=Bn e;unfold Dh at e;simp only [Bool.cond_eq_ite] at e
  repeat' split at e
  all_goals first | (cases e;done) | (cases e;rfl)
 | extract x _ =>
  obtain ⟨p,_,e⟩:=Bn e;unfold El at e;split at e
  ·exact a e
  ·cases e
 | call c =>
  simp only [CQ] at d;simp only [Hy] at g;simp only at e;split at e
  ·cases hc:c.callee with
   | builtin b =>
    simp only [hc] at e d g;have l:b = .len\/b = .cap\/b = .max\/b = .min:=by cases b<;>simp_all
    rcases l with rfl | rfl | rfl | rfl<;>simp only [Al] at e<;>(repeat' split at e)
    all_goals first | (cases e;done) | (cases e;rfl) | (obtain ⟨cs,_,e⟩:=AQ e;cases e;rfl)
   | value f=>simp only [hc] at g;cases g
   | invoke s w=>simp only [hc] at g;cases g
  ·cases e
 | _=>cases e
end
end Go.Proofs.YtfilfloanndddaaGreat.Pi
namespace Go.Proofs.YtfilfloanndddaaGreat.Pi
variable [Gl]
section
variable {P:Program} {rec:OZ} {hs h h1 h2:Hp} {id:Nat}
theorem LH : ∀ (l:List Nat) (m:T Blk) (x:Nat),(Oa h l m).get x=if x∈l/\x<x+1/\(h.get x).isSome then h.get x else m.get x
 | [],m,x=>by simp [Oa]
 | j::l,m,x=>by
  unfold Oa;split
  ·rename_i b i;cases f:Nat.blt j (j+1) with
   | true =>
    simp only [cond_true];have g:j<j+1:=by omega
    rw [LH l _ x,T.get_put (j+1) m j b x (Y6 j)];by_cases d:x∈l/\x<x+1/\(h.get x).isSome
    ·rw [if_pos d,if_pos ⟨by simp [d.1],d.2⟩]
    ·rw [if_neg d];by_cases e:x=j
     ·subst e;rw [if_pos rfl,if_pos ⟨by simp,g,by simp [i]⟩,i]
     ·rw [if_neg e,if_neg];rintro ⟨a,b,c⟩;simp only [List.mem_cons] at a;rcases a with a | a
      ·exact e a
      ·exact d ⟨a,b,c⟩
   | false =>
    simp only [cond_false];rw [LH l m x]
    have k : ¬ j<j+1:=by
     intro h;have:Nat.blt j (j+1)=true:=by simp
     rw [this] at f;cases f
    by_cases d:x∈l/\x<x+1/\(h.get x).isSome
    ·rw [if_pos d,if_pos ⟨by simp [d.1],d.2⟩]
    ·rw [if_neg d,if_neg];rintro ⟨a,b,c⟩;simp only [List.mem_cons] at a;rcases a with a | a
     ·subst a;exact k b
     ·exact d ⟨a,b,c⟩
  ·rename_i i;rw [LH l m x];by_cases d:x∈l/\x<x+1/\(h.get x).isSome
   ·rw [if_pos d,if_pos ⟨by simp [d.1],d.2⟩]
   ·rw [if_neg d,if_neg];rintro ⟨a,b,c⟩;simp only [List.mem_cons] at a;rcases a with a | a
    ·subst a;rw [i] at c;cases c
    ·exact d ⟨a,b,c⟩
theorem Ii (l:List Nat) (x:Nat):(h.cut l).get x=if x∈l/\x<x+1 then h.get x else none:=by
 have:=LH (h:=h) l .lf x;show (Oa h l .lf).get x=_;rw [this];by_cases a:x∈l/\x<x+1
 ·rw [if_pos a];cases c:h.get x with
  | none=>rw [if_neg (by simp)];rfl
  | some b=>rw [if_pos ⟨a.1,a.2,by simp⟩]
 ·rw [if_neg a,if_neg λh=>a ⟨h.1,h.2.1⟩];rfl
theorem JD {l:List Nat} {x:Nat} {b:Blk} (e:(h.cut l).get x=some b):x∈l/\h.get x=some b:=by
 rw [Ii] at e;split at e
 ·rename_i a;exact ⟨a.1,e⟩
 ·cases e
theorem Hh : ∀ {l:List Nat} {h f:Hp},over h1 l h=some f -> ∀ x,f.get x=if x∈l then (match h1.get x with
  | some b=>some b
  | none=>h.get x) else h.get x
 | [],h,f,e,x=>by simp [over] at e;subst e;simp
 | j::l,h,f,e,x=>by
  unfold over at e;split at e
  ·rename_i b g;split at e
   ·rename_i i d;rw [Hh e x,(Hp.get_set d).1 x];by_cases a:x=j
    ·subst a;simp [g]
    ·by_cases c:x∈l
     ·rw [if_pos c,if_pos (show x∈j::l by simp [c]),if_neg a]
     ·rw [if_neg c,if_neg (show ¬ x∈j::l by simp [a,c]),if_neg a]
   ·cases e
  ·rename_i g;rw [Hh e x];by_cases a:x=j
   ·subst a;simp [g]
   ·by_cases c:x∈l
    ·rw [if_pos c,if_pos (show x∈j::l by simp [c])]
    ·rw [if_neg c,if_neg (show ¬ x∈j::l by simp [a,c])]
def j0:Blk->Prop
 | .box _ fz=>fz=true
 | .row _ _ fz=>fz=true
 | _=>False
theorem FU : ∀ {l:List Nat} {x:Nat},x∈l->x ∉ DA h l -> ∃ b,h.get x=some b/\j0 b
 | [],x,hx,_=>by simp at hx
 | j::l,x,hx,hn=>by
  unfold DA at hn;simp only [List.mem_cons] at hx;split at hn
  ·rename_i cs a;rcases hx with rfl | hx
   ·exact ⟨_,a,rfl⟩
   ·exact FU hx hn
  ·rename_i es ex a;rcases hx with rfl | hx
   ·exact ⟨_,a,rfl⟩
   ·exact FU hx hn
  ·simp only [List.mem_cons,not_or] at hn;rcases hx with rfl | hx
   ·exact absurd rfl hn.1
   ·exact FU hx hn.2
theorem Bz : ∀ {l:List Nat} {x:Nat},x∈DA h l->x∈l
 | [],x,hx=>by simp [DA] at hx
 | j::l,x,hx=>by
  unfold DA at hx;split at hx
  ·simp [Bz hx]
  ·simp [Bz hx]
  ·simp only [List.mem_cons] at hx;rcases hx with rfl | hx
   ·simp
   ·simp [Bz hx]
def Stays (hs a:Hp):Prop := ∀ x b,hs.get x=some b->j0 b->a.get x=some b
theorem Stays.refl (hs:Hp):Stays hs hs:=λ_ _ h _=>h
theorem Nt {b:Blk} (e:hs.new id b=some h1):Stays hs h1:=by
 obtain ⟨f,d,_⟩:=Hp.get_new e;intro x c a _;rw [d,if_neg (by intro h;subst h;rw [f] at a;cases a)];exact a
theorem LI {j:Nat} {b b0:Blk} (f:hs.get j=some b0) (e:hs.set j b=some h1) (i:j0 b0->b=b0):Stays hs h1:=by
 have g:=(Hp.get_set e).1;intro x c d h;rw [g];by_cases a:x=j
 ·subst a;rw [f] at d;cases d;rw [if_pos rfl,i h]
 ·rw [if_neg a];exact d
theorem Stays.trans {e:Hp} (a:Stays hs h1) (b:Stays h1 e):Stays hs e:=λx c f d=>b x c (a x c f d) d
theorem Gb : ∀ (L:List Nat) {hs b:Hp},freeze hs L=some b->Stays hs b
 | [],hs,b,e=>by simp [freeze] at e;subst e;exact .refl _
 | j::L,hs,b,e=>by
  unfold freeze at e;split at e
  ·rename_i cs fz c;split at e
   ·rename_i d a;exact (LI c a λh=>by have h:fz=true:=h;subst h;rfl).trans (Gb L e)
   ·cases e
  ·rename_i es ex fz c;split at e
   ·rename_i d a;exact (LI c a λh=>by have h:fz=true:=h;subst h;rfl).trans (Gb L e)
   ·cases e
  ·cases e
theorem Mq {t:T PV} {o:Oper} (a:CQ o.op=true) (d:KE o.op=false) (l:Hy o.op=false) {r:R} (e:BC P t hs id o=some r) : ∀ k,((∃ v,r = .val v k)\/r = .skip k)->Stays hs k:=by
 intro k hr;unfold BC at e;generalize w:o.op=s at a l d e
 have nw : ∀ {b:Blk} {v:PV},(hs.new id b).map (λh=>R.val v h)=some r->Stays hs k:=by
  intro b v e;obtain ⟨m,i,rfl⟩:=AQ e;rcases hr with ⟨j,hr⟩ | hr<;>cases hr
  exact Nt i
 have fr : ∀ {L:List Nat} {v:PV},(freeze hs L).map (λh=>R.val v h)=some r->Stays hs k:=by
  intro L v e;obtain ⟨m,i,rfl⟩:=AQ e;rcases hr with ⟨j,hr⟩ | hr<;>cases hr
  exact Gb L i
 have same : ∀ {v:PV},R.val v hs=r->Stays hs k:=by
  intro v e;subst e;rcases hr with ⟨j,hr⟩ | hr<;>cases hr
  exact .refl _
 cases s with
 | alloc _ =>
  simp only at e;unfold HU at e;split at e
  ·exact nw e
  ·cases e
 | box _ x =>
  obtain ⟨p,_,e⟩:=Bn e;unfold Lh at e;split at e
  ·cases e
  ·exact nw e
 | makeMap ty rs =>
  cases rs with
  | none=>exact nw e
  | some _=>cases e
 | makeSlice _ x y =>
  obtain ⟨p,q,_,_,e⟩:=Ga e;unfold Hr at e;simp only [Bool.cond_eq_ite] at e
  repeat' split at e
  all_goals first | (cases e;done) | exact nw e
 | buildSlice ty n A =>
  simp only at e;split at e
  ·unfold By at e;simp only [Bool.cond_eq_ite] at e
   repeat' split at e
   all_goals first | (cases e;done) | exact fr e
  ·cases e
 | slice ty x lo hi mx =>
  simp only at e;split at e
  ·obtain ⟨p,_,e⟩:=Bn e;unfold B7 Ib at e;simp only [Bool.cond_eq_ite] at e
   repeat' split at e
   all_goals first | (cases e;done) | exact fr e | exact same (Option.some.inj e)
  ·cases e
 | store _ x y =>
  obtain ⟨p,q,_,_,e⟩:=Ga e;unfold DU at e;simp only [Bool.cond_eq_ite] at e
  repeat' split at e
  all_goals first | (cases e;done) | skip
  all_goals
   obtain ⟨m,i,rfl⟩:=AQ e;rcases hr with ⟨j,hr⟩ | hr<;>cases hr
   refine LI (by assumption) i λh => ?_;cases h
 | call c =>
  simp only [CQ,KE,Hy] at a d l;simp only at e;split at e
  ·cases hc:c.callee with
   | builtin b =>
    simp only [hc] at a d l;by_cases u:b = .copy
    ·subst u;simp only [hc] at e;simp only [Al,Bool.cond_eq_ite] at e
     repeat' split at e
     all_goals first | (cases e;done) | skip
     all_goals
      obtain ⟨m,i,rfl⟩:=AQ e;rcases hr with ⟨j,hr⟩ | hr<;>cases hr
      refine LI (by assumption) i λh => ?_;cases h
    ·cases b<;>simp_all
   | value f =>
    simp only [hc] at e;obtain ⟨p,_,e⟩:=Bn e;unfold O7 at e;split at e
    ·obtain ⟨g,z,rfl⟩:=Ih e;rcases hr with ⟨j,hr⟩ | hr<;>cases hr
    ·cases e;rcases hr with ⟨j,hr⟩ | hr<;>cases hr
    ·cases e
   | invoke B C =>
    simp only [hc] at e;obtain ⟨p,_,e⟩:=Bn e;obtain ⟨g,z,rfl⟩:=Ih e;rcases hr with ⟨j,hr⟩ | hr<;>cases hr
  ·cases e
 | lookup _ _ _ _=>cases a
 | mapUpdate _ _ _ _=>cases a
 | insert _ _ _ _=>cases a
 | defer _=>cases a
 | panic _=>cases a
 | _=>first | cases l | cases e
theorem Pb (s:KM hs h) (d:hs.get id=none->h.get id=none) {f:FuncId} {args:List PV} {v:PV} (e:C6 (λ_=>false) rec id f args hs=some (.ret v,h1)) :
  (∃ t,C6 (λ_=>false) rec id f args h=some (.ret v,t)/\Lay hs h h1 t id)/\(flat v=true->h1=hs)/\Stays hs h1:=by
 unfold C6 at e ⊢;simp only [cond_false] at e ⊢;split at e
 ·rename_i C l A;rw [PZ s A];dsimp only;split at e
  ·rename_i r B h' g
   try simp only [g]
   obtain ⟨⟨q,D⟩,a,e⟩:=AQ e;cases e;unfold B9 at a ⊢;split at a
   ·rename_i len w ex x
    try dsimp only
    split at a
    ·rename_i E c;obtain ⟨y,i,a⟩:=AQ a;cases a;cases b:Dg w with
     | true =>
      simp only [b,cond_true] at c ⊢;cases c;obtain ⟨m,n,k⟩:=(Lay.refl s id).new d i;refine ⟨⟨m,by simp only [n,Option.map_some],k⟩,(by intro h;cases h),Nt i⟩
     | false =>
      simp only [b,cond_false] at c ⊢;obtain ⟨u,p,o⟩:=Lay.freeze l (Lay.refl s id) c;obtain ⟨m,n,k⟩:=o.new d i;refine ⟨⟨m,by simp only [p,n,Option.map_some],k⟩,(by intro h;cases h),(Gb l c).trans (Nt i)⟩
    ·cases a
   ·rename_i x
    try dsimp only
    split at a
    ·rename_i z F j
     try simp only [j]
     cases b:flat z with
     | true =>
      simp only [b,cond_true] at a ⊢;cases a;exact ⟨⟨h,rfl,.refl s id⟩,λ_=>rfl,.refl _⟩
     | false =>
      simp only [b,cond_false] at a ⊢;obtain ⟨y,c,a⟩:=AQ a;cases a;obtain ⟨u,p,o⟩:=Lay.freeze l (Lay.refl s id) c;exact ⟨⟨u,by simp only [p,Option.map_some],o⟩,(by intro h;rw [b] at h;cases h),Gb l c⟩
    ·cases a
  ·split at e
   ·replace e:=Bs e;cases e.2
   ·cases e
  ·cases e
 ·cases e
end
end Go.Proofs.YtfilfloanndddaaGreat.Pi
namespace Go.Proofs.YtfilfloanndddaaGreat.Pi
variable [Gl]
section
theorem KV (m k:Nat):Lu m k=m.testBit k:=by
 unfold Lu;show (!Nat.beq (m &&& 2 ^ k) 0)=m.testBit k;cases b:m.testBit k with
 | false =>
  have:m &&& 2 ^ k=0:=by
   apply Nat.eq_of_testBit_eq;intro j;rw [Nat.testBit_and,Nat.testBit_two_pow,Nat.zero_testBit];by_cases a:k=j
   ·subst a;simp [b]
   ·simp [a]
  rw [this];rfl
 | true =>
  have:m &&& 2 ^ k≠0:=by
   intro d;have c:(m &&& 2 ^ k).testBit k=true:=by rw [Nat.testBit_and,b,Nat.testBit_two_pow];simp
   rw [d] at c;simp at c
  rw [Lj this];rfl
theorem LJ (a b k:Nat):Lu (Nat.lor a b) k=(Lu a k||Lu b k):=by
 simp only [KV];exact Nat.testBit_or a b k
theorem Mr (j k:Nat):Lu (Nat.pow 2 j) k=decide (j=k):=by
 rw [KV];exact Nat.testBit_two_pow
theorem Pc {a b:Nat} (h:Ob a b=true) (k:Nat) : ¬ (Lu a k=true/\Lu b k=true):=by
 unfold Ob at h;have e:a &&& b=0:=Nat.eq_of_beq_eq_true h;rintro ⟨d,c⟩;rw [KV] at d c;have:(a &&& b).testBit k=true:=by rw [Nat.testBit_and,d,c];rfl
 rw [e] at this;simp at this
theorem Oh : ∀ {l:List Operand} {k:Nat},.tmp k∈l->Lu (Jf l) k=true
 | [],k,h=>by simp at h
 | o::l,k,h=>by
  unfold Jf;rw [LJ];simp only [List.mem_cons] at h;rcases h with rfl | h
  ·simp only [bf,Mr];simp
  ·rw [Oh h];simp
theorem DD {a b:List Nat} (h:HB a b=false) (x:Nat) : ¬ (x∈a/\x∈b):=by
 induction a with
 | nil=>simp
 | cons y a d =>
  unfold HB at h;simp only [Bool.or_eq_false_iff] at h;rintro ⟨h1,c⟩;simp only [List.mem_cons] at h1;rcases h1 with rfl | h1
  ·rw [List.any_eq_false] at h;exact h.1 x c (by simp)
  ·exact d h.2 ⟨h1,c⟩
theorem LK : ∀ (a:List Nat),HB a []=false
 | []=>rfl
 | x::a=>by unfold HB;rw [LK a];rfl
variable {P:Program} {rec:OZ}
def Qx (nt:Nat) (a:Option Nat) (v:PV) (t b:T PV):Prop:=match a with
 | none=>b=t
 | some d=>d<nt/\b=T.put 20 t d v
structure Tr where
 ts:Nat->T PV
 hp:Nat->Hp
 rd:Nat->List Nat
 wr:Nat->List Nat
def Tr.StepAt (P:Program) (rec:OZ) (base nt:Nat) (opsl:List Oper) (a:Tr) (j:Nat) (o:Oper):Prop :=
 (Cz opsl (a.ts j) o.guard=true /\ ∃ v,CZ P rec (a.ts j) (a.hp j) (base+j) o=some (v,a.hp (j+1),a.rd j,a.wr j)/\Qx nt o.dst v (a.ts j) (a.ts (j+1))) \/
 (Cz opsl (a.ts j) o.guard=false/\a.hp (j+1)=a.hp j/\a.rd j=[]/\a.wr j=[]/\Qx nt o.dst (.tup []) (a.ts j) (a.ts (j+1)))
def Tr.Clear (a:Tr) (b j k:Nat):Prop:=Lu b k=true\/(HB (a.wr k) (a.rd j)=false/\HB (a.wr j) (a.rd k)=false)
theorem L3 {b:Nat} {rd wr:List Nat} : ∀ {a:List (Nat×List Nat×List Nat)},Lv b rd wr a=true -> ∀ k r w,(k,r,w)∈a->Lu b k=true\/(HB w rd=false/\HB wr r=false)
 | [],_,k,r,w,h=>by simp at h
 | (k0,r0,w0)::a,e,k,r,w,h=>by
  unfold Lv at e;simp only [Bool.and_eq_true,Bool.or_eq_true,Bool.not_eq_true',Bool.or_eq_false_iff] at e;simp only [List.mem_cons] at h;rcases h with h | h
  ·cases h;exact e.1
  ·exact L3 e.2 k r w h
theorem UF {base nt:Nat} {opsl:List Oper} {I:T PV} {h':Hp} : ∀ (l:List Oper) (B:List Mk) (i:Nat) (b:List (Nat×List Nat×List Nat)) (t:T PV) (h:Hp),
  Bh P rec base nt opsl i l B b t h=some (I,h') -> ∀ (rd0 g:Nat->List Nat),(∀ k,k<i->(k,rd0 k,g k)∈b\/(rd0 k=[]/\g k=[])) ->
  ∃ f:Tr,f.ts i=t/\f.hp i=h/\f.ts (i+l.length)=I/\f.hp (i+l.length)=h'/\(∀ k,k<i->f.rd k=rd0 k/\f.wr k=g k) /\
   ∀ j o m,l[j]? = some o->B[j]? = some m->f.StepAt P rec base nt opsl (i+j) o /\ ∀ k,k<i+j->f.Clear m.bef (i+j) k
 | [],B,i,b,t,h,e,rd0,g,hpast=>by
  unfold Bh at e;cases e;exact ⟨⟨λ_=>I,λ_=>h',rd0,g⟩,rfl,rfl,rfl,rfl,λ_ _=>⟨rfl,rfl⟩,λj o m J=>by simp at J⟩
 | o::l,[],i,b,t,h,e,rd0,g,hpast=>by unfold Bh at e;cases e
 | o::l,m::B,i,b,t,h,e,rd0,g,hpast=>by
  unfold Bh at e
  have s : ∀ {v:PV} {K:T PV} {D:Hp} {n p:List Nat} {c:List (Nat×List Nat×List Nat)},Bh P rec base nt opsl (i+1) l B c K D=some (I,h')->Qx nt o.dst v t K ->
    (Cz opsl t o.guard=true/\CZ P rec t h (base+i) o=some (v,D,n,p)\/Cz opsl t o.guard=false/\D=h/\n=[]/\p=[]/\v = .tup []) ->
    (∀ k r w,(k,r,w)∈b->(k,r,w)∈c)->((i,n,p)∈c\/(n=[]/\p=[]))->(∀ k r w,(k,r,w)∈b->Lu m.bef k=true\/(HB w n=false/\HB p r=false)) ->
    ∃ f:Tr,f.ts i=t/\f.hp i=h/\f.ts (i+(o::l).length)=I/\f.hp (i+(o::l).length)=h'/\(∀ k,k<i->f.rd k=rd0 k/\f.wr k=g k) /\
     ∀ j o' L,(o::l)[j]? = some o'->(m::B)[j]? = some L->f.StepAt P rec base nt opsl (i+j) o' /\ ∀ k,k<i+j->f.Clear L.bef (i+j) k:=by
   intro v K D n p c e1 Ai y F X q
   obtain ⟨f,Y,k2,k3,k4,S,k6⟩:=UF l B (i+1) c K D e1 (λk=>if k=i then n else rd0 k) (λk=>if k=i then p else g k) (by
    intro k W;by_cases G:k=i
    ·subst G;simpa using X
    ·simp only [if_neg G];rcases hpast k (by omega) with hp | hp
     ·exact .inl (F _ _ _ hp)
     ·exact .inr hp)
   obtain ⟨u,x⟩:=S i (by omega);simp only [if_true] at u x;refine ⟨⟨λk=>if k=i then t else f.ts k,λk=>if k=i then h else f.hp k,f.rd,f.wr⟩,by simp,by simp,?_,?_,?_,?_⟩
   ·simp only [List.length_cons];rw [if_neg (by omega),show i+(l.length+1)=i+1+l.length by omega];exact k3
   ·simp only [List.length_cons];rw [if_neg (by omega),show i+(l.length+1)=i+1+l.length by omega];exact k4
   ·intro k W;have:=S k (by omega);simp only [if_neg (show k≠i by omega)] at this;exact this
   ·intro j o' L J C;cases j with
    | zero =>
     simp only [List.getElem?_cons_zero,Option.some.injEq] at J C;subst J;subst C;simp only [Nat.add_zero];constructor
     ·rcases y with ⟨O,M⟩ | ⟨O,M,a3,a4,a5⟩
      ·refine .inl ⟨by simpa using O,v,?_,?_⟩
       ·simp only [if_true,if_neg (show i+1≠i by omega)];rw [k2,u,x];exact M
       ·simp only [if_true,if_neg (show i+1≠i by omega)];rw [Y];exact Ai
      ·refine .inr ⟨by simpa using O,?_,by rw [u,a3],by rw [x,a4],?_⟩
       ·simp only [if_true,if_neg (show i+1≠i by omega)];rw [k2,M]
       ·simp only [if_true,if_neg (show i+1≠i by omega)];rw [Y,<- a5];exact Ai
     ·intro k W;have z:=S k (by omega);simp only [if_neg (show k≠i by omega)] at z;unfold Tr.Clear;simp only [u,x,z.1,z.2];rcases hpast k W with hp | ⟨U,N⟩
      ·exact q _ _ _ hp
      ·rw [U,N];exact .inr ⟨rfl,LK _⟩
    | succ j =>
     obtain ⟨q1,q2⟩:=k6 j o' L (by simpa using J) (by simpa using C);rw [show i+(j+1)=i+1+j by omega];refine ⟨?_,q2⟩;unfold Tr.StepAt at q1 ⊢;simp only [if_neg (show i+1+j≠i by omega),if_neg (show i+1+j+1≠i by omega)];exact q1
  cases E:Cz opsl t o.guard with
  | true =>
   simp only [E,cond_true] at e;split at e
   ·rename_i v D n p Z;replace e:=Bs e;obtain ⟨q,e⟩:=e;cases a:o.dst with
    | some d =>
     simp only [a] at e;replace e:=Bs e;obtain ⟨A,e⟩:=e;exact s e (by rw [a];exact ⟨by simpa using A,rfl⟩) (.inl ⟨E,Z⟩) (λk r w hp=>List.mem_cons_of_mem _ hp) (.inl List.mem_cons_self) (λk r w hp=>L3 q k r w hp)
    | none =>
     simp only [a] at e;exact s e (by rw [a];exact rfl) (.inl ⟨E,Z⟩) (λk r w hp=>List.mem_cons_of_mem _ hp) (.inl List.mem_cons_self) (λk r w hp=>L3 q k r w hp)
   ·cases e
  | false =>
   simp only [E,cond_false] at e;cases a:o.dst with
   | some d =>
    simp only [a] at e;replace e:=Bs e;obtain ⟨A,e⟩:=e;exact s (v:=.tup []) e (by rw [a];exact ⟨by simpa using A,rfl⟩) (.inr ⟨E,rfl,rfl,rfl,rfl⟩) (λk r w hp=>hp) (.inr ⟨rfl,rfl⟩) (λk r w hp => .inr ⟨LK _,rfl⟩)
   | none =>
    simp only [a] at e;exact s (v:=.tup []) e (by rw [a];exact rfl) (.inr ⟨E,rfl,rfl,rfl,rfl⟩) (λk r w hp=>hp) (.inr ⟨rfl,rfl⟩) (λk r w hp => .inr ⟨LK _,rfl⟩)
theorem Oi {m:Mk} : ∀ {l:List Mk} {j:Nat},Mc m j l=true -> ∀ k x,l[k]? = some x->Lu m.bef (j+k)=true\/(Ob x.wr (Nat.lor m.rd m.wr)=true/\Ob x.rd m.wr=true)
 | [],j,_,k,x,h=>by simp at h
 | y::l,j,e,k,x,h=>by
  unfold Mc at e;simp only [Bool.and_eq_true,Bool.or_eq_true] at e;cases k with
  | zero=>simp only [List.getElem?_cons_zero,Option.some.injEq] at h;subst h;exact e.1
  | succ k =>
   have:=Oi e.2 k x (by simpa using h)
   rwa [show j+1+k=j+(k+1) by omega] at this
def UG (opsl:List Oper) (a:List Mk) (i:Nat) (o:Oper) (m:Mk):Prop :=
 m.rd=Nat.lor (Jf (Cb o.op)) (JA opsl o.guard)/\m.wr=Lt o.dst/\m.bef=Hf (a.take i) o.after.toList/\Md i o.after.toList=true/\Mc m 0 (a.take i)=true
theorem UH {opsl:List Oper} : ∀ (l:List Oper) (i:Nat) (a c:List Mk),K7 opsl i l a=some c->a.length=i ->
  (∃ b,c=a++b/\b.length=l.length) /\ ∀ j o,l[j]? = some o -> ∃ m,c[i+j]? = some m/\UG opsl c (i+j) o m
 | [],i,a,c,e,hl=>by simp [K7] at e;subst e;exact ⟨⟨[],by simp,rfl⟩,λj o h=>by simp at h⟩
 | o::l,i,a,c,e,hl=>by
  unfold K7 at e;simp only at e;replace e:=Bs e;obtain ⟨hc,e⟩:=e;simp only [Bool.and_eq_true] at hc;obtain ⟨⟨b,g,k⟩,f⟩:=UH l (i+1) _ c e (by simp [hl]);refine ⟨⟨_::b,by rw [g,List.append_assoc];rfl,by simp [k]⟩,λj o' n => ?_⟩;cases j with
  | zero =>
   simp only [List.getElem?_cons_zero,Option.some.injEq] at n;subst n;have d:c.take i=a:=by rw [g,List.append_assoc,<- hl];simp
   refine ⟨{ rd:=Nat.lor (Jf (Cb o.op)) (JA opsl o.guard),wr:=Lt o.dst,bef:=Hf a o.after.toList },?_,?_⟩
   ·rw [g,<- hl];simp
   ·rw [Nat.add_zero];unfold UG;rw [d];exact ⟨rfl,rfl,rfl,hc.1,hc.2⟩
  | succ j =>
   obtain ⟨m,q,p⟩:=f j o' (by simpa using n);rw [show i+(j+1)=i+1+j by omega];exact ⟨m,q,p⟩
theorem Jk {a:List Mk} : ∀ {es:List Edge} {k:Nat},Lu (Hf a es) k=true -> ∃ e∈es,Region.binds .any e=true/\(e.on=k \/ ∃ m,a[e.on]? = some m/\Lu m.bef k=true)
 | [],k,h=>by rw [KV] at h;simp [Hf] at h
 | e::es,k,h=>by
  unfold Hf at h;cases b:Region.binds .any e with
  | true =>
   simp only [b,cond_true] at h;rw [LJ,LJ,Mr] at h;simp only [Bool.or_eq_true,decide_eq_true_eq] at h;rcases h with (h | h) | h
   ·exact ⟨e,by simp,b,.inl h⟩
   ·rw [A5] at h;cases c:a[e.on]? with
    | none=>rw [c,KV] at h;simp at h
    | some m=>rw [c] at h;exact ⟨e,by simp,b,.inr ⟨m,c,h⟩⟩
   ·obtain ⟨f,g,d,i⟩:=Jk h;exact ⟨f,by simp [g],d,i⟩
  | false =>
   simp only [b,cond_false] at h;obtain ⟨f,g,d,i⟩:=Jk h;exact ⟨f,by simp [g],d,i⟩
theorem KW {i:Nat} : ∀ {es:List Edge},Md i es=true -> ∀ e∈es,Region.binds .any e=true->e.on<i
 | [],_,e,he=>by simp at he
 | e0::es,h,e,he=>by
  unfold Md at h;simp only [Bool.and_eq_true,Bool.or_eq_true,Bool.not_eq_true',Nat.blt_eq] at h;intro a;simp only [List.mem_cons] at he;rcases he with rfl | he
  ·rcases h.1 with h1 | h1
   ·rw [a] at h1;cases h1
   ·exact h1
  ·exact KW h.2 e he a
end
end Go.Proofs.YtfilfloanndddaaGreat.Pi
namespace Go.Proofs.YtfilfloanndddaaGreat.Pi
variable [Gl]
section
theorem Hu : ∀ (n:Nat) (l:List Nat),l.Nodup->(∀ x∈l,x<n)->l.length<=n
 | 0,l,_,h=>by
  cases l with
  | nil=>simp
  | cons a l=>have:=h a (by simp);omega
 | n+1,l,hn,h=>by
  by_cases d:n∈l
  ·have f:=Hu n (l.erase n) (hn.erase n) (λx b=>by
    have c:=(hn.mem_erase_iff).1 b;have:=h x c.2;have:=c.1
    omega)
   rw [List.length_erase_of_mem d] at f;omega
  ·have:=Hu n l hn (λx b=>by
    have c:=h x b;have:x≠n:=by intro e;subst e;exact d b
    omega)
   omega
theorem JE : ∀ (n:Nat) (l:List Nat),(∀ x,x<n->x∈l)->n<=l.length
 | 0,l,_=>by omega
 | n+1,l,h=>by
  have b:=JE n (l.erase n) (λx c=>(List.mem_erase_of_ne (by omega)).2 (h x (by omega)));have a:=h n (by omega);rw [List.length_erase_of_mem a] at b;have:0<l.length:=List.length_pos_of_mem a;omega
def Nu (ops:Array Oper) (l:List Nat):Prop := ∀ p i q,l=p++i::q -> ∀ o,ops[i]? = some o -> ∀ e∈o.after.toList,Region.binds .any e=true->e.on∈p
theorem UI {ops:Array Oper} {l:List Nat} {i:Nat} (k:Nu ops l) (hi : ∀ o,ops[i]? = some o -> ∀ e∈o.after.toList,Region.binds .any e=true->e.on∈l):Nu ops (l++[i]):=by
 intro p j q h o d e a c;rcases List.eq_nil_or_concat q with rfl | ⟨g,z,rfl⟩
 ·have:=List.append_inj' h (by simp);obtain ⟨rfl,f⟩:=this;simp only [List.cons.injEq,and_true] at f;subst f;exact hi o d e a c
 ·have b:l++[i]=(p++j::g)++[z]:=by rw [h];simp
  have:=List.append_inj' b (by simp);exact k p j g this.1 o d e a c
theorem cL {ops:Array Oper} (b : ∀ i o,ops[i]? = some o -> ∀ e∈o.after.toList,Region.binds .any e=true->e.on<i) :
  ∀ (fuel t:Nat) (listed:Array Bool) (a:List Nat),fuel+a.length=ops.size->listed.size=ops.size->(∀ i,i<ops.size->listed[i]? = some (decide (i∈a)))->a.Nodup->(∀ i∈a,i<ops.size)->Nu ops a.reverse ->
  (Region.linearise.go .any ops fuel t listed a).Nodup/\(∀ i,i∈Region.linearise.go .any ops fuel t listed a<->i<ops.size)/\Nu ops (Region.linearise.go .any ops fuel t listed a)
 | 0,t,listed,a,hf,hs,hl,hn,hlt,hp=>by
  simp only [Region.linearise.go];refine ⟨List.pairwise_reverse.2 (hn.imp λh=>Ne.symm h),λi=>⟨λh=>hlt i (by simpa using h),λhi => ?_⟩,hp⟩;rw [List.mem_reverse];by_cases n:i∈a
  ·exact n
  ·have:=Hu ops.size (i::a) (List.nodup_cons.2 ⟨n,hn⟩) (λx hx=>by
    simp only [List.mem_cons] at hx;rcases hx with rfl | hx
    ·exact hi
    ·exact hlt x hx)
   simp only [List.length_cons] at this;omega
 | fuel+1,t,listed,a,hf,hs,hl,hn,hlt,hp=>by
  simp only [Region.linearise.go];generalize u:(List.range ops.size).filter (λi => !listed.getD i true&&((ops[i]?).map (λo=>o.after.all λe => !Region.binds .any e||listed.getD e.on false)).getD false)=rs
  have p : ∀ i,i∈rs<->i<ops.size/\i ∉ a /\ ∀ o,ops[i]? = some o -> ∀ e∈o.after.toList,Region.binds .any e=true->e.on∈a:=by
   intro i;rw [<- u,List.mem_filter,List.mem_range];constructor
   ·rintro ⟨l,g⟩;simp only [Bool.and_eq_true,Bool.not_eq_true'] at g;have s:=hl i l;refine ⟨l,?_,?_⟩
    ·intro n;rw [Array.getD_eq_getD_getElem?,s] at g;simp [n] at g
    ·intro o d e f c;rw [d] at g;simp only [Option.map_some,Option.getD_some,Array.all_eq_true_iff_forall_mem] at g;have:=g.2 e (Array.mem_toList_iff.1 f);rw [c] at this;simp only [Bool.not_true,Bool.false_or] at this;have q:=b i o d e f c;rw [Array.getD_eq_getD_getElem?,hl e.on (by omega)] at this;simpa using this
   ·rintro ⟨l,g,B⟩;refine ⟨l,?_⟩;simp only [Bool.and_eq_true,Bool.not_eq_true'];refine ⟨by rw [Array.getD_eq_getD_getElem?,hl i l];simpa using g,?_⟩;rw [Array.getElem?_eq_getElem l];simp only [Option.map_some,Option.getD_some,Array.all_eq_true_iff_forall_mem];intro e f;cases c:Region.binds .any e with
    | false=>rfl
    | true =>
     simp only [Bool.not_true,Bool.false_or];have d:=Array.getElem?_eq_getElem l;have q:=b i _ d e (Array.mem_toList_iff.2 f) c;rw [Array.getD_eq_getD_getElem?,hl e.on (by omega)];simpa using B _ d e (Array.mem_toList_iff.2 f) c
  have r:rs≠[]:=by
   intro C
   have all : ∀ i,i<ops.size->i∈a:=by
    intro i
    induction i using Nat.strongRecOn with
    | _ i A =>
     intro hi;by_cases n:i∈a
     ·exact n
     ·have:i∈rs:=(p i).2 ⟨hi,n,λo d e f c=>A e.on (b i o d e f c) (by have:=b i o d e f c;omega)⟩;rw [C] at this;simp at this
   have:=JE ops.size a all;omega
  have k:t % rs.length<rs.length:=Nat.mod_lt _ (List.length_pos_iff.2 r);rw [List.getElem?_eq_getElem k];simp only;obtain ⟨z,y,w⟩:=(p _).1 (List.getElem_mem k);generalize rs[t % rs.length]=i at z y w;refine cL b fuel _ _ (i::a) (by simp only [List.length_cons];omega) (by simpa using hs) ?_ (List.nodup_cons.2 ⟨y,hn⟩) ?_ ?_
  ·intro j hj;rw [Array.getElem?_setIfInBounds];by_cases m:i=j
   ·subst m;rw [if_pos rfl,if_pos (by omega)];simp
   ·rw [if_neg m,hl j hj];simp [Ne.symm m]
  ·intro j hj;simp only [List.mem_cons] at hj;rcases hj with rfl | hj
   ·exact z
   ·exact hlt j hj
  ·rw [List.reverse_cons];exact UI hp λo d e f c=>by rw [List.mem_reverse];exact w o d e f c
theorem cM {ops:Array Oper} {mixed:Bool} (b:(mixed || !Region.departs ops)=true) (a : ∀ i o,ops[i]? = some o -> ∀ e∈o.after.toList,Region.binds .any e=true->e.on<i) (t:Nat) :
  (Region.schedule mixed ops t).Nodup/\(∀ i,i∈Region.schedule mixed ops t<->i<ops.size)/\Nu ops (Region.schedule mixed ops t):=by
 unfold Region.schedule;rw [if_pos b];unfold Region.linearise;exact cL a ops.size t _ [] (by simp) (by simp) (λi hi=>by simp [hi]) List.nodup_nil (by simp) (by intro p i q h;simp at h)
theorem mG {ops:Array Oper} {u:List Mk} (t : ∀ j o,ops.toList[j]? = some o -> ∃ m,u[j]? = some m/\UG ops.toList u j o m) {σ:List Nat} (hσ:Nu ops σ) :
  ∀ (i:Nat) (o:Oper) (m:Mk),ops[i]? = some o->u[i]? = some m -> ∀ p q,σ=p++i::q -> ∀ k,Lu m.bef k=true->k∈p:=by
 intro i
 induction i using Nat.strongRecOn with
 | _ i B =>
  intro o m s C p q y k x;obtain ⟨F,d,g⟩:=t i o (by simpa using s);rw [C] at d;cases d;rw [g.2.2.1] at x;obtain ⟨e,f,b,n⟩:=Jk x;have c:=KW g.2.2.2.1 e f b;have l:=hσ p i q y o s e f b;rcases n with rfl | ⟨D,a,r⟩
  ·exact l
  ·obtain ⟨A,E,z⟩:=List.append_of_mem l;rw [List.getElem?_take,if_pos c] at a;have hi:i<ops.size:=(Array.getElem?_eq_some_iff.1 s).1;have w:=Array.getElem?_eq_getElem (xs:=ops) (i:=e.on) (by omega);have:=B e.on c _ D w a A (E++i::q) (by rw [y,z];simp) k r;rw [z];simp [this]
end
end Go.Proofs.YtfilfloanndddaaGreat.Pi
namespace Go.Proofs.YtfilfloanndddaaGreat.Pi
variable [Gl]
section
variable {P:Program} {rec:OZ}
def j7 (n:Nat) (ops:Array Oper) (b:Tr) (a:List Nat) (t:T PV):Prop :=
 ∀ k m,m<=n->(∀ j o,ops[j]? = some o->o.dst=some k->(j∈a<->j<m))->t.get k=(b.ts m).get k
def j8 (n:Nat) (b:Tr) (a:List Nat) (h:Hp):Prop :=
 ∀ x m,m<=n->(∀ j,j<n->x∈b.wr j->(j∈a<->j<m))->h.get x=(b.hp m).get x
theorem Oj {t tS:T PV} {h hS h':Hp} {id:Nat} {o:Oper} {v:PV} {rd wr:List Nat} (e:CZ P rec t h id o=some (v,h',rd,wr)) (W:L1 t tS (Cb o.op)) (hh : ∀ x∈rd,hS.get x=h.get x) :
  ∃ hS',((BC P tS hS id o=some (.val v hS'))\/(BC P tS hS id o=some (.skip hS')/\v = .tup []) \/ ∃ f args,BC P tS hS id o=some (.call f args)/\C6 (λ_=>false) rec id f args hS=some (.ret v,hS')) /\
   (∀ x,x ∉ wr->hS'.get x=hS.get x/\h'.get x=h.get x)/\(∀ x,x∈wr->x∈rd/\hS'.get x=h'.get x):=by
 unfold CZ at e;simp only at e;replace e:=E6 e;obtain ⟨hc,e⟩:=e;simp only [Bool.or_eq_false_iff,Bool.not_eq_false',Nat.blt_eq] at hc;obtain ⟨j,r⟩:=hc
 have sub : ∀ {l:List Nat},(∀ x∈l,x∈rd)->KM (h.cut l) hS:=by
  intro l g x b hx;obtain ⟨d,p⟩:=JD hx;rw [hh x (g x d)];exact p
 have q : ∀ {l:List Nat},id∈l->(∀ x∈l,x∈rd)->(h.cut l).get id=none->hS.get id=none:=by
  intro l m g hx;rw [Ii,if_pos ⟨m,r⟩] at hx;rw [hh id (g id m)];exact hx
 have z : ∀ {l:List Nat} {x:Nat} {b:Blk},(h.cut l).get x=some b->x∈l:=λhx=>(JD hx).1
 have lay : ∀ {l A:List Nat} {d hS':Hp},id∈l->(∀ x∈l,x∈rd)->Lay (h.cut l) hS d hS' id->over d l h=some h'->(∀ x∈A,x∈l)->(∀ x∈l,x ∉ A -> ∃ b,h.get x=some b/\j0 b)->Stays (h.cut l) d\/(∀ x∈l,x∈A) ->
   (∀ x,x ∉ A->hS'.get x=hS.get x/\h'.get x=h.get x)/\(∀ x,x∈A->x∈rd/\hS'.get x=h'.get x):=by
  intro l A d hS' m g k I N S hst;refine ⟨λx hx => ?_,λx hx => ?_⟩
  ·by_cases a:x∈l
   ·rcases hst with hst | hst
    ·obtain ⟨b,O,X⟩:=S x a hx;have Y:x<x+1 \/ ¬ x<x+1:=by omega
     rcases Y with U | hge
     ·have D:=hst x b (by rw [Ii,if_pos ⟨a,U⟩];exact O) X;refine ⟨by rw [k.get,D,hh x (g x a),O],by rw [Hh I,if_pos a,D,O]⟩
     ·have J:d.get x=none:=by
       cases E:d.get x with
       | none=>rfl
       | some c =>
        rcases k.keys x c E with ⟨b0,s⟩ | rfl
        ·rw [Ii,if_neg (λh=>hge h.2)] at s;cases s
        ·exact absurd r hge
      exact ⟨by rw [k.get,J],by rw [Hh I,if_pos a,J]⟩
    ·exact absurd (hst x a) hx
   ·have J:d.get x=none:=by
     cases E:d.get x with
     | none=>rfl
     | some c =>
      rcases k.keys x c E with ⟨b0,s⟩ | rfl
      ·exact absurd (z s) a
      ·exact absurd m a
    exact ⟨by rw [k.get,J],by rw [Hh I,if_neg a]⟩
  ·have a:=N x hx;refine ⟨g x a,?_⟩;rw [k.get,Hh I,if_pos a];cases d.get x with
   | some b=>rfl
   | none=>exact hh x (g x a)
 have same : ∀ {l:List Nat} {hS':Hp},(∀ x∈l,x∈rd)->Lay (h.cut l) hS (h.cut l) hS' id->h'=h->(∀ x,x ∉ ([]:List Nat)->hS'.get x=hS.get x/\h'.get x=h.get x)/\(∀ x,x∈([]:List Nat)->x∈rd/\hS'.get x=h'.get x):=by
  intro l hS' g k he;refine ⟨λx _=>⟨?_,by rw [he]⟩,λx hx=>by simp at hx⟩;rw [k.get];cases E:(h.cut l).get x with
  | none=>rfl
  | some b=>exact (sub g x b E).symm
 split at e
 ·rename_i K d i;rw [Jj j W] at i;cases G:Hy o.op with
  | true =>
   simp only [G,cond_true,Option.some.injEq,Prod.mk.injEq] at e;obtain ⟨rfl,rfl,rfl,rfl⟩:=e;have B:=Mo G j i;subst B;have g : ∀ x∈id::CP t h o.op,x∈id::CP t h o.op:=λx hx=>hx;obtain ⟨hS',e2,k⟩:=HF (sub g) (q (by simp) g) j i;exact ⟨hS',.inl e2,same g k rfl⟩
  | false =>
   simp only [G,cond_false] at e;obtain ⟨p,n,e⟩:=AQ e;simp only [Prod.mk.injEq] at e;obtain ⟨rfl,rfl,rfl,rfl⟩:=e;have g : ∀ x∈id::CP t h o.op,x∈id::CP t h o.op:=λx hx=>hx;obtain ⟨hS',e2,k⟩:=HF (sub g) (q (by simp) g) j i;refine ⟨hS',.inl e2,?_⟩;cases Z:KE o.op with
   | true=>exact lay (by simp) g k n (λx hx=>hx) (λx d p=>absurd d p) (.inr λx hx=>hx)
   | false=>exact lay (by simp) g k n (λx hx=>Bz hx) (λx d p=>FU d p) (.inl (Mq j Z G i _ (.inl ⟨_,rfl⟩)))
 ·rename_i d i;rw [Jj j W] at i;replace e:=E6 e;obtain ⟨u,e⟩:=e;simp only [Bool.or_eq_false_iff] at u;obtain ⟨p,n,e⟩:=AQ e;simp only [Prod.mk.injEq] at e;obtain ⟨rfl,rfl,rfl,rfl⟩:=e;have g : ∀ x∈id::CP t h o.op,x∈id::CP t h o.op:=λx hx=>hx;obtain ⟨hS',e2,k⟩:=HF (sub g) (q (by simp) g) j i;have hst:Stays (h.cut (id::CP t h o.op)) d:=Mq j u.2 u.1 i _ (.inr rfl);exact ⟨hS',.inr (.inl ⟨e2,rfl⟩),lay (by simp) g k n (λx hx=>Bz hx) (λx d p=>FU d p) (.inl hst)⟩
 ·rename_i f args i;rw [Jj j W] at i;split at e
  ·rename_i as l hp;split at e
   ·rename_i K d w
    have key:(∀ x∈id::CP t h o.op,x∈rd) -> ∀ (g : ∀ x∈id::l,x∈rd),∃ hS',BC P tS hS id o=some (.call f args)/\C6 (λ_=>false) rec id f args hS=some (.ret K,hS')/\Lay (h.cut (id::l)) hS d hS' id/\(flat K=true->d=h.cut (id::l))/\Stays (h.cut (id::l)) d:=by
     intro C g;have F:BC P tS hS id o=some (.call f args):=HF (sub C) (q (by simp) C) j i;obtain ⟨⟨hS',e3,k⟩,L,M⟩:=Pb (sub g) (q (by simp) g) w;exact ⟨hS',F,e3,k,L,M⟩
    cases y:flat K with
    | true =>
     simp only [y,cond_true,Option.some.injEq,Prod.mk.injEq] at e;obtain ⟨rfl,rfl,rfl,rfl⟩:=e
     have m : ∀ x∈id::l,x∈(id::CP t h o.op)++l:=λx hx=>by
      simp only [List.mem_cons,List.mem_append] at hx ⊢;rcases hx with rfl | hx
      ·exact .inl (.inl rfl)
      ·exact .inr hx
     obtain ⟨hS',e2,e3,k,L,M⟩:=key (λx hx=>List.mem_append_left _ hx) m;have:=L y;subst this;exact ⟨hS',.inr (.inr ⟨f,args,e2,e3⟩),same m k rfl⟩
    | false =>
     simp only [y,cond_false] at e;obtain ⟨p,n,e⟩:=AQ e;simp only [Prod.mk.injEq] at e;obtain ⟨rfl,rfl,rfl,rfl⟩:=e
     have m : ∀ x∈id::l,x∈(id::CP t h o.op)++l:=λx hx=>by
      simp only [List.mem_cons,List.mem_append] at hx ⊢;rcases hx with rfl | hx
      ·exact .inl (.inl rfl)
      ·exact .inr hx
     obtain ⟨hS',e2,e3,k,L,M⟩:=key (λx hx=>List.mem_append_left _ hx) m;exact ⟨hS',.inr (.inr ⟨f,args,e2,e3⟩),lay (by simp) m k n (λx hx=>Bz hx) (λx d p=>FU d p) (.inl M)⟩
   ·cases e
  ·cases e
 ·cases e
end
end Go.Proofs.YtfilfloanndddaaGreat.Pi
namespace Go.Proofs.YtfilfloanndddaaGreat.Pi
variable [Gl]
section
variable {P:Program} {rec:OZ}
theorem Nv {nt : Nat} {dst : Option Nat} {v : PV} {t t' : T PV} (hnt : nt <= 1048575) (h : Qx nt dst v t t') {k : Nat} (hk : dst ≠ some k) : t'.get k = t.get k := by
  unfold Qx at h;cases hd : dst with
  | none => rw [hd] at h; rw [show t' = t from h]
  | some d =>
    rw [hd] at h;obtain ⟨h1, rfl⟩ := h
    rw [T.get_put 20 t d v k (by have : (2 : Nat) ^ 20 - 1 = 1048575 := by decide
                                 omega), if_neg (by intro e; subst e; exact hk hd)]
theorem UJ {nt d : Nat} {v : PV} {t t' : T PV} (hnt : nt <= 1048575) (h : Qx nt (some d) v t t') : d < nt /\ t'.get d = some v := by
  obtain ⟨h1, rfl⟩ := h
  exact ⟨h1, by rw [T.get_put 20 t d v d (by have : (2 : Nat) ^ 20 - 1 = 1048575 := by decide
                                             omega), if_pos rfl]⟩
theorem UK {base nt n : Nat} {opsl : List Oper} {tr : Tr} (hst : ∀ j, j < n -> ∃ o, opsl[j]? = some o /\ tr.StepAt P rec base nt opsl j o)
    (hun : ∀ j, j < n -> ∀ x, x ∉ tr.wr j -> (tr.hp (j + 1)).get x = (tr.hp j).get x) {x a : Nat} : ∀ b, a <= b -> b <= n -> (∀ j, a <= j -> j < b -> x ∉ tr.wr j) -> (tr.hp b).get x = (tr.hp a).get x
  | 0, ha, _, _ => by have : a = 0 := by omega
                      subst this; rfl
  | b + 1, ha, hb, h => by
    by_cases he : a = b + 1
    · subst he; rfl
    · rw [hun b (by omega) x (h b (by omega) (by omega)), UK hst hun b (by omega) (by omega) fun j h1 h2 => h j h1 (by omega)]
theorem UL {n : Nat} {ops : Array Oper} {tr : Tr} (hun : ∀ j o, j < n -> ops[j]? = some o -> ∀ k, o.dst ≠ some k -> (tr.ts (j + 1)).get k = (tr.ts j).get k) (hops : ops.size = n) {k a : Nat} : ∀ b, a <= b -> b <= n -> (∀ j o, a <= j -> j < b -> ops[j]? = some o -> o.dst ≠ some k) -> (tr.ts b).get k = (tr.ts a).get k
  | 0, ha, _, _ => by have : a = 0 := by omega
                      subst this; rfl
  | b + 1, ha, hb, h => by
    by_cases he : a = b + 1
    · subst he; rfl
    · have ho := Array.getElem?_eq_getElem (xs := ops) (i := b) (by omega)
      rw [hun b _ (by omega) ho k (h b _ (by omega) (by omega) ho), UL hun hops b (by omega) (by omega) fun j o h1 h2 h3 => h j o h1 (by omega) h3]
theorem UN {ops:Array Oper} {t tS:T PV} {g:Option (Nat×Bool)} (h : ∀ k,Lu (JA ops.toList g) k=true->tS.get k=t.get k):Cz ops.toList tS g=Cz ops.toList t g:=by
 unfold Cz;cases g with
 | none=>rfl
 | some g =>
  obtain ⟨j,a⟩:=g;simp only;cases c:lget ops.toList j with
  | none=>rfl
  | some o =>
   simp only;cases b:o.dst with
   | none=>rfl
   | some d =>
    simp only;rw [h d (by simp only [JA,c,b,Lt,Mr];simp)]
theorem cN (R:RecOK P rec):LD P rec:=by
 intro ops base fr fr' h h' e hm M μ w b a cs k t s f;unfold drawn at e;split at e
 ·rename_i ms hmarks;split at e
  ·rename_i tE hE hgo;cases e
   let n:=ops.size
   obtain ⟨⟨ms',hms',hmslen⟩,hms⟩:=UH ops.toList 0 [] ms hmarks rfl;simp only [Nat.zero_add] at hms;obtain ⟨g,k1,k2,k3,k4,_,k6⟩:=UF ops.toList ms 0 [] fr.t h hgo (λ_=>[]) (λ_=>[]) (λk hk=>by omega);simp only [Nat.zero_add,Array.length_toList] at k3 k4 k6;have hnt:fr.nt<=1048575:=by have:=f.t.1;omega
   have K : ∀ j,j<n -> ∃ o m,ops[j]? = some o/\ms[j]? = some m/\UG ops.toList ms j o m/\g.StepAt P rec base fr.nt ops.toList j o /\ ∀ k,k<j->g.Clear m.bef j k:=by
    intro j J;have E:ops[j]? = some ops[j]:=Array.getElem?_eq_getElem J;obtain ⟨m,hm1,hm2⟩:=hms j ops[j] (by simp);obtain ⟨q1,q2⟩:=k6 j ops[j] m (by simp) hm1;exact ⟨_,m,E,hm1,hm2,q1,q2⟩
   have hedge : ∀ i o,ops[i]? = some o -> ∀ e∈o.after.toList,Region.binds .any e=true->e.on<i:=by
    intro i o E e X hb;obtain ⟨m,_,hm2⟩:=hms i o (by simpa using E);exact KW hm2.2.2.2.1 e X hb
   obtain ⟨sn,Y,spre⟩:=cM (mixed:=P.follows .mixedOrders) hm hedge t;generalize Region.schedule (P.follows .mixedOrders) ops t=σ at sn Y spre;have befIn:=mG hms spre
   have tclear : ∀ i o m,ops[i]? = some o->ms[i]? = some m->UG ops.toList ms i o m -> ∀ j o' F,ops[j]? = some o'->ms[j]? = some F->UG ops.toList ms j o' F->j<i ->
     Lu m.bef j=true\/(Ob F.wr (Nat.lor m.rd m.wr)=true/\Ob F.rd m.wr=true):=by
    intro i o m E D A j o' F c U Z S;have:=Oi A.2.2.2.2 j F (by rw [List.getElem?_take,if_pos S];exact U);simpa using this
   have place : ∀ {p:List Nat} {i:Nat} {q:List Nat},σ=p++i::q -> ∀ o m,ops[i]? = some o->ms[i]? = some m->UG ops.toList ms i o m ->
     i ∉ p/\(∀ j,Lu m.bef j=true->j∈p)/\(∀ j o' F,ops[j]? = some o'->ms[j]? = some F->Lu F.bef i=true->j ∉ p):=by
    intro p i q X o m E D A;rw [X] at sn
    have hip:i ∉ p:=by
     intro y;have:=(List.nodup_append.1 sn).2.2 i y i (by simp);exact this rfl
    refine ⟨hip,λj J=>befIn i o m E D p q X j J,?_⟩;intro j o' F c U hb y;obtain ⟨p1,p2,hp⟩:=List.append_of_mem y;have:=befIn j o' F c U p1 (p2++i::q) (by rw [X,hp];simp) i hb;exact hip (by rw [hp];simp [this])
   have claimT : ∀ {p:List Nat} {i:Nat} {q:List Nat},σ=p++i::q -> ∀ o m,ops[i]? = some o->ms[i]? = some m->UG ops.toList ms i o m -> ∀ d,(Lu m.rd d=true\/Lu m.wr d=true) ->
     ∀ j o',ops[j]? = some o'->o'.dst=some d->(j∈p<->j<i):=by
    intro p i q X o m E D A d N j o' c l;obtain ⟨hip,hb1,hb2⟩:=place X o m E D A;have J:j<n:=(Array.getElem?_eq_some_iff.1 c).1;obtain ⟨o2,F,ho2,U,Z,_,_⟩:=K j J;rw [c] at ho2;cases ho2;have hwj:Lu F.wr d=true:=by rw [Z.2.1,l];simp only [Lt,Mr];simp
    rcases Nat.lt_trichotomy j i with S | rfl | hgt
    ·refine ⟨λ_=>S,λ_ => ?_⟩;rcases tclear i o m E D A j o' F c U Z S with hb | ⟨c1,_⟩
     ·exact hb1 j hb
     ·exact absurd ⟨hwj,by rw [LJ];rcases N with h | h<;>simp [h]⟩ (Pc c1 d)
    ·exact ⟨λh=>absurd h hip,λh=>by omega⟩
    ·refine ⟨λy => ?_,λh=>by omega⟩;rcases tclear j o' F c U Z i o m E D A hgt with hb | ⟨c1,c2⟩
     ·exact absurd y (hb2 j o' F c U hb)
     ·rcases N with h | h
      ·exact absurd ⟨h,hwj⟩ (Pc c2 d)
      ·exact absurd ⟨h,by rw [LJ,hwj];simp⟩ (Pc c1 d)
   have claimH : ∀ {p:List Nat} {i:Nat} {q:List Nat},σ=p++i::q->i<n -> ∀ x,x∈g.rd i -> ∀ j,j<n->x∈g.wr j->(j∈p<->j<i):=by
    intro p i q X hi x B j J I;obtain ⟨o,m,E,D,A,C,hcl⟩:=K i hi;obtain ⟨o',F,c,U,Z,hstep',hcl'⟩:=K j J;obtain ⟨hip,hb1,hb2⟩:=place X o m E D A;rcases Nat.lt_trichotomy j i with S | rfl | hgt
    ·refine ⟨λ_=>S,λ_ => ?_⟩;rcases hcl j S with hb | ⟨c1,c2⟩
     ·exact hb1 j hb
     ·exact absurd ⟨I,B⟩ (DD c1 x)
    ·exact ⟨λh=>absurd h hip,λh=>by omega⟩
    ·refine ⟨λy => ?_,λh=>by omega⟩;rcases hcl' i hgt with hb | ⟨c1,c2⟩
     ·exact absurd y (hb2 j o' F c U hb)
     ·exact absurd ⟨I,B⟩ (DD c2 x)
   have unH : ∀ j,j<n->(∀ x,x ∉ g.wr j->(g.hp (j+1)).get x=(g.hp j).get x)/\(∀ x,x∈g.wr j->x∈g.rd j):=by
    intro j J;obtain ⟨o,m,E,D,A,C,hcl⟩:=K j J;rcases C with ⟨_,v,N,_⟩ | ⟨_,h1,_,h3,_⟩
    ·obtain ⟨hS',_,c1,c2⟩:=Oj N (tS:=g.ts j) (hS:=g.hp j) (λ_ _=>rfl) (λ_ _=>rfl);exact ⟨λx B=>(c1 x B).2,λx B=>(c2 x B).1⟩
    ·exact ⟨λx _=>by rw [h1],λx B=>by rw [h3] at B;simp at B⟩
   have unT : ∀ j o,j<n->ops[j]? = some o -> ∀ k,o.dst≠some k->(g.ts (j+1)).get k=(g.ts j).get k:=by
    intro j o J E k hk;obtain ⟨o2,m,ho2,D,A,C,hcl⟩:=K j J;rw [E] at ho2;cases ho2;rcases C with ⟨_,v,_,hp⟩ | ⟨_,_,_,_,hp⟩
    ·exact Nv hnt hp hk
    ·exact Nv hnt hp hk
   have hp_eq : ∀ {x a b:Nat},a<=b->b<=n->(∀ j,a<=j->j<b->x ∉ g.wr j)->(g.hp b).get x=(g.hp a).get x:=λh1 h2 h3 =>
    UK (P:=P) (rec:=rec) (base:=base) (nt:=fr.nt) (opsl:=ops.toList) (n:=n) (λj J=>let ⟨o,_,E,_,_,hs,_⟩:=K j J;⟨o,by simpa using E,hs⟩) (λj J x B=>(unH j J).1 x B) _ h1 h2 h3
   have ts_eq : ∀ {k a b:Nat},a<=b->b<=n->(∀ j o,a<=j->j<b->ops[j]? = some o->o.dst≠some k)->(g.ts b).get k=(g.ts a).get k:=λh1 h2 h3 =>
    UL unT rfl _ h1 h2 h3
   have main : ∀ (L G:List Nat) (tS:T PV) (hS:Hp),σ=G++L->j7 n ops g G tS->j8 n g G hS ->
     ∃ tE hE,Bl P (λ_=>false) rec base ops.toList (L.map λi=>(i,(ops[i]?).getD default)) { fr with t:=tS } hS=some (.normal,{ fr with t:=tE },hE)/\j7 n ops g σ tE/\j8 n g σ hE:=by
    intro L
    induction L with
    | nil =>
     intro G tS hS X hT hH;rw [List.append_nil] at X;subst X;exact ⟨tS,hS,rfl,hT,hH⟩
    | cons i L ih =>
     intro G tS hS X hT hH;have hi:i<n:=(Y i).1 (by rw [X];simp);obtain ⟨o,m,E,D,A,C,hcl⟩:=K i hi;have cT:=claimT X o m E D A;have cH:=claimH X hi;obtain ⟨hip,_,_⟩:=place X o m E D A;have agT : ∀ d,(Lu m.rd d=true\/Lu m.wr d=true)->tS.get d=(g.ts i).get d:=λd N=>hT d i (by omega) (λj o' c l=>cT d N j o' c l);have agH : ∀ x,x∈g.rd i->hS.get x=(g.hp i).get x:=λx B=>hH x i (by omega) (λj J I=>cH x B j J I);have hrdbit : ∀ d,Lu m.rd d=(Lu (Jf (Cb o.op)) d||Lu (JA ops.toList o.guard) d):=by intro d;rw [A.1,LJ]
     have agO:L1 (g.ts i) tS (Cb o.op):=λd N=>(agT d (.inl (by rw [hrdbit,Oh N];simp))).symm;have hwant:Cz ops.toList tS o.guard=Cz ops.toList (g.ts i) o.guard:=UN λd N=>agT d (.inl (by rw [hrdbit,N];simp))
     have next : ∀ {v:PV} {hS':Hp} {fr1:Fr},Qx fr.nt o.dst v (g.ts i) (g.ts (i+1))->(∀ x,x ∉ g.wr i->hS'.get x=hS.get x)->(∀ x,x∈g.wr i->hS'.get x=(g.hp (i+1)).get x) ->
       ∃ z,Qx fr.nt o.dst v tS z/\j7 n ops g (G++[i]) z/\j8 n g (G++[i]) hS':=by
      intro v hS' _ Ai h1 h2
      have hH':j8 n g (G++[i]) hS':=by
       intro x F W hw;by_cases B:x∈g.wr i
       ·have him:i<F:=(hw i hi B).1 (by simp);rw [h2 x B];refine (hp_eq (by omega) W λj hj1 hj2 I => ?_).symm;have hjn:j<n:=by omega
        have y:=(hw j hjn I).2 hj2;simp only [List.mem_append,List.mem_singleton] at y;rcases y with y | rfl
        ·have:=(cH x ((unH i hi).2 x B) j hjn I).1 y;omega
        ·omega
       ·rw [h1 x B];refine hH x F W λj J I => ?_;have hji:j≠i:=by intro e;subst e;exact B I
        rw [<- hw j J I];simp [hji]
      have invT : ∀ z,(∀ k,o.dst≠some k->z.get k=tS.get k)->(∀ k,o.dst=some k->z.get k=(g.ts (i+1)).get k)->j7 n ops g (G++[i]) z:=by
       intro z g1 g2 k F W hw;by_cases hk:o.dst=some k
       ·have him:i<F:=(hw i o E hk).1 (by simp);rw [g2 k hk];refine (ts_eq (by omega) W λj o' hj1 hj2 c l => ?_).symm;have y:=(hw j o' c l).2 hj2;simp only [List.mem_append,List.mem_singleton] at y;rcases y with y | rfl
        ·have:=(cT k (.inr (by rw [A.2.1,hk];simp only [Lt,Mr];simp)) j o' c l).1 y;omega
        ·omega
       ·rw [g1 k hk];refine hT k F W λj o' c l => ?_;have hji:j≠i:=by intro e;subst e;rw [E] at c;cases c;exact hk l
        rw [<- hw j o' c l];simp [hji]
      cases N:o.dst with
      | none =>
       exact ⟨tS,rfl,invT tS (λ_ _=>rfl) (λk hk=>by rw [N] at hk;cases hk),hH'⟩
      | some d =>
       rw [N] at Ai;obtain ⟨S,hget⟩:=UJ hnt Ai;have hp2:Qx fr.nt (some d) v tS (T.put 20 tS d v):=⟨S,rfl⟩;refine ⟨T.put 20 tS d v,hp2,invT _ (λk hk=>Nv hnt hp2 (by rw [<- N];exact hk)) (λk hk => ?_),hH'⟩;rw [N] at hk;cases hk;rw [(UJ hnt hp2).2,hget]
     have hget:(ops[i]?).getD default=o:=by rw [E];rfl
     have O : ∀ {v:PV} {z:T PV},Qx fr.nt o.dst v tS z->({ fr with t:=tS }:Fr).put o.dst v=some { fr with t:=z }:=by
      intro v z Ai;unfold Fr.put;cases N:o.dst with
      | none=>rw [N] at Ai;rw [show z=tS from Ai]
      | some d =>
       rw [N] at Ai;obtain ⟨h1,rfl⟩:=Ai;have:Nat.blt d fr.nt=true:=by simpa using h1
       simp only [this,cond_true]
     have he2:σ=(G++[i])++L:=by rw [X];simp
     simp only [List.map_cons,hget];unfold Bl;rcases C with ⟨hw1,v,N,Ai⟩ | ⟨hw1,hh1,hrd,hwr,Ai⟩
     ·simp only [hwant,hw1,cond_true];obtain ⟨hS',hev,c1,c2⟩:=Oj N agO agH;obtain ⟨z,p1,p2,p3⟩:=next (fr1:=fr) Ai (λx B=>(c1 x B).1) (λx B=>(c2 x B).2)
      obtain ⟨tE,hE,q1,q2,q3⟩:=ih (G++[i]) z hS' he2 p2 p3;refine ⟨tE,hE,?_,q2,q3⟩;rcases hev with hev | ⟨hev,rfl⟩ | ⟨fid,args,hev,hcall⟩
      ·simp only [hev,O p1,q1]
      ·simp only [hev,O p1,q1]
      ·simp only [hev,hcall,O p1,q1]
     ·simp only [hwant,hw1,cond_false];obtain ⟨z,p1,p2,p3⟩:=next (fr1:=fr) (hS':=hS) Ai (λx B=>rfl) (λx B=>by rw [hwr] at B;simp at B)
      obtain ⟨tE,hE,q1,q2,q3⟩:=ih (G++[i]) z hS he2 p2 p3;exact ⟨tE,hE,by simp only [O p1,q1],q2,q3⟩
   obtain ⟨tE',hE',q1,q2,q3⟩:=main σ [] fr.t h rfl
    (λk F W hw=>by
     rw [<- k1];refine (ts_eq (Nat.zero_le _) W λj o _ J E l => ?_).symm;have:=(hw j o E l).2 J
     simp at this)
    (λx F W hw=>by
     rw [<- k2];refine (hp_eq (Nat.zero_le _) W λj _ J I => ?_).symm;have:=(hw j (by omega) I).2 J
     simp at this)
   have eT : ∀ k,tE'.get k=tE.get k:=by
    intro k;rw [<- k3];exact q2 k n (Nat.le_refl _) λj o E _=>by rw [Y]
   have eH : ∀ x,hE'.get x=h'.get x:=by
    intro x;rw [<- k4];exact q3 x n (Nat.le_refl _) λj J _=>by rw [Y]
   have hran:=Nq R (ops:=ops) (base:=base) _ q1 (λx B=>by
    obtain ⟨i,hi,rfl⟩:=List.mem_map.1 B;have:=(Y i).1 hi
    simp [Array.getElem?_eq_getElem this]) k s f
   have hσ:(σ.map λi=>(i,(ops[i]?).getD default)).map (·.1)=σ:=by simp [List.map_map,Function.comp_def]
   rw [hσ] at hran;obtain ⟨M',μ',w',a',cs',r1,r2,r3,r4,r5⟩:=hran
   exact ⟨M',μ',w',a',cs',r1.nx (λx=>(eH x).symm),r2,⟨⟨r3.t.1,r3.t.2.1,λk=>by
    have:=r3.t.2.2 k;simp only at this;rw [eT k] at this
    exact this⟩,r3.d,r3.u,r3.r⟩,r4,r5⟩
  ·cases e
 ·cases e
end
end Go.Proofs.YtfilfloanndddaaGreat.Pi
namespace Go.Proofs.YtfilfloanndddaaGreat.Pi
variable [Gl]
end Go.Proofs.YtfilfloanndddaaGreat.Pi
namespace Go.Proofs.YtfilfloanndddaaGreat.Pi
variable [Gl]
open Go.RowKit
end Go.Proofs.YtfilfloanndddaaGreat.Pi
namespace Go.Proofs.YtfilfloanndddaaGreat.Pi
variable [Gl]
section
variable {P:Program} {sh:FuncId->Bool} {M:CJ} {μ:Mu} {h:Hp} {w:World}
structure Kn where
 f:FuncId
 args:List PV
 q:PV
 h:Hp
open Go.RowKit in
end
end Go.Proofs.YtfilfloanndddaaGreat.Pi
namespace Go.Proofs.YtfilfloanndddaaGreat.Pi
variable [Gl]
def Ms (r b:OZ):Prop := ∀ a up args h x,r a up args h=some x->b a up args h=some x
section
variable {P:Program} {sh:FuncId->Bool} {rec rec':OZ}
theorem RN (L:Ms rec rec') {id:Nat} {f:FuncId} {args:List PV} {h:Hp} {x:Out×Hp} (e:C6 sh rec id f args h=some x):C6 sh rec' id f args h=some x:=by
 unfold C6 at e ⊢;cases hs:sh f with
 | true =>
  simp only [hs,cond_true] at e ⊢;cases b:rec (.fn f) none args h with
  | none=>rw [b] at e;cases e
  | some y=>rw [b] at e;rw [L _ _ _ _ _ b];exact e
 | false =>
  simp only [hs,cond_false] at e ⊢;cases c:CH h args with
  | none=>rw [c] at e;cases e
  | some a =>
   rw [c] at e;simp only at e ⊢;cases b:rec (.fn f) none a.1 { m:=.lf,nx:=0 } with
   | none=>rw [b] at e;cases e
   | some y=>rw [b] at e;rw [L _ _ _ _ _ b];exact e
theorem RO (L:Ms rec rec') {base:Nat} {ops:List Oper} : ∀ {l:List (Nat×Oper)} {fr:Fr} {h:Hp} {x:Ex×Fr×Hp},Bl P sh rec base ops l fr h=some x->Bl P sh rec' base ops l fr h=some x
 | [],fr,h,x,e=>e
 | (i,o)::r,fr,h,x,e=>by
  unfold Bl at e ⊢
  have put : ∀ {fr:Fr} {c:Option Nat} {v:PV} {h:Hp},(match fr.put c v with
    | some fr=>Bl P sh rec base ops r fr h
    | none=>none)=some x->(match fr.put c v with
    | some fr=>Bl P sh rec' base ops r fr h
    | none=>none)=some x:=by
   intro fr c v h e;split at e
   ·rename_i fr1 A;exact RO L e
   ·cases e
  cases s:Cz ops fr.t o.guard with
  | false=>simp only [s,cond_false] at e ⊢;exact put (h:=h) e
  | true =>
   simp only [s,cond_true] at e ⊢;cases q:BC P fr.t h (base+i) o with
   | none=>rw [q] at e;cases e
   | some y =>
    rw [q] at e;cases y with
    | val v n=>exact put (h:=n) e
    | skip n=>exact put (h:=n) e
    | dfr d =>
     simp only at e ⊢;cases b:fr.ro with
     | none=>rw [b] at e;exact put e
     | some _=>rw [b] at e;cases e
    | call f args =>
     simp only at e ⊢;cases k:C6 sh rec (base+i) f args h with
     | none=>rw [k] at e;cases e
     | some z =>
      rw [k] at e;rw [RN L k];obtain ⟨o',h'⟩:=z;cases o' with
      | ret v=>exact put (h:=h') e
      | pan g =>
       cases g with
       | nil=>cases e
       | cons a l =>
        obtain ⟨v,j⟩:=a;cases l<;>cases j<;>first | exact e | cases e
    | yield l args =>
     simp only at e ⊢;cases p:rec (.yl l) none args h with
     | none=>rw [p] at e;cases e
     | some z =>
      rw [p] at e;rw [L _ _ _ _ _ p];obtain ⟨o',B,h'⟩:=z;cases o' with
      | ret v=>exact put e
      | pan g=>exact e
    | pan v=>exact e
    | rcv =>
     simp only at e ⊢;cases b:fr.ro with
     | some _=>rw [b] at e;cases e
     | none =>
      rw [b] at e;simp only at e ⊢;cases w:fr.up with
      | none=>rw [w] at e;exact put (h:=h) e
      | some u =>
       rw [w] at e;cases u with
       | ret=>exact put (h:=h) e
       | pan g =>
        cases g with
        | nil=>exact put (h:=h) e
        | cons a m =>
         obtain ⟨v,j⟩:=a;cases j<;>exact put (h:=h) e
theorem Vy (L:Ms rec rec') {t:T PV} {h:Hp} {id:Nat} {o:Oper} {x:PV×Hp×List Nat×List Nat} (e:CZ P rec t h id o=some x):CZ P rec' t h id o=some x:=by
 unfold CZ at e ⊢;dsimp only at e ⊢;cases hc : !CQ o.op || !Nat.blt id (id+1) with
 | true=>rw [hc] at e;cases e
 | false =>
  rw [hc] at e;simp only [cond_false] at e ⊢;cases d:BC P t (h.cut (id::CP t h o.op)) id o with
  | none=>rw [d] at e;cases e
  | some y =>
   rw [d] at e;cases y with
   | call f args =>
    simp only at e ⊢;cases c:CH h args with
    | none=>rw [c] at e;cases e
    | some a =>
     rw [c] at e;simp only at e ⊢;cases b:C6 (λ_=>false) rec id f args (h.cut (id::a.2)) with
     | none=>rw [b] at e;cases e
     | some z=>rw [b] at e;rw [RN L b];exact e
   | _=>exact e
theorem IF (L:Ms rec rec') {base nt:Nat} {ops:List Oper} : ∀ {l:List Oper} {i:Nat} {f:List Mk} {a:List (Nat×List Nat×List Nat)} {t:T PV} {h:Hp} {x:T PV×Hp},Bh P rec base nt ops i l f a t h=some x->Bh P rec' base nt ops i l f a t h=some x
 | [],i,f,a,t,h,x,e=>by unfold Bh at e ⊢;exact e
 | o::l,i,[],a,t,h,x,e=>by unfold Bh at e;cases e
 | o::l,i,m::f,a,t,h,x,e=>by
  unfold Bh at e ⊢;cases j:Cz ops t o.guard with
  | true =>
   simp only [j,cond_true] at e ⊢;cases g:CZ P rec t h (base+i) o with
   | none=>rw [g] at e;cases e
   | some z =>
    rw [g] at e;rw [Vy L g];obtain ⟨v,k,rd,wr⟩:=z;simp only at e ⊢;cases hh:Lv m.bef rd wr a with
    | false=>rw [hh] at e;cases e
    | true =>
     simp only [hh,cond_true] at e ⊢;cases b:o.dst with
     | none=>rw [b] at e;exact IF L e
     | some d =>
      rw [b] at e;simp only at e ⊢;cases c:Nat.blt d nt with
      | false=>rw [c] at e;cases e
      | true=>rw [c] at e;exact IF L e
  | false =>
   simp only [j,cond_false] at e ⊢;cases b:o.dst with
   | none=>rw [b] at e;exact IF L e
   | some d =>
    rw [b] at e;simp only at e ⊢;cases c:Nat.blt d nt with
    | false=>rw [c] at e;cases e
    | true=>rw [c] at e;exact IF L e
theorem cO (L:Ms rec rec') {base:Nat} {ops:List Oper} {fr:Fr} {h:Hp} {x:Fr×Hp} (e:drawn P rec base ops fr h=some x):drawn P rec' base ops fr h=some x:=by
 unfold drawn at e ⊢;split at e
 ·rename_i b c;cases a:Bh P rec base fr.nt ops 0 ops b [] fr.t h with
  | none=>rw [a] at e;cases e
  | some z=>rw [a] at e;rw [IF L a];exact e
 ·cases e
theorem HX (L:Ms rec rec') : ∀ {n k:Nat} {c:Code} {fr:Fr} {h:Hp} {x:Ex×Fr×Hp},n<=k->exec P sh rec n c fr h=some x->exec P sh rec' k c fr h=some x
 | 0,k,c,fr,h,x,j,e=>by unfold exec at e;cases e
 | n+1,k,c,fr,h,x,j,e=>by
  obtain ⟨m,rfl⟩ : ∃ m,k=m+1:=⟨k-1,by omega⟩;have j:n<=m:=by omega
  unfold exec at e ⊢;cases c with
  | skip=>exact e
  | label _=>exact e
  | seq a b =>
   simp only at e ⊢;cases i:exec P sh rec n a fr h with
   | none=>rw [i] at e;cases e
   | some y =>
    rw [i] at e;rw [HX L j i];obtain ⟨ex,fr1,w⟩:=y;cases ex<;>first | exact HX L j e | exact e
  | cond c a b =>
   simp only at e ⊢;cases hc:GU fr.t c with
   | none=>rw [hc] at e;cases e
   | some v =>
    rw [hc] at e;cases v with
    | bool b=>cases b<;>exact HX L j e
    | _=>cases e
  | block id b =>
   simp only at e ⊢;cases i:exec P sh rec n b fr h with
   | none=>rw [i] at e;cases e
   | some y=>rw [i] at e;rw [HX L j i];exact e
  | loop b =>
   simp only at e ⊢;cases i:exec P sh rec n b fr h with
   | none=>rw [i] at e;cases e
   | some y =>
    rw [i] at e;rw [HX L j i];obtain ⟨ex,fr1,w⟩:=y;cases ex<;>first | exact HX L j e | exact e
  | scope b =>
   simp only at e ⊢;cases i:exec P sh rec n b fr h with
   | none=>rw [i] at e;cases e
   | some y=>rw [i] at e;rw [HX L j i];exact e
  | exit _=>exact e
  | goto _=>exact e
  | ret=>exact e
  | refuse _=>exact e
  | region id ops p =>
   cases p with
   | false=>exact RO L e
   | true =>
    simp only [cond_true] at e ⊢;cases s:P.follows .mixedOrders || !Region.departs ops with
    | false=>rw [s] at e;cases e
    | true =>
     simp only [s,cond_true] at e ⊢;cases q:drawn P rec h.nx ops.toList fr { h with nx:=h.nx+ops.size } with
     | none=>rw [q] at e;cases e
     | some z=>rw [q] at e;rw [cO L q];exact e
  | rangeFunc g F E u =>
   simp only at e ⊢;split at e
   ·rename_i f a b C
    try simp only [C]
    split at e
    ·rename_i d mark w A
     try simp only [A]
     split at e
     ·rename_i D l
      try simp only [l]
      split at e
      ·rename_i B args o
       try simp only [o]
       cases r:rec (.fn B) none args { D with nx:=h.nx+1+1 } with
       | none=>rw [r] at e;cases e
       | some z=>rw [r] at e;rw [L _ _ _ _ _ r];exact e
      ·cases e
     ·cases e
    ·cases e
   ·cases e
theorem Mt (L:Ms rec rec') {q:Func} : ∀ {n j:Nat} {i:List DF} {u:UM} {t:T PV} {h:Hp} {x:Out×Hp},n<=j->leave P rec q n i u t h=some x->leave P rec' q j i u t h=some x
 | 0,j,i,u,t,h,x,k,e=>by unfold leave at e;cases e
 | n+1,j,i,u,t,h,x,k,e=>by
  obtain ⟨m,rfl⟩ : ∃ m,j=m+1:=⟨j-1,by omega⟩;have k:n<=m:=by omega
  unfold leave at e ⊢;cases i with
  | nil=>exact e
  | cons d i =>
   cases d with
   | col id =>
    simp only at e ⊢;split at e
    ·rename_i l w
     try simp only [w]
     split at e
     ·rename_i y hs
      try simp only [hs]
      exact Mt L k e
     ·cases e
    ·cases e
   | bi b B ty args =>
    simp only at e ⊢;split at e
    ·split at e
     ·rename_i v y s
      try simp only [s]
      exact Mt L k e
     ·cases e
    ·cases e
   | call f args =>
    simp only at e ⊢;split at e
    ·rename_i g a b;split at e
     ·rename_i A c o
      try simp only [o]
      cases p:rec (.fn A) (some u) c h with
      | none=>rw [p] at e;cases e
      | some z =>
       rw [p] at e;rw [L _ _ _ _ _ p];obtain ⟨o',r,h'⟩:=z;cases o' with
       | ret v =>
        cases r with
        | some r=>exact Mt L k e
        | none=>cases e
       | pan C=>cases e
     ·cases e
    ·cases e
theorem cQ {F j:Nat} (k:F<=j) : ∀ {n i:Nat},n<=i->Ms (GA P sh F n) (GA P sh j i)
 | 0,i,_=>λD up args h x e=>by cases e
 | n+1,i,hn=>λD up args h x e=>by
  obtain ⟨m,rfl⟩ : ∃ m,i=m+1:=⟨i-1,by omega⟩;have L:Ms (GA P sh F n) (GA P sh j m):=cQ k (by omega);unfold GA ld at e ⊢
  have tail : ∀ {fn:Func} {fr:Fr} {ds:List DF} {u:UM} {h:Hp},(match leave P (GA P sh F n) fn F ds u fr.t h with
    | some (o,h)=>some (o,fr.up,h)
    | none=>none)=some x->(match leave P (GA P sh j m) fn j ds u fr.t h with
    | some (o,h)=>some (o,fr.up,h)
    | none=>none)=some x:=by
   intro fn fr ds u h e;cases A:leave P (GA P sh F n) fn F ds u fr.t h with
   | none=>rw [A] at e;cases e
   | some z=>rw [A] at e;rw [Mt L k A];exact e
  cases D with
  | fn f =>
   simp only at e ⊢;split at e
   ·rename_i p w
    try simp only [w]
    exact e
   rename_i w
   try simp only [w]
   split at e
   ·rename_i fn B
    try simp only [B]
    split at e
    ·rename_i c hc
     try simp only [hc]
     cases C:Nat.ble args.length fn.ntmps&&Nat.blt fn.ntmps 1048575 with
     | false=>simp only [C,cond_false] at e;cases e
     | true =>
      simp only [C,cond_true] at e ⊢;cases b:exec P sh (GA P sh F n) F c { t:=Eu 0 args .lf,nt:=fn.ntmps,ds:=[],up,ro:=none } h with
      | none=>rw [b] at e;cases e
      | some y =>
       rw [b] at e;rw [HX L k b];obtain ⟨ex,fr1,I⟩:=y;cases ex with
       | normal=>exact tail e
       | ret=>exact tail e
       | panic v=>exact tail e
       | _=>cases e
    ·cases e
   ·cases e
  | yl l =>
   simp only at e ⊢;split at e
   ·rename_i X Y nt t U q a d N
    try simp only [N]
    split at e
    ·rename_i M S
     try simp only [S]
     cases b:exec P sh (GA P sh F n) F q { t:=M,nt,ds:=[],up:=none,ro:=some l } h with
     | none=>rw [b] at e;cases e
     | some y =>
      rw [b] at e;rw [HX L k b];obtain ⟨ex,fr1,I⟩:=y;cases ex with
      | normal =>
       simp only at e ⊢;split at e
       ·rename_i G J Z O E s d2 r
        try simp only [r]
        split at e
        ·rename_i K hs
         try simp only [hs]
         cases g:exec P sh (GA P sh F n) F a fr1 K with
         | none=>rw [g] at e;cases e
         | some W=>rw [g] at e;rw [HX L k g];exact e
        ·cases e
       ·cases e
      | _=>cases e
    ·cases e
   ·cases e
end
end Go.Proofs.YtfilfloanndddaaGreat.Pi
