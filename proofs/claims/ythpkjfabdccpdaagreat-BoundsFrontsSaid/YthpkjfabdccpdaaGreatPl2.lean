/- Functions of the program and of the specification as plain functions, and laws about them. No condition. -/
import Derived.Test.YthpkjfabdccpdaaGreatPl1
import Derived.KernelRfl
set_option linter.all false
namespace Go.Proofs.YthpkjfabdccpdaaGreat.Pl
open Go Go.Proofs.YthpkjfabdccpdaaGreat.Sv
set_option linter.unusedVariables false
def K5 (x:AQ):Option ((AQ×((List (Int×(AW×((Bool×AP)×((List AH)×Int)))))×Int))×Int) :=
 bd (Cd x) λr0=>br (BF r0.2.2 0) (λ_=>some ((((0,[]),([],0)),r0.2.2))) λ_=>bd (CB x) λr1=>bd (Ce x) λr2=>bd (loop (λ(s3:(Int×(Int×((List (List B9))×((List (Int×(AW×((Bool×AP)×((List AH)×Int)))))×Int)))))=>br (Aj s3.1 (Aa (AA r2))) (λ_=>AS s3.1 λk4=>ix r2 k4 λx5=>AS s3.1 λk6=>ix r2 k6 λx7=>bd (Bj (x,x7)) λr8=>bd (A8 ((x,(x5,r8)))) λr9=>gd (Bb (A3 (AA s3.2.2.2.1) (AA [r9])) 1048576) λ_=>some (.nx ((AF .i64 s3.1 1,(s3.2.1,(s3.2.2.1,(Bv s3.2.2.2.1 [r9],s3.2.2.2.2))))))) λ_=>some (.dn ((0,(s3,()))))) ((0,(x.1,(x.2,([],AF .i64 r1 1)))))) λr10=>some ((((r10.2.1.2.1,r10.2.1.2.2.1),r10.2.1.2.2.2),0))
def Ga (x:((AQ×((List (Int×(AW×((Bool×AP)×((List AH)×Int)))))×Int))×Int)):Option (Int×Int) :=
 bd (C2 x.1) λr0=>br (BF r0.2 0) (λ_=>some (0,r0.2)) λ_=>bd (loop (λs1=>br (Aj s1.2 (Aa (AA x.1.2.1))) (λ_=>AS s1.2 λk2=>ix x.1.2.1 k2 λx3=>br (CA x3.1 x.2) (λ_=>some (.dn ((0,((s1.2,s1.2),()))))) λ_=>some (.nx (s1.1,AF .i64 s1.2 1))) λ_=>some (.dn ((1,(s1,()))))) (0,0)) λr4=>br (neq r4.1 0) (λ_=>br (Aj r4.2.1.1 0) (λ_=>some (0,4)) λ_=>some (r4.2.1.1,0)) λ_=>br (Aj (-1) 0) (λ_=>some (0,4)) λ_=>some (((-1),0))
def EX (x:(AQ×((List (Int×(AW×((Bool×AP)×((List AH)×Int)))))×Int))):Option ((List Int)×Int) :=
 bd (C2 x) λr0=>br (BF r0.2 0) (λ_=>some ([],r0.2)) λ_=>bd (loop (λs1=>br (Aj s1.1 (Aa (AA x.1.2))) (λ_=>AS s1.1 λk2=>ix x.1.2 k2 λx3=>br (CA (Aa (AA x3)) 2) (λ_=>gd (Bb (A3 (AA s1.2) (AA [s1.1])) 1048576) λ_=>some (.nx (AF .i64 s1.1 1,Bv s1.2 [s1.1]))) λ_=>some (.nx (AF .i64 s1.1 1,s1.2))) λ_=>some (.dn ((0,(s1,()))))) (0,[])) λr4=>some (r4.2.1.2,0)
end Go.Proofs.YthpkjfabdccpdaaGreat.Pl
namespace Go.Proofs.YthpkjfabdccpdaaGreat.Pl
open Go Go.Proofs.YthpkjfabdccpdaaGreat.Sv
def JobAt (L:AQ) (n:Nat) (j:VW):Prop := ∃ r0 r1 bt k,L.2[n]? = some [r0,r1]/\j=((n:Int),Es r1.2 r0.2 bt k)/\k<=r1.2.length+r0.2.length/\(bt=true->n+1=L.2.length)/\VL r0.2/\VL r1.2
structure VSt (s:BJ):Prop where
 lev:VLev s.1
 n1:1<=s.2.2
 n2:s.2.2<=1000001
 n3:GG s.1.2<s.2.2
 due:s.2.1.map (·.1)=BV 0 s.1.2
 job : ∀ j∈s.2.1,∃ n,JobAt s.1 n j
theorem gN (a b:List AH) (bt:Bool) (k:Nat):(Es a b bt k).2.1.2.2=bt:=by
 show (CC (s0 bt) (A0 a b k)).2.2=bt;rw [Fo]
theorem OY {L:AQ} (v:VLev L) {i:Nat} {j:VW}:KF L (BV 0 L.2) i j=false <-> ∃ n,(BV 0 L.2)[i]? = some j.1/\JobAt L n j:=by
 constructor
 ·intro h;unfold KF at h;cases hd:(BV 0 L.2)[i]? with
  | none=>rw [hd] at h;cases h
  | some d =>
   rw [hd] at h;simp only at h;by_cases h1:j.1=d;rotate_left
   ·rw [if_pos h1] at h;cases h
   rw [if_neg (by simp [h1])] at h;by_cases h2:j.2.2.1.2.2=true/\j.1≠(L.2.length:Int)-1
   ·rw [if_pos h2] at h;cases h
   rw [if_neg h2] at h;obtain ⟨n,hn,r0,r1,hl⟩:=IF hd;rw [Nat.zero_add] at hn;rw [hn,Int.toNat_natCast,hl] at h;simp only at h;by_cases h3:j.2.2.2.2<0\/j.2.2.2.2>((r1.2.length+r0.2.length:Nat):Int)
   ·rw [if_pos h3] at h;cases h
   rw [if_neg h3] at h;have h4:Es r1.2 r0.2 j.2.2.1.2.2 j.2.2.2.2.toNat=j.2:=by simpa using h
   have hv:=(v.lev n _ hl).2;refine ⟨n,by rw [h1],r0,r1,j.2.2.1.2.2,j.2.2.2.2.toNat,hl,Prod.ext (by rw [h1,hn]) h4.symm,by omega,λhb => ?_,(hv r0 (by simp)).vl,(hv r1 (by simp)).vl⟩
   have h5:j.1=(L.2.length:Int)-1:=by
    by_cases h6:j.1=(L.2.length:Int)-1
    ·exact h6
    ·exact absurd ⟨hb,h6⟩ h2
   omega
 ·rintro ⟨n,hd,r0,r1,bt,k,hl,rfl,hk,hb,v0,v1⟩;unfold KF;rw [hd];simp only;rw [if_neg (by simp),gN,if_neg (λh:bt=true/\(n:Int)≠(L.2.length:Int)-1=>h.2 (by have:=hb h.1;omega)),Int.toNat_natCast,hl];simp only;rw [show (Es r1.2 r0.2 bt k).2.2.2=(k:Int) from rfl,if_neg (by omega),Int.toNat_natCast];simp
theorem Jc {L:AQ} {due:List Int} : ∀ {js:List VW} {i:Nat},FP L due i js=none <-> ∀ k j,js[k]? = some j->KF L due (i+k) j=false
 | [],i=>by simp [FP]
 | j::js,i=>by
  unfold FP;by_cases h:KF L due i j=true
  ·rw [if_pos h];simp only [reduceCtorEq,false_iff];intro h2;have:=h2 0 j rfl;rw [Nat.add_zero,h] at this;cases this
  ·rw [if_neg h,Jc (js:=js)];constructor
   ·intro h2 k j' hk;cases k with
    | zero=>cases hk;simpa using h
    | succ k=>rw [show i+(k+1)=i+1+k by omega];exact h2 k j' hk
   ·intro h2 k j' hk;rw [show i+1+k=i+(k+1) by omega];exact h2 (k+1) j' hk
theorem Bs {s:BJ}:(AZ s).2=0<->VSt s:=by
 unfold AZ;constructor
 ·intro h;by_cases h0:(C4 s.1).2.2≠0
  ·rw [if_pos h0] at h;exact absurd h h0
  rw [if_neg h0] at h;have v:=GZ.1 (Decidable.not_not.1 h0);by_cases h1:s.2.2<1\/s.2.2>1000001
  ·rw [if_pos h1] at h;cases h
  rw [if_neg h1] at h;by_cases h2:s.2.2<=GG s.1.2
  ·rw [if_pos h2] at h;cases h
  rw [if_neg h2] at h;cases hg:FP s.1 (BV 0 s.1.2) 0 s.2.1 with
  | some i=>rw [hg] at h;cases h
  | none =>
   rw [hg] at h;simp only at h;by_cases h3:s.2.1.length<(BV 0 s.1.2).length
   ·rw [if_pos h3] at h;cases h
   have hj:=Jc.1 hg
   have hj2 : ∀ k j,s.2.1[k]? = some j -> ∃ n,(BV 0 s.1.2)[k]? = some j.1/\JobAt s.1 n j:=λk j hk=>by
    have:=hj k j hk;rw [Nat.zero_add] at this;exact (OY v).1 this
   refine ⟨v,by omega,by omega,by omega,?_,λj hm => ?_⟩
   ·apply List.ext_getElem?;intro k;rw [List.getElem?_map];cases hk:s.2.1[k]? with
    | some j=>obtain ⟨n,e,_⟩:=hj2 k j hk;rw [e];rfl
    | none =>
     have:=List.getElem?_eq_none_iff.1 hk;rw [List.getElem?_eq_none (by omega)];rfl
   ·obtain ⟨k,hk⟩:=List.getElem?_of_mem hm;obtain ⟨n,_,h⟩:=hj2 k j hk;exact ⟨n,h⟩
 ·intro v;rw [if_neg (by simp [GZ.2 v.lev]),if_neg (by have:=v.n1;have:=v.n2;omega),if_neg (by have:=v.n3;omega)]
  have hg:FP s.1 (BV 0 s.1.2) 0 s.2.1=none:=Jc.2 λk j hk=>by
   rw [Nat.zero_add];obtain ⟨n,hn⟩:=v.job j (List.mem_of_getElem? hk);exact (OY v.lev).2 ⟨n,by rw [<- v.due,List.getElem?_map,hk];rfl,hn⟩
  rw [hg];simp only;rw [if_neg (by rw [<- v.due];simp)]
structure Sm (s:BJ):Prop where
 lv:s.1.2.length<=1048576
 rs : ∀ rs∈s.1.2,rs.length<=1048576 /\ ∀ r∈rs,r.2.length<=9223372036854775807
 js:s.2.1.length<=1048576
theorem jZ {s:BJ} (m:Sm s):C2 s=some (AZ s):=Tu s m.lv m.rs m.js
theorem hG {s:BJ} (m:Sm s):DH s=some (AZ s):=SX s m.lv m.rs m.js
theorem VSt.jlen {s:BJ} (v:VSt s):s.2.1.length=(BV 0 s.1.2).length:=by rw [<- v.due];simp
theorem VSt.jsmall {s:BJ} (v:VSt s):s.2.1.length<=12:=by
 have:=v.jlen;have:=D4 s.1.2 0;have:=v.lev.len;omega
theorem VSt.sm {s:BJ} (v:VSt s):Sm s:=⟨v.lev.small.1,v.lev.small.2,by have:=v.jsmall;omega⟩
def So (x:Int):Nat->List Int->Option Nat
 | _,[]=>none
 | k,y::l=>if y=x then some k else So x (k+1) l
theorem ZA {x:Int} : ∀ {l:List Int} {k i:Nat},So x k l=some i->k<=i/\l[i-k]? = some x
 | [],_,_,h=>by cases h
 | y::l,k,i,h=>by
  unfold So at h;by_cases e:y=x
  ·rw [if_pos e] at h;cases h;simp [e]
  ·rw [if_neg e] at h;obtain ⟨h1,h2⟩:=ZA h;exact ⟨by omega,by rw [show i-k=(i-(k+1))+1 by omega];simpa using h2⟩
theorem Vi {x:Int} : ∀ {l:List Int} {k:Nat},x∈l -> ∃ i,So x k l=some i
 | [],_,h=>by cases h
 | y::l,k,h=>by
  unfold So;by_cases e:y=x
  ·rw [if_pos e];exact ⟨k,rfl⟩
  ·rw [if_neg e];exact Vi (by rcases List.mem_cons.1 h with h | h;exact absurd h.symm e;exact h)
def Pu (s:BJ) (level:Int):Int×Int:=if (AZ s).2≠0 then (0,(AZ s).2) else match So level 0 (BV 0 s.1.2) with
 | some i=>((i:Int),0)
 | none=>(0,4)
theorem ec {s:BJ} (m:Sm s) (level:Int):Ga (s,level)=some (Pu s level):=by
 unfold Ga Pu;simp only [AX,AR];rw [jZ m,AC,AN];by_cases h0:(AZ s).2=0;rotate_left
 ·rw [if_neg h0,if_pos h0]
 rw [if_pos h0,if_neg (show ¬ (AZ s).2≠0 by simp [h0])];have v:=Bs.1 h0;have hj:=v.jsmall;rw [<- v.due];obtain ⟨T,hT⟩ : ∃ T,T=So level 0 (s.2.1.map (·.1)):=⟨_,rfl⟩;rw [<- hT]
 obtain ⟨r,q1,q2⟩:=FO (l:=s.2.1) (σ:=Unit) (s:=((0:Int),(0:Int))) (λk _=>((0:Int),(k:Int))) (λjs k _=>So level k (js.map (·.1))=T) (λ(r:Nat×((Int×Int)×Unit))=>(r.1=1/\T=none)\/(r.1=0 /\ ∃ i:Nat,T=some i/\r.2.1.1=(i:Int)))
  (f:=λs1=>br (Aj s1.2 (s.2.1.length:Int)) (λ_=>AS s1.2 λk2=>ix s.2.1 k2 λx3=>br (CA x3.1 level) (λ_=>some (.dn ((0,((s1.2,s1.2),()))))) λ_=>some (.nx (s1.1,AF .i64 s1.2 1))) λ_=>some (.dn ((1,(s1,())))))
  () rfl (by omega) hT.symm (λ_ h=>⟨_,by simp only;rw [re];rfl,.inl ⟨rfl,by rw [<- h];rfl⟩⟩) (λk j js _ hd hx hk h=>by
   simp only;rw [rl hk,AM,AG,AJ hx,Bg];unfold So at h;simp only [List.map_cons] at h;by_cases e:j.1=level
   ·rw [if_pos e];rw [if_pos e] at h;exact .inr ⟨_,rfl,.inr ⟨rfl,k,h.symm,rfl⟩⟩
   ·rw [if_neg e];rw [if_neg e] at h
    exact .inl ⟨(),by rw [Am hx (by omega)],h⟩)
 refine BC q1 ?_;rw [Ar];rcases q2 with ⟨q2,q3⟩ | ⟨q2,i,q3,q4⟩
 ·rw [if_neg (show ¬ r.1=0 by omega),q3];rfl
 ·rw [if_pos q2,q3,q4,BE,if_neg (by omega)]
theorem SY {s:BJ} (m:Sm s):Cy s=some (if (AZ s).2≠0 then ([],(AZ s).2) else (BV 0 s.1.2,0)):=by
 unfold Cy;rw [hG m,AC,AN];by_cases h0:(AZ s).2=0
 ·rw [if_pos h0,if_neg (show ¬ (AZ s).2≠0 by simp [h0]),Vh (by have:=(Bs.1 h0).lev.len;omega),AC]
 ·rw [if_neg h0,if_pos h0]
theorem ZB {s:BJ} (m:Sm s) (level:Int):Fx (s,level)=some (Pu s level):=by
 unfold Fx Pu;simp only [AX,AR];rw [SY m,AC,AN];by_cases h0:(AZ s).2=0;rotate_left
 ·rw [if_pos h0,if_neg h0,if_pos h0]
 rw [if_neg (show ¬ (AZ s).2≠0 by simp [h0]),if_pos rfl,if_neg (show ¬ (AZ s).2≠0 by simp [h0])];have v:=Bs.1 h0;have hj:=v.jsmall;have hd:=v.jlen;obtain ⟨due,hdue⟩ : ∃ due,due=BV 0 s.1.2:=⟨_,rfl⟩;rw [<- hdue] at hd ⊢;obtain ⟨T,hT⟩ : ∃ T,T=So level 0 due:=⟨_,rfl⟩;rw [<- hT];simp only
 obtain ⟨r,q1,q2⟩:=FO (l:=due) (σ:=Unit) (s:=((0:Int),((0:Int),(0:Int)))) (λk _=>((0:Int),((0:Int),(k:Int)))) (λjs k _=>So level k js=T) (λ(r:Nat×((Int×(Int×Int))×Unit))=>(r.1=1/\T=none)\/(r.1=0 /\ ∃ i:Nat,T=some i/\r.2.1.2.1=(i:Int)/\r.2.1.1=0))
  (f:=λs1=>br (Aj s1.2.2 (due.length:Int)) (λ_=>AS s1.2.2 λk2=>ix due k2 λx3=>br (CA x3 level) (λ_=>some (.dn ((0,((0,(s1.2.2,s1.2.2)),()))))) λ_=>some (.nx ((s1.1,(s1.2.1,AF .i64 s1.2.2 1))))) λ_=>some (.dn ((1,(s1,())))))
  () rfl (by omega) hT.symm (λ_ h=>⟨_,by simp only;rw [re];rfl,.inl ⟨rfl,by rw [<- h];rfl⟩⟩) (λk j js _ hd hx hk h=>by
   simp only;rw [rl hk,AM,AG,AJ hx,Bg];unfold So at h;by_cases e:j=level
   ·rw [if_pos e];rw [if_pos e] at h;exact .inr ⟨_,rfl,.inr ⟨rfl,k,h.symm,rfl,rfl⟩⟩
   ·rw [if_neg e];rw [if_neg e] at h
    exact .inl ⟨(),by rw [Am hx (by omega)],h⟩)
 refine BC q1 ?_;rw [Ar];rcases q2 with ⟨q2,q3⟩ | ⟨q2,i,q3,q4,q5⟩
 ·rw [if_neg (show ¬ r.1=0 by omega),q3]
 ·rw [if_pos q2,q3,q4,q5]
end Go.Proofs.YthpkjfabdccpdaaGreat.Pl
namespace Go.Proofs.YthpkjfabdccpdaaGreat.Pl
open Go Go.Proofs.YthpkjfabdccpdaaGreat.Sv
def Jd (L:AQ) (j:VW):Nat:=match L.2[j.1.toNat]? with
 | some [r0,r1]=>r1.2.length+r0.2.length-j.2.2.2.2.toNat
 | _=>0
def gc (s:BJ) (level:Int):Option VW:=match So level 0 (BV 0 s.1.2) with
 | some i=>s.2.1[i]?
 | none=>none
theorem VSt.at {s:BJ} (v:VSt s) {level:Int} {i:Nat} (h:So level 0 (BV 0 s.1.2)=some i) : ∃ (j:VW) (n:Nat),s.2.1[i]? = some j/\level=(n:Int)/\j.1=(n:Int)/\JobAt s.1 n j/\n<s.1.2.length:=by
 obtain ⟨_,h1⟩:=ZA h;rw [Nat.sub_zero] at h1;rw [<- v.due,List.getElem?_map] at h1;cases hj:s.2.1[i]? with
 | none=>rw [hj] at h1;cases h1
 | some j =>
  rw [hj] at h1;simp only [Option.map_some,Option.some.injEq] at h1;obtain ⟨n,hn⟩:=v.job j (List.mem_of_getElem? hj);have hn0:=hn;obtain ⟨r0,r1,bt,k,hl,e,_⟩:=hn;have h2:j.1=(n:Int):=by rw [e]
  exact ⟨j,n,rfl,by rw [<- h1,h2],h2,hn0,(List.getElem?_eq_some_iff.1 hl).1⟩
theorem JobAt.left {L:AQ} {n:Nat} {j:VW} (h:JobAt L n j):Ba j.2=some ((Jd L j:Int),0)/\A6 j.2=some ((Jd L j:Int),0)/\Jd L j<=10000:=by
 obtain ⟨r0,r1,bt,k,hl,rfl,hk,_,v0,v1⟩:=h;have l0:=v0.len;have l1:=v1.len
 have e:Jd L ((n:Int),Es r1.2 r0.2 bt k)=r1.2.length+r0.2.length-k:=by
  unfold Jd;simp only [Int.toNat_natCast,hl];show r1.2.length+r0.2.length-((k:Int)).toNat=_;rw [Int.toNat_natCast]
 rw [e];exact ⟨Mg v1 v0 bt hk,K4 v1 v0 bt hk,by omega⟩
end Go.Proofs.YthpkjfabdccpdaaGreat.Pl
namespace Go.Proofs.YthpkjfabdccpdaaGreat.Pl
open Go Go.Proofs.YthpkjfabdccpdaaGreat.Sv
def Wl {α:Type} (z:α) (f:BJ->VW->α×Int) (s:BJ) (level:Int):α×Int:=if (AZ s).2≠0 then (z,(AZ s).2) else match gc s level with
 | some j=>f s j
 | none=>(z,4)
theorem Wm {s:BJ} (m:Sm s) (level:Int):Fy (s,level)=some (Wl 0 (λs j=>((Jd s.1 j:Int),0)) s level):=by
 unfold Fy;rw [ZB m,AC];unfold Wl gc Pu;by_cases h0:(AZ s).2=0;rotate_left
 ·rw [if_pos h0,AN,if_neg h0,if_pos h0]
 rw [if_neg (show ¬ (AZ s).2≠0 by simp [h0]),if_neg (show ¬ (AZ s).2≠0 by simp [h0])];have v:=Bs.1 h0;cases hf:So level 0 (BV 0 s.1.2) with
 | none=>rfl
 | some i =>
  obtain ⟨j,n,hj,hl,hjn,ha,hn⟩:=v.at hf;simp only [hj];rw [AN,if_pos rfl,AG,AJ hj,(JobAt.left ha).2.1,AC]
theorem ef {s:BJ} (m:Sm s):EX s=some (if (AZ s).2≠0 then ([],(AZ s).2) else (BV 0 s.1.2,0)):=by
 unfold EX;simp only [AX,AR];rw [jZ m,AC,AN];by_cases h0:(AZ s).2=0;rotate_left
 ·rw [if_neg h0,if_pos h0]
 rw [if_pos h0,if_neg (show ¬ (AZ s).2≠0 by simp [h0])];have hl:=(Bs.1 h0).lev.len
 rw [CY (l:=s.1.2) (σ:=List Int) (s:=((0:Int),([]:List Int))) (λi m=>((i:Int),m)) (λls i m=>m++BV i ls=BV 0 s.1.2) (λ_ _ _=>(0,(((s.1.2.length:Int),BV 0 s.1.2),()))) [] rfl (by omega) rfl (λm h=>by
  simp only;rw [re,Av,<- h];simp [BV]) (λi rs ls m hd hx hi h=>by
   refine ⟨m++(if rs.length=2 then [(i:Int)] else []),?_,?_,rfl⟩
   ·simp only;rw [rl hi,AM,AG,AJ hx,Bg]
    have hm:m.length<=1000:=by
     have h4:=congrArg List.length h;have h5:=D4 s.1.2 0;rw [List.length_append] at h4;omega
    by_cases h4:rs.length=2
    ·rw [if_pos (by omega),if_pos h4,C3 (by simp only [A3,List.length_cons,List.length_nil];omega),Am hx (by omega)];rfl
    ·rw [if_neg (by omega),if_neg h4,List.append_nil,Am hx (by omega)]
   ·rw [List.append_assoc];exact h),AC]
theorem VSt.atDue {s:BJ} (v:VSt s) {d:Int} (h:d∈BV 0 s.1.2) : ∃ (j:VW) (n:Nat),gc s d=some j/\d=(n:Int)/\j.1=(n:Int)/\JobAt s.1 n j/\n<s.1.2.length:=by
 obtain ⟨i,hf⟩:=Vi (k:=0) h;obtain ⟨j,n,hj,hl,hjn,ha,hn⟩:=v.at hf;exact ⟨j,n,by unfold gc;rw [hf];exact hj,hl,hjn,ha,hn⟩
end Go.Proofs.YthpkjfabdccpdaaGreat.Pl
namespace Go.Proofs.YthpkjfabdccpdaaGreat.Pl
open Go Go.Proofs.YthpkjfabdccpdaaGreat.Sv
theorem Je {α β σ S:Type} {l:List α} (c:Nat) (hc9:c<=1000) (mk:Nat->σ->S) (I:Nat->σ->Prop) (Q:β->Prop) {f:S->Option (LR S β)} {s:S} (st:σ) (h0:s=mk 0 st) (hi:I 0 st)
  (hn : ∀ k st,(k=l.length\/k=c)->k<=l.length->I k st -> ∃ r,f (mk k st)=some (.dn r)/\Q r)
  (hc : ∀ k x st,l[k]? = some x->k<c->I k st->(∃ st',f (mk k st)=some (.nx (mk (k+1) st'))/\I (k+1) st') \/ ∃ r,f (mk k st)=some (.dn r)/\Q r) : ∃ r,loop f s=some r/\Q r:=by
 refine FO (l:=l.take c) mk (λ_ k st=>I k st/\k<=(l.take c).length) Q st h0 (by simp;omega) ⟨hi,by omega⟩ (λst h=>hn _ st (by simp;omega) (by simp;omega) h.1) (λk x m st hd hx hk h => ?_);have hk2:k<c:=by simp at hk;omega
 have hx2:l[k]? = some x:=by rw [List.getElem?_take] at hx;rw [if_pos hk2] at hx;exact hx
 rcases hc k x st hx2 hk2 h.1 with ⟨st',h1,h2⟩ | h1
 ·exact .inl ⟨st',h1,h2,by omega⟩
 ·exact .inr h1
theorem SZ {k c:Nat} (h:k<c):Aj (k:Int) (c:Int)=true:=by unfold Aj;simp;omega
theorem ZC {α β:Type} {l:List α} {k c:Nat} (h:k=l.length\/k=c) (hk:k<=l.length) (A B C:Option β) (e:B=C):br (Aj (k:Int) (l.length:Int)) (λ_=>br (Aj (k:Int) (c:Int)) (λ_=>A) λ_=>B) (λ_=>C)=C:=by
 rw [BE];by_cases h1:(k:Int)<(l.length:Int)
 ·rw [if_pos h1,BE,if_neg (by omega),e]
 ·rw [if_neg h1]
end Go.Proofs.YthpkjfabdccpdaaGreat.Pl
namespace Go.Proofs.YthpkjfabdccpdaaGreat.Pl
open Go Go.Proofs.YthpkjfabdccpdaaGreat.Sv
theorem eh {β:Type} (k:Unit->Option β):gd true k=k ():=rfl
def Fz (l:List (List B9)) (i:Nat):List B9:=(l[i]?).getD []
def K6 (l:List (List B9)):Nat->Nat
 | 0=>0
 | k+1=>if Fz l k=[] then K6 l k else k+1
def KG (l:List (List B9)) (n:Nat):List (List B9):=l++List.replicate (n+1-l.length) []
def UE (l:List (List B9)) (n:Nat) (r:List B9):List (List B9):=(KG l n).set n r
def Hd (l:List (List B9)):List (List B9):=l.take (K6 l l.length)
def OZ (L:AQ) (n:Nat) (r:List B9):AQ:=(L.1,Hd (UE L.2 n r))
theorem Vj (l:List (List B9)) : ∀ k,K6 l k<=k
 | 0=>Nat.le_refl _
 | k+1=>by
  unfold K6;split
  ·exact Nat.le_succ_of_le (Vj l k)
  ·exact Nat.le_refl _
theorem Oa (l:List (List B9)) : ∀ {k i:Nat},K6 l k<=i->i<k->Fz l i=[]
 | 0,_,_,h=>by omega
 | k+1,i,h1,h2=>by
  unfold K6 at h1;split at h1
  ·rename_i he;by_cases hi:i=k
   ·rw [hi];exact he
   ·exact Oa l h1 (by omega)
  ·omega
theorem Pv (l:List (List B9)) : ∀ {k m:Nat},K6 l k=m+1->Fz l m≠[]
 | 0,m,h=>by cases h
 | k+1,m,h=>by
  unfold K6 at h;split at h
  ·exact Pv l h
  ·rename_i hne;have:m=k:=by omega
   rw [this];exact hne
theorem Pw (l:List (List B9)) (i:Nat):Fz (Hd l) i=Fz l i:=by
 unfold Hd;by_cases h:i<K6 l l.length
 ·unfold Fz;rw [List.getElem?_take,if_pos h]
 ·have h1:Fz (l.take (K6 l l.length)) i=[]:=by
   unfold Fz;rw [List.getElem?_take,if_neg h];rfl
  rw [h1];by_cases h2:i<l.length
  ·exact (Oa l (by omega) h2).symm
  ·unfold Fz;rw [List.getElem?_eq_none (by omega)];rfl
theorem UF (l:List (List B9)):(Hd l).getLast? ≠ some []:=by
 have hl:(Hd l).length=K6 l l.length:=by
  have:=Vj l l.length;unfold Hd;rw [List.length_take];omega
 cases hd:K6 l l.length with
 | zero =>
  have:Hd l=[]:=List.length_eq_zero_iff.1 (by rw [hl,hd]);rw [this];simp
 | succ m =>
  have h1:=Pv l hd;rw [List.getLast?_eq_getElem?,hl,hd];intro h2;have h3:Fz (Hd l) m=[]:=by unfold Fz;rw [show m=m+1-1 by omega,h2];rfl
  rw [Pw] at h3;exact h1 h3
theorem Ob (l:List (List B9)) (n:Nat):(KG l n).length=max l.length (n+1):=by
 unfold KG;simp;omega
theorem Sa (l:List (List B9)) (n i:Nat):Fz (KG l n) i=Fz l i:=by
 unfold Fz KG;by_cases h:i<l.length
 ·rw [List.getElem?_append_left h]
 ·rw [List.getElem?_append_right (by omega),List.getElem?_replicate,List.getElem?_eq_none (l:=l) (by omega)];split<;>rfl
theorem ZD (l:List (List B9)) (n i:Nat) (r:List B9):Fz (UE l n r) i=if i=n then r else Fz l i:=by
 unfold UE;by_cases h:i=n
 ·rw [if_pos h,h];have:=Ob l n;unfold Fz;rw [List.getElem?_set_self (by omega)];rfl
 ·rw [if_neg h];unfold Fz;rw [List.getElem?_set_ne (λe=>h e.symm)];exact Sa l n i
theorem Wn (L:AQ) (n i:Nat) (r:List B9):Fz (OZ L n r).2 i=if i=n then r else Fz L.2 i:=by
 show Fz (Hd _) i=_;rw [Pw,ZD]
theorem UG (L:AQ) (n:Nat) (r:List B9):(OZ L n r).2.getLast? ≠ some []:=UF _
theorem Wo (L:AQ) (n:Nat) (r:List B9):(OZ L n r).2.length<=max L.2.length (n+1):=by
 show (Hd _).length<=_;unfold Hd;rw [List.length_take];have:(UE L.2 n r).length=max L.2.length (n+1):=by unfold UE;rw [List.length_set,Ob]
 omega
theorem Wp (l:List (List B9)):(Hd l).flatten=l.flatten:=by
 have h:l=Hd l++l.drop (K6 l l.length):=(List.take_append_drop _ _).symm
 have h2:(l.drop (K6 l l.length)).flatten=[]:=by
  rw [List.flatten_eq_nil_iff];intro x hx;obtain ⟨i,hi⟩:=List.getElem?_of_mem hx;rw [List.getElem?_drop] at hi;have h3:=(List.getElem?_eq_some_iff.1 hi).1;have:=Oa l (k:=l.length) (i:=K6 l l.length+i) (by omega) h3;unfold Fz at this;rw [hi] at this;exact this
 conv=>rhs;rw [h,List.flatten_append,h2,List.append_nil]
theorem ZE (l:List (List B9)) (n:Nat):(KG l n).flatten=l.flatten:=by
 unfold KG;rw [List.flatten_append]
 have:(List.replicate (n+1-l.length) ([]:List B9)).flatten=[]:=by
  rw [List.flatten_eq_nil_iff];intro x hx;exact (List.mem_replicate.1 hx).2
 rw [this,List.append_nil]
theorem Wq (L:AQ) (n:Nat) (r:List B9) : ∃ p q,L.2.flatten=p++(Fz L.2 n++q)/\(OZ L n r).2.flatten=p++(r++q):=by
 have hn:n<(KG L.2 n).length:=by rw [Ob];omega
 refine ⟨((KG L.2 n).take n).flatten,((KG L.2 n).drop (n+1)).flatten,?_,?_⟩
 ·rw [<- Sa L.2 n n,<- ZE L.2 n]
  have:KG L.2 n=(KG L.2 n).take n++((KG L.2 n)[n]::(KG L.2 n).drop (n+1)):=by
   rw [<- List.drop_eq_getElem_cons hn,List.take_append_drop]
  have h2:Fz (KG L.2 n) n=(KG L.2 n)[n]:=by unfold Fz;rw [List.getElem?_eq_getElem hn];rfl
  rw [h2]
  conv=>lhs;rw [this]
  rw [List.flatten_append,List.flatten_cons]
 ·show (Hd (UE L.2 n r)).flatten=_;rw [Wp];unfold UE;rw [List.set_eq_take_append_cons_drop,if_pos hn,List.flatten_append,List.flatten_cons]
theorem VLev.own {L:AQ} (v:VLev L) (i:Nat):(Fz L.2 i).length<=2 /\ ∀ r∈Fz L.2 i,VR (CR L.1 i) r:=by
 unfold Fz;cases h:L.2[i]? with
 | none=>exact ⟨by simp,λr hr=>by cases hr⟩
 | some rs=>exact v.lev i rs h
theorem VLev.with' {L:AQ} (v:VLev L) {n:Nat} (hn:n<12) {r:List B9} (hl:r.length<=2) (hr : ∀ x∈r,VR (CR L.1 n) x) (hid:((OZ L n r).2.flatten.map gJ).Nodup):VLev (OZ L n r):=by
 refine ⟨v.B1,v.B2,?_,λi rs hi => ?_,hid,UG L n r⟩
 ·have:=Wo L n r;have:=v.len;omega
 ·have h1:=Wn L n i r;unfold Fz at h1;rw [hi] at h1;simp only [Option.getD_some] at h1;rw [h1];split
  ·rename_i he;rw [he];exact ⟨hl,hr⟩
  ·exact v.own i
theorem VLev.leave {L:AQ} (v:VLev L) {n:Nat} (hn:n<12):VLev (OZ L n []):=by
 refine v.with' hn (by simp) (λ_ h=>by cases h) ?_
 obtain ⟨p,q,h1,h2⟩:=Wq L n [];have:=v.ids;rw [h1] at this;rw [h2,List.nil_append];refine List.Sublist.nodup (List.Sublist.map _ ?_) this;exact List.Sublist.append (List.Sublist.refl _) (List.sublist_append_right _ _)
end Go.Proofs.YthpkjfabdccpdaaGreat.Pl
namespace Go.Proofs.YthpkjfabdccpdaaGreat.Pl
open Go Go.Proofs.YthpkjfabdccpdaaGreat.Sv
set_option linter.unusedVariables false
def Gb (x:(AQ×((List (Int×(AW×((Bool×AP)×((List AH)×Int)))))×Int))):Option Bool :=
 bd (loop (λs0=>br (Aj s0.2.2 (Aa (AA x.1.2))) (λ_=>br (Aj s0.2.2 20) (λ_=>bd (loop (λs1=>AS s0.2.2 λk2=>ix x.1.2 k2 λx3=>br (Aj s1.2.1 (Aa (AA x3))) (λ_=>br (Aj s1.2.1 9) (λ_=>AS s0.2.2 λk4=>ix x.1.2 k4 λx5=>AS s1.2.1 λk6=>ix x5 k6 λx7=>bd (loop (λs8=>br (Aj s8.1 (Aa (AA x7.2))) (λ_=>br (Aj s8.1 50) (λ_=>AS s8.1 λk9=>ix x7.2 k9 λx10=>br (B0 (Aa (Eu x10.1)) 100) (λ_=>some (.dn ((0,((s8.1,true),()))))) λ_=>AS s8.1 λk11=>ix x7.2 k11 λx12=>br (B0 (Aa (Eu x12.2.1)) 100) (λ_=>some (.dn ((0,((s8.1,true),()))))) λ_=>some (.nx (AF .i64 s8.1 1,s8.2))) λ_=>some (.dn ((1,(s8,()))))) λ_=>some (.dn ((1,(s8,()))))) (0,s1.2.2)) λr13=>br (neq r13.1 0) (λ_=>some (.dn ((1,((AF .i64 s1.1 (Aa (AA x7.2)),(s1.2.1,r13.2.1.2)),()))))) λ_=>some (.nx ((AF .i64 s1.1 (Aa (AA x7.2)),(AF .i64 s1.2.1 1,r13.2.1.2))))) λ_=>some (.dn ((0,(s1,()))))) λ_=>some (.dn ((0,(s1,()))))) ((s0.1,(0,s0.2.1)))) λr14=>br (neq r14.1 0) (λ_=>AS s0.2.2 λk15=>ix x.1.2 k15 λx16=>br (B0 (Aa (AA x16)) 8) (λ_=>some (.dn ((1,((r14.2.1.1,(true,s0.2.2)),()))))) λ_=>some (.nx ((r14.2.1.1,(r14.2.1.2.2,AF .i64 s0.2.2 1))))) λ_=>some (.dn ((1,((r14.2.1.1,(r14.2.1.2.2,s0.2.2)),()))))) λ_=>some (.dn ((0,(s0,()))))) λ_=>some (.dn ((0,(s0,()))))) ((0,(false,0)))) λr17=>br (neq r17.1 0) (λ_=>bd (loop (λs18=>br (Aj s18.2 (Aa (AA x.2.1))) (λ_=>br (Aj s18.2 20) (λ_=>AS s18.2 λk19=>ix x.2.1 k19 λx20=>br (B0 (Aa (AA x20.2.1.1)) 20) (λ_=>some (.dn ((0,((true,s18.2),()))))) λ_=>br (B0 (Aa (AA x20.2.1.2.1)) 100) (λ_=>some (.dn ((0,((true,s18.2),()))))) λ_=>br (B0 (Aa (AA x20.2.1.2.2.1)) 100) (λ_=>some (.dn ((0,((true,s18.2),()))))) λ_=>br (B0 (Aa (AA x20.2.1.2.2.2.1)) 100) (λ_=>some (.dn ((0,((true,s18.2),()))))) λ_=>bd (loop (λs21=>br (Aj s21.1 (Aa (AA x20.2.1.1))) (λ_=>AS s21.1 λk22=>ix x20.2.1.1 k22 λx23=>some (.nx ((AF .i64 s21.1 1,AF .i64 s21.2 (Aa (AA x23)))))) λ_=>some (.dn ((0,(s21,()))))) ((0,Aa (AA x20.2.2.2.1)))) λr24=>br (B0 r24.2.1.2 200) (λ_=>some (.dn ((0,((true,s18.2),()))))) λ_=>some (.nx (s18.1,AF .i64 s18.2 1))) λ_=>some (.dn ((1,(s18,()))))) λ_=>some (.dn ((1,(s18,()))))) (r17.2.1.2.1,0)) λr25=>br (neq r25.1 0) (λ_=>some r25.2.1.1) λ_=>br (B0 r17.2.1.1 40) (λ_=>some true) λ_=>br (B0 (Aa (AA x.1.2)) 15) (λ_=>some true) λ_=>some (B0 (Aa (AA x.2.1)) 15)) λ_=>some r17.2.1.2.1
def Gc (x:(B9×(AQ×((List (Int×(AW×((Bool×AP)×((List AH)×Int)))))×Int)))):Option Bool :=
 bd (loop (λs0=>br (Aj s0.1 (Aa (AA x.1.2))) (λ_=>br (Aj s0.1 25) (λ_=>AS s0.1 λk1=>ix x.1.2 k1 λx2=>br (B0 (Aa (Eu x2.1)) 100) (λ_=>some (.dn ((0,((s0.1,true),()))))) λ_=>AS s0.1 λk3=>ix x.1.2 k3 λx4=>br (B0 (Aa (Eu x4.2.1)) 100) (λ_=>some (.dn ((0,((s0.1,true),()))))) λ_=>some (.nx (AF .i64 s0.1 1,s0.2))) λ_=>some (.dn ((1,(s0,()))))) λ_=>some (.dn ((1,(s0,()))))) (0,false)) λr5=>br (neq r5.1 0) (λ_=>some r5.2.1.2) λ_=>bd (Gb x.2) λr6=>br r6 (λ_=>some true) λ_=>some (B0 (Aa (AA x.1.2)) 20)
def Co (x:(Int×(List Int))):Option Bool :=
 br (Aj x.1 1) (λ_=>some false) λ_=>br (B0 x.1 16) (λ_=>some false) λ_=>bd (loop (λs0=>br (Aj s0.1 (Aa (AA x.2))) (λ_=>AS s0.1 λk1=>ix x.2 k1 λx2=>br (Aj x2 0) (λ_=>some (.dn ((0,((s0.1,false),()))))) λ_=>br (B0 x2 1000000000) (λ_=>some (.dn ((0,((s0.1,false),()))))) λ_=>some (.nx (AF .i64 s0.1 1,s0.2))) λ_=>some (.dn ((1,(s0,()))))) (0,false)) λr3=>br (neq r3.1 0) (λ_=>some r3.2.1.2) λ_=>some true
def CV (x:(Int×Int)):Option (Int×Int) :=
 bd (Co (x.1,[x.2])) λr0=>br (AU r0) (λ_=>some (0,7)) λ_=>br (CA x.2 0) (λ_=>some (0,0)) λ_=>bd (loop (λs1=>br (Aj s1.1 x.2) (λ_=>br (Aj s1.2 12) (λ_=>some (.nx (LW .i64 s1.1 1,AF .i64 s1.2 1))) λ_=>some (.dn ((0,(s1,()))))) λ_=>some (.dn ((0,(s1,()))))) (x.1,1)) λr2=>some (r2.2.1.2,0)
def Hq (x:(Int×Int)):Option (Int×Int) :=
 bd (Co (x.1,[x.2])) λr0=>br (AU r0) (λ_=>some (0,7)) λ_=>some ((HL .i64 x.1 (AF .i64 x.2 1),0))
def HI (x:(Int×(Int×Int))):Option (Int×Int) :=
 bd (Co (x.1,[x.2.1,x.2.2])) λr0=>br (AU r0) (λ_=>some (0,7)) λ_=>bd (CV (x.1,x.2.1)) λr1=>some ((AF .i64 (HL .i64 (AF .i64 (HL .i64 2 x.1) 1) x.2.2) (HL .i64 (HL .i64 5 x.2.1) (NK (Bp .i64 r1.1 1) 0)),r1.2))
def DJ (x:((List UInt8)×(Int×Bool))):Option AH :=
 br x.2.2 (λ_=>some ((x.1,([],(x.2.2,x.2.1))))) λ_=>some ((x.1,([(118:UInt8)],(x.2.2,x.2.1))))
def C6 (x:(Int×(List AH))):Option B9 :=
 some x
def FL (x:Unit):Option (B9×(AQ×((List (Int×(AW×((Bool×AP)×((List AH)×Int)))))×Int))) :=
 bd (DJ (([(98:UInt8)],(3,false)))) λr0=>bd (C6 (2,[r0])) λr1=>bd (DJ (([(97:UInt8)],(4,false)))) λr2=>bd (C6 (3,[r2])) λr3=>bd (DJ (([(98:UInt8)],(1,true)))) λr4=>bd (DJ (([(99:UInt8)],(2,false)))) λr5=>bd (C6 (1,[r4,r5])) λr6=>bd (K5 (1,[[r1,r3],[r6]])) λr7=>bd (DJ (([(100:UInt8)],(5,false)))) λr8=>some (((1,[r8]),r7.1))
def Dc (x:B9):Option (Int×Int) :=
 br (Aj x.1 1) (λ_=>some (0,7)) λ_=>br (B0 x.1 16) (λ_=>some (0,7)) λ_=>br (B0 (Aa (AA x.2)) x.1) (λ_=>some (0,3)) λ_=>bd (loop (λs0=>br (Aj s0.2.2 (Aa (AA x.2))) (λ_=>AS s0.2.2 λk1=>ix x.2 k1 λx2=>bd (Bm x2) λr3=>br (BF r3 0) (λ_=>some (.dn ((0,((r3,(s0.2.2,s0.2.2)),()))))) λ_=>br (B0 s0.2.2 0) (λ_=>AS (Bp .i64 s0.2.2 1) λk4=>ix x.2 k4 λx5=>br (AU (Ct x5.1 x2.1)) (λ_=>some (.dn ((0,((6,(s0.2.2,s0.2.2)),()))))) λ_=>some (.nx ((s0.1,(s0.2.1,AF .i64 s0.2.2 1))))) λ_=>some (.nx ((s0.1,(s0.2.1,AF .i64 s0.2.2 1))))) λ_=>some (.dn ((1,(s0,()))))) ((0,(0,0)))) λr6=>br (neq r6.1 0) (λ_=>some (r6.2.1.2.1,r6.2.1.1)) λ_=>some (0,0)
def Ci (x:(B9×(AQ×((List (Int×(AW×((Bool×AP)×((List AH)×Int)))))×Int)))):Option Int :=
 bd (Dc x.1) λr0=>br (BF r0.2 0) (λ_=>some r0.2) λ_=>bd (C2 x.2) λr1=>br (BF r1.2 0) (λ_=>some r1.2) λ_=>br (BF x.1.1 x.2.1.1) (λ_=>some 6) λ_=>some 0
def Gd (x:((AQ×((List (Int×(AW×((Bool×AP)×((List AH)×Int)))))×Int))×Int)):Option (Int×Int) :=
 bd (Ga x) λr0=>br (BF r0.2 0) (λ_=>some (0,r0.2)) λ_=>AS r0.1 λk1=>ix x.1.2.1 k1 λx2=>bd (Ba x2.2) λr3=>some r3
def HJ (x:((AQ×((List (Int×(AW×((Bool×AP)×((List AH)×Int)))))×Int))×Int)):Option (Int×Int) :=
 bd (Gd x) λr0=>br (BF r0.2 0) (λ_=>some (0,r0.2)) λ_=>some (AF .i64 r0.1 1,0)
def GI (x:(AQ×((List (Int×(AW×((Bool×AP)×((List AH)×Int)))))×Int))):Option (Int×Int) :=
 bd (EX x) λr0=>br (BF r0.2 0) (λ_=>some (0,r0.2)) λ_=>bd (loop (λs1=>br (Aj s1.2.1 (Aa (AA r0.1))) (λ_=>AS s1.2.1 λk2=>ix r0.1 k2 λx3=>bd (HJ (x,x3)) λr4=>br (BF r4.2 0) (λ_=>some (.dn ((0,((r4.2,(s1.2.1,(0,s1.2.2.2))),()))))) λ_=>some (.nx ((s1.1,(AF .i64 s1.2.1 1,(s1.2.2.1,AF .i64 s1.2.2.2 r4.1)))))) λ_=>some (.dn ((1,(s1,()))))) ((0,(0,(0,0))))) λr5=>br (neq r5.1 0) (λ_=>some (r5.2.1.2.2.1,r5.2.1.1)) λ_=>some (r5.2.1.2.2.2,0)
def Dd (x:AQ):Option (Int×(Int×Int)) :=
 bd (DV x) λr0=>br (BF r0.2.2 0) (λ_=>some ((0,(0,r0.2.2)))) λ_=>bd (loop (λs1=>br (Aj s1.1 (Aa (AA x.2))) (λ_=>AS s1.1 λk2=>ix x.2 k2 λx3=>bd (loop (λs4=>br (IP s4.1 0) (λ_=>AS s4.1 λk5=>ix x3 k5 λx6=>some (.nx ((Bp .i64 s4.1 1,(AF .i64 s4.2.1 (Aa (AA x6.2)),AF .i64 s4.2.2 1))))) λ_=>some (.dn ((0,(s4,()))))) ((Bp .i64 (Aa (AA x3)) 1,s1.2))) λr7=>some (.nx (AF .i64 s1.1 1,r7.2.1.2))) λ_=>some (.dn ((0,(s1,()))))) ((0,(0,0)))) λr8=>some ((r8.2.1.2.1,(r8.2.1.2.2,0)))
def BT (x:(((B9×(AQ×((List (Int×(AW×((Bool×AP)×((List AH)×Int)))))×Int)))×(Int×(Int×(Int×Int))))×Unit)):Option Int :=
 some (Aa (AA x.1.1.2.1.2))
def D7 (x:(B9×(AQ×((List (Int×(AW×((Bool×AP)×((List AH)×Int)))))×Int)))):Option (Int×(Int×Int)) :=
 bd (Ci x) λr0=>br (BF r0 0) (λ_=>br (BF r0 0) (λ_=>some ((0,(0,r0)))) λ_=>none) λ_=>bd (GI x.2) λr1=>br (BF r1.2 0) (λ_=>br (BF r1.2 0) (λ_=>some ((0,(0,r1.2)))) λ_=>none) λ_=>bd (Dd x.2.1) λr2=>br (BF r2.2.2 0) (λ_=>some ((0,(0,r2.2.2)))) λ_=>bd (BT (((x,(0,(r1.1,(r2.1,r2.2.1)))),()))) λr3=>some ((r1.1,(AF .i64 r2.1 r3,0)))
def De (x:((B9×(AQ×((List (Int×(AW×((Bool×AP)×((List AH)×Int)))))×Int)))×Int)):Option ((List Int)×Int) :=
 bd (Ci x.1) λr0=>br (BF r0 0) (λ_=>br (BF r0 0) (λ_=>some ([],r0)) λ_=>br (Aj x.2 0) (λ_=>some ([],7)) λ_=>br (B0 x.2 1000000000) (λ_=>some ([],7)) λ_=>bd (loop (λ(s1:((List Int)×Int))=>br (Aj s1.2 5) (λ_=>AS s1.2 λk2=>br (neq k2 0) (λ_=>none) λ_=>br (neq k2 1) (λ_=>none) λ_=>br (neq k2 2) (λ_=>none) λ_=>br (neq k2 3) (λ_=>none) λ_=>gd (neq k2 4) λ_=>none) λ_=>some (.dn ((0,(s1,()))))) ([],0)) λr3=>some (r3.2.1.1,0)) λ_=>bd (GI x.1.2) λr4=>br (BF r4.2 0) (λ_=>br (BF r4.2 0) (λ_=>some ([],r4.2)) λ_=>br (Aj x.2 0) (λ_=>some ([],7)) λ_=>br (B0 x.2 1000000000) (λ_=>some ([],7)) λ_=>bd (loop (λ(s5:((List Int)×Int))=>br (Aj s5.2 5) (λ_=>AS s5.2 λk6=>br (neq k6 0) (λ_=>none) λ_=>br (neq k6 1) (λ_=>none) λ_=>br (neq k6 2) (λ_=>none) λ_=>br (neq k6 3) (λ_=>none) λ_=>gd (neq k6 4) λ_=>none) λ_=>some (.dn ((0,(s5,()))))) ([],0)) λr7=>some (r7.2.1.1,0)) λ_=>bd (Dd x.1.2.1) λr8=>br (BF r8.2.2 0) (λ_=>some ([],r8.2.2)) λ_=>br (Aj x.2 0) (λ_=>some ([],7)) λ_=>br (B0 x.2 1000000000) (λ_=>some ([],7)) λ_=>bd (loop (λ(s9:((List Int)×Int))=>br (Aj s9.2 5) (λ_=>AS s9.2 λk10=>br (neq k10 0) (λ_=>bd (BT (((x.1,(x.2,(r4.1,(r8.1,r8.2.1)))),()))) λr11=>br (AU (MG r4.1 (AF .i64 r8.1 r11))) (λ_=>gd (Bb (A3 (AA s9.1) (AA ([AF .i64 s9.2 1]))) 1048576) λ_=>some (.nx ((Bv s9.1 ([AF .i64 s9.2 1]),AF .i64 s9.2 1)))) λ_=>some (.nx (s9.1,AF .i64 s9.2 1))) λ_=>br (neq k10 1) (λ_=>bd (BT (((x.1,(x.2,(r4.1,(r8.1,r8.2.1)))),()))) λr12=>br (AU (MG r8.2.1 (HL .i64 2 r12))) (λ_=>gd (Bb (A3 (AA s9.1) (AA ([AF .i64 s9.2 1]))) 1048576) λ_=>some (.nx ((Bv s9.1 ([AF .i64 s9.2 1]),AF .i64 s9.2 1)))) λ_=>some (.nx (s9.1,AF .i64 s9.2 1))) λ_=>br (neq k10 2) (λ_=>br (AU (MG (AF .i64 r8.1 (Aa (AA x.1.1.2))) x.2)) (λ_=>gd (Bb (A3 (AA s9.1) (AA ([AF .i64 s9.2 1]))) 1048576) λ_=>some (.nx ((Bv s9.1 ([AF .i64 s9.2 1]),AF .i64 s9.2 1)))) λ_=>some (.nx (s9.1,AF .i64 s9.2 1))) λ_=>br (neq k10 3) (λ_=>bd (CV (x.1.2.1.1,x.2)) λr13=>br (CA r13.2 0) (λ_=>br (AU (MG (Aa (AA x.1.2.1.2)) r13.1)) (λ_=>gd (Bb (A3 (AA s9.1) (AA ([AF .i64 s9.2 1]))) 1048576) λ_=>some (.nx ((Bv s9.1 ([AF .i64 s9.2 1]),AF .i64 s9.2 1)))) λ_=>some (.nx (s9.1,AF .i64 s9.2 1))) λ_=>gd (Bb (A3 (AA s9.1) (AA ([AF .i64 s9.2 1]))) 1048576) λ_=>some (.nx ((Bv s9.1 ([AF .i64 s9.2 1]),AF .i64 s9.2 1)))) λ_=>gd (neq k10 4) λ_=>bd (loop (λs14=>br (Aj s14.2 (Aa (AA x.1.2.1.2))) (λ_=>AS s14.2 λk15=>ix x.1.2.1.2 k15 λx16=>br (CA s14.2 0) (λ_=>some (.nx (s14.1,AF .i64 s14.2 1))) λ_=>br (Aj (Aa (AA x16)) 2) (λ_=>some (.nx (s14.1,AF .i64 s14.2 1))) λ_=>bd (loop (λs17=>br (Aj s17 (Aa (AA x16))) (λ_=>AS s17 λk18=>ix x16 k18 λx19=>gd (IP (Bp .i64 s14.2 1) 0) λ_=>br (B0 (Aa (AA x19.2)) (LW .i64 x.1.2.1.1 (Bp .i64 s14.2 1))) (λ_=>some (.dn ((0,(s17,()))))) λ_=>some (.nx (AF .i64 s17 1))) λ_=>some (.dn ((1,(s17,()))))) 0) λr20=>br (neq r20.1 0) (λ_=>some (.nx (s14.1,AF .i64 s14.2 1))) λ_=>some (.nx (false,AF .i64 s14.2 1))) λ_=>some (.dn ((0,(s14,()))))) (true,0)) λr21=>br (AU r21.2.1.1) (λ_=>gd (Bb (A3 (AA s9.1) (AA ([AF .i64 s9.2 1]))) 1048576) λ_=>some (.nx ((Bv s9.1 ([AF .i64 s9.2 1]),AF .i64 s9.2 1)))) λ_=>some (.nx (s9.1,AF .i64 s9.2 1))) λ_=>some (.dn ((0,(s9,()))))) ([],0)) λr22=>some (r22.2.1.1,0)
def Em (x:((List Int)×(List Int))):Option Bool :=
 br (BF (Aa (AA x.1)) (Aa (AA x.2))) (λ_=>some false) λ_=>bd (loop (λs0=>br (Aj s0.1 (Aa (AA x.1))) (λ_=>AS s0.1 λk1=>ix x.1 k1 λx2=>AS s0.1 λk3=>ix x.2 k3 λx4=>br (BF x2 x4) (λ_=>some (.dn ((0,((s0.1,false),()))))) λ_=>some (.nx (AF .i64 s0.1 1,s0.2))) λ_=>some (.dn ((1,(s0,()))))) (0,false)) λr5=>br (neq r5.1 0) (λ_=>some r5.2.1.2) λ_=>some true
def E8 (x:Unit):Option Bool :=
 bd (CV (2,5)) λr0=>bd (Hq (4,8)) λr1=>bd (HI ((1,(4,3)))) λr2=>bd (FL ()) λr3=>bd (D7 r3) λr4=>bd (FL ()) λr5=>bd (De (r5,4)) λr6=>br (CA r0.2 0) (λ_=>br (CA r1.2 0) (λ_=>br (CA r2.2 0) (λ_=>br (CA r4.2.2 0) (λ_=>br (CA r6.2 0) (λ_=>br (CA r0.1 3) (λ_=>br (CA r1.1 36) (λ_=>br (CA r2.1 49) (λ_=>br (CA r4.1 3) (λ_=>br (CA r4.2.1 6) (λ_=>bd (Em (r6.1,[3])) λr7=>some r7) λ_=>some false) λ_=>some false) λ_=>some false) λ_=>some false) λ_=>some false) λ_=>some false) λ_=>some false) λ_=>some false) λ_=>some false) λ_=>some false
def E9 (x:B9):Option (Int×Int) :=
 br (Aj x.1 1) (λ_=>some (0,7)) λ_=>br (B0 x.1 16) (λ_=>some (0,7)) λ_=>br (B0 (Aa (AA x.2)) x.1) (λ_=>some (0,3)) λ_=>bd (loop (λs0=>br (Aj s0.2.2 (Aa (AA x.2))) (λ_=>AS s0.2.2 λk1=>ix x.2 k1 λx2=>bd (Cc x2) λr3=>br (BF r3 0) (λ_=>some (.dn ((0,((r3,(s0.2.2,s0.2.2)),()))))) λ_=>br (B0 s0.2.2 0) (λ_=>AS s0.2.2 λk4=>ix x.2 k4 λx5=>AS (Bp .i64 s0.2.2 1) λk6=>ix x.2 k6 λx7=>br (AU (Ct x7.1 x5.1)) (λ_=>some (.dn ((0,((6,(s0.2.2,s0.2.2)),()))))) λ_=>some (.nx ((s0.1,(s0.2.1,AF .i64 s0.2.2 1))))) λ_=>some (.nx ((s0.1,(s0.2.1,AF .i64 s0.2.2 1))))) λ_=>some (.dn ((1,(s0,()))))) ((0,(0,0)))) λr8=>br (neq r8.1 0) (λ_=>some (r8.2.1.2.1,r8.2.1.1)) λ_=>some (0,0)
def FA (x:(B9×(AQ×((List (Int×(AW×((Bool×AP)×((List AH)×Int)))))×Int)))):Option Int :=
 bd (E9 x.1) λr0=>br (CA r0.2 0) (λ_=>bd (DH x.2) λr1=>br (CA r1.2 0) (λ_=>br (BF x.1.1 x.2.1.1) (λ_=>some 6) λ_=>some r1.2) λ_=>some r1.2) λ_=>br (CA r0.2 0) (λ_=>br (BF x.1.1 x.2.1.1) (λ_=>some 6) λ_=>some r0.2) λ_=>some r0.2
def Ge (x:((AQ×((List (Int×(AW×((Bool×AP)×((List AH)×Int)))))×Int))×Int)):Option (Int×Int) :=
 bd (Fy x) λr0=>br (BF r0.2 0) (λ_=>some (0,r0.2)) λ_=>some (AF .i64 r0.1 1,0)
def Gf (x:(AQ×((List (Int×(AW×((Bool×AP)×((List AH)×Int)))))×Int))):Option (Int×Int) :=
 bd (Cy x) λr0=>bd (loop (λs1=>br (Aj s1.1 (Aa (AA r0.1))) (λ_=>AS s1.1 λk2=>ix r0.1 k2 λx3=>bd (Ge (x,x3)) λr4=>some (.nx (AF .i64 s1.1 1,AF .i64 s1.2 r4.1))) λ_=>some (.dn ((0,(s1,()))))) (0,0)) λr5=>some (r5.2.1.2,r0.2)
def DK (x:AQ):Option (Int×(Int×Int)) :=
 bd (Db x) λr0=>br (BF r0.2 0) (λ_=>some ((0,(0,r0.2)))) λ_=>bd (loop (λs1=>br (Aj s1.2 (Aa (AA r0.1))) (λ_=>AS s1.2 λk2=>ix r0.1 k2 λx3=>some (.nx ((AF .i64 s1.1 (Aa (AA x3.2)),AF .i64 s1.2 1)))) λ_=>some (.dn ((0,(s1,()))))) (0,0)) λr4=>some ((r4.2.1.1,(Aa (AA r0.1),0)))
def En (x:(B9×(AQ×((List (Int×(AW×((Bool×AP)×((List AH)×Int)))))×Int)))):Option (Int×(Int×Int)) :=
 bd (FA x) λr0=>br (BF r0 0) (λ_=>some ((0,(0,r0)))) λ_=>bd (Gf x.2) λr1=>bd (DK x.2.1) λr2=>some ((r1.1,(AF .i64 r2.1 (Aa (AA x.2.1.2)),0)))
def FB (x:Int):Option Bool :=
 br (IP x 0) (λ_=>some (MG x 1000000000)) λ_=>some false
def CH (x:(Int×Int)):Option Int :=
 bd (loop (λs0=>br (Aj s0.2 x.2) (λ_=>some (.nx (HL .i64 2 s0.1,AF .i64 s0.2 1))) λ_=>some (.dn ((0,(s0,()))))) (x.1,0)) λr1=>some r1.2.1.1
def Df (x:(Int×Int)):Option Int :=
 br (CA x.2 0) (λ_=>some 0) λ_=>bd (loop (λs0=>br (Aj s0.2 12) (λ_=>bd (CH (x.1,Bp .i64 s0.2 1)) λr1=>br (Aj r1 x.2) (λ_=>some (.nx (AF .i64 s0.1 1,AF .i64 s0.2 1))) λ_=>some (.nx (s0.1,AF .i64 s0.2 1))) λ_=>some (.dn ((0,(s0,()))))) (1,1)) λr2=>some r2.2.1.1
def D8 (x:AQ):Option Bool :=
 bd (loop (λs0=>br (Aj s0.1 (Aa (AA x.2))) (λ_=>bd (loop (λs1=>AS s0.1 λk2=>ix x.2 k2 λx3=>br (Aj s1.1 (Aa (AA x3))) (λ_=>AS s0.1 λk4=>ix x.2 k4 λx5=>AS s1.1 λk6=>ix x5 k6 λx7=>bd (CH (x.1,Bp .i64 s0.1 1)) λr8=>br (MG (Aa (AA x7.2)) r8) (λ_=>some (.nx (AF .i64 s1.1 1,AF .i64 s1.2 1))) λ_=>some (.nx (AF .i64 s1.1 1,s1.2))) λ_=>some (.dn ((0,(s1,()))))) (0,0)) λr9=>br (CA r9.2.1.2 2) (λ_=>some (.dn ((1,((s0.1,false),()))))) λ_=>some (.nx (AF .i64 s0.1 1,s0.2))) λ_=>some (.dn ((0,(s0,()))))) (1,false)) λr10=>br (neq r10.1 0) (λ_=>some true) λ_=>some r10.2.1.2
def FC (x:((B9×(AQ×((List (Int×(AW×((Bool×AP)×((List AH)×Int)))))×Int)))×Int)):Option ((List Int)×Int) :=
 bd (En x.1) λr0=>br (CA r0.2.2 0) (λ_=>bd (FB x.2) λr1=>br (AU r1) (λ_=>some ([],7)) λ_=>br (BF r0.2.2 0) (λ_=>some ([],r0.2.2)) λ_=>bd (DK x.1.2.1) λr2=>bd (Df (x.1.2.1.1,x.2)) λr3=>bd (D8 x.1.2.1) λr4=>bd (loop (λ(s5:(Int×(List Int)))=>br (Aj s5.1 5) (λ_=>AS s5.1 λk6=>br (neq k6 0) (λ_=>br (AU (MG r0.1 r0.2.1)) (λ_=>gd (Bb (A3 (AA s5.2) (AA ([AF .i64 s5.1 1]))) 1048576) λ_=>some (.nx ((AF .i64 s5.1 1,Bv s5.2 ([AF .i64 s5.1 1]))))) λ_=>some (.nx (AF .i64 s5.1 1,s5.2))) λ_=>br (neq k6 1) (λ_=>br (AU (MG r2.2.1 (HL .i64 2 (Aa (AA x.1.2.1.2))))) (λ_=>gd (Bb (A3 (AA s5.2) (AA ([AF .i64 s5.1 1]))) 1048576) λ_=>some (.nx ((AF .i64 s5.1 1,Bv s5.2 ([AF .i64 s5.1 1]))))) λ_=>some (.nx (AF .i64 s5.1 1,s5.2))) λ_=>br (neq k6 2) (λ_=>br (AU (MG (AF .i64 r2.1 (Aa (AA x.1.1.2))) x.2)) (λ_=>gd (Bb (A3 (AA s5.2) (AA ([AF .i64 s5.1 1]))) 1048576) λ_=>some (.nx ((AF .i64 s5.1 1,Bv s5.2 ([AF .i64 s5.1 1]))))) λ_=>some (.nx (AF .i64 s5.1 1,s5.2))) λ_=>br (neq k6 3) (λ_=>br (AU (MG (Aa (AA x.1.2.1.2)) r3)) (λ_=>gd (Bb (A3 (AA s5.2) (AA ([AF .i64 s5.1 1]))) 1048576) λ_=>some (.nx ((AF .i64 s5.1 1,Bv s5.2 ([AF .i64 s5.1 1]))))) λ_=>some (.nx (AF .i64 s5.1 1,s5.2))) λ_=>gd (neq k6 4) λ_=>br (AU r4) (λ_=>gd (Bb (A3 (AA s5.2) (AA ([AF .i64 s5.1 1]))) 1048576) λ_=>some (.nx ((AF .i64 s5.1 1,Bv s5.2 ([AF .i64 s5.1 1]))))) λ_=>some (.nx (AF .i64 s5.1 1,s5.2))) λ_=>some (.dn ((0,(s5,()))))) (0,[])) λr7=>some (r7.2.1.2,0)) λ_=>br (BF r0.2.2 0) (λ_=>some ([],r0.2.2)) λ_=>bd (DK x.1.2.1) λr8=>bd (Df (x.1.2.1.1,x.2)) λr9=>bd (D8 x.1.2.1) λr10=>bd (loop (λ(s11:(Int×(List Int)))=>br (Aj s11.1 5) (λ_=>AS s11.1 λk12=>br (neq k12 0) (λ_=>br (AU (MG r0.1 r0.2.1)) (λ_=>gd (Bb (A3 (AA s11.2) (AA ([AF .i64 s11.1 1]))) 1048576) λ_=>some (.nx ((AF .i64 s11.1 1,Bv s11.2 ([AF .i64 s11.1 1]))))) λ_=>some (.nx (AF .i64 s11.1 1,s11.2))) λ_=>br (neq k12 1) (λ_=>br (AU (MG r8.2.1 (HL .i64 2 (Aa (AA x.1.2.1.2))))) (λ_=>gd (Bb (A3 (AA s11.2) (AA ([AF .i64 s11.1 1]))) 1048576) λ_=>some (.nx ((AF .i64 s11.1 1,Bv s11.2 ([AF .i64 s11.1 1]))))) λ_=>some (.nx (AF .i64 s11.1 1,s11.2))) λ_=>br (neq k12 2) (λ_=>br (AU (MG (AF .i64 r8.1 (Aa (AA x.1.1.2))) x.2)) (λ_=>gd (Bb (A3 (AA s11.2) (AA ([AF .i64 s11.1 1]))) 1048576) λ_=>some (.nx ((AF .i64 s11.1 1,Bv s11.2 ([AF .i64 s11.1 1]))))) λ_=>some (.nx (AF .i64 s11.1 1,s11.2))) λ_=>br (neq k12 3) (λ_=>br (AU (MG (Aa (AA x.1.2.1.2)) r9)) (λ_=>gd (Bb (A3 (AA s11.2) (AA ([AF .i64 s11.1 1]))) 1048576) λ_=>some (.nx ((AF .i64 s11.1 1,Bv s11.2 ([AF .i64 s11.1 1]))))) λ_=>some (.nx (AF .i64 s11.1 1,s11.2))) λ_=>gd (neq k12 4) λ_=>br (AU r10) (λ_=>gd (Bb (A3 (AA s11.2) (AA ([AF .i64 s11.1 1]))) 1048576) λ_=>some (.nx ((AF .i64 s11.1 1,Bv s11.2 ([AF .i64 s11.1 1]))))) λ_=>some (.nx (AF .i64 s11.1 1,s11.2))) λ_=>some (.dn ((0,(s11,()))))) (0,[])) λr13=>some (r13.2.1.2,0)
def C7 (x:((B9×(AQ×((List (Int×(AW×((Bool×AP)×((List AH)×Int)))))×Int)))×Int)):Option Bool :=
 bd (Gc x.1) λr0=>br r0 (λ_=>bd (E8 ()) λr1=>some r1) λ_=>bd (D7 x.1) λr2=>bd (En x.1) λr3=>bd (De x) λr4=>bd (FC x) λr5=>br (CA r2.1 r3.1) (λ_=>br (CA r2.2.1 r3.2.1) (λ_=>br (CA r2.2.2 r3.2.2) (λ_=>bd (Em (r4.1,r5.1)) λr6=>br r6 (λ_=>br (CA r4.2 r5.2) (λ_=>bd (E8 ()) λr7=>some r7) λ_=>some false) λ_=>some false) λ_=>some false) λ_=>some false) λ_=>some false
end Go.Proofs.YthpkjfabdccpdaaGreat.Pl
namespace Go.Proofs.YthpkjfabdccpdaaGreat.Pl
open Go Go.Proofs.YthpkjfabdccpdaaGreat.Sv
def EA (l:List B9):Nat:=(l.map λr=>r.2.length).sum
theorem Mj (r:B9) (l:List B9):EA (r::l)=r.2.length+EA l:=by simp [EA]
theorem Lx (l m:List B9):EA (l++m)=EA l+EA m:=by simp [EA]
theorem ZF (l:List B9):EA l.reverse=EA l:=by simp [EA]
theorem ei {l:List B9} (h : ∀ r∈l,r.2.length<=5000):EA l<=l.length*5000:=by
 induction l with
 | nil=>simp [EA]
 | cons r l ih =>
  rw [Mj,List.length_cons];have:=h r (by simp);have:=ih λx hx=>h x (by simp [hx]);omega
theorem K7 : ∀ ls:List (List B9),EA (C5 ls)=EA ls.flatten/\(C5 ls).length=ls.flatten.length
 | []=>⟨rfl,rfl⟩
 | rs::ls=>by
  obtain ⟨h1,h2⟩:=K7 ls;have e:C5 (rs::ls)=rs.reverse++C5 ls:=rfl;rw [e,List.flatten_cons,Lx,Lx,ZF,h1];simp [h2]
theorem ej {S β:Type} {f:S->Option (LR S β)} {r:β} (mk:Int->Nat->S) (n:Nat) {s:S} (h0:s=mk ((n:Int)-1) n) (hn:n<1000000000) (hs : ∀ k,k<n->f (mk (k:Int) (k+1))=some (.nx (mk ((k:Int)-1) k))) (he:f (mk (-1) 0)=some (.dn r)):loop f s=some r:=by
 subst h0
 have main : ∀ k,k<=n->DO (k+1) f (mk ((k:Int)-1) k)=some r:=by
  intro k
  induction k with
  | zero=>intro _;exact Br he
  | succ k ih =>
   intro hk;have:=hs k (by omega);rw [show ((k+1:Nat):Int)-1=(k:Int) by omega,BZ this];exact ih (by omega)
 exact Dn (by omega) (main n (Nat.le_refl _))
theorem GJ {L:AQ} (v:VLev L):L.2.flatten.length<=24/\EA L.2.flatten<=24*5000:=by
 have h1:L.2.flatten.length<=24:=by
  have h:=Jb L.2 v.two;have:=v.len;rw [(K7 L.2).2] at h;omega
 refine ⟨h1,?_⟩
 have:=ei (l:=L.2.flatten) λr hr'=>by
  obtain ⟨rs,h2,h3⟩:=List.mem_flatten.1 hr';obtain ⟨i,hi⟩:=List.getElem?_of_mem h2;exact ((v.lev i rs hi).2 r h3).vl.len
 exact Nat.le_trans this (Nat.mul_le_mul_right _ h1)
def Q8 (L:AQ):Int×(Int×Int):=if (C4 L).2.2≠0 then (0,(0,(C4 L).2.2)) else ((EA L.2.flatten:Int),((L.2.flatten.length:Int),0))
theorem Sb (L:AQ) (hb:L.2.length<=1048576) (hr : ∀ rs∈L.2,rs.length<=1048576 /\ ∀ r∈rs,r.2.length<=9223372036854775807):Dd L=some (Q8 L):=by
 unfold Dd Q8;simp only [AX,AR];rw [OT _ hb hr,AC,AN];by_cases h0:(C4 L).2.2=0;rotate_left
 ·rw [if_neg h0,if_pos h0]
 rw [if_pos h0,if_neg (by simp [h0])];have v:=GZ.1 h0;have hl:=v.len;obtain ⟨s1,s2⟩:=GJ v
 rw [CY (l:=L.2) (σ:=Nat×Nat) (s:=((0:Int),((0:Int),(0:Int)))) (λi st=>((i:Int),((st.1:Int),(st.2:Int)))) (λls i st=>st.1+EA ls.flatten=EA L.2.flatten/\st.2+ls.flatten.length=L.2.flatten.length) (λ_ _ _=>(0,(((L.2.length:Int),((EA L.2.flatten:Int),(L.2.flatten.length:Int))),()))) (0,0) rfl (by omega) ⟨by simp,by simp⟩ (λst h=>by
  obtain ⟨h1,h2⟩:=h;simp only;rw [re,Av,<- h1,<- h2]
  simp [EA]) (λi rs ls st hd hi hlt h=>by
   obtain ⟨h1,h2⟩:=h;rw [List.flatten_cons,Lx] at h1;rw [List.flatten_cons,List.length_append] at h2;have h3:=v.two rs (List.mem_of_getElem? hi);refine ⟨(st.1+EA rs,st.2+rs.length),?_,⟨by simp only;omega,by simp only;omega⟩,rfl⟩;simp only;rw [rl hlt,AM,AG,AJ hi,Bt (by omega)]
   rw [ej (λk m=>(k,(((st.1+EA (rs.drop m):Nat):Int),((st.2+(rs.length-m):Nat):Int)))) rs.length (by simp [EA]) (by omega) (λk hk=>by
    have hg:rs[k]? = some rs[k]:=List.getElem?_eq_getElem hk;have hd:EA (rs.drop k)=rs[k].2.length+EA (rs.drop (k+1)):=by rw [List.drop_eq_getElem_cons hk,Mj]
    have hc:EA (rs.drop k)<=EA rs:=by
     have:=Lx (rs.take k) (rs.drop k);rw [List.take_append_drop] at this;omega
    simp only;rw [Gt,if_pos (by omega),AG,AJ hg,Bt (by omega),A9 (by omega),A9 (by omega),hd]
    congr 4
    ·omega
    ·congr 1
     omega) (r:=(0,(((-1:Int),(((st.1+EA rs:Nat):Int),((st.2+rs.length:Nat):Int))),()))) rfl,AC]
   rw [Am hi (by omega)]),AC]
theorem Px {L:AQ} (v:VLev L):DK L=some ((EA L.2.flatten:Int),((L.2.flatten.length:Int),0)):=by
 unfold DK;simp only [AX,AR];rw [OX v,AC];simp only;rw [AN,if_pos rfl];obtain ⟨s1,s2⟩:=GJ v;obtain ⟨n1,n2⟩:=K7 L.2
 rw [CY (l:=C5 L.2) (σ:=Nat) (s:=((0:Int),(0:Int))) (λi st=>((st:Int),(i:Int))) (λls i st=>st+EA ls=EA L.2.flatten) (λ_ _ _=>(0,(((EA L.2.flatten:Int),((C5 L.2).length:Int)),()))) 0 rfl (by omega) (by rw [n1];simp) (λst h=>by
  simp only
  rw [re,Av,<- h];simp [EA]) (λi r ls st hd hi hlt h=>by
   rw [Mj] at h;refine ⟨st+r.2.length,?_,by omega,rfl⟩;simp only;rw [rl hlt,AM,AG,AJ hi,A9 (by omega),Am hi (by omega)]
   rfl),AC,n2]
theorem eu {s:BJ} (m:Sm s) (level:Int):Gd (s,level)=some (Wl 0 (λs j=>((Jd s.1 j:Int),0)) s level):=by
 unfold Gd;rw [ec m,AC];unfold Wl gc Pu;by_cases h0:(AZ s).2=0;rotate_left
 ·rw [if_pos h0,AN,if_neg h0,if_pos h0]
 rw [if_neg (show ¬ (AZ s).2≠0 by simp [h0]),if_neg (show ¬ (AZ s).2≠0 by simp [h0])];have v:=Bs.1 h0;cases hf:So level 0 (BV 0 s.1.2) with
 | none=>rfl
 | some i =>
  obtain ⟨j,n,hj,hl,hjn,ha,hn⟩:=v.at hf;simp only [hj];rw [AN,if_pos rfl,AG,AJ hj,(JobAt.left ha).1,AC]
def I1 (s:BJ) (d:Int):Nat:=match gc s d with
 | some j=>Jd s.1 j+1
 | none=>0
def Jf (s:BJ):Nat:=((BV 0 s.1.2).map (I1 s)).sum
theorem VSt.debt {s:BJ} (v:VSt s) {d:Int} (h:d∈BV 0 s.1.2) (m:Sm s):HJ (s,d)=some ((I1 s d:Int),0)/\Ge (s,d)=some ((I1 s d:Int),0)/\I1 s d<=10001:=by
 obtain ⟨j,n,h1,h2,h3,ha,hn⟩:=v.atDue h;have hz:(AZ s).2=0:=Bs.2 v;have hd:I1 s d=Jd s.1 j+1:=by unfold I1;rw [h1]
 have hl:=(JobAt.left ha).2.2
 have ha0:Wl (0:Int) (λs j=>((Jd s.1 j:Int),0)) s d=((Jd s.1 j:Int),0):=by
  unfold Wl;rw [if_neg (show ¬ (AZ s).2≠0 by simp [hz]),h1]
 unfold HJ Ge;rw [eu m,Wm m,ha0,hd,AC];simp only [AC];rw [AN,if_pos rfl,A9 (by omega)];exact ⟨rfl,rfl,by omega⟩
theorem Vk {s:BJ} (v:VSt s) (m:Sm s):Jf s<=12*10001:=by
 have h1 : ∀ l:List Int,(∀ d∈l,I1 s d<=10001)->(l.map (I1 s)).sum<=l.length*10001:=by
  intro l
  induction l with
  | nil=>intro _;simp
  | cons d l ih =>
   intro h;have:=h d (by simp);have:=ih λx hx=>h x (by simp [hx]);simp only [List.map_cons,List.sum_cons,List.length_cons];omega
 have h2:=h1 (BV 0 s.1.2) λd hd=>(v.debt hd m).2.2;have h3:=D4 s.1.2 0;have:=v.lev.len;have h4:(BV 0 s.1.2).length*10001<=12*10001:=Nat.mul_le_mul_right _ (by omega);exact Nat.le_trans h2 h4
theorem ZG {s:BJ} (m:Sm s):GI s=some (if (AZ s).2≠0 then (0,(AZ s).2) else ((Jf s:Int),0)):=by
 unfold GI;simp only [AX,AR];rw [ef m,AC];by_cases h0:(AZ s).2=0;rotate_left
 ·rw [if_pos h0,if_pos h0,AN,if_neg h0]
 rw [if_neg (show ¬ (AZ s).2≠0 by simp [h0]),if_neg (show ¬ (AZ s).2≠0 by simp [h0])];have v:=Bs.1 h0;have hd:=Vk v m;simp only;have hl:=D4 s.1.2 0;have:=v.lev.len
 rw [AN,if_pos rfl,CY (l:=BV 0 s.1.2) (σ:=Nat) (s:=((0:Int),((0:Int),((0:Int),(0:Int))))) (λi st=>((0:Int),((i:Int),((0:Int),(st:Int))))) (λls i st=>st+(ls.map (I1 s)).sum=Jf s) (λ_ _ _=>(1,(((0:Int),(((BV 0 s.1.2).length:Int),((0:Int),(Jf s:Int)))),()))) 0 rfl (by omega) (by unfold Jf;simp) (λst h=>by
  simp only
  rw [re,Av,<- h];simp) (λi d ls st hdr hi hlt h=>by
   rw [List.map_cons,List.sum_cons] at h;refine ⟨st+I1 s d,?_,by omega,rfl⟩;simp only;rw [rl hlt,AM,AG,AJ hi,(v.debt (List.mem_of_getElem? hi) m).1,AC];simp only;rw [AN,if_pos rfl,A9 (by omega),A9 (by omega)]
   rfl),AC]
 rfl
theorem ZH {s:BJ} (m:Sm s):Gf s=some (if (AZ s).2≠0 then (0,(AZ s).2) else ((Jf s:Int),0)):=by
 unfold Gf;simp only [AX,AR];rw [SY m,AC];by_cases h0:(AZ s).2=0;rotate_left
 ·rw [if_pos h0,if_pos h0];exact BC (IB (r:=(0,(((0:Int),(0:Int)),()))) (λk=>((k:Int),(0:Int))) 0 rfl (by omega) (λk hk=>by omega) rfl) rfl
 rw [if_neg (show ¬ (AZ s).2≠0 by simp [h0]),if_neg (show ¬ (AZ s).2≠0 by simp [h0])];have v:=Bs.1 h0;have hd:=Vk v m;simp only;have hl:=D4 s.1.2 0;have:=v.lev.len
 rw [CY (l:=BV 0 s.1.2) (σ:=Nat) (s:=((0:Int),(0:Int))) (λi st=>((i:Int),(st:Int))) (λls i st=>st+(ls.map (I1 s)).sum=Jf s) (λ_ _ _=>(0,((((BV 0 s.1.2).length:Int),(Jf s:Int)),()))) 0 rfl (by omega) (by unfold Jf;simp) (λst h=>by
  simp only
  rw [re,Av,<- h];simp) (λi d ls st hdr hi hlt h=>by
   rw [List.map_cons,List.sum_cons] at h;refine ⟨st+I1 s d,?_,by omega,rfl⟩;simp only;rw [rl hlt,AM,AG,AJ hi,(v.debt (List.mem_of_getElem? hi) m).2.1,AC];simp only;rw [A9 (by omega),A9 (by omega)]
   rfl),AC]
def Eo (b:B9):Int×Int:=if b.1<1\/b.1>16 then (0,7) else if (b.2.length:Int)>b.1 then (0,3) else I3 none 0 b.2
theorem Oc (b:B9):Dc b=some (Eo b):=by
 unfold Dc Eo;rw [BE,Az,Az];by_cases h1:b.1<1
 ·rw [if_pos h1,if_pos (.inl h1)]
 rw [if_neg h1];by_cases h2:b.1>16
 ·rw [if_pos h2,if_pos (.inr h2)]
 rw [if_neg h2,if_neg (show ¬ (b.1<1\/b.1>16) by omega),AX,AR];by_cases h3:(b.2.length:Int)>b.1
 ·rw [if_pos h3,if_pos h3]
 rw [if_neg h3,if_neg h3];have h4:=ES b.2 (by omega);unfold A7 ER at h4;rw [Az,AX,AR,if_neg (show ¬ (b.2.length:Int)>5000 by omega),if_neg (show ¬ b.2.length>5000 by omega)] at h4;exact h4
theorem Sc (b:B9):E9 b=some (Eo b):=by
 rw [<- Oc];unfold E9 Dc
 congr 1
 funext _
 congr 1
 funext _
 congr 1
 funext _
 congr 2
 funext s0
 by_cases h:0<=s0.2.2
 ·simp only [Qw h];cases hx:b.2[s0.2.2.toNat]? with
  | none=>unfold ix;simp only [hx]
  | some x=>simp only [AJ hx,Io,Ej,AC]
 ·have hn : ∀ {β:Type} (k:Nat->Option β),AS s0.2.2 k=none:=λk=>by unfold AS;simp [h]
  simp only [hn]
def CI (f:Ha):Int:=if (Eo f.1).2≠0 then (Eo f.1).2 else if (AZ f.2).2≠0 then (AZ f.2).2 else if f.1.1≠f.2.1.1 then 6 else 0
theorem Od {f:Ha} (m:Sm f.2):Ci f=some (CI f):=by
 unfold Ci CI;rw [Oc,AC,AN];by_cases h1:(Eo f.1).2=0;rotate_left
 ·rw [if_neg h1,if_pos h1]
 rw [if_pos h1,if_neg (show ¬ (Eo f.1).2≠0 by simp [h1]),jZ m,AC,AN];by_cases h2:(AZ f.2).2=0;rotate_left
 ·rw [if_neg h2,if_pos h2]
 rw [if_pos h2,if_neg (show ¬ (AZ f.2).2≠0 by simp [h2]),AN];by_cases h3:f.1.1=f.2.1.1
 ·rw [if_pos h3,if_neg (show ¬ f.1.1≠f.2.1.1 by simp [h3])]
 ·rw [if_neg h3,if_pos h3]
theorem Sd {f:Ha} (m:Sm f.2):FA f=some (CI f):=by
 unfold FA CI;rw [Sc,AC,Bg];by_cases h1:(Eo f.1).2=0;rotate_left
 ·rw [if_neg h1,Bg,if_neg h1,if_pos h1]
 rw [if_pos h1,if_neg (show ¬ (Eo f.1).2≠0 by simp [h1]),hG m,AC,Bg];by_cases h2:(AZ f.2).2=0;rotate_left
 ·rw [if_neg h2,if_pos h2]
 rw [if_pos h2,if_neg (show ¬ (AZ f.2).2≠0 by simp [h2]),AN];by_cases h3:f.1.1=f.2.1.1
 ·rw [if_pos h3,if_neg (show ¬ f.1.1≠f.2.1.1 by simp [h3]),h2]
 ·rw [if_neg h3,if_pos h3]
end Go.Proofs.YthpkjfabdccpdaaGreat.Pl
namespace Go.Proofs.YthpkjfabdccpdaaGreat.Pl
open Go Go.Proofs.YthpkjfabdccpdaaGreat.Sv
theorem Vl {b:Int} (hb:1<=b/\b<=16) {k:Nat} (hk:k<=11):1<=b*2 ^ k/\b*2 ^ k<=32768:=by
 have:k=0\/k=1\/k=2\/k=3\/k=4\/k=5\/k=6\/k=7\/k=8\/k=9\/k=10\/k=11:=by omega
 rcases this with rfl | rfl | rfl | rfl | rfl | rfl | rfl | rfl | rfl | rfl | rfl | rfl<;>simp<;>omega
def K8 (n:Int):Bool:=decide (0<=n)&&decide (n<=1000000000)
theorem ZI (b:Int) (l:List Int) (hl:l.length<1000):Co (b,l)=some (decide (1<=b)&&decide (b<=16)&&l.all K8):=by
 unfold Co;simp only [BE,Az];by_cases h1:b<1
 ·rw [if_pos h1];simp [show ¬ (1:Int)<=b by omega]
 rw [if_neg h1];by_cases h2:b>16
 ·rw [if_pos h2];simp [show ¬ b<=16 by omega]
 rw [if_neg h2];simp only [show (1:Int)<=b by omega,show b<=16 by omega,decide_true,Bool.true_and]
 obtain ⟨x,e,hx⟩:=Lr (β:=Nat×(Int×Bool)×Unit) (λs:Int×Bool=>s.2=false /\ ∃ k:Nat,s.1=k/\k<=l.length/\(l.take k).all K8=true)
  (λx=>(x.1=0/\l.all K8=false/\x.2.1.2=false)\/(x.1=1/\l.all K8=true)) (λs=>(l.length-s.1.toNat)) (s:=(0,false))
  (f:=(λs0=>if s0.1<(Aa (AA l)) then (AS s0.1 λk1=>ix l k1 λx2=>if x2<0 then (some (.dn ((0,((s0.1,false),()))))) else if x2>1000000000 then (some (.dn ((0,((s0.1,false),()))))) else some (.nx (AF .i64 s0.1 1,s0.2))) else some (.dn ((1,(s0,())))))) ⟨rfl,0,rfl,by omega,rfl⟩ (by omega) (by
   rintro ⟨i,c⟩ ⟨hc,k,hi,hk,ha⟩;simp only at hc hi;subst hc;subst hi;simp only [Aa,AA];by_cases hlt:(k:Int)<(l.length:Int)
   ·rw [if_pos hlt,Qw (by omega)];have hk':k<l.length:=by omega
    rw [AJ (x:=l[k]) (by simp [hk'])];by_cases h3:l[k]<0
    ·rw [if_pos h3];refine .inr ⟨_,rfl,.inl ⟨rfl,?_,rfl⟩⟩;rw [List.all_eq_false];exact ⟨l[k],by simp,by simp [K8];omega⟩
    rw [if_neg h3];by_cases h4:l[k]>1000000000
    ·rw [if_pos h4];refine .inr ⟨_,rfl,.inl ⟨rfl,?_,rfl⟩⟩;rw [List.all_eq_false];exact ⟨l[k],by simp,by simp [K8];omega⟩
    rw [if_neg h4];refine .inl ⟨_,rfl,⟨rfl,k+1,?_,by omega,?_⟩,?_⟩
    ·show AF .i64 (k:Int) 1=_;rw [A9 (by omega)];simp
    ·rw [List.take_add_one,List.all_append,ha];simp [hk',K8];omega
    ·show l.length-(AF .i64 (k:Int) 1).toNat<_;rw [A9 (by omega)];omega
   ·rw [if_neg hlt];refine .inr ⟨_,rfl,.inr ⟨rfl,?_⟩⟩;have:k=l.length:=by omega
    subst this
    simpa using ha)
 rw [e,AC,Ar];rcases hx with ⟨h3,h4,h5⟩ | ⟨h3,h4⟩
 ·rw [if_pos h3,h4,h5]
 ·rw [if_neg (by omega),h4]
theorem Wr (n:Int):FB n=some (K8 n):=by
 unfold FB;rw [Gt];by_cases h:n>=0
 ·rw [if_pos h];simp [K8,MG,show (0:Int)<=n from h]
 ·rw [if_neg h];simp [K8,show ¬ (0:Int)<=n from h]
def Q9 (b w:Int):Nat->Nat
 | 0=>0
 | k+1=>Q9 b w k+if b*2 ^ k<w then 1 else 0
theorem ZJ (b w:Int) : ∀ k,Q9 b w k<=k
 | 0=>Nat.le_refl _
 | k+1=>by have:=ZJ b w k;unfold Q9;split<;>omega
theorem Se {b w:Int} (hb:1<=b) {k:Nat} (h : ¬ b*2 ^ k<w) : ∀ d,Q9 b w (k+d)=Q9 b w k
 | 0=>rfl
 | d+1=>by
  have ih:=Se hb h d;show Q9 b w (k+d)+(if b*2 ^ (k+d)<w then 1 else 0)=_
  have : ¬ b*2 ^ (k+d)<w:=by
   have h2:(2:Int) ^ (k+d)=2 ^ k*2 ^ d:=Int.pow_add ..
   have h3:(1:Int)<=2 ^ d:=by
    have:=Int.pow_pos (n:=2) (m:=d) (by omega);omega
   have h4:0<b*2 ^ k:=Int.mul_pos (by omega) (Int.pow_pos (by omega));rw [h2,<- Int.mul_assoc];have:=Int.mul_le_mul_of_nonneg_left h3 (Int.le_of_lt h4);rw [Int.mul_one] at this;omega
  rw [if_neg this];omega
theorem Sf {b n:Int} (hb:1<=b/\b<=16) (hn:0<=n/\n<=11):CH (b,n)=some (b*2 ^ n.toNat):=by
 unfold CH;simp only [BE]
 obtain ⟨x,e,hx⟩:=Lr (β:=Nat×(Int×Int)×Unit) (λs:Int×Int => ∃ k:Nat,s.2=k/\(k:Int)<=n/\s.1=b*2 ^ k)
  (λx=>x.2.1.1=b*2 ^ n.toNat) (λs=>(n-s.2).toNat) (s:=(b,0))
  (f:=(λs0=>if s0.2<n then (some (.nx (HL .i64 2 s0.1,AF .i64 s0.2 1))) else some (.dn ((0,(s0,())))))) ⟨0,rfl,by omega,by simp⟩ (by simp only;omega) (by
   rintro ⟨v,i⟩ ⟨k,hi,hk,hv⟩;simp only at hi hv ⊢;subst hi;by_cases hlt:(k:Int)<n
   ·rw [if_pos hlt];have:=Vl hb (k:=k) (by omega);refine .inl ⟨_,rfl,⟨k+1,?_,by omega,?_⟩,?_⟩
    ·show AF .i64 (k:Int) 1=_;rw [A9 (by omega)];simp
    ·show HL .i64 2 v=_;rw [NQ (by omega),hv,Int.pow_succ];generalize (2:Int) ^ k=p;rw [Int.mul_left_comm,Int.mul_comm 2 p]
    ·show (n-AF .i64 (k:Int) 1).toNat<(n-k).toNat;rw [A9 (by omega)];omega
   ·rw [if_neg hlt];refine .inr ⟨_,rfl,?_⟩;have:n.toNat=k:=by omega
    rw [this];exact hv)
 rw [e,AC,hx]
theorem Ws {b w:Int} (hb:1<=b/\b<=16) (hw:0<=w/\w<=1000000000):CV (b,w)=some (if w=0 then 0 else (Q9 b w 11:Int)+1,0):=by
 unfold CV;simp only [ZI b [w] (by simp),AC,Yk,BE,Bg];have:(decide (1<=b)&&decide (b<=16)&&[w].all K8)=true:=by simp [K8];omega
 rw [this,AM];by_cases h0:w=0
 ·rw [if_pos h0,if_pos h0]
 rw [if_neg h0,if_neg h0]
 obtain ⟨x,e,hx⟩:=Lr (β:=Nat×(Int×Int)×Unit) (λs:Int×Int => ∃ k:Nat,k<=11/\s.2=k+1/\s.1=b*2 ^ k/\Q9 b w k=k)
  (λx=>x.2.1.2=(Q9 b w 11:Int)+1) (λs=>(12-s.2).toNat) (s:=(b,1))
  (f:=(λs1=>if s1.1<w then (if s1.2<12 then some (.nx (LW .i64 s1.1 1,AF .i64 s1.2 1)) else some (.dn ((0,(s1,()))))) else some (.dn ((0,(s1,())))))) ⟨0,by omega,by simp,by simp,rfl⟩ (by simp only;omega) (by
   rintro ⟨v,i⟩ ⟨k,hk,hi,hv,hc⟩;simp only at hi hv ⊢;subst hi;have hp:=Vl hb hk;by_cases hlt:v<w
   ·rw [if_pos hlt]
    have hc1:Q9 b w (k+1)=k+1:=by
     show Q9 b w k+_=_;rw [if_pos (by rw [<- hv];exact hlt),hc]
    by_cases hk11:((k:Int)+1)<12
    ·rw [if_pos hk11];refine .inl ⟨_,rfl,⟨k+1,by omega,?_,?_,hc1⟩,?_⟩
     ·show AF .i64 ((k:Int)+1) 1=_;rw [A9 (by omega)];simp
     ·show LW .i64 v 1=_;rw [Ym (by omega),hv,Int.pow_succ];generalize (2:Int) ^ k=p;rw [Int.mul_left_comm,Int.mul_comm 2 p]
     ·show (12-AF .i64 ((k:Int)+1) 1).toNat<_;rw [A9 (by omega)];omega
    ·rw [if_neg hk11];refine .inr ⟨_,rfl,?_⟩;have:k=11:=by omega
     subst this;show ((11:Nat):Int)+1=_;rw [hc]
   ·rw [if_neg hlt];refine .inr ⟨_,rfl,?_⟩;have:=Se (w:=w) hb.1 (k:=k) (by rw [<- hv];exact hlt) (11-k);rw [show k+(11-k)=11 by omega] at this;show (k:Int)+1=_
    rw [this,hc])
 rw [e,AC,hx]
theorem UH {b w:Int} (hb:1<=b/\b<=16):Df (b,w)=some (if w=0 then 0 else (Q9 b w 11:Int)+1):=by
 unfold Df;simp only [BE,Bg];by_cases h0:w=0
 ·rw [if_pos h0,if_pos h0]
 rw [if_neg h0,if_neg h0]
 obtain ⟨x,e,hx⟩:=Lr (β:=Nat×(Int×Int)×Unit) (λs:Int×Int => ∃ k:Nat,k<=11/\s.2=k+1/\s.1=(Q9 b w k:Int)+1)
  (λx=>x.2.1.1=(Q9 b w 11:Int)+1) (λs=>(12-s.2).toNat) (s:=(1,1))
  (f:=(λs0=>if s0.2<12 then (bd (CH (b,Bp .i64 s0.2 1)) λr1=>if r1<w then some (.nx (AF .i64 s0.1 1,AF .i64 s0.2 1)) else some (.nx (s0.1,AF .i64 s0.2 1))) else some (.dn ((0,(s0,())))))) ⟨0,by omega,by simp,rfl⟩ (by simp only;omega) (by
   rintro ⟨v,i⟩ ⟨k,hk,hi,hv⟩;simp only at hi hv ⊢;subst hi;subst hv;have hc:=ZJ b w k;by_cases hlt:(k:Int)+1<12
   ·rw [if_pos hlt,Bt (by omega),Sf hb (by omega),AC];have hk':((k:Int)+1-1).toNat=k:=by omega
    rw [hk']
    have m1:(12-AF .i64 ((k:Int)+1) 1).toNat<(12-((k:Int)+1)).toNat:=by
     rw [A9 (by omega)];omega
    have m2:AF .i64 ((k:Int)+1) 1=((k+1:Nat):Int)+1:=by rw [A9 (by omega)];simp
    by_cases hp:b*2 ^ k<w
    ·rw [if_pos hp];refine .inl ⟨_,rfl,⟨k+1,by omega,m2,?_⟩,m1⟩;show AF .i64 ((Q9 b w k:Int)+1) 1=((Q9 b w k+if b*2 ^ k<w then 1 else 0:Nat):Int)+1
     rw [A9 (by omega),if_pos hp];simp
    ·rw [if_neg hp];refine .inl ⟨_,rfl,⟨k+1,by omega,m2,?_⟩,m1⟩;show (Q9 b w k:Int)+1=((Q9 b w k+if b*2 ^ k<w then 1 else 0:Nat):Int)+1
     rw [if_neg hp];simp
   ·rw [if_neg hlt];refine .inr ⟨_,rfl,?_⟩;have:k=11:=by omega
    subst this
    rfl)
 rw [e,AC,hx]
theorem Sh {n:Int}:K8 n=true<->0<=n/\n<=1000000000:=by simp [K8]
def Wt (out:List Int) (k:Bool) (i:Nat):List Int:=if k=true then out else out++[((i+1:Nat):Int)]
def IG (ks:Nat->Bool):Nat->List Int
 | 0=>[]
 | k+1=>Wt (IG ks k) (ks k) k
theorem Ly (ks:Nat->Bool) : ∀ k,(IG ks k).length<=k
 | 0=>Nat.le_refl _
 | k+1=>by
  have:=Ly ks k;unfold IG Wt;split
  ·omega
  ·simp;omega
theorem Oe {β:Type} {ks:Nat->Bool} {k:Nat} (hk:k<5) (c:Bool) (hc:c=ks k):br (AU c) (λ_=>gd (Bb (A3 (AA (IG ks k)) (AA ([AF .i64 (k:Int) 1]))) 1048576) λ_=>some (LR.nx (β:=β) ((Bv (IG ks k) ([AF .i64 (k:Int) 1]),AF .i64 (k:Int) 1)))) (λ_=>some (.nx (IG ks k,AF .i64 (k:Int) 1)))=some (.nx (IG ks (k+1),((k+1:Nat):Int))):=by
 have:=Ly ks k;rw [Ad (by omega),C3 (by simp only [A3,AA,List.length_cons,List.length_nil];omega),BW,GX,hc];have e:IG ks (k+1)=Wt (IG ks k) (ks k) k:=rfl;rw [e];unfold Wt;by_cases h:ks k=true
 ·rw [if_pos h,if_pos h]
 ·rw [if_neg h,if_neg h];rfl
theorem Of {β:Type} {ks:Nat->Bool} {k:Nat} (hk:k<5) (c:Bool) (hc:c=ks k):br (AU c) (λ_=>gd (Bb (A3 (AA (IG ks k)) (AA ([AF .i64 (k:Int) 1]))) 1048576) λ_=>some (LR.nx (β:=β) ((AF .i64 (k:Int) 1,Bv (IG ks k) ([AF .i64 (k:Int) 1]))))) (λ_=>some (.nx (AF .i64 (k:Int) 1,IG ks k)))=some (.nx (((k+1:Nat):Int),IG ks (k+1))):=by
 have:=Ly ks k;rw [Ad (by omega),C3 (by simp only [A3,AA,List.length_cons,List.length_nil];omega),BW,GX,hc];have e:IG ks (k+1)=Wt (IG ks k) (ks k) k:=rfl;rw [e];unfold Wt;by_cases h:ks k=true
 ·rw [if_pos h,if_pos h]
 ·rw [if_neg h,if_neg h];rfl
def DL (B:Int) (i:Nat) (r:B9):Bool:=decide ((r.2.length:Int)<=CR B (i-1))
def KI (B:Int) (i:Nat) (rs:List B9):Bool:=decide (i≠0/\rs.length=2)&&rs.all (DL B i)
def EB (B:Int):Nat->List (List B9)->Bool
 | _,[]=>true
 | i,rs::ls => !KI B i rs&&EB B (i+1) ls
theorem Py {L:AQ} (v:VLev L):(loop (λs14=>br (Aj s14.2 (Aa (AA L.2))) (λ_=>AS s14.2 λk15=>ix L.2 k15 λx16=>br (CA s14.2 0) (λ_=>some (.nx (s14.1,AF .i64 s14.2 1))) λ_=>br (Aj (Aa (AA x16)) 2) (λ_=>some (.nx (s14.1,AF .i64 s14.2 1))) λ_=>bd (loop (λs17=>br (Aj s17 (Aa (AA x16))) (λ_=>AS s17 λk18=>ix x16 k18 λx19=>gd (IP (Bp .i64 s14.2 1) 0) λ_=>br (B0 (Aa (AA x19.2)) (LW .i64 L.1 (Bp .i64 s14.2 1))) (λ_=>some (.dn (((0:Nat),(s17,()))))) λ_=>some (.nx (AF .i64 s17 1))) λ_=>some (.dn ((1,(s17,()))))) 0) λr20=>br (neq r20.1 0) (λ_=>some (.nx (s14.1,AF .i64 s14.2 1))) λ_=>some (.nx (false,AF .i64 s14.2 1))) λ_=>some (.dn (((0:Nat),(s14,()))))) (true,0))=some (0,((EB L.1 0 L.2,(L.2.length:Int)),())):=by
 have hl:=v.len;simp only [AX,AR]
 refine CY (l:=L.2) (σ:=Bool) (s:=(true,(0:Int))) (λi st=>(st,(i:Int))) (λls i st=>(st&&EB L.1 i ls)=EB L.1 0 L.2) (λ_ _ _=>(0,((EB L.1 0 L.2,(L.2.length:Int)),()))) true rfl (by omega) rfl (λst h=>by
  simp only;rw [re,Av,<- h];simp [EB]) (λi rs ls st hd hi hlt h => ?_)
 have h2:=v.two rs (List.mem_of_getElem? hi);have ho:=(v.lev i rs hi).2;refine ⟨st && !KI L.1 i rs,?_,by rw [<- h];simp [EB,Bool.and_assoc],rfl⟩;simp only;rw [rl hlt,AM,AG,AJ hi,Bg,Am hi (by omega)];by_cases h0:i=0
 ·rw [if_pos (by omega)];have:KI L.1 i rs=false:=by unfold KI;simp [h0]
  rw [this];simp
 rw [if_neg (by omega),BE];by_cases h3:rs.length=2;rotate_left
 ·rw [if_pos (by omega)];have:KI L.1 i rs=false:=by unfold KI;simp [h3]
  rw [this];simp
 rw [if_neg (by omega)]
 have hs:LW .i64 L.1 (Bp .i64 (i:Int) 1)=CR L.1 (i-1):=by
  rw [Bt (by omega),show (i:Int)-1=((i-1:Nat):Int) by omega];exact Pq v.B1 v.B2 (by omega)
 have hg:IP (Bp .i64 (i:Int) 1) 0=true:=by rw [Bt (by omega)];unfold IP;simp;omega
 simp only [hs,hg];have hb:KI L.1 i rs=rs.all (DL L.1 i):=by unfold KI;simp [h0,h3]
 rw [hb]
 obtain ⟨r,q1,q2⟩:=FO (l:=rs) (σ:=Unit) (s:=(0:Int)) (λk _=>(k:Int)) (λm _ _=>m.all (DL L.1 i)=rs.all (DL L.1 i)) (λ(r:Nat×(Int×Unit))=>(r.1=0/\rs.all (DL L.1 i)=false)\/(r.1=1/\rs.all (DL L.1 i)=true))
  (f:=λs17=>br (Aj s17 (rs.length:Int)) (λ_=>AS s17 λk18=>ix rs k18 λx19=>gd true λ_=>br (B0 (x19.2.length:Int) (CR L.1 (i-1))) (λ_=>some (.dn ((0,(s17,()))))) λ_=>some (.nx (AF .i64 s17 1))) λ_=>some (.dn ((1,(s17,())))))
  () rfl (by omega) rfl (λ_ h=>⟨_,by rw [re];rfl,.inr ⟨rfl,by rw [<- h];rfl⟩⟩) (λk x m _ hd hx hk h=>by
   rw [rl hk,AM,AG,AJ hx,eh,Az,Ad (by omega)];rw [List.all_cons] at h;by_cases hs:(x.2.length:Int)>CR L.1 (i-1)
   ·rw [if_pos hs];have:DL L.1 i x=false:=by unfold DL;simp;omega
    rw [this] at h;exact .inr ⟨_,rfl,.inl ⟨rfl,by rw [<- h];rfl⟩⟩
   ·rw [if_neg hs];have:DL L.1 i x=true:=by unfold DL;simp;omega
    rw [this,Bool.true_and] at h
    exact .inl ⟨(),rfl,h⟩)
 refine BC q1 ?_;rw [Ar];rcases q2 with ⟨q2,q3⟩ | ⟨q2,q3⟩
 ·rw [if_pos q2,q3];simp
 ·rw [if_neg (by omega),q3];simp
theorem ew {B:Int} {i:Nat} {rs:List B9} (h:rs.length<=2) (hi:i≠0):((rs.filter (DL B i)).length=2)<->KI B i rs=true:=by
 unfold KI;simp only [Bool.and_eq_true,decide_eq_true_eq,List.all_eq_true];constructor
 ·intro h2;have h3:=List.length_filter_le (DL B i) rs;have h4:(rs.filter (DL B i)).length=rs.length:=by omega
  exact ⟨⟨hi,by omega⟩,λr hr=>(List.length_filter_eq_length_iff.1 h4) r hr⟩
 ·rintro ⟨⟨_,h2⟩,h3⟩;rw [List.filter_eq_self.2 h3];exact h2
theorem ZK {l:List (List B9)} (k:Nat):l.tail[k]? = l[k+1]? := by cases l<;>simp
theorem Wu {L:AQ} (v:VLev L):D8 L=some (EB L.1 0 L.2):=by
 have hl:=v.len
 have hz:EB L.1 0 L.2=EB L.1 1 L.2.tail:=by
  cases L.2 with
  | nil=>rfl
  | cons rs ls =>
   show (!KI L.1 0 rs&&EB L.1 1 ls)=_;have:KI L.1 0 rs=false:=by unfold KI;simp
   rw [this];rfl
 unfold D8;simp only [AX,AR]
 obtain ⟨r,q1,q2⟩:=FO (l:=L.2.tail) (σ:=Unit) (s:=((1:Int),false)) (λk _=>(((k+1:Nat):Int),false)) (λls k _=>EB L.1 (k+1) ls=EB L.1 0 L.2) (λ(r:Nat×((Int×Bool)×Unit))=>(r.1=0/\EB L.1 0 L.2=true)\/(r.1=1/\r.2.1.2=false/\EB L.1 0 L.2=false))
  (f:=λs0=>br (Aj s0.1 (L.2.length:Int)) (λ_=>bd (loop (λs1=>AS s0.1 λk2=>ix L.2 k2 λx3=>br (Aj s1.1 (x3.length:Int)) (λ_=>AS s0.1 λk4=>ix L.2 k4 λx5=>AS s1.1 λk6=>ix x5 k6 λx7=>bd (CH (L.1,Bp .i64 s0.1 1)) λr8=>br (MG (x7.2.length:Int) r8) (λ_=>some (.nx (AF .i64 s1.1 1,AF .i64 s1.2 1))) λ_=>some (.nx (AF .i64 s1.1 1,s1.2))) λ_=>some (.dn (((0:Nat),(s1,()))))) ((0:Int),(0:Int))) λr9=>br (CA r9.2.1.2 2) (λ_=>some (.dn ((1,((s0.1,false),()))))) λ_=>some (.nx (AF .i64 s0.1 1,s0.2))) λ_=>some (.dn ((0,(s0,())))))
  () rfl (by simp;omega) hz.symm (λ_ h=>by
   refine ⟨(0,((((L.2.tail.length+1:Nat):Int),false),())),?_,.inl ⟨rfl,by rw [<- h];rfl⟩⟩;simp only;rw [show Aj (((L.2.tail.length+1:Nat):Int)) (L.2.length:Int)=false by unfold Aj;simp;omega];rfl) (λk rs m _ hd hx hk h=>by
   rw [ZK] at hx;have hk2:=(List.getElem?_eq_some_iff.1 hx).1;have h2:=v.two rs (List.mem_of_getElem? hx)
   have hp:CH (L.1,Bp .i64 ((k+1:Nat):Int) 1)=some (CR L.1 k):=by
    rw [Bt (by omega),show (((k+1:Nat):Int)-1)=(k:Int) by omega,Sf ⟨v.B1,v.B2⟩ (by omega)];rw [Int.toNat_natCast];rfl
   simp only [hp];rw [rl hk2,AM]
   have hloop:=CY (l:=rs) (σ:=Nat) (s:=((0:Int),(0:Int))) (λi st=>((i:Int),(st:Int))) (λls i st=>st+(ls.filter (DL L.1 (k+1))).length=(rs.filter (DL L.1 (k+1))).length/\st<=i) (λ_ _ _=>((0:Nat),(((rs.length:Int),(((rs.filter (DL L.1 (k+1))).length:Nat):Int)),())))
    (f:=λs1=>AS (((k+1:Nat):Int)) λk2=>ix L.2 k2 λx3=>br (Aj s1.1 (x3.length:Int)) (λ_=>AS (((k+1:Nat):Int)) λk4=>ix L.2 k4 λx5=>AS s1.1 λk6=>ix x5 k6 λx7=>bd (some (CR L.1 k)) λr8=>br (MG (x7.2.length:Int) r8) (λ_=>some (.nx (AF .i64 s1.1 1,AF .i64 s1.2 1))) λ_=>some (.nx (AF .i64 s1.1 1,s1.2))) λ_=>some (.dn (((0:Nat),(s1,())))))
    0 rfl (by omega) ⟨by omega,by omega⟩ (λst h=>by
     simp only;rw [AG,AJ hx,re,Av,<- h.1];simp) (λi r ls st hd hi hlt h=>by
     obtain ⟨h3,h4⟩:=h;rw [List.filter_cons] at h3;simp only;rw [AG,AJ hx,rl hlt,AM,AG,AJ hx,AG,AJ hi,AC,Yj,Ad (by omega)];by_cases hs:(r.2.length:Int)<=CR L.1 k
     ·have:DL L.1 (k+1) r=true:=by unfold DL;simpa using hs
      rw [this] at h3;simp only [if_true,List.length_cons] at h3;exact ⟨st+1,by rw [if_pos hs,Ad (by omega)],⟨by omega,by omega⟩,trivial⟩
     ·have:DL L.1 (k+1) r=false:=by unfold DL;simpa using hs
      rw [this] at h3;simp only [Bool.false_eq_true,if_false] at h3
      exact ⟨st,by rw [if_neg hs],⟨h3,by omega⟩,trivial⟩)
   rw [hloop,AC];simp only;rw [Bg,Ad (by omega)];have hb:=ew (B:=L.1) (i:=k+1) h2 (by omega);have h5:(!KI L.1 (k+1) rs&&EB L.1 (k+1+1) m)=EB L.1 0 L.2:=h;by_cases hf:(rs.filter (DL L.1 (k+1))).length=2
   ·rw [if_pos (by omega)];rw [hb.1 hf] at h5;exact .inr ⟨_,rfl,.inr ⟨rfl,rfl,by rw [<- h5];rfl⟩⟩
   ·rw [if_neg (by omega)]
    have:KI L.1 (k+1) rs=false:=by
     cases hq:KI L.1 (k+1) rs with
     | false=>rfl
     | true=>exact absurd (hb.2 hq) hf
    rw [this] at h5
    exact .inl ⟨(),rfl,h5⟩)
 refine BC q1 ?_;rw [Ar];rcases q2 with ⟨q2,q3⟩ | ⟨q2,q3,q4⟩
 ·rw [if_pos q2,q3]
 ·rw [if_neg (by omega),q3,q4]
end Go.Proofs.YthpkjfabdccpdaaGreat.Pl
namespace Go.Proofs.YthpkjfabdccpdaaGreat.Pl
open Go Go.Proofs.YthpkjfabdccpdaaGreat.Sv
theorem UI (l:List AH) (b:Bool) (hb:b=false) : ∃ r,loop (β:=Nat×((Int×Bool)×Unit)) (λs8=>br (Aj s8.1 (l.length:Int)) (λ_=>br (Aj s8.1 50) (λ_=>AS s8.1 λk9=>ix l k9 λx10=>br (B0 (Eu x10.1:Int) 100) (λ_=>some (.dn ((0,((s8.1,true),()))))) λ_=>AS s8.1 λk11=>ix l k11 λx12=>br (B0 (Eu x12.2.1:Int) 100) (λ_=>some (.dn ((0,((s8.1,true),()))))) λ_=>some (.nx (AF .i64 s8.1 1,s8.2))) λ_=>some (.dn ((1,(s8,()))))) λ_=>some (.dn ((1,(s8,()))))) ((0:Int),b)=some r/\((r.1=1/\r.2.1.2=false)\/(r.1=0/\r.2.1.2=true)):=by
 subst hb
 exact Je (l:=l) (σ:=Unit) 50 (by omega) (λk _=>((k:Int),false)) (λ_ _=>True) (λ(r:Nat×((Int×Bool)×Unit))=>(r.1=1/\r.2.1.2=false)\/(r.1=0/\r.2.1.2=true)) () rfl trivial (λk _ h hk _=>⟨_,(ZC (c:=50) h hk _ _ _ rfl),.inl ⟨rfl,rfl⟩⟩) (λk x _ hx hk _=>by
  simp only;have hk2:=(List.getElem?_eq_some_iff.1 hx).1;rw [rl hk2,AM,show Aj (k:Int) 50=true from SZ hk,AM,AG,AJ hx,Az,AG,AJ hx,Az,Ad (by omega)]
  repeat' split
  all_goals first | exact .inr ⟨_,rfl,.inr ⟨rfl,rfl⟩⟩ | exact .inl ⟨(),rfl,trivial⟩)
theorem Wv {L:List (List B9)} {i:Nat} {rs:List B9} (hi:L[i]? = some rs) (n:Int) (b:Bool) (hb:b=false) : ∃ r,loop (β:=Nat×((Int×(Int×Bool))×Unit)) (λs1=>AS (i:Int) λk2=>ix L k2 λx3=>br (Aj s1.2.1 (x3.length:Int)) (λ_=>br (Aj s1.2.1 9) (λ_=>AS (i:Int) λk4=>ix L k4 λx5=>AS s1.2.1 λk6=>ix x5 k6 λx7=>bd (loop (λs8=>br (Aj s8.1 (x7.2.length:Int)) (λ_=>br (Aj s8.1 50) (λ_=>AS s8.1 λk9=>ix x7.2 k9 λx10=>br (B0 (Eu x10.1:Int) 100) (λ_=>some (.dn (((0:Nat),((s8.1,true),()))))) λ_=>AS s8.1 λk11=>ix x7.2 k11 λx12=>br (B0 (Eu x12.2.1:Int) 100) (λ_=>some (.dn ((0,((s8.1,true),()))))) λ_=>some (.nx (AF .i64 s8.1 1,s8.2))) λ_=>some (.dn ((1,(s8,()))))) λ_=>some (.dn ((1,(s8,()))))) ((0:Int),s1.2.2)) λr13=>br (neq r13.1 0) (λ_=>some (.dn ((1,((AF .i64 s1.1 (x7.2.length:Int),(s1.2.1,r13.2.1.2)),()))))) λ_=>some (.nx ((AF .i64 s1.1 (x7.2.length:Int),(AF .i64 s1.2.1 1,r13.2.1.2))))) λ_=>some (.dn ((0,(s1,()))))) λ_=>some (.dn ((0,(s1,()))))) (n,((0:Int),b))=some r/\((r.1=0/\r.2.1.2.2=false)\/(r.1=1/\r.2.1.2.2=true)):=by
 subst hb
 exact Je (l:=rs) (σ:=Int) 9 (by omega) (λk n=>(n,((k:Int),false))) (λ_ _=>True) (λ(r:Nat×((Int×(Int×Bool))×Unit))=>(r.1=0/\r.2.1.2.2=false)\/(r.1=1/\r.2.1.2.2=true)) n rfl trivial (λk n h hk _=>⟨_,by
  rw [AG,AJ hi];exact (ZC (c:=9) h hk _ _ _ rfl),.inl ⟨rfl,rfl⟩⟩) (λk x n hx hk _=>by
  simp only;have hk2:=(List.getElem?_eq_some_iff.1 hx).1;obtain ⟨r,q1,q2⟩:=UI x.2 false rfl;rw [AG,AJ hi,rl hk2,AM,show Aj (k:Int) 9=true from SZ hk,AM,AG,AJ hi,AG,AJ hx,q1,AC,Ar,Ad (by omega)];rcases q2 with ⟨q2,q3⟩ | ⟨q2,q3⟩
  ·rw [if_neg (by omega),q3];exact .inl ⟨_,rfl,trivial⟩
  ·rw [if_pos q2,q3];exact .inr ⟨_,rfl,.inr ⟨rfl,rfl⟩⟩)
theorem ZL (s:BJ) (hx : ∀ rs∈s.1.2,∀ r∈rs,r.2.length<=9223372036854775807) : ∃ b,Gb s=some b/\(b=false->Sm s):=by
 unfold Gb;simp only [AX,AR]
 obtain ⟨r,q1,q2⟩:=Je (l:=s.1.2) (σ:=Int) (s:=((0:Int),(false,(0:Int)))) 20 (by omega) (λk n=>(n,(false,(k:Int)))) (λk _ => ∀ i rs,i<k->s.1.2[i]? = some rs->rs.length<=8) (λ(r:Nat×((Int×(Bool×Int))×Unit))=>(r.1=0/\r.2.1.2.1=false /\ ∀ i rs,i<20->s.1.2[i]? = some rs->rs.length<=8)\/(r.1=1/\r.2.1.2.1=true))
  (f:=λs0=>br (Aj s0.2.2 (s.1.2.length:Int)) (λ_=>br (Aj s0.2.2 20) (λ_=>bd (loop (λs1=>AS s0.2.2 λk2=>ix s.1.2 k2 λx3=>br (Aj s1.2.1 (x3.length:Int)) (λ_=>br (Aj s1.2.1 9) (λ_=>AS s0.2.2 λk4=>ix s.1.2 k4 λx5=>AS s1.2.1 λk6=>ix x5 k6 λx7=>bd (loop (λs8=>br (Aj s8.1 (x7.2.length:Int)) (λ_=>br (Aj s8.1 50) (λ_=>AS s8.1 λk9=>ix x7.2 k9 λx10=>br (B0 (Eu x10.1:Int) 100) (λ_=>some (.dn (((0:Nat),((s8.1,true),()))))) λ_=>AS s8.1 λk11=>ix x7.2 k11 λx12=>br (B0 (Eu x12.2.1:Int) 100) (λ_=>some (.dn ((0,((s8.1,true),()))))) λ_=>some (.nx (AF .i64 s8.1 1,s8.2))) λ_=>some (.dn ((1,(s8,()))))) λ_=>some (.dn ((1,(s8,()))))) ((0:Int),s1.2.2)) λr13=>br (neq r13.1 0) (λ_=>some (.dn (((1:Nat),((AF .i64 s1.1 (x7.2.length:Int),(s1.2.1,r13.2.1.2)),()))))) λ_=>some (.nx ((AF .i64 s1.1 (x7.2.length:Int),(AF .i64 s1.2.1 1,r13.2.1.2))))) λ_=>some (.dn ((0,(s1,()))))) λ_=>some (.dn ((0,(s1,()))))) ((s0.1,((0:Int),s0.2.1)))) λr14=>br (neq r14.1 0) (λ_=>AS s0.2.2 λk15=>ix s.1.2 k15 λx16=>br (B0 (x16.length:Int) 8) (λ_=>some (.dn (((1:Nat),((r14.2.1.1,(true,s0.2.2)),()))))) λ_=>some (.nx ((r14.2.1.1,(r14.2.1.2.2,AF .i64 s0.2.2 1))))) λ_=>some (.dn ((1,((r14.2.1.1,(r14.2.1.2.2,s0.2.2)),()))))) λ_=>some (.dn ((0,(s0,()))))) λ_=>some (.dn ((0,(s0,())))))
  0 rfl (λi rs h=>by omega) (λk n h hk hI=>⟨_,(ZC (c:=20) h hk _ _ _ rfl),.inl ⟨rfl,rfl,λi rs hi hx=>hI i rs (by have:=(List.getElem?_eq_some_iff.1 hx).1;omega) hx⟩⟩) (λk rs n hx hk hI=>by
   simp only;have hk2:=(List.getElem?_eq_some_iff.1 hx).1;obtain ⟨r,q1,q2⟩:=Wv hx n false rfl;rw [rl hk2,AM,show Aj (k:Int) 20=true from SZ hk,AM,q1,AC,Ar,AG,AJ hx,Az,Ad (by omega)];rcases q2 with ⟨q2,q3⟩ | ⟨q2,q3⟩
   ·rw [if_pos q2];by_cases h8:(rs.length:Int)>8
    ·rw [if_pos h8];exact .inr ⟨_,rfl,.inr ⟨rfl,rfl⟩⟩
    ·rw [if_neg h8,q3];refine .inl ⟨_,rfl,λi rs' hi hy => ?_⟩;by_cases h:i=k
     ·subst h;rw [hx] at hy;cases hy;omega
     ·exact hI i rs' (by omega) hy
   ·rw [if_neg (by omega),q3];exact .inr ⟨_,rfl,.inr ⟨rfl,rfl⟩⟩)
 refine (λh=>h) ?_;have fin : ∀ {K:(Nat×((Int×(Bool×Int))×Unit))->Option Bool},(∃ b,K r=some b/\(b=false->Sm s)) -> ∀ {m:Option (Nat×((Int×(Bool×Int))×Unit))},m=some r -> ∃ b,bd m K=some b/\(b=false->Sm s):=λh _ e=>by subst e;exact h
 refine fin ?_ q1;rw [Ar];rcases q2 with ⟨q2,q3,q4⟩ | ⟨q2,q3⟩
 rotate_left
 ·rw [if_neg (by omega),q3];exact ⟨_,rfl,λh=>by cases h⟩
 rw [if_pos q2,q3]
 obtain ⟨r2,p1,p2⟩:=Je (l:=s.2.1) (σ:=Unit) (s:=(false,(0:Int))) 20 (by omega) (λk _=>(false,(k:Int))) (λ_ _=>True) (λ(r:Nat×((Bool×Int)×Unit))=>r.1=1\/(r.1=0/\r.2.1.1=true))
  (f:=λs18=>br (Aj s18.2 (s.2.1.length:Int)) (λ_=>br (Aj s18.2 20) (λ_=>AS s18.2 λk19=>ix s.2.1 k19 λx20=>br (B0 (x20.2.1.1.length:Int) 20) (λ_=>some (.dn ((0,((true,s18.2),()))))) λ_=>br (B0 (x20.2.1.2.1.length:Int) 100) (λ_=>some (.dn ((0,((true,s18.2),()))))) λ_=>br (B0 (x20.2.1.2.2.1.length:Int) 100) (λ_=>some (.dn ((0,((true,s18.2),()))))) λ_=>br (B0 (x20.2.1.2.2.2.1.length:Int) 100) (λ_=>some (.dn ((0,((true,s18.2),()))))) λ_=>bd (loop (λs21=>br (Aj s21.1 (x20.2.1.1.length:Int)) (λ_=>AS s21.1 λk22=>ix x20.2.1.1 k22 λx23=>some (.nx ((AF .i64 s21.1 1,AF .i64 s21.2 (x23.length:Int))))) λ_=>some (.dn (((0:Nat),(s21,()))))) (((0:Int),(x20.2.2.2.1.length:Int)))) λr24=>br (B0 r24.2.1.2 200) (λ_=>some (.dn ((0,((true,s18.2),()))))) λ_=>some (.nx (s18.1,AF .i64 s18.2 1))) λ_=>some (.dn ((1,(s18,()))))) λ_=>some (.dn ((1,(s18,())))))
  () rfl trivial (λk _ h hk _=>⟨_,(ZC (c:=20) h hk _ _ _ rfl),.inl rfl⟩) (λk j _ hx hk _=>by
   simp only;have hk2:=(List.getElem?_eq_some_iff.1 hx).1;rw [rl hk2,AM,show Aj (k:Int) 20=true from SZ hk,AM,AG,AJ hx,Az];by_cases h1:(j.2.1.1.length:Int)>20
   ·rw [if_pos h1];exact .inr ⟨_,rfl,.inr ⟨rfl,rfl⟩⟩
   rw [if_neg h1]
   obtain ⟨r3,t1,_⟩:=FO (l:=j.2.1.1) (σ:=Int) (s:=((0:Int),(j.2.2.2.1.length:Int))) (λk n=>((k:Int),n)) (λ_ _ _=>True) (λ(_:Nat×((Int×Int)×Unit))=>True)
    (f:=λs21=>br (Aj s21.1 (j.2.1.1.length:Int)) (λ_=>AS s21.1 λk22=>ix j.2.1.1 k22 λx23=>some (.nx ((AF .i64 s21.1 1,AF .i64 s21.2 (x23.length:Int))))) λ_=>some (.dn (((0:Nat),(s21,())))))
    (j.2.2.2.1.length:Int) rfl (by omega) trivial (λn _=>⟨_,by rw [re];rfl,trivial⟩) (λk y m n hd hy hk _ => .inl ⟨AF .i64 n (y.length:Int),by rw [rl hk,AM,AG,AJ hy,Ad (by omega)],trivial⟩)
   rw [t1,AC,Az,Az,Az,Az,Ad (by omega)]
   repeat' split
   all_goals first | exact .inr ⟨_,rfl,.inr ⟨rfl,rfl⟩⟩ | exact .inl ⟨(),rfl,trivial⟩)
 rw [p1,AC,Ar];rcases p2 with p2 | ⟨p2,p3⟩
 rotate_left
 ·rw [if_pos p2,p3];exact ⟨_,rfl,λh=>by cases h⟩
 rw [if_neg (by omega),Az,Az];by_cases h1:r.2.1.1>40
 ·rw [if_pos h1];exact ⟨_,rfl,λh=>by cases h⟩
 rw [if_neg h1];by_cases h2:(s.1.2.length:Int)>15
 ·rw [if_pos h2];exact ⟨_,rfl,λh=>by cases h⟩
 rw [if_neg h2];refine ⟨_,rfl,λh=>⟨by omega,λrs hrs=>⟨?_,hx rs hrs⟩,?_⟩⟩
 ·obtain ⟨i,hi⟩:=List.getElem?_of_mem hrs;have:=q4 i rs (by have:=(List.getElem?_eq_some_iff.1 hi).1;omega) hi;omega
 ·unfold B0 at h;simp at h;omega
theorem ZM (f:Ha) (hx : ∀ rs∈f.2.1.2,∀ r∈rs,r.2.length<=9223372036854775807) : ∃ b,Gc f=some b/\(b=false->Sm f.2):=by
 unfold Gc;simp only [AX,AR]
 obtain ⟨r,q1,q2⟩:=Je (l:=f.1.2) (σ:=Unit) (s:=((0:Int),false)) 25 (by omega) (λk _=>((k:Int),false)) (λ_ _=>True) (λ(r:Nat×((Int×Bool)×Unit))=>r.1=1\/(r.1=0/\r.2.1.2=true))
  (f:=λs0=>br (Aj s0.1 (f.1.2.length:Int)) (λ_=>br (Aj s0.1 25) (λ_=>AS s0.1 λk1=>ix f.1.2 k1 λx2=>br (B0 (Eu x2.1:Int) 100) (λ_=>some (.dn ((0,((s0.1,true),()))))) λ_=>AS s0.1 λk3=>ix f.1.2 k3 λx4=>br (B0 (Eu x4.2.1:Int) 100) (λ_=>some (.dn ((0,((s0.1,true),()))))) λ_=>some (.nx (AF .i64 s0.1 1,s0.2))) λ_=>some (.dn ((1,(s0,()))))) λ_=>some (.dn ((1,(s0,())))))
  () rfl trivial (λk _ h hk _=>⟨_,(ZC (c:=25) h hk _ _ _ rfl),.inl rfl⟩) (λk x _ hx hk _=>by
   simp only;have hk2:=(List.getElem?_eq_some_iff.1 hx).1;rw [rl hk2,AM,show Aj (k:Int) 25=true from SZ hk,AM,AG,AJ hx,Az,AG,AJ hx,Az,Ad (by omega)]
   repeat' split
   all_goals first | exact .inr ⟨_,rfl,.inr ⟨rfl,rfl⟩⟩ | exact .inl ⟨(),rfl,trivial⟩)
 rw [q1,AC,Ar];rcases q2 with q2 | ⟨q2,q3⟩
 ·rw [if_neg (show ¬ r.1=0 by omega)];obtain ⟨b,e,hb⟩:=ZL f.2 hx;rw [e,AC];cases b with
  | true=>exact ⟨_,rfl,λh=>by cases h⟩
  | false=>exact ⟨_,rfl,λ_=>hb rfl⟩
 ·rw [if_pos q2,q3];exact ⟨_,rfl,λh=>by cases h⟩
end Go.Proofs.YthpkjfabdccpdaaGreat.Pl
namespace Go.Proofs.YthpkjfabdccpdaaGreat.Pl
open Go Go.Proofs.YthpkjfabdccpdaaGreat.Sv
theorem LD {f:Ha} (h:CI f=0):(AZ f.2).2=0:=by
 unfold CI at h;by_cases h1:(Eo f.1).2=0
 ·rw [if_neg (show ¬ (Eo f.1).2≠0 by simp [h1])] at h;by_cases h2:(AZ f.2).2=0
  ·exact h2
  ·rw [if_pos h2] at h;exact absurd h h2
 ·rw [if_pos h1] at h;exact absurd h h1
theorem Pz {L:AQ} (v:VLev L):Q8 L=((EA L.2.flatten:Int),((L.2.flatten.length:Int),0)):=by
 unfold Q8;rw [if_neg (by simp [In v])]
def Si (f:Ha):Int×(Int×Int):=if CI f≠0 then (0,(0,CI f)) else ((Jf f.2:Int),(((EA f.2.1.2.flatten+f.2.1.2.length:Nat):Int),0))
theorem ez {f:Ha} (m:Sm f.2):D7 f=some (Si f):=by
 unfold D7 Si;rw [Od m,AC,AN];by_cases h0:CI f=0;rotate_left
 ·rw [if_neg h0,AN,if_neg h0,if_pos h0]
 have hz:=LD h0;have v:=Bs.1 hz;obtain ⟨s1,s2⟩:=GJ v.lev;have hl:=v.lev.len;rw [if_pos h0,if_neg (show ¬ CI f≠0 by simp [h0]),ZG m,if_neg (show ¬ (AZ f.2).2≠0 by simp [hz]),AC,AN,if_pos rfl,Sb _ m.lv m.rs,Pz v.lev,AC,AN,if_pos rfl];unfold BT;simp only [AX,AR];rw [AC,A9 (by omega)]
 congr 3
theorem Sj {f:Ha} (m:Sm f.2):En f=some (Si f):=by
 unfold En Si;rw [Sd m,AC,AN];by_cases h0:CI f=0;rotate_left
 ·rw [if_neg h0,if_pos h0]
 have hz:=LD h0;have v:=Bs.1 hz;obtain ⟨s1,s2⟩:=GJ v.lev;have hl:=v.lev.len;rw [if_pos h0,if_neg (show ¬ CI f≠0 by simp [h0]),ZH m,if_neg (show ¬ (AZ f.2).2≠0 by simp [hz]),AC,Px v.lev,AC];simp only [AX,AR];rw [A9 (by omega)]
 congr 3
def fZ (B w:Int):Int:=if w=0 then 0 else (Q9 B w 11:Int)+1
def e8 (f:Ha) (w:Int):Nat->Bool
 | 0=>MG (Jf f.2:Int) ((EA f.2.1.2.flatten+f.2.1.2.length:Nat):Int)
 | 1=>MG (f.2.1.2.flatten.length:Int) (2*(f.2.1.2.length:Int))
 | 2=>MG ((EA f.2.1.2.flatten+f.1.2.length:Nat):Int) w
 | 3=>MG (f.2.1.2.length:Int) (fZ f.2.1.1 w)
 | _=>EB f.2.1.1 0 f.2.1.2
def Ml (f:Ha) (w:Int):List Int×Int:=if CI f≠0 then ([],CI f) else if w<0\/w>1000000000 then ([],7) else (IG (e8 f w) 5,0)
theorem P0 {f:Ha} (h:CI f=0):f.1.2.length<=16:=by
 unfold CI at h;by_cases h1:(Eo f.1).2=0
 ·unfold Eo at h1;by_cases h2:f.1.1<1\/f.1.1>16
  ·rw [if_pos h2] at h1;cases h1
  rw [if_neg h2] at h1;by_cases h3:(f.1.2.length:Int)>f.1.1
  ·rw [if_pos h3] at h1;cases h1
  ·omega
 ·rw [if_pos h1] at h;exact absurd h h1
theorem iA {k:Nat} (h:k<5):k=0\/k=1\/k=2\/k=3\/k=4:=by omega
theorem ZN {f:Ha} (m:Sm f.2) (w:Int):De (f,w)=some (Ml f w):=by
 unfold De Ml;rw [Od m,AC,AN];by_cases h0:CI f=0;rotate_left
 ·rw [if_neg h0,AN,if_neg h0,if_pos h0]
 have hz:=LD h0;have v:=Bs.1 hz;obtain ⟨s1,s2⟩:=GJ v.lev;have hl:=v.lev.len;have hb:=P0 h0;rw [if_pos h0,if_neg (show ¬ CI f≠0 by simp [h0]),ZG m,if_neg (show ¬ (AZ f.2).2≠0 by simp [hz]),AC,AN,if_pos rfl,Sb _ m.lv m.rs,Pz v.lev,AC,AN,if_pos rfl,BE,Az];by_cases h1:w<0
 ·rw [if_pos h1,if_pos (.inl h1)]
 rw [if_neg h1];by_cases h2:w>1000000000
 ·rw [if_pos h2,if_pos (.inr h2)]
 rw [if_neg h2,if_neg (show ¬ (w<0\/w>1000000000) by omega)];unfold BT;simp only [AC,Py v.lev,AX,show AA f.2.1.2=f.2.1.2.length from rfl,show AA f.1.2=f.1.2.length from rfl,Ws ⟨v.lev.B1,v.lev.B2⟩ (w:=w) ⟨by omega,by omega⟩];refine BC (IB (r:=(0,((IG (e8 f w) 5,((5:Nat):Int)),()))) (λk=>(IG (e8 f w) k,(k:Int))) 5 rfl (by omega) (λk hk => ?_) rfl) rfl;simp only;rw [BE,if_pos (by omega),AG];rcases iA hk with rfl | rfl | rfl | rfl | rfl
 ·rw [Ar,if_pos rfl];exact Oe (k:=0) (by omega) _ (by rw [A9 (by omega)];unfold e8;congr 1)
 ·rw [Ar,if_neg (by omega),Ar,if_pos rfl];exact Oe (k:=1) (by omega) _ (by rw [NQ (by omega)];rfl)
 ·rw [Ar,if_neg (by omega),Ar,if_neg (by omega),Ar,if_pos rfl];exact Oe (k:=2) (by omega) _ (by rw [A9 (by omega)];unfold e8;congr 1)
 ·rw [Ar,if_neg (by omega),Ar,if_neg (by omega),Ar,if_neg (by omega),Ar,if_pos rfl,Bg,if_pos rfl];exact Oe (k:=3) (by omega) _ rfl
 ·rw [Ar,if_neg (by omega),Ar,if_neg (by omega),Ar,if_neg (by omega),Ar,if_neg (by omega),Yl,if_pos rfl];exact BC (Py v.lev) (Oe (k:=4) (by omega) _ rfl)
theorem UJ {f:Ha} (m:Sm f.2) (w:Int):FC (f,w)=some (Ml f w):=by
 unfold FC Ml;rw [Sj m,AC];unfold Si;by_cases h0:CI f=0;rotate_left
 ·rw [if_pos h0,if_pos h0,Bg,if_neg h0,AN,if_neg h0]
 have hz:=LD h0;have v:=Bs.1 hz;obtain ⟨s1,s2⟩:=GJ v.lev;have hl:=v.lev.len;have hb:=P0 h0;rw [if_neg (show ¬ CI f≠0 by simp [h0]),if_neg (show ¬ CI f≠0 by simp [h0]),Bg,if_pos rfl,Wr,AC,BW,GX];by_cases h1:K8 w=true;rotate_left
 ·rw [if_neg h1,if_pos (by rw [Sh] at h1;omega)]
 have h2:=Sh.1 h1;rw [if_pos h1,if_neg (by omega),AN,if_pos rfl,Px v.lev,AC,UH ⟨v.lev.B1,v.lev.B2⟩,AC,Wu v.lev,AC];simp only [AX,show AA f.2.1.2=f.2.1.2.length from rfl,show AA f.1.2=f.1.2.length from rfl];refine BC (IB (r:=(0,((((5:Nat):Int),IG (e8 f w) 5),()))) (λk=>((k:Int),IG (e8 f w) k)) 5 rfl (by omega) (λk hk => ?_) rfl) rfl;simp only;rw [BE,if_pos (by omega),AG];rcases iA hk with rfl | rfl | rfl | rfl | rfl
 ·rw [Ar,if_pos rfl];exact Of (k:=0) (by omega) _ rfl
 ·rw [Ar,if_neg (by omega),Ar,if_pos rfl];exact Of (k:=1) (by omega) _ (by rw [NQ (by omega)];rfl)
 ·rw [Ar,if_neg (by omega),Ar,if_neg (by omega),Ar,if_pos rfl];exact Of (k:=2) (by omega) _ (by rw [A9 (by omega)];unfold e8;congr 1)
 ·rw [Ar,if_neg (by omega),Ar,if_neg (by omega),Ar,if_neg (by omega),Ar,if_pos rfl];exact Of (k:=3) (by omega) _ rfl
 ·rw [Ar,if_neg (by omega),Ar,if_neg (by omega),Ar,if_neg (by omega),Ar,if_neg (by omega),Yl,if_pos rfl];exact Of (k:=4) (by omega) _ rfl
theorem UK (l:List Int) (h:l.length<=1000):Em (l,l)=some true:=by
 unfold Em;simp only [AX,AR];rw [AN,if_pos rfl];refine BC (IB (r:=(1,(((l.length:Int),false),()))) (λk=>((k:Int),false)) l.length rfl (by omega) (λk hk => ?_) (by simp only;rw [re];rfl)) rfl;simp only;rw [rl hk,AM,AG,AJ (x:=l[k]) (List.getElem?_eq_getElem hk),AG,AJ (x:=l[k]) (List.getElem?_eq_getElem hk),AN,if_pos rfl,Ad (by omega)]
theorem e9:E8 ()=some true:=by kernel_rfl
theorem boundsFronts (x:Ha×Int) (hx : ∀ rs∈x.1.2.1.2,∀ r∈rs,r.2.length<=9223372036854775807):C7 x=some true:=by
 obtain ⟨f,w⟩:=x;unfold C7;obtain ⟨b,e,hb⟩:=ZM f hx;rw [e,AC,e9];cases b with
 | true=>rfl
 | false =>
  have m:=hb rfl;rw [Av,ez m,AC,Sj m,AC,ZN m,AC,UJ m,AC]
  have hl:(Ml f w).1.length<=1000:=by
   unfold Ml;split
   ·simp
   ·split
    ·simp
    ·have:=Ly (e8 f w) 5;simp only;omega
  rw [UK _ hl,AC];rw [Bg,if_pos rfl,Bg,if_pos rfl,Bg,if_pos rfl,AM,Bg,if_pos rfl];rfl
end Go.Proofs.YthpkjfabdccpdaaGreat.Pl
