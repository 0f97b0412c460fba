/- Functions of the program and of the specification as plain functions, and laws about them. No condition. -/
import Derived.Test.YthpkjfabdccpdaaGreatPl1
import Derived.KernelRfl
set_option linter.all false
namespace Go.Proofs.YthpkjfabdccpdaaGreat.Pl
open Go Go.Proofs.YthpkjfabdccpdaaGreat.Sv
set_option linter.unusedVariables false
def Cr (x:(List AB)):Option Bool :=
 bd (loop (λs0=>br (Ae s0.1 (AW (AA x))) (λ_=>br (Ae s0.1 80) (λ_=>AP s0.1 λk1=>ix x k1 λx2=>br (B6 (AW (Fx x2.1)) 100) (λ_=>some (.dn ((0,((s0.1,true),()))))) λ_=>AP s0.1 λk3=>ix x k3 λx4=>br (B6 (AW (Fx x4.2.1)) 100) (λ_=>some (.dn ((0,((s0.1,true),()))))) λ_=>some (.nx (AH .i64 s0.1 1,s0.2))) λ_=>some (.dn ((1,(s0,()))))) λ_=>some (.dn ((1,(s0,()))))) (0,false)) λr5=>br (neq r5.1 0) (λ_=>some r5.2.1.2) λ_=>some (B6 (AW (AA x)) 70)
def Db (x:(List AB)):Option Bool :=
 bd (loop (λs0=>br (Ae s0.1 (AW (AA x))) (λ_=>br (Ae s0.1 40) (λ_=>AP s0.1 λk1=>ix x k1 λx2=>br (B6 (AW (Fx x2.1)) 100) (λ_=>some (.dn ((0,((s0.1,true),()))))) λ_=>AP s0.1 λk3=>ix x k3 λx4=>br (B6 (AW (Fx x4.2.1)) 100) (λ_=>some (.dn ((0,((s0.1,true),()))))) λ_=>some (.nx (AH .i64 s0.1 1,s0.2))) λ_=>some (.dn ((1,(s0,()))))) λ_=>some (.dn ((1,(s0,()))))) (0,false)) λr5=>br (neq r5.1 0) (λ_=>some r5.2.1.2) λ_=>some (B6 (AW (AA x)) 30)
def C4 (x:(List Ao)):Option Bool :=
 bd (loop (λs0=>br (Ae s0.1 (AW (AA x))) (λ_=>br (Ae s0.1 10) (λ_=>AP s0.1 λk1=>ix x k1 λx2=>bd (Db x2.2) λr3=>br r3 (λ_=>some (.dn ((0,((s0.1,true),()))))) λ_=>some (.nx (AH .i64 s0.1 1,s0.2))) λ_=>some (.dn ((1,(s0,()))))) λ_=>some (.dn ((1,(s0,()))))) (0,false)) λr4=>br (neq r4.1 0) (λ_=>some r4.2.1.2) λ_=>some (B6 (AW (AA x)) 6)
def Gj (x:AL):Option Bool :=
 bd (loop (λs0=>br (Ae s0.1 (AW (AA x.2))) (λ_=>br (Ae s0.1 20) (λ_=>AP s0.1 λk1=>ix x.2 k1 λx2=>bd (C4 x2) λr3=>br r3 (λ_=>some (.dn ((0,((s0.1,true),()))))) λ_=>some (.nx (AH .i64 s0.1 1,s0.2))) λ_=>some (.dn ((1,(s0,()))))) λ_=>some (.dn ((1,(s0,()))))) (0,false)) λr4=>br (neq r4.1 0) (λ_=>some r4.2.1.2) λ_=>some (B6 (AW (AA x.2)) 14)
def Gk (x:(AL×((List (Int×(AT×((Bool×AR)×((List AB)×Int)))))×Int))):Option Bool :=
 bd (loop (λs0=>br (Ae s0.1 (AW (AA x.2.1))) (λ_=>br (Ae s0.1 20) (λ_=>AP s0.1 λk1=>ix x.2.1 k1 λx2=>bd (loop (λs3=>br (Ae s3.1 (AW (AA x2.2.1.1))) (λ_=>br (Ae s3.1 10) (λ_=>AP s3.1 λk4=>ix x2.2.1.1 k4 λx5=>bd (Cr x5) λr6=>br r6 (λ_=>some (.dn ((0,((s3.1,true),()))))) λ_=>some (.nx (AH .i64 s3.1 1,s3.2))) λ_=>some (.dn ((1,(s3,()))))) λ_=>some (.dn ((1,(s3,()))))) (0,s0.2)) λr7=>br (neq r7.1 0) (λ_=>some (.dn ((1,((s0.1,r7.2.1.2),()))))) λ_=>bd (Cr x2.2.2.2.1) λr8=>br r8 (λ_=>some (.dn ((1,((s0.1,true),()))))) λ_=>br (B6 (AW (AA x2.2.1.1)) 6) (λ_=>some (.dn ((1,((s0.1,true),()))))) λ_=>br (B6 (AW (AA x2.2.1.2.1)) 40) (λ_=>some (.dn ((1,((s0.1,true),()))))) λ_=>br (B6 (AW (AA x2.2.1.2.2.1)) 40) (λ_=>some (.dn ((1,((s0.1,true),()))))) λ_=>br (B6 (AW (AA x2.2.1.2.2.2.1)) 40) (λ_=>some (.dn ((1,((s0.1,true),()))))) λ_=>br (B6 (AW (Fx x2.2.2.1.2.1)) 200) (λ_=>some (.dn ((1,((s0.1,true),()))))) λ_=>some (.nx (AH .i64 s0.1 1,r7.2.1.2))) λ_=>some (.dn ((0,(s0,()))))) λ_=>some (.dn ((0,(s0,()))))) (0,false)) λr9=>br (neq r9.1 0) (λ_=>br (B6 (AW (AA x.2.1)) 14) (λ_=>some true) λ_=>bd (Gj x.1) λr10=>some r10) λ_=>some r9.2.1.2
def F9 (x:(AL×Int)):Option Int :=
 bd (DA x.1) λr0=>br (Ai r0.2.2 0) (λ_=>some r0.2.2) λ_=>br (Ae x.2 0) (λ_=>some 7) λ_=>br (Hf x.2 12) (λ_=>some 7) λ_=>some 0
def CF (x:(AL×Int)):Option (Bool×Int) :=
 bd (F9 x) λr0=>br (Ai r0 0) (λ_=>some (false,r0)) λ_=>br (Ae x.2 (AW (AA x.1.2))) (λ_=>AP x.2 λk1=>ix x.1.2 k1 λx2=>some ((Ae (AW (AA x2)) 2,0))) λ_=>some (true,0)
def Ea (x:(AL×(Int×(List Ao)))):Option AL :=
 AP (Kq (AW (AA x.1.2)) (AH .i64 x.2.1 1)) λk0=>AP (Kq (AW (AA x.1.2)) (AH .i64 x.2.1 1)) λk1=>gd (Aj k1 1048576) λ_=>AP x.2.1 λk2=>gd (CD k2 (AA (DJ (CO k1 ([]:List Ao)) 0 x.1.2 (AA (CO k1 ([]:List Ao)))))) λ_=>ix (DJ (CO k1 ([]:List Ao)) 0 x.1.2 (AA (CO k1 ([]:List Ao)))) k2 λx3=>bd (loop (λs4=>br (B6 s4 0) (λ_=>AP (BF .i64 s4 1) λk5=>gd (CD k5 (AA (lset (DJ (CO k1 ([]:List Ao)) 0 x.1.2 (AA (CO k1 ([]:List Ao)))) k2 x.2.2))) λ_=>ix (lset (DJ (CO k1 ([]:List Ao)) 0 x.1.2 (AA (CO k1 ([]:List Ao)))) k2 x.2.2) k5 λx6=>br (BJ (AW (AA x6)) 0) (λ_=>some (.nx (BF .i64 s4 1))) λ_=>some (.dn ((0,(s4,()))))) λ_=>some (.dn ((0,(s4,()))))) (AW (AA (lset (DJ (CO k1 ([]:List Ao)) 0 x.1.2 (AA (CO k1 ([]:List Ao)))) k2 x.2.2)))) λr7=>AP r7.2.1 λk8=>gd (Aj k8 (AA (lset (DJ (CO k1 ([]:List Ao)) 0 x.1.2 (AA (CO k1 ([]:List Ao)))) k2 x.2.2))) λ_=>gd (Aj 0 k8) λ_=>br (CD 0 (AA (lset (DJ (CO k1 ([]:List Ao)) 0 x.1.2 (AA (CO k1 ([]:List Ao)))) k2 x.2.2))) (λ_=>gd (Aj (AK 0 (CL k8 0)) (AA (lset (DJ (CO k1 ([]:List Ao)) 0 x.1.2 (AA (CO k1 ([]:List Ao)))) k2 x.2.2))) λ_=>some ((x.1.1,B0 (lset (DJ (CO k1 ([]:List Ao)) 0 x.1.2 (AA (CO k1 ([]:List Ao)))) k2 x.2.2) 0 (AK 0 (CL k8 0))))) λ_=>some (x.1.1,[])
def DT (x:(AL×(Int×Ao))):Option (AL×Int) :=
 bd (F9 (x.1,x.2.1)) λr0=>br (Ai r0 0) (λ_=>some (((0,[]),r0))) λ_=>gd (Hf x.2.1 0) λ_=>bd (Cu (x.2.2,Ur .i64 x.1.1 x.2.1)) λr1=>br (Ai r1 0) (λ_=>some (((0,[]),r1))) λ_=>bd (loop (λ(s2:(Int×(AL×Int)))=>br (Ae s2.1 (AW (AA x.1.2))) (λ_=>AP s2.1 λk3=>ix x.1.2 k3 λx4=>bd (loop (λ(s5:(Int×(AL×Int)))=>br (Hf s5.1 0) (λ_=>AP s5.1 λk6=>ix x4 k6 λx7=>br (BJ x7.1 x.2.2.1) (λ_=>some (.dn ((1,((s5.1,((0,[]),8)),()))))) λ_=>some (.nx (BF .i64 s5.1 1,s5.2))) λ_=>some (.dn ((0,(s5,()))))) ((BF .i64 (AW (AA x4)) 1,s2.2))) λr8=>br (neq r8.1 0) (λ_=>some (.nx (AH .i64 s2.1 1,r8.2.1.2))) λ_=>some (.dn ((1,((s2.1,r8.2.1.2),()))))) λ_=>some (.dn ((0,(s2,()))))) ((0,((0,[]),0)))) λr9=>br (neq r9.1 0) (λ_=>br (Ae x.2.1 (AW (AA x.1.2))) (λ_=>AP x.2.1 λk10=>ix x.1.2 k10 λx11=>br (BJ (AW (AA x11)) 2) (λ_=>some (((0,[]),5))) λ_=>AP (AW (AA x11)) λk12=>AP (AW (AA x11)) λk13=>gd (Aj k12 (AA x11)) λ_=>gd (neq k12 k13) λ_=>gd (Aj 0 k12) λ_=>gd (Aj (AK (AA (B0 x11 0 k12)) (AA [x.2.2])) 1048576) λ_=>bd (Ea ((x.1,(x.2.1,Bl (B0 x11 0 k12) [x.2.2])))) λr14=>some (r14,0)) λ_=>gd (Aj (AA [x.2.2]) 1048576) λ_=>bd (Ea ((x.1,(x.2.1,[x.2.2])))) λr15=>some (r15,0)) λ_=>some r9.2.1.2
def Gl (x:(AL×Int)):Option ((Int×(AT×((Bool×AR)×((List AB)×Int))))×Int) :=
 bd (DA x.1) λr0=>br (Ai r0.2.2 0) (λ_=>some (((0,(([],([],([],([],0)))),((false,([],false)),([],0)))),r0.2.2))) λ_=>br (Ae x.2 0) (λ_=>some (((0,(([],([],([],([],0)))),((false,([],false)),([],0)))),7))) λ_=>br (Hf x.2 12) (λ_=>some (((0,(([],([],([],([],0)))),((false,([],false)),([],0)))),7))) λ_=>br (Hf x.2 (AW (AA x.1.2))) (λ_=>some (((0,(([],([],([],([],0)))),((false,([],false)),([],0)))),4))) λ_=>AP x.2 λk1=>ix x.1.2 k1 λx2=>br (Ae (AW (AA x2)) 2) (λ_=>some (((0,(([],([],([],([],0)))),((false,([],false)),([],0)))),4))) λ_=>bd (Cv x) λr3=>bd (CX ((x.1,(x.2,r3)))) λr4=>some (r4,0)
def D4 (x:((AL×((List (Int×(AT×((Bool×AR)×((List AB)×Int)))))×Int))×(AL×(Int×Int)))):Option ((AL×((List (Int×(AT×((Bool×AR)×((List AB)×Int)))))×Int))×Int) :=
 bd (loop (λ(s0:(Int×(List (Int×(Int×(AT×((Bool×AR)×((List AB)×Int))))))))=>br (Ae s0.1 (AW (AA x.1.2.1))) (λ_=>AP s0.1 λk1=>ix x.1.2.1 k1 λx2=>some (.nx ((AH .i64 s0.1 1,IA ((λa3=>(λa4=>BJ a3 a4))) s0.2 x2.1 x2)))) λ_=>some (.dn ((0,(s0,()))))) (0,[])) λr5=>bd (loop (λ(s6:(Int×(Int×((Int×((List (List Ao))×((List (Int×(AT×((Bool×AR)×((List AB)×Int)))))×Int)))×(Int×((List (List Ao))×((List (Int×(AT×((Bool×AR)×((List AB)×Int)))))×Int)))))))=>br (Ae s6.2.1 (AW (AA x.2.1.2))) (λ_=>AP s6.2.1 λk7=>ix x.2.1.2 k7 λx8=>br (Ae (AW (AA x8)) 2) (λ_=>some (.nx ((s6.1,(AH .i64 s6.2.1 1,s6.2.2))))) λ_=>br (AY (lU (Is ((λa9=>(λa10=>BJ a9 a10))) (Jw ((λa11=>(λa12=>BJ a11 a12))) r5.2.1.2 x.2.2.2) s6.2.1))) (λ_=>bd (Gl (x.2.1,s6.2.1)) λr13=>br (Ai r13.2 0) (λ_=>some (.dn ((1,((r13.2,(s6.2.1,((0,([],([],0))),s6.2.2.2))),()))))) λ_=>gd (Aj (AK (AA s6.2.2.2.2.2.1) (AA [r13.1])) 1048576) λ_=>some (.nx ((s6.1,(AH .i64 s6.2.1 1,(s6.2.2.1,(s6.2.2.2.1,(s6.2.2.2.2.1,(Bl s6.2.2.2.2.2.1 [r13.1],s6.2.2.2.2.2.2))))))))) λ_=>gd (Aj (AK (AA s6.2.2.2.2.2.1) (AA ([P8 (Is (λa b=>BJ a b) (Jw (λa b=>BJ a b) r5.2.1.2 x.2.2.2) s6.2.1) (0,(([],([],([],([],0)))),((false,([],false)),([],0))))]))) 1048576) λ_=>some (.nx ((s6.1,(AH .i64 s6.2.1 1,(s6.2.2.1,(s6.2.2.2.1,(s6.2.2.2.2.1,(Bl s6.2.2.2.2.2.1 ([P8 (Is (λa b=>BJ a b) (Jw (λa b=>BJ a b) r5.2.1.2 x.2.2.2) s6.2.1) (0,(([],([],([],([],0)))),((false,([],false)),([],0))))]),s6.2.2.2.2.2.2))))))))) λ_=>some (.dn ((0,(s6,()))))) ((0,(0,((0,([],([],0))),(x.2.1.1,(x.2.1.2,([],x.2.2.1)))))))) λr102=>br (neq r102.1 0) (λ_=>some ((((r102.2.1.2.2.2.1,r102.2.1.2.2.2.2.1),r102.2.1.2.2.2.2.2),0))) λ_=>some ((((r102.2.1.2.2.1.1,r102.2.1.2.2.1.2.1),r102.2.1.2.2.1.2.2),r102.2.1.1))
end Go.Proofs.YthpkjfabdccpdaaGreat.Pl
namespace Go.Proofs.YthpkjfabdccpdaaGreat.Pl
open Go Go.Proofs.YthpkjfabdccpdaaGreat.Sv
def JobAt (L:AL) (n:Nat) (j:Hj):Prop := ∃ r0 r1 bt k,L.2[n]? = some [r0,r1]/\j=((n:Int),El r1.2 r0.2 bt k)/\k<=r1.2.length+r0.2.length/\(bt=true->n+1=L.2.length)/\VL r0.2/\VL r1.2
structure VSt (s:BC):Prop where
 lev:VLev s.1
 n1:1<=s.2.2
 n2:s.2.2<=1000001
 n3:FN s.1.2<s.2.2
 due:s.2.1.map (·.1)=Bc 0 s.1.2
 job : ∀ j∈s.2.1,∃ n,JobAt s.1 n j
theorem km (a b:List AB) (bt:Bool) (k:Nat):(El a b bt k).2.1.2.2=bt:=by
 show (CT (s0 bt) (A4 a b k)).2.2=bt;rw [GY]
theorem Pk {L:AL} (v:VLev L) {i:Nat} {j:Hj}:K6 L (Bc 0 L.2) i j=false <-> ∃ n,(Bc 0 L.2)[i]? = some j.1/\JobAt L n j:=by
 constructor
 ·intro h;unfold K6 at h;cases hd:(Bc 0 L.2)[i]? with
  | none=>rw [hd] at h;cases h
  | some d =>
   rw [hd] at h;simp only at h;by_cases h1:j.1=d;rotate_left
   ·rw [if_pos h1] at h;cases h
   rw [if_neg (by simp [h1])] at h;by_cases h2:j.2.2.1.2.2=true/\j.1≠(L.2.length:Int)-1
   ·rw [if_pos h2] at h;cases h
   rw [if_neg h2] at h;obtain ⟨n,hn,r0,r1,hl⟩:=Ho hd;rw [Nat.zero_add] at hn;rw [hn,Int.toNat_natCast,hl] at h;simp only at h;by_cases h3:j.2.2.2.2<0\/j.2.2.2.2>((r1.2.length+r0.2.length:Nat):Int)
   ·rw [if_pos h3] at h;cases h
   rw [if_neg h3] at h;have h4:El r1.2 r0.2 j.2.2.1.2.2 j.2.2.2.2.toNat=j.2:=by simpa using h
   have hv:=(v.lev n _ hl).2;refine ⟨n,by rw [h1],r0,r1,j.2.2.1.2.2,j.2.2.2.2.toNat,hl,Prod.ext (by rw [h1,hn]) h4.symm,by omega,λhb => ?_,(hv r0 (by simp)).vl,(hv r1 (by simp)).vl⟩
   have h5:j.1=(L.2.length:Int)-1:=by
    by_cases h6:j.1=(L.2.length:Int)-1
    ·exact h6
    ·exact absurd ⟨hb,h6⟩ h2
   omega
 ·rintro ⟨n,hd,r0,r1,bt,k,hl,rfl,hk,hb,v0,v1⟩;unfold K6;rw [hd];simp only;rw [if_neg (by simp),km,if_neg (λh:bt=true/\(n:Int)≠(L.2.length:Int)-1=>h.2 (by have:=hb h.1;omega)),Int.toNat_natCast,hl];simp only;rw [show (El r1.2 r0.2 bt k).2.2.2=(k:Int) from rfl,if_neg (by omega),Int.toNat_natCast];simp
theorem KV {L:AL} {due:List Int} : ∀ {js:List Hj} {i:Nat},F3 L due i js=none <-> ∀ k j,js[k]? = some j->K6 L due (i+k) j=false
 | [],i=>by simp [F3]
 | j::js,i=>by
  unfold F3;by_cases h:K6 L due i j=true
  ·rw [if_pos h];simp only [reduceCtorEq,false_iff];intro h2;have:=h2 0 j rfl;rw [Nat.add_zero,h] at this;cases this
  ·rw [if_neg h,KV (js:=js)];constructor
   ·intro h2 k j' hk;cases k with
    | zero=>cases hk;simpa using h
    | succ k=>rw [show i+(k+1)=i+1+k by omega];exact h2 k j' hk
   ·intro h2 k j' hk;rw [show i+1+k=i+(k+1) by omega];exact h2 (k+1) j' hk
theorem IW {s:BC}:(Bj s).2=0<->VSt s:=by
 unfold Bj;constructor
 ·intro h;by_cases h0:(Em s.1).2.2≠0
  ·rw [if_pos h0] at h;exact absurd h h0
  rw [if_neg h0] at h;have v:=IV.1 (Decidable.not_not.1 h0);by_cases h1:s.2.2<1\/s.2.2>1000001
  ·rw [if_pos h1] at h;cases h
  rw [if_neg h1] at h;by_cases h2:s.2.2<=FN s.1.2
  ·rw [if_pos h2] at h;cases h
  rw [if_neg h2] at h;cases hg:F3 s.1 (Bc 0 s.1.2) 0 s.2.1 with
  | some i=>rw [hg] at h;cases h
  | none =>
   rw [hg] at h;simp only at h;by_cases h3:s.2.1.length<(Bc 0 s.1.2).length
   ·rw [if_pos h3] at h;cases h
   have hj:=KV.1 hg
   have hj2 : ∀ k j,s.2.1[k]? = some j -> ∃ n,(Bc 0 s.1.2)[k]? = some j.1/\JobAt s.1 n j:=λk j hk=>by
    have:=hj k j hk;rw [Nat.zero_add] at this;exact (Pk v).1 this
   refine ⟨v,by omega,by omega,by omega,?_,λj hm => ?_⟩
   ·apply List.ext_getElem?;intro k;rw [List.getElem?_map];cases hk:s.2.1[k]? with
    | some j=>obtain ⟨n,e,_⟩:=hj2 k j hk;rw [e];rfl
    | none =>
     have:=List.getElem?_eq_none_iff.1 hk;rw [List.getElem?_eq_none (by omega)];rfl
   ·obtain ⟨k,hk⟩:=List.getElem?_of_mem hm;obtain ⟨n,_,h⟩:=hj2 k j hk;exact ⟨n,h⟩
 ·intro v;rw [if_neg (by simp [IV.2 v.lev]),if_neg (by have:=v.n1;have:=v.n2;omega),if_neg (by have:=v.n3;omega)]
  have hg:F3 s.1 (Bc 0 s.1.2) 0 s.2.1=none:=KV.2 λk j hk=>by
   rw [Nat.zero_add];obtain ⟨n,hn⟩:=v.job j (List.mem_of_getElem? hk);exact (Pk v.lev).2 ⟨n,by rw [<- v.due,List.getElem?_map,hk];rfl,hn⟩
  rw [hg];simp only;rw [if_neg (by rw [<- v.due];simp)]
structure Sm (s:BC):Prop where
 lv:s.1.2.length<=1048576
 rs : ∀ rs∈s.1.2,rs.length<=1048576 /\ ∀ r∈rs,r.2.length<=9223372036854775807
 js:s.2.1.length<=1048576
theorem nk {s:BC} (m:Sm s):Bv s=some (Bj s):=Ve s m.lv m.rs m.js
theorem lx {s:BC} (m:Sm s):Dk s=some (Bj s):=UB s m.lv m.rs m.js
theorem VSt.jlen {s:BC} (v:VSt s):s.2.1.length=(Bc 0 s.1.2).length:=by rw [<- v.due];simp
theorem VSt.jsmall {s:BC} (v:VSt s):s.2.1.length<=12:=by
 have:=v.jlen;have:=F8 s.1.2 0;have:=v.lev.len;omega
theorem VSt.sm {s:BC} (v:VSt s):Sm s:=⟨v.lev.small.1,v.lev.small.2,by have:=v.jsmall;omega⟩
def nU (x:Int):Nat->List Int->Option Nat
 | _,[]=>none
 | k,y::l=>if y=x then some k else nU x (k+1) l
theorem cB {x:Int} : ∀ {l:List Int} {k i:Nat},nU x k l=some i->k<=i/\l[i-k]? = some x
 | [],_,_,h=>by cases h
 | y::l,k,i,h=>by
  unfold nU at h;by_cases e:y=x
  ·rw [if_pos e] at h;cases h;simp [e]
  ·rw [if_neg e] at h;obtain ⟨h1,h2⟩:=cB h;exact ⟨by omega,by rw [show i-k=(i-(k+1))+1 by omega];simpa using h2⟩
end Go.Proofs.YthpkjfabdccpdaaGreat.Pl
namespace Go.Proofs.YthpkjfabdccpdaaGreat.Pl
open Go Go.Proofs.YthpkjfabdccpdaaGreat.Sv
def UC (L:AL) (j:Hj):Nat:=match L.2[j.1.toNat]? with
 | some [r0,r1]=>r1.2.length+r0.2.length-j.2.2.2.2.toNat
 | _=>0
def kn (L:AL) (j:Hj):Bool:=decide ((j.2.2.2.1.length:Int)<=Bn L.1 j.1.toNat)
def UD (L:AL) (n:Nat):Bool:=decide (n<12/\((L.2[n]?).getD []).length<2)
theorem VSt.at {s:BC} (v:VSt s) {level:Int} {i:Nat} (h:nU level 0 (Bc 0 s.1.2)=some i) : ∃ (j:Hj) (n:Nat),s.2.1[i]? = some j/\level=(n:Int)/\j.1=(n:Int)/\JobAt s.1 n j/\n<s.1.2.length:=by
 obtain ⟨_,h1⟩:=cB h;rw [Nat.sub_zero] at h1;rw [<- v.due,List.getElem?_map] at h1;cases hj:s.2.1[i]? with
 | none=>rw [hj] at h1;cases h1
 | some j =>
  rw [hj] at h1;simp only [Option.map_some,Option.some.injEq] at h1;obtain ⟨n,hn⟩:=v.job j (List.mem_of_getElem? hj);have hn0:=hn;obtain ⟨r0,r1,bt,k,hl,e,_⟩:=hn;have h2:j.1=(n:Int):=by rw [e]
  exact ⟨j,n,rfl,by rw [<- h1,h2],h2,hn0,(List.getElem?_eq_some_iff.1 hl).1⟩
theorem JobAt.left {L:AL} {n:Nat} {j:Hj} (h:JobAt L n j):B5 j.2=some ((UC L j:Int),0)/\BL j.2=some ((UC L j:Int),0)/\UC L j<=10000:=by
 obtain ⟨r0,r1,bt,k,hl,rfl,hk,_,v0,v1⟩:=h;have l0:=v0.len;have l1:=v1.len
 have e:UC L ((n:Int),El r1.2 r0.2 bt k)=r1.2.length+r0.2.length-k:=by
  unfold UC;simp only [Int.toNat_natCast,hl];show r1.2.length+r0.2.length-((k:Int)).toNat=_;rw [Int.toNat_natCast]
 rw [e];exact ⟨Nf v1 v0 bt hk,Lw v1 v0 bt hk,by omega⟩
theorem Xg {L:AL} (v:VLev L) (k:Int):F9 (L,k)=some (if k<0\/k>=12 then 7 else 0):=by
 obtain ⟨hb,hr⟩:=v.small;unfold F9;rw [Lt _ hb hr,Ga v,AC,AN,if_pos rfl,BD,D0];by_cases h1:k<0
 ·rw [if_pos h1,if_pos (.inl h1)]
 ·rw [if_neg h1];by_cases h2:k>=12
  ·rw [if_pos h2,if_pos (.inr h2)]
  ·rw [if_neg h2,if_neg (by omega)]
theorem ko (l:List Ao):Ae (l.length:Int) 2=decide (l.length<2):=by
 unfold Ae;rw [decide_eq_decide];omega
theorem Q0 {L:AL} (v:VLev L) {n:Nat} (hn:n<=12):CF (L,(n:Int))=some (UD L n,if n>=12 then 7 else 0):=by
 unfold CF UD;simp only [AU,AO];rw [Xg v,AC,AN];by_cases h:n>=12
 ·rw [if_pos (show (n:Int)<0\/(n:Int)>=12 by omega),if_neg (by decide),if_pos h];simp;omega
 ·rw [if_neg (show ¬ ((n:Int)<0\/(n:Int)>=12) by omega),if_pos rfl,if_neg h,BD];have h12:n<12:=by omega
  by_cases h2:n<L.2.length
  ·have hx:L.2[n]? = some (L.2[n]'h2):=by simp
   rw [if_pos (by omega),AE,AI hx,hx,ko,Option.getD_some];simp [h12]
  ·rw [if_neg (by omega),List.getElem?_eq_none (by omega)];simp [h12]
end Go.Proofs.YthpkjfabdccpdaaGreat.Pl
namespace Go.Proofs.YthpkjfabdccpdaaGreat.Pl
open Go Go.Proofs.YthpkjfabdccpdaaGreat.Sv
end Go.Proofs.YthpkjfabdccpdaaGreat.Pl
namespace Go.Proofs.YthpkjfabdccpdaaGreat.Pl
open Go Go.Proofs.YthpkjfabdccpdaaGreat.Sv
theorem I8 {α β σ S:Type} {l:List α} (c:Nat) (hc9:c<=1000) (mk:Nat->σ->S) (I:Nat->σ->Prop) (Q:β->Prop) {f:S->Option (LR S β)} {s:S} (st:σ) (h0:s=mk 0 st) (hi:I 0 st)
  (hn : ∀ k st,(k=l.length\/k=c)->k<=l.length->I k st -> ∃ r,f (mk k st)=some (.dn r)/\Q r)
  (hc : ∀ k x st,l[k]? = some x->k<c->I k st->(∃ st',f (mk k st)=some (.nx (mk (k+1) st'))/\I (k+1) st') \/ ∃ r,f (mk k st)=some (.dn r)/\Q r) : ∃ r,loop f s=some r/\Q r:=by
 refine EF (l:=l.take c) mk (λ_ k st=>I k st/\k<=(l.take c).length) Q st h0 (by simp;omega) ⟨hi,by omega⟩ (λst h=>hn _ st (by simp;omega) (by simp;omega) h.1) (λk x m st hd hx hk h => ?_);have hk2:k<c:=by simp at hk;omega
 have hx2:l[k]? = some x:=by rw [List.getElem?_take] at hx;rw [if_pos hk2] at hx;exact hx
 rcases hc k x st hx2 hk2 h.1 with ⟨st',h1,h2⟩ | h1
 ·exact .inl ⟨st',h1,h2,by omega⟩
 ·exact .inr h1
theorem Q3 {k c:Nat} (h:k<c):Ae (k:Int) (c:Int)=true:=by unfold Ae;simp;omega
theorem Yp {α β:Type} {l:List α} {k c:Nat} (h:k=l.length\/k=c) (hk:k<=l.length) (A B C:Option β) (e:B=C):br (Ae (k:Int) (l.length:Int)) (λ_=>br (Ae (k:Int) (c:Int)) (λ_=>A) λ_=>B) (λ_=>C)=C:=by
 rw [BD];by_cases h1:(k:Int)<(l.length:Int)
 ·rw [if_pos h1,BD,if_neg (by omega),e]
 ·rw [if_neg h1]
theorem Nj (l:List AB) : ∃ b,Db l=some b/\(b=false->l.length<=30):=by
 unfold Db;simp only [AU,AO]
 obtain ⟨r,q1,q2⟩:=I8 (l:=l) (σ:=Unit) (s:=((0:Int),false)) 40 (by omega) (λk _=>((k:Int),false)) (λ_ _=>True) (λ(r:Nat×((Int×Bool)×Unit))=>r.1=1\/(r.1=0/\r.2.1.2=true))
  (f:=λs0=>br (Ae s0.1 (l.length:Int)) (λ_=>br (Ae s0.1 40) (λ_=>AP s0.1 λk1=>ix l k1 λx2=>br (B6 (Fx x2.1:Int) 100) (λ_=>some (.dn ((0,((s0.1,true),()))))) λ_=>AP s0.1 λk3=>ix l k3 λx4=>br (B6 (Fx x4.2.1:Int) 100) (λ_=>some (.dn ((0,((s0.1,true),()))))) λ_=>some (.nx (AH .i64 s0.1 1,s0.2))) λ_=>some (.dn ((1,(s0,()))))) λ_=>some (.dn ((1,(s0,())))))
  () rfl trivial (λk _ h hk _=>⟨_,(Yp (c:=40) h hk _ _ _ rfl),.inl rfl⟩) (λk x _ hx hk _=>by
   simp only;have hk2:=(List.getElem?_eq_some_iff.1 hx).1;rw [rl hk2,AM,show Ae (k:Int) 40=true from Q3 hk,AM,AE,AI hx,Av,AE,AI hx,Av,AZ (by omega)]
   repeat' split
   all_goals first | exact .inr ⟨_,rfl,.inr ⟨rfl,rfl⟩⟩ | exact .inl ⟨(),rfl,trivial⟩)
 rw [q1,AC,CS];rcases q2 with q2 | ⟨q2,q3⟩
 ·rw [if_neg (show ¬ r.1=0 by omega)];exact ⟨_,rfl,λh=>by unfold B6 at h;simp at h;omega⟩
 ·rw [if_pos q2,q3];exact ⟨_,rfl,λh=>by cases h⟩
theorem UE (l:List Ao) : ∃ b,C4 l=some b/\(b=false->l.length<=6 /\ ∀ r∈l,r.2.length<=30):=by
 unfold C4;simp only [AU,AO]
 obtain ⟨r,q1,q2⟩:=I8 (l:=l) (σ:=Unit) (s:=((0:Int),false)) 10 (by omega) (λk _=>((k:Int),false)) (λk _ => ∀ i x,i<k->l[i]? = some x->x.2.length<=30) (λ(r:Nat×((Int×Bool)×Unit))=>(r.1=1 /\ ∀ i x,i<10->l[i]? = some x->x.2.length<=30)\/(r.1=0/\r.2.1.2=true))
  (f:=λs0=>br (Ae s0.1 (l.length:Int)) (λ_=>br (Ae s0.1 10) (λ_=>AP s0.1 λk1=>ix l k1 λx2=>bd (Db x2.2) λr3=>br r3 (λ_=>some (.dn ((0,((s0.1,true),()))))) λ_=>some (.nx (AH .i64 s0.1 1,s0.2))) λ_=>some (.dn ((1,(s0,()))))) λ_=>some (.dn ((1,(s0,())))))
  () rfl (λi x h=>by omega) (λk _ h hk hI=>⟨_,(Yp (c:=10) h hk _ _ _ rfl),.inl ⟨rfl,λi x hi hx=>hI i x (by have:=(List.getElem?_eq_some_iff.1 hx).1;omega) hx⟩⟩) (λk x _ hx hk hI=>by
   simp only;have hk2:=(List.getElem?_eq_some_iff.1 hx).1;obtain ⟨b,e,hb⟩:=Nj x.2;rw [rl hk2,AM,show Ae (k:Int) 10=true from Q3 hk,AM,AE,AI hx,e,AC,AZ (by omega)];cases b with
   | true=>exact .inr ⟨_,rfl,.inr ⟨rfl,rfl⟩⟩
   | false =>
    refine .inl ⟨(),rfl,λi y hi hy => ?_⟩;by_cases h:i=k
    ·subst h;rw [hx] at hy;cases hy;exact hb rfl
    ·exact hI i y (by omega) hy)
 rw [q1,AC,CS];rcases q2 with ⟨q2,q3⟩ | ⟨q2,q3⟩
 ·rw [if_neg (show ¬ r.1=0 by omega)];refine ⟨_,rfl,λh => ?_⟩;have hl:l.length<=6:=by unfold B6 at h;simp at h;omega
  exact ⟨hl,λr hr=>by
   obtain ⟨i,hi⟩:=List.getElem?_of_mem hr
   exact q3 i r (by have:=(List.getElem?_eq_some_iff.1 hi).1;omega) hi⟩
 ·rw [if_pos q2,q3];exact ⟨_,rfl,λh=>by cases h⟩
theorem Yq (L:AL) : ∃ b,Gj L=some b/\(b=false->L.2.length<=14 /\ ∀ rs∈L.2,rs.length<=6 /\ ∀ r∈rs,r.2.length<=30):=by
 unfold Gj;simp only [AU,AO]
 obtain ⟨r,q1,q2⟩:=I8 (l:=L.2) (σ:=Unit) (s:=((0:Int),false)) 20 (by omega) (λk _=>((k:Int),false)) (λk _ => ∀ i x,i<k->L.2[i]? = some x->x.length<=6 /\ ∀ r∈x,r.2.length<=30) (λ(r:Nat×((Int×Bool)×Unit))=>(r.1=1 /\ ∀ i x,i<20->L.2[i]? = some x->x.length<=6 /\ ∀ r∈x,r.2.length<=30)\/(r.1=0/\r.2.1.2=true))
  (f:=λs0=>br (Ae s0.1 (L.2.length:Int)) (λ_=>br (Ae s0.1 20) (λ_=>AP s0.1 λk1=>ix L.2 k1 λx2=>bd (C4 x2) λr3=>br r3 (λ_=>some (.dn ((0,((s0.1,true),()))))) λ_=>some (.nx (AH .i64 s0.1 1,s0.2))) λ_=>some (.dn ((1,(s0,()))))) λ_=>some (.dn ((1,(s0,())))))
  () rfl (λi x h=>by omega) (λk _ h hk hI=>⟨_,(Yp (c:=20) h hk _ _ _ rfl),.inl ⟨rfl,λi x hi hx=>hI i x (by have:=(List.getElem?_eq_some_iff.1 hx).1;omega) hx⟩⟩) (λk x _ hx hk hI=>by
   simp only;have hk2:=(List.getElem?_eq_some_iff.1 hx).1;obtain ⟨b,e,hb⟩:=UE x;rw [rl hk2,AM,show Ae (k:Int) 20=true from Q3 hk,AM,AE,AI hx,e,AC,AZ (by omega)];cases b with
   | true=>exact .inr ⟨_,rfl,.inr ⟨rfl,rfl⟩⟩
   | false =>
    refine .inl ⟨(),rfl,λi y hi hy => ?_⟩;by_cases h:i=k
    ·subst h;rw [hx] at hy;cases hy;exact hb rfl
    ·exact hI i y (by omega) hy)
 rw [q1,AC,CS];rcases q2 with ⟨q2,q3⟩ | ⟨q2,q3⟩
 ·rw [if_neg (show ¬ r.1=0 by omega)];refine ⟨_,rfl,λh => ?_⟩;have hl:L.2.length<=14:=by unfold B6 at h;simp at h;omega
  exact ⟨hl,λr hr=>by
   obtain ⟨i,hi⟩:=List.getElem?_of_mem hr
   exact q3 i r (by have:=(List.getElem?_eq_some_iff.1 hi).1;omega) hi⟩
 ·rw [if_pos q2,q3];exact ⟨_,rfl,λh=>by cases h⟩
theorem Xh (l:List AB) : ∃ b,Cr l=some b:=by
 unfold Cr;simp only [AU,AO]
 obtain ⟨r,q1,q2⟩:=I8 (l:=l) (σ:=Unit) (s:=((0:Int),false)) 80 (by omega) (λk _=>((k:Int),false)) (λ_ _=>True) (λ(r:Nat×((Int×Bool)×Unit))=>True)
  (f:=λs0=>br (Ae s0.1 (l.length:Int)) (λ_=>br (Ae s0.1 80) (λ_=>AP s0.1 λk1=>ix l k1 λx2=>br (B6 (Fx x2.1:Int) 100) (λ_=>some (.dn ((0,((s0.1,true),()))))) λ_=>AP s0.1 λk3=>ix l k3 λx4=>br (B6 (Fx x4.2.1:Int) 100) (λ_=>some (.dn ((0,((s0.1,true),()))))) λ_=>some (.nx (AH .i64 s0.1 1,s0.2))) λ_=>some (.dn ((1,(s0,()))))) λ_=>some (.dn ((1,(s0,())))))
  () rfl trivial (λk _ h hk _=>⟨_,(Yp (c:=80) h hk _ _ _ rfl),trivial⟩) (λk x _ hx hk _=>by
   simp only;have hk2:=(List.getElem?_eq_some_iff.1 hx).1;rw [rl hk2,AM,show Ae (k:Int) 80=true from Q3 hk,AM,AE,AI hx,Av,AE,AI hx,Av,AZ (by omega)]
   repeat' split
   all_goals first | exact .inr ⟨_,rfl,trivial⟩ | exact .inl ⟨(),rfl,trivial⟩)
 rw [q1,AC,CS];split<;>exact ⟨_,rfl⟩
theorem Yr (s:BC) : ∃ b,Gk s=some b/\(b=false->Sm s /\ ∀ rs∈s.1.2,∀ r∈rs,r.2.length<=30):=by
 unfold Gk;simp only [AU,AO]
 obtain ⟨r,q1,q2⟩:=I8 (l:=s.2.1) (σ:=Unit) (s:=((0:Int),false)) 20 (by omega) (λk _=>((k:Int),false)) (λ_ _=>True) (λ(r:Nat×((Int×Bool)×Unit))=>r.1=0\/(r.1=1/\r.2.1.2=true))
  (f:=λs0=>br (Ae s0.1 (s.2.1.length:Int)) (λ_=>br (Ae s0.1 20) (λ_=>AP s0.1 λk1=>ix s.2.1 k1 λx2=>bd (loop (λs3=>br (Ae s3.1 (x2.2.1.1.length:Int)) (λ_=>br (Ae s3.1 10) (λ_=>AP s3.1 λk4=>ix x2.2.1.1 k4 λx5=>bd (Cr x5) λr6=>br r6 (λ_=>some (.dn ((0,((s3.1,true),()))))) λ_=>some (.nx (AH .i64 s3.1 1,s3.2))) λ_=>some (.dn ((1,(s3,()))))) λ_=>some (.dn ((1,(s3,()))))) (0,s0.2)) λr7=>br (neq r7.1 0) (λ_=>some (.dn ((1,((s0.1,r7.2.1.2),()))))) λ_=>bd (Cr x2.2.2.2.1) λr8=>br r8 (λ_=>some (.dn ((1,((s0.1,true),()))))) λ_=>br (B6 (x2.2.1.1.length:Int) 6) (λ_=>some (.dn ((1,((s0.1,true),()))))) λ_=>br (B6 (x2.2.1.2.1.length:Int) 40) (λ_=>some (.dn ((1,((s0.1,true),()))))) λ_=>br (B6 (x2.2.1.2.2.1.length:Int) 40) (λ_=>some (.dn ((1,((s0.1,true),()))))) λ_=>br (B6 (x2.2.1.2.2.2.1.length:Int) 40) (λ_=>some (.dn ((1,((s0.1,true),()))))) λ_=>br (B6 (Fx x2.2.2.1.2.1:Int) 200) (λ_=>some (.dn ((1,((s0.1,true),()))))) λ_=>some (.nx (AH .i64 s0.1 1,r7.2.1.2))) λ_=>some (.dn ((0,(s0,()))))) λ_=>some (.dn ((0,(s0,())))))
  () rfl trivial (λk _ h hk _=>⟨_,(Yp (c:=20) h hk _ _ _ rfl),.inl rfl⟩) (λk x _ hx hk _=>by
   simp only;have hk2:=(List.getElem?_eq_some_iff.1 hx).1;rw [rl hk2,AM,show Ae (k:Int) 20=true from Q3 hk,AM,AE,AI hx]
   obtain ⟨r,q1,q2⟩:=I8 (l:=x.2.1.1) (σ:=Unit) (s:=((0:Int),false)) 10 (by omega) (λk _=>((k:Int),false)) (λ_ _=>True) (λ(r:Nat×((Int×Bool)×Unit))=>(r.1=1/\r.2.1.2=false)\/(r.1=0/\r.2.1.2=true))
    (f:=λs3=>br (Ae s3.1 (x.2.1.1.length:Int)) (λ_=>br (Ae s3.1 10) (λ_=>AP s3.1 λk4=>ix x.2.1.1 k4 λx5=>bd (Cr x5) λr6=>br r6 (λ_=>some (.dn ((0,((s3.1,true),()))))) λ_=>some (.nx (AH .i64 s3.1 1,s3.2))) λ_=>some (.dn ((1,(s3,()))))) λ_=>some (.dn ((1,(s3,())))))
    () rfl trivial (λk _ h hk _=>⟨_,(Yp (c:=10) h hk _ _ _ rfl),.inl ⟨rfl,rfl⟩⟩) (λk y _ hy hk _=>by
     simp only;have hk2:=(List.getElem?_eq_some_iff.1 hy).1;obtain ⟨b,e⟩:=Xh y;rw [rl hk2,AM,show Ae (k:Int) 10=true from Q3 hk,AM,AE,AI hy,e,AC,AZ (by omega)];cases b with
     | true=>exact .inr ⟨_,rfl,.inr ⟨rfl,rfl⟩⟩
     | false=>exact .inl ⟨(),rfl,trivial⟩)
   obtain ⟨b,e⟩:=Xh x.2.2.2.1;rw [q1,AC,CS,e];rcases q2 with ⟨q2,q3⟩ | ⟨q2,q3⟩
   ·rw [if_neg (show ¬ r.1=0 by omega),AC,HP,Av,Av,Av,Av,Av,q3,AZ (by omega)]
    repeat' split
    all_goals first | exact .inr ⟨_,rfl,.inr ⟨rfl,rfl⟩⟩ | exact .inl ⟨(),rfl,trivial⟩
   ·rw [if_pos q2,q3]
    exact .inr ⟨_,rfl,.inr ⟨rfl,rfl⟩⟩)
 rw [q1,AC,CS];rcases q2 with q2 | ⟨q2,q3⟩
 ·rw [if_pos q2,Av];by_cases h:(s.2.1.length:Int)>14
  ·rw [if_pos h];exact ⟨_,rfl,λh=>by cases h⟩
  ·rw [if_neg h];obtain ⟨b,e,hb⟩:=Yq s.1;rw [e];refine ⟨b,rfl,λh2 => ?_⟩;obtain ⟨h3,h4⟩:=hb h2;exact ⟨⟨by omega,λrs hrs=>⟨by have:=(h4 rs hrs).1;omega,λr hr=>by have:=(h4 rs hrs).2 r hr;omega⟩,by omega⟩,λrs hrs=>(h4 rs hrs).2⟩
 ·rw [if_neg (show ¬ r.1=0 by omega),q3];exact ⟨_,rfl,λh=>by cases h⟩
end Go.Proofs.YthpkjfabdccpdaaGreat.Pl
namespace Go.Proofs.YthpkjfabdccpdaaGreat.Pl
open Go Go.Proofs.YthpkjfabdccpdaaGreat.Sv
theorem jN (a:Int):BJ a a=true:=by unfold BJ;simp
end Go.Proofs.YthpkjfabdccpdaaGreat.Pl
namespace Go.Proofs.YthpkjfabdccpdaaGreat.Pl
open Go Go.Proofs.YthpkjfabdccpdaaGreat.Sv
theorem jO {β:Type} (k:Unit->Option β):gd true k=k ():=rfl
def Ar (l:List (List Ao)) (i:Nat):List Ao:=(l[i]?).getD []
def Jc (l:List (List Ao)):Nat->Nat
 | 0=>0
 | k+1=>if Ar l k=[] then Jc l k else k+1
def I9 (l:List (List Ao)) (n:Nat):List (List Ao):=l++List.replicate (n+1-l.length) []
def F4 (l:List (List Ao)) (n:Nat) (r:List Ao):List (List Ao):=(I9 l n).set n r
def H7 (l:List (List Ao)):List (List Ao):=l.take (Jc l l.length)
def E4 (L:AL) (n:Nat) (r:List Ao):AL:=(L.1,H7 (F4 L.2 n r))
theorem SN (l:List (List Ao)) : ∀ k,Jc l k<=k
 | 0=>Nat.le_refl _
 | k+1=>by
  unfold Jc;split
  ·exact Nat.le_succ_of_le (SN l k)
  ·exact Nat.le_refl _
theorem Pm (l:List (List Ao)) : ∀ {k i:Nat},Jc l k<=i->i<k->Ar l i=[]
 | 0,_,_,h=>by omega
 | k+1,i,h1,h2=>by
  unfold Jc at h1;split at h1
  ·rename_i he;by_cases hi:i=k
   ·rw [hi];exact he
   ·exact Pm l h1 (by omega)
  ·omega
theorem Q4 (l:List (List Ao)) : ∀ {k m:Nat},Jc l k=m+1->Ar l m≠[]
 | 0,m,h=>by cases h
 | k+1,m,h=>by
  unfold Jc at h;split at h
  ·exact Q4 l h
  ·rename_i hne;have:m=k:=by omega
   rw [this];exact hne
theorem Q5 (l:List (List Ao)) (i:Nat):Ar (H7 l) i=Ar l i:=by
 unfold H7;by_cases h:i<Jc l l.length
 ·unfold Ar;rw [List.getElem?_take,if_pos h]
 ·have h1:Ar (l.take (Jc l l.length)) i=[]:=by
   unfold Ar;rw [List.getElem?_take,if_neg h];rfl
  rw [h1];by_cases h2:i<l.length
  ·exact (Pm l (by omega) h2).symm
  ·unfold Ar;rw [List.getElem?_eq_none (by omega)];rfl
theorem Vk (l:List (List Ao)):(H7 l).getLast? ≠ some []:=by
 have hl:(H7 l).length=Jc l l.length:=by
  have:=SN l l.length;unfold H7;rw [List.length_take];omega
 cases hd:Jc l l.length with
 | zero =>
  have:H7 l=[]:=List.length_eq_zero_iff.1 (by rw [hl,hd]);rw [this];simp
 | succ m =>
  have h1:=Q4 l hd;rw [List.getLast?_eq_getElem?,hl,hd];intro h2;have h3:Ar (H7 l) m=[]:=by unfold Ar;rw [show m=m+1-1 by omega,h2];rfl
  rw [Q5] at h3;exact h1 h3
theorem KW (l:List (List Ao)) (n:Nat):(I9 l n).length=max l.length (n+1):=by
 unfold I9;simp;omega
theorem UF (l:List (List Ao)) (n i:Nat):Ar (I9 l n) i=Ar l i:=by
 unfold Ar I9;by_cases h:i<l.length
 ·rw [List.getElem?_append_left h]
 ·rw [List.getElem?_append_right (by omega),List.getElem?_replicate,List.getElem?_eq_none (l:=l) (by omega)];split<;>rfl
theorem UG (l:List (List Ao)) (n i:Nat) (r:List Ao):Ar (F4 l n r) i=if i=n then r else Ar l i:=by
 unfold F4;by_cases h:i=n
 ·rw [if_pos h,h];have:=KW l n;unfold Ar;rw [List.getElem?_set_self (by omega)];rfl
 ·rw [if_neg h];unfold Ar;rw [List.getElem?_set_ne (λe=>h e.symm)];exact UF l n i
theorem Q6 (L:AL) (n i:Nat) (r:List Ao):Ar (E4 L n r).2 i=if i=n then r else Ar L.2 i:=by
 show Ar (H7 _) i=_;rw [Q5,UG]
theorem Vl (L:AL) (n:Nat) (r:List Ao):(E4 L n r).2.getLast? ≠ some []:=Vk _
theorem Ys (L:AL) (n:Nat) (r:List Ao):(E4 L n r).2.length<=max L.2.length (n+1):=by
 show (H7 _).length<=_;unfold H7;rw [List.length_take];have:(F4 L.2 n r).length=max L.2.length (n+1):=by unfold F4;rw [List.length_set,KW]
 omega
theorem Yt (l:List (List Ao)):(H7 l).flatten=l.flatten:=by
 have h:l=H7 l++l.drop (Jc l l.length):=(List.take_append_drop _ _).symm
 have h2:(l.drop (Jc l l.length)).flatten=[]:=by
  rw [List.flatten_eq_nil_iff];intro x hx;obtain ⟨i,hi⟩:=List.getElem?_of_mem hx;rw [List.getElem?_drop] at hi;have h3:=(List.getElem?_eq_some_iff.1 hi).1;have:=Pm l (k:=l.length) (i:=Jc l l.length+i) (by omega) h3;unfold Ar at this;rw [hi] at this;exact this
 conv=>rhs;rw [h,List.flatten_append,h2,List.append_nil]
theorem cC (l:List (List Ao)) (n:Nat):(I9 l n).flatten=l.flatten:=by
 unfold I9;rw [List.flatten_append]
 have:(List.replicate (n+1-l.length) ([]:List Ao)).flatten=[]:=by
  rw [List.flatten_eq_nil_iff];intro x hx;exact (List.mem_replicate.1 hx).2
 rw [this,List.append_nil]
theorem Q7 (L:AL) (n:Nat) (r:List Ao) : ∃ p q,L.2.flatten=p++(Ar L.2 n++q)/\(E4 L n r).2.flatten=p++(r++q):=by
 have hn:n<(I9 L.2 n).length:=by rw [KW];omega
 refine ⟨((I9 L.2 n).take n).flatten,((I9 L.2 n).drop (n+1)).flatten,?_,?_⟩
 ·rw [<- UF L.2 n n,<- cC L.2 n]
  have:I9 L.2 n=(I9 L.2 n).take n++((I9 L.2 n)[n]::(I9 L.2 n).drop (n+1)):=by
   rw [<- List.drop_eq_getElem_cons hn,List.take_append_drop]
  have h2:Ar (I9 L.2 n) n=(I9 L.2 n)[n]:=by unfold Ar;rw [List.getElem?_eq_getElem hn];rfl
  rw [h2]
  conv=>lhs;rw [this]
  rw [List.flatten_append,List.flatten_cons]
 ·show (H7 (F4 L.2 n r)).flatten=_;rw [Yt];unfold F4;rw [List.set_eq_take_append_cons_drop,if_pos hn,List.flatten_append,List.flatten_cons]
theorem VLev.own {L:AL} (v:VLev L) (i:Nat):(Ar L.2 i).length<=2 /\ ∀ r∈Ar L.2 i,VR (Bn L.1 i) r:=by
 unfold Ar;cases h:L.2[i]? with
 | none=>exact ⟨by simp,λr hr=>by cases hr⟩
 | some rs=>exact v.lev i rs h
theorem VLev.with' {L:AL} (v:VLev L) {n:Nat} (hn:n<12) {r:List Ao} (hl:r.length<=2) (hr : ∀ x∈r,VR (Bn L.1 n) x) (hid:((E4 L n r).2.flatten.map Xa).Nodup):VLev (E4 L n r):=by
 refine ⟨v.B1,v.B2,?_,λi rs hi => ?_,hid,Vl L n r⟩
 ·have:=Ys L n r;have:=v.len;omega
 ·have h1:=Q6 L n i r;unfold Ar at h1;rw [hi] at h1;simp only [Option.getD_some] at h1;rw [h1];split
  ·rename_i he;rw [he];exact ⟨hl,hr⟩
  ·exact v.own i
theorem VLev.leave {L:AL} (v:VLev L) {n:Nat} (hn:n<12):VLev (E4 L n []):=by
 refine v.with' hn (by simp) (λ_ h=>by cases h) ?_
 obtain ⟨p,q,h1,h2⟩:=Q7 L n [];have:=v.ids;rw [h1] at this;rw [h2,List.nil_append];refine List.Sublist.nodup (List.Sublist.map _ ?_) this;exact List.Sublist.append (List.Sublist.refl _) (List.sublist_append_right _ _)
theorem VLev.arrive {L:AL} (v:VLev L) {n:Nat} (hn:n<12) {x:Ao} (hl:(Ar L.2 n).length<2) (hx:VR (Bn L.1 n) x) (hid : ∀ y∈L.2.flatten,y.1≠x.1):VLev (E4 L n (Ar L.2 n++[x])):=by
 refine v.with' hn (by simp;omega) (λy hy => ?_) ?_
 ·rcases List.mem_append.1 hy with hy | hy
  ·exact (v.own n).2 y hy
  ·rw [List.mem_singleton.1 hy];exact hx
 ·obtain ⟨p,q,h1,h2⟩:=Q7 L n (Ar L.2 n++[x])
  have hp:(E4 L n (Ar L.2 n++[x])).2.flatten.Perm (x::L.2.flatten):=by
   rw [h1,h2,List.append_assoc];refine List.Perm.trans ?_ (List.perm_middle (l₁:=p++Ar L.2 n) (l₂:=q) (a:=x) |>.trans (by rw [List.append_assoc]));rw [List.append_assoc];exact List.Perm.refl _
  refine (hp.map Xa).nodup_iff.2 (List.nodup_cons.2 ⟨λhm => ?_,v.ids⟩);obtain ⟨y,hy,e⟩:=List.mem_map.1 hm;exact hid y hy e
theorem UH {l:List (List Ao)} {x:Ao}:x∈l.flatten <-> ∃ i,x∈Ar l i:=by
 rw [List.mem_flatten];constructor
 ·rintro ⟨rs,h1,h2⟩;obtain ⟨i,hi⟩:=List.getElem?_of_mem h1;exact ⟨i,by unfold Ar;rw [hi];exact h2⟩
 ·rintro ⟨i,h⟩;unfold Ar at h;cases hi:l[i]? with
  | none=>rw [hi] at h;cases h
  | some rs=>rw [hi] at h;exact ⟨rs,List.mem_of_getElem? hi,h⟩
theorem Mo {l:List (List Ao)} {x:Ao} (h:x∈l.flatten):x.1<=FN l:=by
 have one : ∀ (rs:List Ao) (m:Int),m<=rs.foldl (λm r=>Kq m r.1) m /\ ∀ x∈rs,x.1<=rs.foldl (λm r=>Kq m r.1) m:=by
  intro rs
  induction rs with
  | nil=>intro m;exact ⟨by simp,λx hx=>by cases hx⟩
  | cons r rs ih =>
   intro m;obtain ⟨h1,h2⟩:=ih (Kq m r.1);rw [Gi] at h1 h2;simp only [List.foldl_cons,Gi] at h1 h2 ⊢;refine ⟨by omega,λx hx => ?_⟩;rcases List.mem_cons.1 hx with e | hx
   ·rw [e];omega
   ·exact h2 x hx
 have two : ∀ (ls:List (List Ao)) (m:Int),m<=ls.foldl (λm rs=>rs.foldl (λm r=>Kq m r.1) m) m /\ ∀ rs∈ls,∀ x∈rs,x.1<=ls.foldl (λm rs=>rs.foldl (λm r=>Kq m r.1) m) m:=by
  intro ls
  induction ls with
  | nil=>intro m;exact ⟨by simp,λx hx=>by cases hx⟩
  | cons rs ls ih =>
   intro m;obtain ⟨h1,h2⟩:=ih (rs.foldl (λm r=>Kq m r.1) m);obtain ⟨k1,k2⟩:=one rs m;simp only [List.foldl_cons];refine ⟨by omega,λrs' hrs x hx => ?_⟩;rcases List.mem_cons.1 hrs with e | hrs
   ·subst e;have:=k2 x hx;omega
   ·exact h2 rs' hrs x hx
 obtain ⟨rs,h1,h2⟩:=List.mem_flatten.1 h;exact (two l 0).2 rs h1 x h2
end Go.Proofs.YthpkjfabdccpdaaGreat.Pl
namespace Go.Proofs.YthpkjfabdccpdaaGreat.Pl
open Go Go.Proofs.YthpkjfabdccpdaaGreat.Sv
theorem Q8 {M:List (List Ao)} {f:Int->Option (LR Int (Nat×(Int×Unit)))} (h0:f 0=some (.dn (0,(0,())))) (hs : ∀ k,k<M.length->f ((k+1:Nat):Int)=if Ar M k=[] then some (.nx (k:Int)) else some (.dn (0,(((k+1:Nat):Int),())))) : ∀ k,k<=M.length->Dp (k+1) f (k:Int)=some (0,((Jc M k:Nat):Int),())
 | 0,_=>BX h0
 | k+1,hk=>by
  have h:=hs k (by omega);unfold Jc;by_cases he:Ar M k=[]
  ·rw [if_pos he] at h ⊢;rw [BS h];exact Q8 h0 hs k (by omega)
  ·rw [if_neg he] at h ⊢;exact BX h
theorem kq (L:List (List Ao)) (n:Nat):DJ (CO (max L.length (n+1)) ([]:List Ao)) 0 L (AA (CO (max L.length (n+1)) ([]:List Ao)))=I9 L n:=by
 have h1:AA (CO (max L.length (n+1)) ([]:List Ao))=max L.length (n+1):=by unfold AA CO;simp
 rw [h1];unfold DJ I9 CO;rw [List.take_of_length_le (by omega:L.length<=max L.length (n+1))];simp only [List.take_zero,List.nil_append,List.drop_replicate,Nat.zero_add]
 congr 2
 omega
theorem cD (l:List (List Ao)) (n:Nat) (r:List Ao):lset (I9 l n) n r=F4 l n r:=rfl
theorem Dr {l:List (List Ao)} {i:Nat} (h:i<l.length):l[i]? = some (Ar l i):=by
 unfold Ar;rw [List.getElem?_eq_getElem h];rfl
theorem Xi {β:Type} (l:List Ao) (x y:Unit->Option β):br (BJ (l.length:Int) 0) x y=if l=[] then x () else y ():=by
 rw [BI];by_cases h:l=[]
 ·rw [if_pos h,if_pos (by rw [h];rfl)]
 ·rw [if_neg h,if_neg (by have:=List.length_pos_iff.2 h;omega)]
theorem Q9 {L:AL} (h1:L.2.length<=1000) {n:Nat} (hn:n<1000) (r:List Ao):Ea (L,((n:Int),r))=some (E4 L n r):=by
 have hk:Kq (AW (AA L.2)) (AH .i64 (n:Int) 1)=((max L.2.length (n+1):Nat):Int):=by
  rw [AZ (by omega),Gi,AU,AO];omega
 unfold Ea;simp only [hk,AE,kq,cD];have hp:(I9 L.2 n).length=max L.2.length (n+1):=KW _ _;have hr:(F4 L.2 n r).length=max L.2.length (n+1):=by unfold F4;rw [List.length_set,hp]
 rw [BE (by omega),NY,if_pos (by rw [AO,hp];omega),AI (Dr (by omega))]
 have hlo:=Q8 (M:=F4 L.2 n r) (f:=λs4=>br (B6 s4 0) (λ_=>AP (BF .i64 s4 1) λk5=>gd (CD k5 (AA (F4 L.2 n r))) λ_=>ix (F4 L.2 n r) k5 λx6=>br (BJ (AW (AA x6)) 0) (λ_=>some (.nx (BF .i64 s4 1))) λ_=>some (.dn ((0,(s4,()))))) λ_=>some (.dn ((0,(s4,()))))) rfl (λk hk=>by
  have hi:BF .i64 ((k+1:Nat):Int) 1=(k:Int):=by rw [Bu (by omega)];omega
  simp only [hi,AE];rw [Av,if_pos (by omega),NY,if_pos (by rw [AO];omega),AI (Dr hk)]
  exact Xi _ _ _) _ (Nat.le_refl _)
 rw [AU,show AA (F4 L.2 n r)=(F4 L.2 n r).length from rfl];refine A7 (Cq (by omega) hlo) ?_;have hd:=SN (F4 L.2 n r) (F4 L.2 n r).length;simp only [AE];rw [BE hd,VS,if_pos (by omega),kg,if_pos (by omega),VS,if_pos (by unfold AK CL;omega)];unfold E4 H7 B0 AK CL;simp
end Go.Proofs.YthpkjfabdccpdaaGreat.Pl
namespace Go.Proofs.YthpkjfabdccpdaaGreat.Pl
open Go Go.Proofs.YthpkjfabdccpdaaGreat.Sv
def Yu (d:Int) (j:Hj):Bool:=BJ d j.1
def FX (js:List Hj) (d:Int):Option Hj:=js.find? (Yu d)
def Mq (js:List Hj):List (Int×Hj):=js.map λj=>(j.1,j)
def zJ:Hj:=(0,(([],([],([],([],0)))),((false,([],false)),([],0))))
def Gm (L:AL) (d:Int):Hj:=match Ar L.2 d.toNat with
 | [r0,r1]=>(d,El r1.2 r0.2 (decide (d=(L.2.length:Int)-1)) 0)
 | _=>zJ
def HR (s:BC) (L:AL) (ended d:Int):Hj:=(if d=ended then none else FX s.2.1 d).getD (Gm L d)
def Xj (s:BC) (L:AL) (next ended:Int):BC:=(L,((Bc 0 L.2).map (HR s L ended),next))
theorem RB (d:Int) : ∀ js:List Hj,Is (λa b=>BJ a b) (Mq js) d=FX js d
 | []=>rfl
 | j::js=>by
  show (bif BJ d j.1 then some j else Is (λa b=>BJ a b) (Mq js) d)=(j::js).find? (Yu d)
  rw [List.find?_cons,RB d js];show _=match BJ d j.1 with | true=>some j | false=>FX js d
  cases BJ d j.1<;>rfl
theorem RC {j:Hj} : ∀ {js:List Hj},j.1 ∉ js.map (·.1)->IA (λa b=>BJ a b) (Mq js) j.1 j=Mq (js++[j])
 | [],_=>rfl
 | i::js,h=>by
  show (bif BJ j.1 i.1 then (j.1,j)::Mq js else (i.1,i)::IA (λa b=>BJ a b) (Mq js) j.1 j)=(i.1,i)::Mq (js++[j])
  have h1:BJ j.1 i.1=false:=by rw [DN];simp;intro e;exact h (by simp [e])
  rw [h1,cond_false,RC (λhm=>h (by simp at hm ⊢;exact .inr hm))]
theorem Pn {js:List Hj} {d:Int} (h:d ∉ js.map (·.1)):FX js d=none:=by
 unfold FX;rw [List.find?_eq_none];intro j hj;unfold Yu;rw [DN];simp only [decide_eq_true_eq];intro e;exact h (by rw [e];exact List.mem_map_of_mem hj)
theorem RD {x d:Int} : ∀ {js:List Hj},(js.map (·.1)).Nodup->Is (λa b=>BJ a b) (Jw (λa b=>BJ a b) (Mq js) x) d=if d=x then none else FX js d
 | [],_=>by split<;>rfl
 | j::js,h=>by
  rw [List.map_cons,List.nodup_cons] at h;show Is (λa b=>BJ a b) (bif BJ x j.1 then Mq js else (j.1,j)::Jw (λa b=>BJ a b) (Mq js) x) d=_
  have hf:FX (j::js) d=if d=j.1 then some j else FX js d:=by
   unfold FX;rw [List.find?_cons];unfold Yu;rw [DN];by_cases e:d=j.1<;>simp [e]
  rw [DN,hf];by_cases hx:x=j.1
  ·rw [show decide (x=j.1)=true by simp [hx],cond_true,RB];by_cases hd:d=x
   ·rw [if_pos hd];exact Pn (by rw [hd,hx];exact h.1)
   ·rw [if_neg hd,if_neg (by rw [<- hx];exact hd)]
  ·rw [show decide (x=j.1)=false by simp [hx],cond_false];show (bif BJ d j.1 then some j else Is (λa b=>BJ a b) (Jw (λa b=>BJ a b) (Mq js) x) d)=_
   rw [RD h.2,DN];by_cases hd:d=j.1
   ·rw [show decide (d=j.1)=true by simp [hd],cond_true,if_pos hd,if_neg (by rw [hd];exact λe=>hx e.symm)]
   ·rw [show decide (d=j.1)=false by simp [hd],cond_false,if_neg hd]
theorem VR.vl' {L:AL} (v:VLev L) {n:Nat} {r:Ao} (h:r∈Ar L.2 n):VL r.2:=((v.own n).2 r h).vl
theorem Yv (L:AL) (hl:L.2.length<=1000) (n:Nat):Cv (L,(n:Int))=some (decide ((n:Int)=(L.2.length:Int)-1)):=by
 unfold Cv;simp only [AU,AO];rw [Bu (by omega),DN]
theorem cE {L:AL} (v:VLev L) {n:Nat} (h:(Ar L.2 n).length=2):Gl (L,(n:Int))=some (Gm L n,0):=by
 have hn:n<L.2.length:=by
  by_cases h0:n<L.2.length
  ·exact h0
  ·unfold Ar at h;rw [List.getElem?_eq_none (by omega)] at h;cases h
 have hl:=v.len;obtain ⟨hb,hr⟩:=v.small;unfold Gl;simp only [AU,AO];rw [Lt _ hb hr,Ga v,AC,AN,if_pos rfl,BD,if_neg (by omega),D0,if_neg (by omega),D0,if_neg (by omega),AE,AI (Dr hn),BD,if_neg (by omega),Yv L (by omega) n,AC]
 obtain ⟨r0,r1,hrr⟩ : ∃ r0 r1,Ar L.2 n=[r0,r1]:=by
  match hq:Ar L.2 n with
  | [r0,r1]=>exact ⟨r0,r1,rfl⟩
  | []=>rw [hq] at h;cases h
  | [_]=>rw [hq] at h;cases h
  | _::_::_::_=>rw [hq] at h;simp at h
 rw [Tq _ (by rw [Dr hn,hrr]) (VR.vl' v (n:=n) (by rw [hrr];simp)) (VR.vl' v (n:=n) (by rw [hrr];simp)),AC];unfold Gm;rw [Int.toNat_natCast,hrr]
theorem Po (i:Nat) (rs:List Ao) (ls:List (List Ao)):Bc i (rs::ls)=(if rs.length=2 then [(i:Int)] else [])++Bc (i+1) ls:=rfl
theorem UI {s:BC} (hj:(s.2.1.map (·.1)).Nodup) (hl:s.2.1.length<=1000) {L:AL} (v:VLev L) (next ended:Int):D4 (s,(L,(next,ended)))=some (Xj s L next ended,0):=by
 have hv:=v.len;unfold D4;simp only [AU,AO]
 rw [DC (l:=s.2.1) (σ:=List (Int×Hj)) (s:=((0:Int),([]:List (Int×Hj)))) (λi m=>((i:Int),m)) (λls i m => ∃ p,s.2.1=p++ls/\m=Mq p) (λ_ _ _=>(0,(((s.2.1.length:Int),Mq s.2.1),()))) [] rfl (by omega) ⟨[],rfl,rfl⟩ (λm h=>by
  obtain ⟨p,h1,rfl⟩:=h
  simp only;rw [re,AV,h1,List.append_nil]) (λi x ls m hd hx hi h=>by
   obtain ⟨p,h1,rfl⟩:=h;refine ⟨Mq (p++[x]),?_,⟨p++[x],by rw [h1];simp,rfl⟩,rfl⟩;simp only;rw [rl hi,AM,AE,AI hx,As hx (by omega),RC];intro hm;rw [h1,List.map_append,List.nodup_append] at hj
   exact hj.2.2 _ hm x.1 (by simp) rfl),AC]
 simp only
 rw [DC (l:=L.2) (σ:=List Hj) (s:=((0:Int),((0:Int),(((0:Int),(([]:List (List Ao)),(([]:List Hj),(0:Int)))),(L.1,(L.2,(([]:List Hj),next))))))) (λi js=>((0:Int),((i:Int),(((0:Int),(([]:List (List Ao)),(([]:List Hj),(0:Int)))),(L.1,(L.2,(js,next))))))) (λls i js=>js++(Bc i ls).map (HR s L ended)=(Bc 0 L.2).map (HR s L ended)) (λ_ _ _=>(0,(((0:Int),((L.2.length:Int),(((0:Int),(([]:List (List Ao)),(([]:List Hj),(0:Int)))),(L.1,(L.2,((Bc 0 L.2).map (HR s L ended),next)))))),()))) [] rfl (by omega) rfl (λm h=>by
  simp only;rw [re,AV,<- h];simp [Bc]) (λi rs ls m hd hx hi h=>by
   have ho:Ar L.2 i=rs:=by unfold Ar;rw [hx];rfl
   have h2:=(v.own i).1;rw [ho] at h2;refine ⟨m++(if rs.length=2 then [HR s L ended i] else []),?_,?_,rfl⟩
   ·simp only;rw [rl hi,AM,AE,AI hx,BD]
    have hm:m.length<=1000:=by
     have h4:=congrArg List.length h;have h5:=F8 L.2 0;rw [List.length_append,List.length_map,List.length_map] at h4;omega
    by_cases h4:rs.length=2;rotate_left
    ·rw [if_pos (by omega),if_neg h4,List.append_nil,As hx (by omega)]
    rw [if_neg (by omega),if_pos h4,RD hj];have hn:HR s L ended i=(if (i:Int)=ended then none else FX s.2.1 i).getD (Gm L i):=rfl
    cases hq:(if (i:Int)=ended then none else FX s.2.1 (i:Int)) with
    | none =>
     rw [hq,Option.getD_none] at hn;rw [hn,cE v (by rw [ho];exact h4),Bp,HP,if_neg (show ¬ lU (none:Option Hj)=true by simp [lU]),AC];simp only;rw [AN,if_pos rfl,BE (by simp only [AK,List.length_cons,List.length_nil];omega),As hx (by omega)];rfl
    | some j =>
     rw [hq,Option.getD_some] at hn;rw [hn,Bp,HP,if_pos (show lU (some j)=true from rfl),BE (by simp only [AK,List.length_cons,List.length_nil];omega),As hx (by omega)];rfl
   ·rw [List.append_assoc,<- h,Po,List.map_append]
    congr 2
    split<;>rfl),AC]
 rfl
end Go.Proofs.YthpkjfabdccpdaaGreat.Pl
namespace Go.Proofs.YthpkjfabdccpdaaGreat.Pl
open Go Go.Proofs.YthpkjfabdccpdaaGreat.Sv
def pS (s:B7):Option H1:=if s.1=true then some s.2.1 else none
theorem Asc.weak : ∀ {l:List AB} {p p':Option H1},(∀ q',p'=some q' -> ∃ q,p=some q/\B3 q q'=false)->Asc p l->Asc p' l
 | [],_,_,_,_=>trivial
 | x::l,p,p',h,⟨h1,h2⟩=>⟨λq' hq'=>by
  obtain ⟨q,e,hq⟩:=h q' hq';have h3:=h1 q e;by_cases he:q'=q
  ·rw [he];exact h3
  ·exact DS (Lp hq (λe=>he e.symm)) h3,h2⟩
theorem UJ : ∀ (l:List AB) (s:B7),PY s l->Asc (pS s) (Ff s l)
 | [],_,_=>trivial
 | x::l,s,⟨_,h2,h3⟩=>by
  have ih:=UJ l _ h3;have ih':Asc (some x.1) (Ff (true,(x.1,s.2.2)) l):=ih;unfold Ff;by_cases hk:keep s x=true
  ·rw [if_pos hk];refine ⟨λq hq => ?_,ih'⟩;unfold pS at hq;by_cases h1:s.1=true
   ·rw [if_pos h1] at hq;cases hq;refine Lp (h2 h1) λe => ?_;unfold keep at hk;rw [h1,e] at hk;simp at hk
   ·rw [if_neg h1] at hq;cases hq
  ·rw [if_neg hk,List.nil_append];refine ih'.weak λq' hq'=>⟨x.1,rfl,?_⟩;unfold pS at hq';by_cases h1:s.1=true
   ·rw [if_pos h1] at hq';cases hq';exact h2 h1
   ·rw [if_neg h1] at hq';cases hq'
theorem UK : ∀ {l:List AB} {s:B7} {x:AB},x∈Ff s l->x∈l
 | y::l,s,x,h=>by
  unfold Ff at h;rcases List.mem_append.1 h with h | h
  ·split at h
   ·rw [List.mem_singleton.1 h];simp
   ·cases h
  ·exact List.mem_cons_of_mem _ (UK h)
theorem Xk : ∀ {l:List AB} {s:B7},PY s l -> ∀ x∈l,kE x=0
 | y::l,s,⟨h1,_,h3⟩,x,h=>by
  rcases List.mem_cons.1 h with e | h
  ·rw [e];exact h1
  ·exact Xk h3 x h
theorem kr {a b:List AB} (va:VL a) (vb:VL b) (bt:Bool) {k:Nat} (hk:k<=a.length+b.length) (hl:a.length+b.length<=5000):VL (El a b bt k).2.2.1/\(El a b bt k).2.2.1.length<=a.length+b.length:=by
 have hr:=H5 va vb bt hk
 have h1:(Ff (s0 bt) (A4 a b k)).length<=k:=by
  have:=I5 (s0 bt) (A4 a b k);rw [Cj va vb hk] at this;exact this
 have h2:(El a b bt k).2.2.1=Ff (s0 bt) (A4 a b k):=rfl;rw [h2];exact ⟨⟨by omega,λx hx=>Xk hr x (UK hx),UJ _ _ hr⟩,by omega⟩
theorem Yw {S β:Type} {f:S->Option (LR S β)} {r:β} (mk:Int->S) (n:Nat) {s:S} (h0:s=mk ((n:Int)-1)) (hn:n<1000000) (hs : ∀ k,k<n->f (mk (k:Int))=some (.nx (mk ((k:Int)-1)))) (he:f (mk (-1))=some (.dn r)):loop f s=some r:=by
 subst h0
 have main : ∀ k,k<=n->Dp (k+1) f (mk ((k:Int)-1))=some r:=by
  intro k
  induction k with
  | zero=>intro _;exact BX he
  | succ k ih =>
   intro hk;have:=hs k (by omega);rw [show ((k+1:Nat):Int)-1=(k:Int) by omega,BS this];exact ih (by omega)
 exact Cq (by omega) (main n (Nat.le_refl _))
theorem UL {L:AL} (v:VLev L) {n:Nat} (hn:n<12) {x:Ao} (hx:x.2.length<=1048576) (hid : ∀ y∈L.2.flatten,y.1≠x.1) (hl:(Ar L.2 n).length<2) :
  DT (L,((n:Int),x))=some (if kR [] (Bn L.1 n) x≠0 then ((0,[]),kR [] (Bn L.1 n) x) else (E4 L n (Ar L.2 n++[x]),0)):=by
 have hv:=v.len;unfold DT;simp only [AU,AO];rw [Xg v,AC,if_neg (by omega),AN,if_pos rfl,Qx v.B1 v.B2 (by omega),Qw x _ (by omega),show Hf (n:Int) 0=true by unfold Hf;simp];rw [jO,AC,AN];by_cases hk:kR [] (Bn L.1 n) x=0;rotate_left
 ·rw [if_neg hk,if_pos hk]
 rw [if_pos hk,if_neg (by simp [hk])]
 rw [DC (l:=L.2) (σ:=Unit) (s:=((0:Int),(((0:Int),([]:List (List Ao))),(0:Int)))) (λi _=>((i:Int),(((0:Int),([]:List (List Ao))),(0:Int)))) (λ_ _ _=>True) (λ_ _ _=>(0,(((L.2.length:Int),(((0:Int),([]:List (List Ao))),(0:Int))),()))) () rfl (by omega) trivial (λ_ _=>by
  simp only;rw [re];rfl) (λi rs ls _ hd hi hlt _=>by
   refine ⟨(),?_,trivial,rfl⟩;have ho:Ar L.2 i=rs:=by unfold Ar;rw [hi];rfl
   have h2:=(v.own i).1;rw [ho] at h2;simp only;rw [rl hlt,AM,AE,AI hi,Bu (by omega)]
   rw [Yw (λk=>(k,(((0:Int),([]:List (List Ao))),(0:Int)))) rs.length rfl (by omega) (λk hk=>by
    have hg:rs[k]? = some rs[k]:=List.getElem?_eq_getElem hk;have hne:rs[k].1≠x.1:=hid _ (List.mem_flatten.2 ⟨rs,List.mem_of_getElem? hi,List.getElem_mem hk⟩);simp only
    rw [D0,if_pos (by omega),AE,AI hg,BI,if_neg hne,Bu (by omega)]) (r:=(0,(((-1:Int),(((0:Int),([]:List (List Ao))),(0:Int))),()))) rfl,AC]
   rw [As hi (by omega)]
   rfl),AC]
 rw [CS,if_pos rfl,BD];by_cases h3:n<L.2.length
 ·rw [if_pos (by omega),AE,AI (Dr h3),BI,if_neg (by omega),AE,AE,BE (Nat.le_refl _),kh,if_pos rfl,BE (Nat.zero_le _)];have hs:B0 (Ar L.2 n) 0 (Ar L.2 n).length=Ar L.2 n:=by unfold B0;simp
  rw [hs,BE (by simp only [AK,List.length_cons,List.length_nil];omega),Q9 (by omega) (by omega),AC];rfl
 ·rw [if_neg (by omega)];have ho:Ar L.2 n=[]:=by unfold Ar;rw [List.getElem?_eq_none (by omega)];rfl
  rw [BE (by simp),Q9 (by omega) (by omega),AC,ho];rfl
end Go.Proofs.YthpkjfabdccpdaaGreat.Pl
namespace Go.Proofs.YthpkjfabdccpdaaGreat.Pl
open Go Go.Proofs.YthpkjfabdccpdaaGreat.Sv
def zS:BC:=((0,[]),([],0))
def QE (j:Hj):List AB:=j.2.2.2.1
def ly (s:BC) (j:Hj):Nat:=if kn s.1 j=true then j.1.toNat else j.1.toNat+1
def nl (s:BC) (j:Hj):AL:=if QE j=[] then E4 s.1 j.1.toNat [] else E4 (E4 s.1 j.1.toNat []) (ly s j) (Ar (E4 s.1 j.1.toNat []).2 (ly s j)++[(s.2.2,QE j)])
theorem RE : ∀ (ls:List (List Ao)) (i:Nat),(Bc i ls).Nodup /\ ∀ d∈Bc i ls,(i:Int)<=d
 | [],_=>⟨.nil,λ_ h=>by cases h⟩
 | rs::ls,i=>by
  obtain ⟨h1,h2⟩:=RE ls (i+1);rw [Po];by_cases h:rs.length=2
  ·rw [if_pos h];refine ⟨List.nodup_cons.2 ⟨λhm => ?_,h1⟩,λd hd => ?_⟩
   ·have:=h2 _ hm;omega
   ·rcases List.mem_cons.1 hd with e | hd
    ·omega
    ·have:=h2 d hd;omega
  ·rw [if_neg h];exact ⟨h1,λd hd=>by have:=h2 d hd;omega⟩
theorem VSt.nodup {s:BC} (v:VSt s):(s.2.1.map (·.1)).Nodup:=by rw [v.due];exact (RE _ _).1
theorem JobAt.out {L:AL} {n:Nat} {j:Hj} (ha:JobAt L n j) (v:VLev L) (hs:(∀ r∈Ar L.2 n,r.2.length<=2000)):VL (QE j)/\((QE j).length:Int)<=2*Bn L.1 n/\j.1=(n:Int)/\n<12/\Ar L.2 n≠[]:=by
 obtain ⟨r0,r1,bt,k,h1,rfl,hk,_,v0,v1⟩:=ha;have ho:Ar L.2 n=[r0,r1]:=by unfold Ar;rw [h1];rfl
 have l0:=hs r0 (by rw [ho];simp);have l1:=hs r1 (by rw [ho];simp);have m0:=((v.own n).2 r0 (by rw [ho];simp)).le;have m1:=((v.own n).2 r1 (by rw [ho];simp)).le;obtain ⟨h2,h3⟩:=kr v1 v0 bt hk (by omega);have hn:=(List.getElem?_eq_some_iff.1 h1).1;have hv:=v.len;refine ⟨h2,?_,rfl,by omega,by rw [ho];simp⟩
 have h4:((QE ((n:Int),El r1.2 r0.2 bt k)).length:Int)<=(r1.2.length:Int)+(r0.2.length:Int):=by
  have:(QE ((n:Int),El r1.2 r0.2 bt k)).length<=r1.2.length+r0.2.length:=h3;omega
 omega
structure InstF (s:BC) (n:Nat) (j:Hj):Prop where
 l1:VLev (E4 s.1 n [])
 to12:QE j≠[]->ly s j<12
 vr:QE j≠[]->VR (Bn s.1.1 (ly s j)) (s.2.2,QE j)
 id : ∀ y∈(E4 s.1 n []).2.flatten,y.1≠s.2.2
 room:QE j≠[]->(Ar (E4 s.1 n []).2 (ly s j)).length<2
 lev:VLev (nl s j)
end Go.Proofs.YthpkjfabdccpdaaGreat.Pl
namespace Go.Proofs.YthpkjfabdccpdaaGreat.Pl
open Go Go.Proofs.YthpkjfabdccpdaaGreat.Sv
end Go.Proofs.YthpkjfabdccpdaaGreat.Pl
namespace Go.Proofs.YthpkjfabdccpdaaGreat.Pl
open Go Go.Proofs.YthpkjfabdccpdaaGreat.Sv
theorem Xl {ls:List (List Ao)} {d:Int} (h:d∈Bc 0 ls) : ∃ (n:Nat) (r0 r1:Ao),d=(n:Int)/\ls[n]? = some [r0,r1]:=by
 obtain ⟨k,hk⟩:=List.getElem?_of_mem h;obtain ⟨n,h1,r0,r1,h2⟩:=Ho hk;exact ⟨n,r0,r1,by rw [h1,Nat.zero_add],h2⟩
theorem UN {l:List (List Ao)} {n:Int} (h0:0<n) (h : ∀ x∈l.flatten,x.1<n):FN l<n:=by
 have one : ∀ (rs:List Ao) (m:Int),m<n->(∀ x∈rs,x.1<n)->rs.foldl (λm r=>Kq m r.1) m<n:=by
  intro rs
  induction rs with
  | nil=>intro m hm _;exact hm
  | cons r rs ih =>
   intro m hm hr;rw [List.foldl_cons];refine ih _ ?_ λx hx=>hr x (by simp [hx]);rw [Gi];have:=hr r (by simp);omega
 have two : ∀ (ls:List (List Ao)) (m:Int),m<n->(∀ rs∈ls,∀ x∈rs,x.1<n)->ls.foldl (λm rs=>rs.foldl (λm r=>Kq m r.1) m) m<n:=by
  intro ls
  induction ls with
  | nil=>intro m hm _;exact hm
  | cons rs ls ih =>
   intro m hm hr;rw [List.foldl_cons];exact ih _ (one rs m hm (hr rs (by simp))) λrs' hrs=>hr rs' (by simp [hrs])
 exact two l 0 h0 λrs hrs x hx=>h x (List.mem_flatten.2 ⟨rs,hrs,hx⟩)
theorem jP {l:List (List Ao)} (hl:l.getLast? ≠ some []) {n:Nat} (h1:Ar l n≠[]) (h2 : ∀ i,n<i->Ar l i=[]):l.length=n+1:=by
 have h3:n<l.length:=by
  by_cases h:n<l.length
  ·exact h
  ·unfold Ar at h1;rw [List.getElem?_eq_none (by omega)] at h1;exact absurd rfl h1
 by_cases h4:l.length=n+1
 ·exact h4
 ·exfalso;have h5:=h2 (l.length-1) (by omega);refine hl ?_;rw [List.getLast?_eq_getElem?,Dr (by omega),h5]
theorem Vm {js:List Hj} {d:Int} {j:Hj} (h:FX js d=some j):j∈js/\j.1=d:=by
 unfold FX at h;have h1:=List.find?_some h;unfold Yu at h1;rw [DN] at h1;exact ⟨List.mem_of_find?_eq_some h,(of_decide_eq_true h1).symm⟩
theorem cF {L:AL} (v:VLev L) {n:Nat} {r0 r1:Ao} (h:L.2[n]? = some [r0,r1]):JobAt L n (Gm L (n:Int)):=by
 have ho:Ar L.2 n=[r0,r1]:=by unfold Ar;rw [h];rfl
 refine ⟨r0,r1,decide ((n:Int)=(L.2.length:Int)-1),0,h,?_,Nat.zero_le _,λhd => ?_,VR.vl' v (n:=n) (by rw [ho];simp),VR.vl' v (n:=n) (by rw [ho];simp)⟩
 ·unfold Gm;rw [Int.toNat_natCast,ho]
 ·have:=of_decide_eq_true hd;have:=(List.getElem?_eq_some_iff.1 h).1;omega
theorem cG {s:BC} (v:VSt s) {L:AL} (vL:VLev L) {next ended:Int} (h1:1<=next) (h2:next<=1000001) (h3 : ∀ x∈L.2.flatten,x.1<next)
  (hk : ∀ (n:Nat) (r0 r1:Ao),s.1.2[n]? = some [r0,r1]->(n:Int)≠ended->(∃ q0 q1,L.2[n]? = some [q0,q1])->L.2[n]? = some [r0,r1]/\(n+1=s.1.2.length->n+1=L.2.length)):VSt (Xj s L next ended):=by
 have each : ∀ d∈Bc 0 L.2,(HR s L ended d).1=d /\ ∃ n,JobAt L n (HR s L ended d):=λd hd=>by
  obtain ⟨n,q0,q1,rfl,hn⟩:=Xl hd;unfold HR;cases hq:(if (n:Int)=ended then none else FX s.2.1 (n:Int)) with
  | none =>
   rw [Option.getD_none];have hb:=cF vL hn;refine ⟨?_,n,hb⟩;obtain ⟨_,_,_,_,_,e,_⟩:=hb;rw [e]
  | some j =>
   rw [Option.getD_some];by_cases he:(n:Int)=ended
   ·rw [if_pos he] at hq;cases hq
   rw [if_neg he] at hq;obtain ⟨hj,hj1⟩:=Vm hq;refine ⟨hj1,n,?_⟩;obtain ⟨m,r0,r1,bt,k,a1,rfl,a3,a4,a5,a6⟩:=v.job j hj;have hm:m=n:=by have:(m:Int)=(n:Int):=hj1;omega
   subst hm;obtain ⟨b1,b2⟩:=hk m r0 r1 a1 he ⟨q0,q1,hn⟩;exact ⟨r0,r1,bt,k,b1,rfl,a3,λhb=>b2 (a4 hb),a5,a6⟩
 refine ⟨vL,h1,h2,UN (by show 0<next;omega) h3,?_,λj hj => ?_⟩
 ·show ((Bc 0 L.2).map (HR s L ended)).map (·.1)=Bc 0 L.2;rw [List.map_map]
  conv=>rhs;rw [<- List.map_id (Bc 0 L.2)]
  exact List.map_congr_left λd hd=>(each d hd).1
 ·obtain ⟨d,hd,rfl⟩:=List.mem_map.1 hj;exact (each d hd).2
theorem SO {l:List (List Ao)} {n:Nat} {r0 r1:Ao}:l[n]? = some [r0,r1]<->Ar l n=[r0,r1]:=by
 unfold Ar;constructor
 ·intro h;rw [h];rfl
 ·intro h;cases hn:l[n]? with
  | none=>rw [hn] at h;cases h
  | some rs=>rw [hn] at h;exact congrArg some h
end Go.Proofs.YthpkjfabdccpdaaGreat.Pl
