/- Functions of the program and of the specification as plain functions, and laws about them. No condition. -/
import Derived.Test.YthpkjfabdccpdaaGreatPl1
import Derived.KernelRfl
set_option linter.all false
namespace Go.Proofs.YthpkjfabdccpdaaGreat.Pl
open Go Go.Proofs.YthpkjfabdccpdaaGreat.Sv
set_option linter.unusedVariables false
def Ck (x:(List AB)):Option Bool :=
 bd (loop (λs0=>br (Ag s0.1 (AW (AA x))) (λ_=>br (Ag s0.1 80) (λ_=>AO s0.1 λk1=>ix x k1 λx2=>br (Bv (AW (Fb x2.1)) 100) (λ_=>some (.dn ((0,((s0.1,true),()))))) λ_=>AO s0.1 λk3=>ix x k3 λx4=>br (Bv (AW (Fb x4.2.1)) 100) (λ_=>some (.dn ((0,((s0.1,true),()))))) λ_=>some (.nx (AH .i64 s0.1 1,s0.2))) λ_=>some (.dn ((1,(s0,()))))) λ_=>some (.dn ((1,(s0,()))))) (0,false)) λr5=>br (neq r5.1 0) (λ_=>some r5.2.1.2) λ_=>some (Bv (AW (AA x)) 70)
def DK (x:(List AB)):Option Bool :=
 bd (loop (λs0=>br (Ag s0.1 (AW (AA x))) (λ_=>br (Ag s0.1 40) (λ_=>AO s0.1 λk1=>ix x k1 λx2=>br (Bv (AW (Fb x2.1)) 100) (λ_=>some (.dn ((0,((s0.1,true),()))))) λ_=>AO s0.1 λk3=>ix x k3 λx4=>br (Bv (AW (Fb x4.2.1)) 100) (λ_=>some (.dn ((0,((s0.1,true),()))))) λ_=>some (.nx (AH .i64 s0.1 1,s0.2))) λ_=>some (.dn ((1,(s0,()))))) λ_=>some (.dn ((1,(s0,()))))) (0,false)) λr5=>br (neq r5.1 0) (λ_=>some r5.2.1.2) λ_=>some (Bv (AW (AA x)) 30)
def Cv (x:(List BI)):Option Bool :=
 bd (loop (λs0=>br (Ag s0.1 (AW (AA x))) (λ_=>br (Ag s0.1 10) (λ_=>AO s0.1 λk1=>ix x k1 λx2=>bd (DK x2.2) λr3=>br r3 (λ_=>some (.dn ((0,((s0.1,true),()))))) λ_=>some (.nx (AH .i64 s0.1 1,s0.2))) λ_=>some (.dn ((1,(s0,()))))) λ_=>some (.dn ((1,(s0,()))))) (0,false)) λr4=>br (neq r4.1 0) (λ_=>some r4.2.1.2) λ_=>some (Bv (AW (AA x)) 6)
def GL (x:AM):Option Bool :=
 bd (loop (λs0=>br (Ag s0.1 (AW (AA x.2))) (λ_=>br (Ag s0.1 20) (λ_=>AO s0.1 λk1=>ix x.2 k1 λx2=>bd (Cv x2) λr3=>br r3 (λ_=>some (.dn ((0,((s0.1,true),()))))) λ_=>some (.nx (AH .i64 s0.1 1,s0.2))) λ_=>some (.dn ((1,(s0,()))))) λ_=>some (.dn ((1,(s0,()))))) (0,false)) λr4=>br (neq r4.1 0) (λ_=>some r4.2.1.2) λ_=>some (Bv (AW (AA x.2)) 14)
def GM (x:(AM×((List (Int×(AS×((Bool×AQ)×((List AB)×Int)))))×Int))):Option Bool :=
 bd (loop (λs0=>br (Ag s0.1 (AW (AA x.2.1))) (λ_=>br (Ag s0.1 20) (λ_=>AO s0.1 λk1=>ix x.2.1 k1 λx2=>bd (loop (λs3=>br (Ag s3.1 (AW (AA x2.2.1.1))) (λ_=>br (Ag s3.1 10) (λ_=>AO s3.1 λk4=>ix x2.2.1.1 k4 λx5=>bd (Ck x5) λr6=>br r6 (λ_=>some (.dn ((0,((s3.1,true),()))))) λ_=>some (.nx (AH .i64 s3.1 1,s3.2))) λ_=>some (.dn ((1,(s3,()))))) λ_=>some (.dn ((1,(s3,()))))) (0,s0.2)) λr7=>br (neq r7.1 0) (λ_=>some (.dn ((1,((s0.1,r7.2.1.2),()))))) λ_=>bd (Ck x2.2.2.2.1) λr8=>br r8 (λ_=>some (.dn ((1,((s0.1,true),()))))) λ_=>br (Bv (AW (AA x2.2.1.1)) 6) (λ_=>some (.dn ((1,((s0.1,true),()))))) λ_=>br (Bv (AW (AA x2.2.1.2.1)) 40) (λ_=>some (.dn ((1,((s0.1,true),()))))) λ_=>br (Bv (AW (AA x2.2.1.2.2.1)) 40) (λ_=>some (.dn ((1,((s0.1,true),()))))) λ_=>br (Bv (AW (AA x2.2.1.2.2.2.1)) 40) (λ_=>some (.dn ((1,((s0.1,true),()))))) λ_=>br (Bv (AW (Fb x2.2.2.1.2.1)) 200) (λ_=>some (.dn ((1,((s0.1,true),()))))) λ_=>some (.nx (AH .i64 s0.1 1,r7.2.1.2))) λ_=>some (.dn ((0,(s0,()))))) λ_=>some (.dn ((0,(s0,()))))) (0,false)) λr9=>br (neq r9.1 0) (λ_=>br (Bv (AW (AA x.2.1)) 14) (λ_=>some true) λ_=>bd (GL x.1) λr10=>some r10) λ_=>some r9.2.1.2
def Fl (x:(AM×Int)):Option Int :=
 bd (C2 x.1) λr0=>br (Aq r0.2.2 0) (λ_=>some r0.2.2) λ_=>br (Ag x.2 0) (λ_=>some 7) λ_=>br (Iu x.2 12) (λ_=>some 7) λ_=>some 0
def Cr (x:(AM×Int)):Option (Bool×Int) :=
 bd (Fl x) λr0=>br (Aq r0 0) (λ_=>some (false,r0)) λ_=>br (Ag x.2 (AW (AA x.1.2))) (λ_=>AO x.2 λk1=>ix x.1.2 k1 λx2=>some ((Ag (AW (AA x2)) 2,0))) λ_=>some (true,0)
def Gx (x:(AM×(Int×(List BI)))):Option AM :=
 AO (Nl (AW (AA x.1.2)) (AH .i64 x.2.1 1)) λk0=>AO (Nl (AW (AA x.1.2)) (AH .i64 x.2.1 1)) λk1=>gd (A0 k1 1048576) λ_=>AO x.2.1 λk2=>gd (CB k2 (AA (DI (CW k1 ([]:List BI)) 0 x.1.2 (AA (CW k1 ([]:List BI)))))) λ_=>ix (DI (CW k1 ([]:List BI)) 0 x.1.2 (AA (CW k1 ([]:List BI)))) k2 λx3=>bd (loop (λs4=>br (Bv s4 0) (λ_=>AO (A9 .i64 s4 1) λk5=>gd (CB k5 (AA (lset (DI (CW k1 ([]:List BI)) 0 x.1.2 (AA (CW k1 ([]:List BI)))) k2 x.2.2))) λ_=>ix (lset (DI (CW k1 ([]:List BI)) 0 x.1.2 (AA (CW k1 ([]:List BI)))) k2 x.2.2) k5 λx6=>br (Bh (AW (AA x6)) 0) (λ_=>some (.nx (A9 .i64 s4 1))) λ_=>some (.dn ((0,(s4,()))))) λ_=>some (.dn ((0,(s4,()))))) (AW (AA (lset (DI (CW k1 ([]:List BI)) 0 x.1.2 (AA (CW k1 ([]:List BI)))) k2 x.2.2)))) λr7=>AO r7.2.1 λk8=>gd (A0 k8 (AA (lset (DI (CW k1 ([]:List BI)) 0 x.1.2 (AA (CW k1 ([]:List BI)))) k2 x.2.2))) λ_=>gd (A0 0 k8) λ_=>br (CB 0 (AA (lset (DI (CW k1 ([]:List BI)) 0 x.1.2 (AA (CW k1 ([]:List BI)))) k2 x.2.2))) (λ_=>gd (A0 (AK 0 (CJ k8 0)) (AA (lset (DI (CW k1 ([]:List BI)) 0 x.1.2 (AA (CW k1 ([]:List BI)))) k2 x.2.2))) λ_=>some ((x.1.1,B6 (lset (DI (CW k1 ([]:List BI)) 0 x.1.2 (AA (CW k1 ([]:List BI)))) k2 x.2.2) 0 (AK 0 (CJ k8 0))))) λ_=>some (x.1.1,[])
def HE (x:(AM×(Int×BI))):Option (AM×Int) :=
 bd (Fl (x.1,x.2.1)) λr0=>br (Aq r0 0) (λ_=>some (((0,[]),r0))) λ_=>gd (Iu x.2.1 0) λ_=>bd (Cn (x.2.2,To .i64 x.1.1 x.2.1)) λr1=>br (Aq r1 0) (λ_=>some (((0,[]),r1))) λ_=>bd (loop (λ(s2:(Int×(AM×Int)))=>br (Ag s2.1 (AW (AA x.1.2))) (λ_=>AO s2.1 λk3=>ix x.1.2 k3 λx4=>bd (loop (λ(s5:(Int×(AM×Int)))=>br (Iu s5.1 0) (λ_=>AO s5.1 λk6=>ix x4 k6 λx7=>br (Bh x7.1 x.2.2.1) (λ_=>some (.dn ((1,((s5.1,((0,[]),8)),()))))) λ_=>some (.nx (A9 .i64 s5.1 1,s5.2))) λ_=>some (.dn ((0,(s5,()))))) ((A9 .i64 (AW (AA x4)) 1,s2.2))) λr8=>br (neq r8.1 0) (λ_=>some (.nx (AH .i64 s2.1 1,r8.2.1.2))) λ_=>some (.dn ((1,((s2.1,r8.2.1.2),()))))) λ_=>some (.dn ((0,(s2,()))))) ((0,((0,[]),0)))) λr9=>br (neq r9.1 0) (λ_=>br (Ag x.2.1 (AW (AA x.1.2))) (λ_=>AO x.2.1 λk10=>ix x.1.2 k10 λx11=>br (Bh (AW (AA x11)) 2) (λ_=>some (((0,[]),5))) λ_=>AO (AW (AA x11)) λk12=>AO (AW (AA x11)) λk13=>gd (A0 k12 (AA x11)) λ_=>gd (neq k12 k13) λ_=>gd (A0 0 k12) λ_=>gd (A0 (AK (AA (B6 x11 0 k12)) (AA [x.2.2])) 1048576) λ_=>bd (Gx ((x.1,(x.2.1,CC (B6 x11 0 k12) [x.2.2])))) λr14=>some (r14,0)) λ_=>gd (A0 (AA [x.2.2]) 1048576) λ_=>bd (Gx ((x.1,(x.2.1,[x.2.2])))) λr15=>some (r15,0)) λ_=>some r9.2.1.2
def JO (x:(AM×Int)):Option ((Int×(AS×((Bool×AQ)×((List AB)×Int))))×Int) :=
 bd (C2 x.1) λr0=>br (Aq r0.2.2 0) (λ_=>some (((0,(([],([],([],([],0)))),((false,([],false)),([],0)))),r0.2.2))) λ_=>br (Ag x.2 0) (λ_=>some (((0,(([],([],([],([],0)))),((false,([],false)),([],0)))),7))) λ_=>br (Iu x.2 12) (λ_=>some (((0,(([],([],([],([],0)))),((false,([],false)),([],0)))),7))) λ_=>br (Iu x.2 (AW (AA x.1.2))) (λ_=>some (((0,(([],([],([],([],0)))),((false,([],false)),([],0)))),4))) λ_=>AO x.2 λk1=>ix x.1.2 k1 λx2=>br (Ag (AW (AA x2)) 2) (λ_=>some (((0,(([],([],([],([],0)))),((false,([],false)),([],0)))),4))) λ_=>bd (EJ x) λr3=>bd (CO ((x.1,(x.2,r3)))) λr4=>some (r4,0)
def Hm (x:((AM×((List (Int×(AS×((Bool×AQ)×((List AB)×Int)))))×Int))×(AM×(Int×Int)))):Option ((AM×((List (Int×(AS×((Bool×AQ)×((List AB)×Int)))))×Int))×Int) :=
 bd (loop (λ(s0:(Int×(List (Int×(Int×(AS×((Bool×AQ)×((List AB)×Int))))))))=>br (Ag s0.1 (AW (AA x.1.2.1))) (λ_=>AO s0.1 λk1=>ix x.1.2.1 k1 λx2=>some (.nx ((AH .i64 s0.1 1,IU ((λa3=>(λa4=>Bh a3 a4))) s0.2 x2.1 x2)))) λ_=>some (.dn ((0,(s0,()))))) (0,[])) λr5=>bd (loop (λ(s6:(Int×(Int×((Int×((List (List BI))×((List (Int×(AS×((Bool×AQ)×((List AB)×Int)))))×Int)))×(Int×((List (List BI))×((List (Int×(AS×((Bool×AQ)×((List AB)×Int)))))×Int)))))))=>br (Ag s6.2.1 (AW (AA x.2.1.2))) (λ_=>AO s6.2.1 λk7=>ix x.2.1.2 k7 λx8=>br (Ag (AW (AA x8)) 2) (λ_=>some (.nx ((s6.1,(AH .i64 s6.2.1 1,s6.2.2))))) λ_=>br (AV (pq (LB ((λa9=>(λa10=>Bh a9 a10))) (Lh ((λa11=>(λa12=>Bh a11 a12))) r5.2.1.2 x.2.2.2) s6.2.1))) (λ_=>bd (JO (x.2.1,s6.2.1)) λr13=>br (Aq r13.2 0) (λ_=>some (.dn ((1,((r13.2,(s6.2.1,((0,([],([],0))),s6.2.2.2))),()))))) λ_=>gd (A0 (AK (AA s6.2.2.2.2.2.1) (AA [r13.1])) 1048576) λ_=>some (.nx ((s6.1,(AH .i64 s6.2.1 1,(s6.2.2.1,(s6.2.2.2.1,(s6.2.2.2.2.1,(CC s6.2.2.2.2.2.1 [r13.1],s6.2.2.2.2.2.2))))))))) λ_=>gd (A0 (AK (AA s6.2.2.2.2.2.1) (AA ([PZ (LB (λa b=>Bh a b) (Lh (λa b=>Bh a b) r5.2.1.2 x.2.2.2) s6.2.1) (0,(([],([],([],([],0)))),((false,([],false)),([],0))))]))) 1048576) λ_=>some (.nx ((s6.1,(AH .i64 s6.2.1 1,(s6.2.2.1,(s6.2.2.2.1,(s6.2.2.2.2.1,(CC s6.2.2.2.2.2.1 ([PZ (LB (λa b=>Bh a b) (Lh (λa b=>Bh a b) r5.2.1.2 x.2.2.2) s6.2.1) (0,(([],([],([],([],0)))),((false,([],false)),([],0))))]),s6.2.2.2.2.2.2))))))))) λ_=>some (.dn ((0,(s6,()))))) ((0,(0,((0,([],([],0))),(x.2.1.1,(x.2.1.2,([],x.2.2.1)))))))) λr102=>br (neq r102.1 0) (λ_=>some ((((r102.2.1.2.2.2.1,r102.2.1.2.2.2.2.1),r102.2.1.2.2.2.2.2),0))) λ_=>some ((((r102.2.1.2.2.1.1,r102.2.1.2.2.1.2.1),r102.2.1.2.2.1.2.2),r102.2.1.1))
end Go.Proofs.YthpkjfabdccpdaaGreat.Pl
namespace Go.Proofs.YthpkjfabdccpdaaGreat.Pl
open Go Go.Proofs.YthpkjfabdccpdaaGreat.Sv
def JobAt (L:AM) (n:Nat) (j:Rr):Prop := ∃ r0 r1 bt k,L.2[n]? = some [r0,r1]/\j=((n:Int),EZ r1.2 r0.2 bt k)/\k<=r1.2.length+r0.2.length/\(bt=true->n+1=L.2.length)/\VL r0.2/\VL r1.2
structure VSt (s:CM):Prop where
 lev:VLev s.1
 n1:1<=s.2.2
 n2:s.2.2<=1000001
 n3:Fk s.1.2<s.2.2
 due:s.2.1.map (·.1)=Co 0 s.1.2
 job : ∀ j∈s.2.1,∃ n,JobAt s.1 n j
theorem jU (a b:List AB) (bt:Bool) (k:Nat):(EZ a b bt k).2.1.2.2=bt:=by
 show (CK (s0 bt) (Az a b k)).2.2=bt;rw [GC]
theorem PB {L:AM} (v:VLev L) {i:Nat} {j:Rr}:Kl L (Co 0 L.2) i j=false <-> ∃ n,(Co 0 L.2)[i]? = some j.1/\JobAt L n j:=by
 constructor
 ·intro h;unfold Kl at h;cases hd:(Co 0 L.2)[i]? with
  | none=>rw [hd] at h;cases h
  | some d =>
   rw [hd] at h;simp only at h;by_cases h1:j.1=d;rotate_left
   ·rw [if_pos h1] at h;cases h
   rw [if_neg (by simp [h1])] at h;by_cases h2:j.2.2.1.2.2=true/\j.1≠(L.2.length:Int)-1
   ·rw [if_pos h2] at h;cases h
   rw [if_neg h2] at h;obtain ⟨n,hn,r0,r1,hl⟩:=Iq hd;rw [Nat.zero_add] at hn;rw [hn,Int.toNat_natCast,hl] at h;simp only at h;by_cases h3:j.2.2.2.2<0\/j.2.2.2.2>((r1.2.length+r0.2.length:Nat):Int)
   ·rw [if_pos h3] at h;cases h
   rw [if_neg h3] at h;have h4:EZ r1.2 r0.2 j.2.2.1.2.2 j.2.2.2.2.toNat=j.2:=by simpa using h
   have hv:=(v.lev n _ hl).2;refine ⟨n,by rw [h1],r0,r1,j.2.2.1.2.2,j.2.2.2.2.toNat,hl,Prod.ext (by rw [h1,hn]) h4.symm,by omega,λhb => ?_,(hv r0 (by simp)).vl,(hv r1 (by simp)).vl⟩
   have h5:j.1=(L.2.length:Int)-1:=by
    by_cases h6:j.1=(L.2.length:Int)-1
    ·exact h6
    ·exact absurd ⟨hb,h6⟩ h2
   omega
 ·rintro ⟨n,hd,r0,r1,bt,k,hl,rfl,hk,hb,v0,v1⟩;unfold Kl;rw [hd];simp only;rw [if_neg (by simp),jU,if_neg (λh:bt=true/\(n:Int)≠(L.2.length:Int)-1=>h.2 (by have:=hb h.1;omega)),Int.toNat_natCast,hl];simp only;rw [show (EZ r1.2 r0.2 bt k).2.2.2=(k:Int) from rfl,if_neg (by omega),Int.toNat_natCast];simp
theorem J7 {L:AM} {due:List Int} : ∀ {js:List Rr} {i:Nat},Fg L due i js=none <-> ∀ k j,js[k]? = some j->Kl L due (i+k) j=false
 | [],i=>by simp [Fg]
 | j::js,i=>by
  unfold Fg;by_cases h:Kl L due i j=true
  ·rw [if_pos h];simp only [reduceCtorEq,false_iff];intro h2;have:=h2 0 j rfl;rw [Nat.add_zero,h] at this;cases this
  ·rw [if_neg h,J7 (js:=js)];constructor
   ·intro h2 k j' hk;cases k with
    | zero=>cases hk;simpa using h
    | succ k=>rw [show i+(k+1)=i+1+k by omega];exact h2 k j' hk
   ·intro h2 k j' hk;rw [show i+1+k=i+(k+1) by omega];exact h2 (k+1) j' hk
theorem TH {s:CM}:(Bs s).2=0<->VSt s:=by
 unfold Bs;constructor
 ·intro h;by_cases h0:(EY s.1).2.2≠0
  ·rw [if_pos h0] at h;exact absurd h h0
  rw [if_neg h0] at h;have v:=H6.1 (Decidable.not_not.1 h0);by_cases h1:s.2.2<1\/s.2.2>1000001
  ·rw [if_pos h1] at h;cases h
  rw [if_neg h1] at h;by_cases h2:s.2.2<=Fk s.1.2
  ·rw [if_pos h2] at h;cases h
  rw [if_neg h2] at h;cases hg:Fg s.1 (Co 0 s.1.2) 0 s.2.1 with
  | some i=>rw [hg] at h;cases h
  | none =>
   rw [hg] at h;simp only at h;by_cases h3:s.2.1.length<(Co 0 s.1.2).length
   ·rw [if_pos h3] at h;cases h
   have hj:=J7.1 hg
   have hj2 : ∀ k j,s.2.1[k]? = some j -> ∃ n,(Co 0 s.1.2)[k]? = some j.1/\JobAt s.1 n j:=λk j hk=>by
    have:=hj k j hk;rw [Nat.zero_add] at this;exact (PB v).1 this
   refine ⟨v,by omega,by omega,by omega,?_,λj hm => ?_⟩
   ·apply List.ext_getElem?;intro k;rw [List.getElem?_map];cases hk:s.2.1[k]? with
    | some j=>obtain ⟨n,e,_⟩:=hj2 k j hk;rw [e];rfl
    | none =>
     have:=List.getElem?_eq_none_iff.1 hk;rw [List.getElem?_eq_none (by omega)];rfl
   ·obtain ⟨k,hk⟩:=List.getElem?_of_mem hm;obtain ⟨n,_,h⟩:=hj2 k j hk;exact ⟨n,h⟩
 ·intro v;rw [if_neg (by simp [H6.2 v.lev]),if_neg (by have:=v.n1;have:=v.n2;omega),if_neg (by have:=v.n3;omega)]
  have hg:Fg s.1 (Co 0 s.1.2) 0 s.2.1=none:=J7.2 λk j hk=>by
   rw [Nat.zero_add];obtain ⟨n,hn⟩:=v.job j (List.mem_of_getElem? hk);exact (PB v.lev).2 ⟨n,by rw [<- v.due,List.getElem?_map,hk];rfl,hn⟩
  rw [hg];simp only;rw [if_neg (by rw [<- v.due];simp)]
structure Sm (s:CM):Prop where
 lv:s.1.2.length<=1048576
 rs : ∀ rs∈s.1.2,rs.length<=1048576 /\ ∀ r∈rs,r.2.length<=9223372036854775807
 js:s.2.1.length<=1048576
theorem mN {s:CM} (m:Sm s):Be s=some (Bs s):=Ul s m.lv m.rs m.js
theorem mO {s:CM} (m:Sm s):EN s=some (Bs s):=TG s m.lv m.rs m.js
theorem VSt.jlen {s:CM} (v:VSt s):s.2.1.length=(Co 0 s.1.2).length:=by rw [<- v.due];simp
theorem VSt.jsmall {s:CM} (v:VSt s):s.2.1.length<=12:=by
 have:=v.jlen;have:=HT s.1.2 0;have:=v.lev.len;omega
theorem VSt.sm {s:CM} (v:VSt s):Sm s:=⟨v.lev.small.1,v.lev.small.2,by have:=v.jsmall;omega⟩
def mC (x:Int):Nat->List Int->Option Nat
 | _,[]=>none
 | k,y::l=>if y=x then some k else mC x (k+1) l
theorem aa {x:Int} : ∀ {l:List Int} {k i:Nat},mC x k l=some i->k<=i/\l[i-k]? = some x
 | [],_,_,h=>by cases h
 | y::l,k,i,h=>by
  unfold mC at h;by_cases e:y=x
  ·rw [if_pos e] at h;cases h;simp [e]
  ·rw [if_neg e] at h;obtain ⟨h1,h2⟩:=aa h;exact ⟨by omega,by rw [show i-k=(i-(k+1))+1 by omega];simpa using h2⟩
end Go.Proofs.YthpkjfabdccpdaaGreat.Pl
namespace Go.Proofs.YthpkjfabdccpdaaGreat.Pl
open Go Go.Proofs.YthpkjfabdccpdaaGreat.Sv
def TI (L:AM) (j:Rr):Nat:=match L.2[j.1.toNat]? with
 | some [r0,r1]=>r1.2.length+r0.2.length-j.2.2.2.2.toNat
 | _=>0
def jV (L:AM) (j:Rr):Bool:=decide ((j.2.2.2.1.length:Int)<=C8 L.1 j.1.toNat)
def ab (L:AM) (n:Nat):Bool:=decide (n<12/\((L.2[n]?).getD []).length<2)
theorem VSt.at {s:CM} (v:VSt s) {level:Int} {i:Nat} (h:mC level 0 (Co 0 s.1.2)=some i) : ∃ (j:Rr) (n:Nat),s.2.1[i]? = some j/\level=(n:Int)/\j.1=(n:Int)/\JobAt s.1 n j/\n<s.1.2.length:=by
 obtain ⟨_,h1⟩:=aa h;rw [Nat.sub_zero] at h1;rw [<- v.due,List.getElem?_map] at h1;cases hj:s.2.1[i]? with
 | none=>rw [hj] at h1;cases h1
 | some j =>
  rw [hj] at h1;simp only [Option.map_some,Option.some.injEq] at h1;obtain ⟨n,hn⟩:=v.job j (List.mem_of_getElem? hj);have hn0:=hn;obtain ⟨r0,r1,bt,k,hl,e,_⟩:=hn;have h2:j.1=(n:Int):=by rw [e]
  exact ⟨j,n,rfl,by rw [<- h1,h2],h2,hn0,(List.getElem?_eq_some_iff.1 hl).1⟩
theorem JobAt.left {L:AM} {n:Nat} {j:Rr} (h:JobAt L n j):Bn j.2=some ((TI L j:Int),0)/\BE j.2=some ((TI L j:Int),0)/\TI L j<=10000:=by
 obtain ⟨r0,r1,bt,k,hl,rfl,hk,_,v0,v1⟩:=h;have l0:=v0.len;have l1:=v1.len
 have e:TI L ((n:Int),EZ r1.2 r0.2 bt k)=r1.2.length+r0.2.length-k:=by
  unfold TI;simp only [Int.toNat_natCast,hl];show r1.2.length+r0.2.length-((k:Int)).toNat=_;rw [Int.toNat_natCast]
 rw [e];exact ⟨ND v1 v0 bt hk,Ld v1 v0 bt hk,by omega⟩
theorem gz {L:AM} (v:VLev L) (k:Int):Fl (L,k)=some (if k<0\/k>=12 then 7 else 0):=by
 obtain ⟨hb,hr⟩:=v.small;unfold Fl;rw [O6 _ hb hr,JK v,AD,AT,if_pos rfl,BB,G3];by_cases h1:k<0
 ·rw [if_pos h1,if_pos (.inl h1)]
 ·rw [if_neg h1];by_cases h2:k>=12
  ·rw [if_pos h2,if_pos (.inr h2)]
  ·rw [if_neg h2,if_neg (by omega)]
theorem jW (l:List BI):Ag (l.length:Int) 2=decide (l.length<2):=by
 unfold Ag;rw [decide_eq_decide];omega
theorem Xs {L:AM} (v:VLev L) {n:Nat} (hn:n<=12):Cr (L,(n:Int))=some (ab L n,if n>=12 then 7 else 0):=by
 unfold Cr ab;simp only [AX,AR];rw [gz v,AD,AT];by_cases h:n>=12
 ·rw [if_pos (show (n:Int)<0\/(n:Int)>=12 by omega),if_neg (by decide),if_pos h];simp;omega
 ·rw [if_neg (show ¬ ((n:Int)<0\/(n:Int)>=12) by omega),if_pos rfl,if_neg h,BB];have h12:n<12:=by omega
  by_cases h2:n<L.2.length
  ·have hx:L.2[n]? = some (L.2[n]'h2):=by simp
   rw [if_pos (by omega),AF,AJ hx,hx,jW,Option.getD_some];simp [h12]
  ·rw [if_neg (by omega),List.getElem?_eq_none (by omega)];simp [h12]
end Go.Proofs.YthpkjfabdccpdaaGreat.Pl
namespace Go.Proofs.YthpkjfabdccpdaaGreat.Pl
open Go Go.Proofs.YthpkjfabdccpdaaGreat.Sv
end Go.Proofs.YthpkjfabdccpdaaGreat.Pl
namespace Go.Proofs.YthpkjfabdccpdaaGreat.Pl
open Go Go.Proofs.YthpkjfabdccpdaaGreat.Sv
theorem Ir {α β σ S:Type} {l:List α} (c:Nat) (hc9:c<=1000) (mk:Nat->σ->S) (I:Nat->σ->Prop) (Q:β->Prop) {f:S->Option (LR S β)} {s:S} (st:σ) (h0:s=mk 0 st) (hi:I 0 st)
  (hn : ∀ k st,(k=l.length\/k=c)->k<=l.length->I k st -> ∃ r,f (mk k st)=some (.dn r)/\Q r)
  (hc : ∀ k x st,l[k]? = some x->k<c->I k st->(∃ st',f (mk k st)=some (.nx (mk (k+1) st'))/\I (k+1) st') \/ ∃ r,f (mk k st)=some (.dn r)/\Q r) : ∃ r,loop f s=some r/\Q r:=by
 refine D1 (l:=l.take c) mk (λ_ k st=>I k st/\k<=(l.take c).length) Q st h0 (by simp;omega) ⟨hi,by omega⟩ (λst h=>hn _ st (by simp;omega) (by simp;omega) h.1) (λk x m st hd hx hk h => ?_);have hk2:k<c:=by simp at hk;omega
 have hx2:l[k]? = some x:=by rw [List.getElem?_take] at hx;rw [if_pos hk2] at hx;exact hx
 rcases hc k x st hx2 hk2 h.1 with ⟨st',h1,h2⟩ | h1
 ·exact .inl ⟨st',h1,h2,by omega⟩
 ·exact .inr h1
theorem QT {k c:Nat} (h:k<c):Ag (k:Int) (c:Int)=true:=by unfold Ag;simp;omega
theorem Xt {α β:Type} {l:List α} {k c:Nat} (h:k=l.length\/k=c) (hk:k<=l.length) (A B C:Option β) (e:B=C):br (Ag (k:Int) (l.length:Int)) (λ_=>br (Ag (k:Int) (c:Int)) (λ_=>A) λ_=>B) (λ_=>C)=C:=by
 rw [BB];by_cases h1:(k:Int)<(l.length:Int)
 ·rw [if_pos h1,BB,if_neg (by omega),e]
 ·rw [if_neg h1]
theorem NH (l:List AB) : ∃ b,DK l=some b/\(b=false->l.length<=30):=by
 unfold DK;simp only [AX,AR]
 obtain ⟨r,q1,q2⟩:=Ir (l:=l) (σ:=Unit) (s:=((0:Int),false)) 40 (by omega) (λk _=>((k:Int),false)) (λ_ _=>True) (λ(r:Nat×((Int×Bool)×Unit))=>r.1=1\/(r.1=0/\r.2.1.2=true))
  (f:=λs0=>br (Ag s0.1 (l.length:Int)) (λ_=>br (Ag s0.1 40) (λ_=>AO s0.1 λk1=>ix l k1 λx2=>br (Bv (Fb x2.1:Int) 100) (λ_=>some (.dn ((0,((s0.1,true),()))))) λ_=>AO s0.1 λk3=>ix l k3 λx4=>br (Bv (Fb x4.2.1:Int) 100) (λ_=>some (.dn ((0,((s0.1,true),()))))) λ_=>some (.nx (AH .i64 s0.1 1,s0.2))) λ_=>some (.dn ((1,(s0,()))))) λ_=>some (.dn ((1,(s0,())))))
  () rfl trivial (λk _ h hk _=>⟨_,(Xt (c:=40) h hk _ _ _ rfl),.inl rfl⟩) (λk x _ hx hk _=>by
   simp only;have hk2:=(List.getElem?_eq_some_iff.1 hx).1;rw [rl hk2,AL,show Ag (k:Int) 40=true from QT hk,AL,AF,AJ hx,Ap,AF,AJ hx,Ap,Ac (by omega)]
   repeat' split
   all_goals first | exact .inr ⟨_,rfl,.inr ⟨rfl,rfl⟩⟩ | exact .inl ⟨(),rfl,trivial⟩)
 rw [q1,AD,CR];rcases q2 with q2 | ⟨q2,q3⟩
 ·rw [if_neg (show ¬ r.1=0 by omega)];exact ⟨_,rfl,λh=>by unfold Bv at h;simp at h;omega⟩
 ·rw [if_pos q2,q3];exact ⟨_,rfl,λh=>by cases h⟩
theorem TJ (l:List BI) : ∃ b,Cv l=some b/\(b=false->l.length<=6 /\ ∀ r∈l,r.2.length<=30):=by
 unfold Cv;simp only [AX,AR]
 obtain ⟨r,q1,q2⟩:=Ir (l:=l) (σ:=Unit) (s:=((0:Int),false)) 10 (by omega) (λk _=>((k:Int),false)) (λk _ => ∀ i x,i<k->l[i]? = some x->x.2.length<=30) (λ(r:Nat×((Int×Bool)×Unit))=>(r.1=1 /\ ∀ i x,i<10->l[i]? = some x->x.2.length<=30)\/(r.1=0/\r.2.1.2=true))
  (f:=λs0=>br (Ag s0.1 (l.length:Int)) (λ_=>br (Ag s0.1 10) (λ_=>AO s0.1 λk1=>ix l k1 λx2=>bd (DK x2.2) λr3=>br r3 (λ_=>some (.dn ((0,((s0.1,true),()))))) λ_=>some (.nx (AH .i64 s0.1 1,s0.2))) λ_=>some (.dn ((1,(s0,()))))) λ_=>some (.dn ((1,(s0,())))))
  () rfl (λi x h=>by omega) (λk _ h hk hI=>⟨_,(Xt (c:=10) h hk _ _ _ rfl),.inl ⟨rfl,λi x hi hx=>hI i x (by have:=(List.getElem?_eq_some_iff.1 hx).1;omega) hx⟩⟩) (λk x _ hx hk hI=>by
   simp only;have hk2:=(List.getElem?_eq_some_iff.1 hx).1;obtain ⟨b,e,hb⟩:=NH x.2;rw [rl hk2,AL,show Ag (k:Int) 10=true from QT hk,AL,AF,AJ hx,e,AD,Ac (by omega)];cases b with
   | true=>exact .inr ⟨_,rfl,.inr ⟨rfl,rfl⟩⟩
   | false =>
    refine .inl ⟨(),rfl,λi y hi hy => ?_⟩;by_cases h:i=k
    ·subst h;rw [hx] at hy;cases hy;exact hb rfl
    ·exact hI i y (by omega) hy)
 rw [q1,AD,CR];rcases q2 with ⟨q2,q3⟩ | ⟨q2,q3⟩
 ·rw [if_neg (show ¬ r.1=0 by omega)];refine ⟨_,rfl,λh => ?_⟩;have hl:l.length<=6:=by unfold Bv at h;simp at h;omega
  exact ⟨hl,λr hr=>by
   obtain ⟨i,hi⟩:=List.getElem?_of_mem hr
   exact q3 i r (by have:=(List.getElem?_eq_some_iff.1 hi).1;omega) hi⟩
 ·rw [if_pos q2,q3];exact ⟨_,rfl,λh=>by cases h⟩
theorem Xu (L:AM) : ∃ b,GL L=some b/\(b=false->L.2.length<=14 /\ ∀ rs∈L.2,rs.length<=6 /\ ∀ r∈rs,r.2.length<=30):=by
 unfold GL;simp only [AX,AR]
 obtain ⟨r,q1,q2⟩:=Ir (l:=L.2) (σ:=Unit) (s:=((0:Int),false)) 20 (by omega) (λk _=>((k:Int),false)) (λk _ => ∀ i x,i<k->L.2[i]? = some x->x.length<=6 /\ ∀ r∈x,r.2.length<=30) (λ(r:Nat×((Int×Bool)×Unit))=>(r.1=1 /\ ∀ i x,i<20->L.2[i]? = some x->x.length<=6 /\ ∀ r∈x,r.2.length<=30)\/(r.1=0/\r.2.1.2=true))
  (f:=λs0=>br (Ag s0.1 (L.2.length:Int)) (λ_=>br (Ag s0.1 20) (λ_=>AO s0.1 λk1=>ix L.2 k1 λx2=>bd (Cv x2) λr3=>br r3 (λ_=>some (.dn ((0,((s0.1,true),()))))) λ_=>some (.nx (AH .i64 s0.1 1,s0.2))) λ_=>some (.dn ((1,(s0,()))))) λ_=>some (.dn ((1,(s0,())))))
  () rfl (λi x h=>by omega) (λk _ h hk hI=>⟨_,(Xt (c:=20) h hk _ _ _ rfl),.inl ⟨rfl,λi x hi hx=>hI i x (by have:=(List.getElem?_eq_some_iff.1 hx).1;omega) hx⟩⟩) (λk x _ hx hk hI=>by
   simp only;have hk2:=(List.getElem?_eq_some_iff.1 hx).1;obtain ⟨b,e,hb⟩:=TJ x;rw [rl hk2,AL,show Ag (k:Int) 20=true from QT hk,AL,AF,AJ hx,e,AD,Ac (by omega)];cases b with
   | true=>exact .inr ⟨_,rfl,.inr ⟨rfl,rfl⟩⟩
   | false =>
    refine .inl ⟨(),rfl,λi y hi hy => ?_⟩;by_cases h:i=k
    ·subst h;rw [hx] at hy;cases hy;exact hb rfl
    ·exact hI i y (by omega) hy)
 rw [q1,AD,CR];rcases q2 with ⟨q2,q3⟩ | ⟨q2,q3⟩
 ·rw [if_neg (show ¬ r.1=0 by omega)];refine ⟨_,rfl,λh => ?_⟩;have hl:L.2.length<=14:=by unfold Bv at h;simp at h;omega
  exact ⟨hl,λr hr=>by
   obtain ⟨i,hi⟩:=List.getElem?_of_mem hr
   exact q3 i r (by have:=(List.getElem?_eq_some_iff.1 hi).1;omega) hi⟩
 ·rw [if_pos q2,q3];exact ⟨_,rfl,λh=>by cases h⟩
theorem Wi (l:List AB) : ∃ b,Ck l=some b:=by
 unfold Ck;simp only [AX,AR]
 obtain ⟨r,q1,q2⟩:=Ir (l:=l) (σ:=Unit) (s:=((0:Int),false)) 80 (by omega) (λk _=>((k:Int),false)) (λ_ _=>True) (λ(r:Nat×((Int×Bool)×Unit))=>True)
  (f:=λs0=>br (Ag s0.1 (l.length:Int)) (λ_=>br (Ag s0.1 80) (λ_=>AO s0.1 λk1=>ix l k1 λx2=>br (Bv (Fb x2.1:Int) 100) (λ_=>some (.dn ((0,((s0.1,true),()))))) λ_=>AO s0.1 λk3=>ix l k3 λx4=>br (Bv (Fb x4.2.1:Int) 100) (λ_=>some (.dn ((0,((s0.1,true),()))))) λ_=>some (.nx (AH .i64 s0.1 1,s0.2))) λ_=>some (.dn ((1,(s0,()))))) λ_=>some (.dn ((1,(s0,())))))
  () rfl trivial (λk _ h hk _=>⟨_,(Xt (c:=80) h hk _ _ _ rfl),trivial⟩) (λk x _ hx hk _=>by
   simp only;have hk2:=(List.getElem?_eq_some_iff.1 hx).1;rw [rl hk2,AL,show Ag (k:Int) 80=true from QT hk,AL,AF,AJ hx,Ap,AF,AJ hx,Ap,Ac (by omega)]
   repeat' split
   all_goals first | exact .inr ⟨_,rfl,trivial⟩ | exact .inl ⟨(),rfl,trivial⟩)
 rw [q1,AD,CR];split<;>exact ⟨_,rfl⟩
theorem Xv (s:CM) : ∃ b,GM s=some b/\(b=false->Sm s /\ ∀ rs∈s.1.2,∀ r∈rs,r.2.length<=30):=by
 unfold GM;simp only [AX,AR]
 obtain ⟨r,q1,q2⟩:=Ir (l:=s.2.1) (σ:=Unit) (s:=((0:Int),false)) 20 (by omega) (λk _=>((k:Int),false)) (λ_ _=>True) (λ(r:Nat×((Int×Bool)×Unit))=>r.1=0\/(r.1=1/\r.2.1.2=true))
  (f:=λs0=>br (Ag s0.1 (s.2.1.length:Int)) (λ_=>br (Ag s0.1 20) (λ_=>AO s0.1 λk1=>ix s.2.1 k1 λx2=>bd (loop (λs3=>br (Ag s3.1 (x2.2.1.1.length:Int)) (λ_=>br (Ag s3.1 10) (λ_=>AO s3.1 λk4=>ix x2.2.1.1 k4 λx5=>bd (Ck x5) λr6=>br r6 (λ_=>some (.dn ((0,((s3.1,true),()))))) λ_=>some (.nx (AH .i64 s3.1 1,s3.2))) λ_=>some (.dn ((1,(s3,()))))) λ_=>some (.dn ((1,(s3,()))))) (0,s0.2)) λr7=>br (neq r7.1 0) (λ_=>some (.dn ((1,((s0.1,r7.2.1.2),()))))) λ_=>bd (Ck x2.2.2.2.1) λr8=>br r8 (λ_=>some (.dn ((1,((s0.1,true),()))))) λ_=>br (Bv (x2.2.1.1.length:Int) 6) (λ_=>some (.dn ((1,((s0.1,true),()))))) λ_=>br (Bv (x2.2.1.2.1.length:Int) 40) (λ_=>some (.dn ((1,((s0.1,true),()))))) λ_=>br (Bv (x2.2.1.2.2.1.length:Int) 40) (λ_=>some (.dn ((1,((s0.1,true),()))))) λ_=>br (Bv (x2.2.1.2.2.2.1.length:Int) 40) (λ_=>some (.dn ((1,((s0.1,true),()))))) λ_=>br (Bv (Fb x2.2.2.1.2.1:Int) 200) (λ_=>some (.dn ((1,((s0.1,true),()))))) λ_=>some (.nx (AH .i64 s0.1 1,r7.2.1.2))) λ_=>some (.dn ((0,(s0,()))))) λ_=>some (.dn ((0,(s0,())))))
  () rfl trivial (λk _ h hk _=>⟨_,(Xt (c:=20) h hk _ _ _ rfl),.inl rfl⟩) (λk x _ hx hk _=>by
   simp only;have hk2:=(List.getElem?_eq_some_iff.1 hx).1;rw [rl hk2,AL,show Ag (k:Int) 20=true from QT hk,AL,AF,AJ hx]
   obtain ⟨r,q1,q2⟩:=Ir (l:=x.2.1.1) (σ:=Unit) (s:=((0:Int),false)) 10 (by omega) (λk _=>((k:Int),false)) (λ_ _=>True) (λ(r:Nat×((Int×Bool)×Unit))=>(r.1=1/\r.2.1.2=false)\/(r.1=0/\r.2.1.2=true))
    (f:=λs3=>br (Ag s3.1 (x.2.1.1.length:Int)) (λ_=>br (Ag s3.1 10) (λ_=>AO s3.1 λk4=>ix x.2.1.1 k4 λx5=>bd (Ck x5) λr6=>br r6 (λ_=>some (.dn ((0,((s3.1,true),()))))) λ_=>some (.nx (AH .i64 s3.1 1,s3.2))) λ_=>some (.dn ((1,(s3,()))))) λ_=>some (.dn ((1,(s3,())))))
    () rfl trivial (λk _ h hk _=>⟨_,(Xt (c:=10) h hk _ _ _ rfl),.inl ⟨rfl,rfl⟩⟩) (λk y _ hy hk _=>by
     simp only;have hk2:=(List.getElem?_eq_some_iff.1 hy).1;obtain ⟨b,e⟩:=Wi y;rw [rl hk2,AL,show Ag (k:Int) 10=true from QT hk,AL,AF,AJ hy,e,AD,Ac (by omega)];cases b with
     | true=>exact .inr ⟨_,rfl,.inr ⟨rfl,rfl⟩⟩
     | false=>exact .inl ⟨(),rfl,trivial⟩)
   obtain ⟨b,e⟩:=Wi x.2.2.2.1;rw [q1,AD,CR,e];rcases q2 with ⟨q2,q3⟩ | ⟨q2,q3⟩
   ·rw [if_neg (show ¬ r.1=0 by omega),AD,HL,Ap,Ap,Ap,Ap,Ap,q3,Ac (by omega)]
    repeat' split
    all_goals first | exact .inr ⟨_,rfl,.inr ⟨rfl,rfl⟩⟩ | exact .inl ⟨(),rfl,trivial⟩
   ·rw [if_pos q2,q3]
    exact .inr ⟨_,rfl,.inr ⟨rfl,rfl⟩⟩)
 rw [q1,AD,CR];rcases q2 with q2 | ⟨q2,q3⟩
 ·rw [if_pos q2,Ap];by_cases h:(s.2.1.length:Int)>14
  ·rw [if_pos h];exact ⟨_,rfl,λh=>by cases h⟩
  ·rw [if_neg h];obtain ⟨b,e,hb⟩:=Xu s.1;rw [e];refine ⟨b,rfl,λh2 => ?_⟩;obtain ⟨h3,h4⟩:=hb h2;exact ⟨⟨by omega,λrs hrs=>⟨by have:=(h4 rs hrs).1;omega,λr hr=>by have:=(h4 rs hrs).2 r hr;omega⟩,by omega⟩,λrs hrs=>(h4 rs hrs).2⟩
 ·rw [if_neg (show ¬ r.1=0 by omega),q3];exact ⟨_,rfl,λh=>by cases h⟩
end Go.Proofs.YthpkjfabdccpdaaGreat.Pl
namespace Go.Proofs.YthpkjfabdccpdaaGreat.Pl
open Go Go.Proofs.YthpkjfabdccpdaaGreat.Sv
theorem Rk (a:Int):Bh a a=true:=by unfold Bh;simp
end Go.Proofs.YthpkjfabdccpdaaGreat.Pl
namespace Go.Proofs.YthpkjfabdccpdaaGreat.Pl
open Go Go.Proofs.YthpkjfabdccpdaaGreat.Sv
def Db (l:List (List BI)) (i:Nat):List BI:=(l[i]?).getD []
def Le (l:List (List BI)):Nat->Nat
 | 0=>0
 | k+1=>if Db l k=[] then Le l k else k+1
def Km (l:List (List BI)) (n:Nat):List (List BI):=l++List.replicate (n+1-l.length) []
def Uv (l:List (List BI)) (n:Nat) (r:List BI):List (List BI):=(Km l n).set n r
def H7 (l:List (List BI)):List (List BI):=l.take (Le l l.length)
def H8 (L:AM) (n:Nat) (r:List BI):AM:=(L.1,H7 (Uv L.2 n r))
theorem Wj (l:List (List BI)) : ∀ k,Le l k<=k
 | 0=>Nat.le_refl _
 | k+1=>by
  unfold Le;split
  ·exact Nat.le_succ_of_le (Wj l k)
  ·exact Nat.le_refl _
theorem PC (l:List (List BI)) : ∀ {k i:Nat},Le l k<=i->i<k->Db l i=[]
 | 0,_,_,h=>by omega
 | k+1,i,h1,h2=>by
  unfold Le at h1;split at h1
  ·rename_i he;by_cases hi:i=k
   ·rw [hi];exact he
   ·exact PC l h1 (by omega)
  ·omega
theorem QU (l:List (List BI)) : ∀ {k m:Nat},Le l k=m+1->Db l m≠[]
 | 0,m,h=>by cases h
 | k+1,m,h=>by
  unfold Le at h;split at h
  ·exact QU l h
  ·rename_i hne;have:m=k:=by omega
   rw [this];exact hne
theorem QV (l:List (List BI)) (i:Nat):Db (H7 l) i=Db l i:=by
 unfold H7;by_cases h:i<Le l l.length
 ·unfold Db;rw [List.getElem?_take,if_pos h]
 ·have h1:Db (l.take (Le l l.length)) i=[]:=by
   unfold Db;rw [List.getElem?_take,if_neg h];rfl
  rw [h1];by_cases h2:i<l.length
  ·exact (PC l (by omega) h2).symm
  ·unfold Db;rw [List.getElem?_eq_none (by omega)];rfl
theorem Uw (l:List (List BI)):(H7 l).getLast? ≠ some []:=by
 have hl:(H7 l).length=Le l l.length:=by
  have:=Wj l l.length;unfold H7;rw [List.length_take];omega
 cases hd:Le l l.length with
 | zero =>
  have:H7 l=[]:=List.length_eq_zero_iff.1 (by rw [hl,hd]);rw [this];simp
 | succ m =>
  have h1:=QU l hd;rw [List.getLast?_eq_getElem?,hl,hd];intro h2;have h3:Db (H7 l) m=[]:=by unfold Db;rw [show m=m+1-1 by omega,h2];rfl
  rw [QV] at h3;exact h1 h3
theorem PF (l:List (List BI)) (n:Nat):(Km l n).length=max l.length (n+1):=by
 unfold Km;simp;omega
theorem TK (l:List (List BI)) (n i:Nat):Db (Km l n) i=Db l i:=by
 unfold Db Km;by_cases h:i<l.length
 ·rw [List.getElem?_append_left h]
 ·rw [List.getElem?_append_right (by omega),List.getElem?_replicate,List.getElem?_eq_none (l:=l) (by omega)];split<;>rfl
theorem ac (l:List (List BI)) (n i:Nat) (r:List BI):Db (Uv l n r) i=if i=n then r else Db l i:=by
 unfold Uv;by_cases h:i=n
 ·rw [if_pos h,h];have:=PF l n;unfold Db;rw [List.getElem?_set_self (by omega)];rfl
 ·rw [if_neg h];unfold Db;rw [List.getElem?_set_ne (λe=>h e.symm)];exact TK l n i
theorem Xw (L:AM) (n i:Nat) (r:List BI):Db (H8 L n r).2 i=if i=n then r else Db L.2 i:=by
 show Db (H7 _) i=_;rw [QV,ac]
theorem Ux (L:AM) (n:Nat) (r:List BI):(H8 L n r).2.getLast? ≠ some []:=Uw _
theorem Xx (L:AM) (n:Nat) (r:List BI):(H8 L n r).2.length<=max L.2.length (n+1):=by
 show (H7 _).length<=_;unfold H7;rw [List.length_take];have:(Uv L.2 n r).length=max L.2.length (n+1):=by unfold Uv;rw [List.length_set,PF]
 omega
theorem Xy (l:List (List BI)):(H7 l).flatten=l.flatten:=by
 have h:l=H7 l++l.drop (Le l l.length):=(List.take_append_drop _ _).symm
 have h2:(l.drop (Le l l.length)).flatten=[]:=by
  rw [List.flatten_eq_nil_iff];intro x hx;obtain ⟨i,hi⟩:=List.getElem?_of_mem hx;rw [List.getElem?_drop] at hi;have h3:=(List.getElem?_eq_some_iff.1 hi).1;have:=PC l (k:=l.length) (i:=Le l l.length+i) (by omega) h3;unfold Db at this;rw [hi] at this;exact this
 conv=>rhs;rw [h,List.flatten_append,h2,List.append_nil]
theorem ad (l:List (List BI)) (n:Nat):(Km l n).flatten=l.flatten:=by
 unfold Km;rw [List.flatten_append]
 have:(List.replicate (n+1-l.length) ([]:List BI)).flatten=[]:=by
  rw [List.flatten_eq_nil_iff];intro x hx;exact (List.mem_replicate.1 hx).2
 rw [this,List.append_nil]
theorem Xz (L:AM) (n:Nat) (r:List BI) : ∃ p q,L.2.flatten=p++(Db L.2 n++q)/\(H8 L n r).2.flatten=p++(r++q):=by
 have hn:n<(Km L.2 n).length:=by rw [PF];omega
 refine ⟨((Km L.2 n).take n).flatten,((Km L.2 n).drop (n+1)).flatten,?_,?_⟩
 ·rw [<- TK L.2 n n,<- ad L.2 n]
  have:Km L.2 n=(Km L.2 n).take n++((Km L.2 n)[n]::(Km L.2 n).drop (n+1)):=by
   rw [<- List.drop_eq_getElem_cons hn,List.take_append_drop]
  have h2:Db (Km L.2 n) n=(Km L.2 n)[n]:=by unfold Db;rw [List.getElem?_eq_getElem hn];rfl
  rw [h2]
  conv=>lhs;rw [this]
  rw [List.flatten_append,List.flatten_cons]
 ·show (H7 (Uv L.2 n r)).flatten=_;rw [Xy];unfold Uv;rw [List.set_eq_take_append_cons_drop,if_pos hn,List.flatten_append,List.flatten_cons]
theorem VLev.own {L:AM} (v:VLev L) (i:Nat):(Db L.2 i).length<=2 /\ ∀ r∈Db L.2 i,VR (C8 L.1 i) r:=by
 unfold Db;cases h:L.2[i]? with
 | none=>exact ⟨by simp,λr hr=>by cases hr⟩
 | some rs=>exact v.lev i rs h
theorem VLev.with' {L:AM} (v:VLev L) {n:Nat} (hn:n<12) {r:List BI} (hl:r.length<=2) (hr : ∀ x∈r,VR (C8 L.1 n) x) (hid:((H8 L n r).2.flatten.map jR).Nodup):VLev (H8 L n r):=by
 refine ⟨v.B1,v.B2,?_,λi rs hi => ?_,hid,Ux L n r⟩
 ·have:=Xx L n r;have:=v.len;omega
 ·have h1:=Xw L n i r;unfold Db at h1;rw [hi] at h1;simp only [Option.getD_some] at h1;rw [h1];split
  ·rename_i he;rw [he];exact ⟨hl,hr⟩
  ·exact v.own i
theorem VLev.leave {L:AM} (v:VLev L) {n:Nat} (hn:n<12):VLev (H8 L n []):=by
 refine v.with' hn (by simp) (λ_ h=>by cases h) ?_
 obtain ⟨p,q,h1,h2⟩:=Xz L n [];have:=v.ids;rw [h1] at this;rw [h2,List.nil_append];refine List.Sublist.nodup (List.Sublist.map _ ?_) this;exact List.Sublist.append (List.Sublist.refl _) (List.sublist_append_right _ _)
end Go.Proofs.YthpkjfabdccpdaaGreat.Pl
namespace Go.Proofs.YthpkjfabdccpdaaGreat.Pl
open Go Go.Proofs.YthpkjfabdccpdaaGreat.Sv
theorem Rl {l:List (List BI)} {i:Nat} (h:i<l.length):l[i]? = some (Db l i):=by
 unfold Db;rw [List.getElem?_eq_getElem h];rfl
end Go.Proofs.YthpkjfabdccpdaaGreat.Pl
namespace Go.Proofs.YthpkjfabdccpdaaGreat.Pl
open Go Go.Proofs.YthpkjfabdccpdaaGreat.Sv
theorem Uy (i:Nat) (rs:List BI) (ls:List (List BI)):Co i (rs::ls)=(if rs.length=2 then [(i:Int)] else [])++Co (i+1) ls:=rfl
end Go.Proofs.YthpkjfabdccpdaaGreat.Pl
namespace Go.Proofs.YthpkjfabdccpdaaGreat.Pl
open Go Go.Proofs.YthpkjfabdccpdaaGreat.Sv
def pS (s:Bp):Option Hf:=if s.1=true then some s.2.1 else none
theorem Asc.weak : ∀ {l:List AB} {p p':Option Hf},(∀ q',p'=some q' -> ∃ q,p=some q/\Bl q q'=false)->Asc p l->Asc p' l
 | [],_,_,_,_=>trivial
 | x::l,p,p',h,⟨h1,h2⟩=>⟨λq' hq'=>by
  obtain ⟨q,e,hq⟩:=h q' hq';have h3:=h1 q e;by_cases he:q'=q
  ·rw [he];exact h3
  ·exact DC (LX hq (λe=>he e.symm)) h3,h2⟩
theorem TL : ∀ (l:List AB) (s:Bp),O1 s l->Asc (pS s) (FJ s l)
 | [],_,_=>trivial
 | x::l,s,⟨_,h2,h3⟩=>by
  have ih:=TL l _ h3;have ih':Asc (some x.1) (FJ (true,(x.1,s.2.2)) l):=ih;unfold FJ;by_cases hk:keep s x=true
  ·rw [if_pos hk];refine ⟨λq hq => ?_,ih'⟩;unfold pS at hq;by_cases h1:s.1=true
   ·rw [if_pos h1] at hq;cases hq;refine LX (h2 h1) λe => ?_;unfold keep at hk;rw [h1,e] at hk;simp at hk
   ·rw [if_neg h1] at hq;cases hq
  ·rw [if_neg hk,List.nil_append];refine ih'.weak λq' hq'=>⟨x.1,rfl,?_⟩;unfold pS at hq';by_cases h1:s.1=true
   ·rw [if_pos h1] at hq';cases hq';exact h2 h1
   ·rw [if_neg h1] at hq';cases hq'
theorem TM : ∀ {l:List AB} {s:Bp} {x:AB},x∈FJ s l->x∈l
 | y::l,s,x,h=>by
  unfold FJ at h;rcases List.mem_append.1 h with h | h
  ·split at h
   ·rw [List.mem_singleton.1 h];simp
   ·cases h
  ·exact List.mem_cons_of_mem _ (TM h)
theorem Wk : ∀ {l:List AB} {s:Bp},O1 s l -> ∀ x∈l,kE x=0
 | y::l,s,⟨h1,_,h3⟩,x,h=>by
  rcases List.mem_cons.1 h with e | h
  ·rw [e];exact h1
  ·exact Wk h3 x h
theorem jX {a b:List AB} (va:VL a) (vb:VL b) (bt:Bool) {k:Nat} (hk:k<=a.length+b.length) (hl:a.length+b.length<=5000):VL (EZ a b bt k).2.2.1/\(EZ a b bt k).2.2.1.length<=a.length+b.length:=by
 have hr:=Hj va vb bt hk
 have h1:(FJ (s0 bt) (Az a b k)).length<=k:=by
  have:=Im (s0 bt) (Az a b k);rw [Cb va vb hk] at this;exact this
 have h2:(EZ a b bt k).2.2.1=FJ (s0 bt) (Az a b k):=rfl;rw [h2];exact ⟨⟨by omega,λx hx=>Wk hr x (TM hx),TL _ _ hr⟩,by omega⟩
end Go.Proofs.YthpkjfabdccpdaaGreat.Pl
namespace Go.Proofs.YthpkjfabdccpdaaGreat.Pl
open Go Go.Proofs.YthpkjfabdccpdaaGreat.Sv
def zS:CM:=((0,[]),([],0))
def Pg (j:Rr):List AB:=j.2.2.2.1
def kM (s:CM) (j:Rr):Nat:=if jV s.1 j=true then j.1.toNat else j.1.toNat+1
def mQ (s:CM) (j:Rr):AM:=if Pg j=[] then H8 s.1 j.1.toNat [] else H8 (H8 s.1 j.1.toNat []) (kM s j) (Db (H8 s.1 j.1.toNat []).2 (kM s j)++[(s.2.2,Pg j)])
theorem QW : ∀ (ls:List (List BI)) (i:Nat),(Co i ls).Nodup /\ ∀ d∈Co i ls,(i:Int)<=d
 | [],_=>⟨.nil,λ_ h=>by cases h⟩
 | rs::ls,i=>by
  obtain ⟨h1,h2⟩:=QW ls (i+1);rw [Uy];by_cases h:rs.length=2
  ·rw [if_pos h];refine ⟨List.nodup_cons.2 ⟨λhm => ?_,h1⟩,λd hd => ?_⟩
   ·have:=h2 _ hm;omega
   ·rcases List.mem_cons.1 hd with e | hd
    ·omega
    ·have:=h2 d hd;omega
  ·rw [if_neg h];exact ⟨h1,λd hd=>by have:=h2 d hd;omega⟩
theorem VSt.nodup {s:CM} (v:VSt s):(s.2.1.map (·.1)).Nodup:=by rw [v.due];exact (QW _ _).1
theorem JobAt.out {L:AM} {n:Nat} {j:Rr} (ha:JobAt L n j) (v:VLev L) (hs:(∀ r∈Db L.2 n,r.2.length<=2000)):VL (Pg j)/\((Pg j).length:Int)<=2*C8 L.1 n/\j.1=(n:Int)/\n<12/\Db L.2 n≠[]:=by
 obtain ⟨r0,r1,bt,k,h1,rfl,hk,_,v0,v1⟩:=ha;have ho:Db L.2 n=[r0,r1]:=by unfold Db;rw [h1];rfl
 have l0:=hs r0 (by rw [ho];simp);have l1:=hs r1 (by rw [ho];simp);have m0:=((v.own n).2 r0 (by rw [ho];simp)).le;have m1:=((v.own n).2 r1 (by rw [ho];simp)).le;obtain ⟨h2,h3⟩:=jX v1 v0 bt hk (by omega);have hn:=(List.getElem?_eq_some_iff.1 h1).1;have hv:=v.len;refine ⟨h2,?_,rfl,by omega,by rw [ho];simp⟩
 have h4:((Pg ((n:Int),EZ r1.2 r0.2 bt k)).length:Int)<=(r1.2.length:Int)+(r0.2.length:Int):=by
  have:(Pg ((n:Int),EZ r1.2 r0.2 bt k)).length<=r1.2.length+r0.2.length:=h3;omega
 omega
structure InstF (s:CM) (n:Nat) (j:Rr):Prop where
 l1:VLev (H8 s.1 n [])
 to12:Pg j≠[]->kM s j<12
 vr:Pg j≠[]->VR (C8 s.1.1 (kM s j)) (s.2.2,Pg j)
 id : ∀ y∈(H8 s.1 n []).2.flatten,y.1≠s.2.2
 room:Pg j≠[]->(Db (H8 s.1 n []).2 (kM s j)).length<2
 lev:VLev (mQ s j)
end Go.Proofs.YthpkjfabdccpdaaGreat.Pl
namespace Go.Proofs.YthpkjfabdccpdaaGreat.Pl
open Go Go.Proofs.YthpkjfabdccpdaaGreat.Sv
end Go.Proofs.YthpkjfabdccpdaaGreat.Pl
namespace Go.Proofs.YthpkjfabdccpdaaGreat.Pl
open Go Go.Proofs.YthpkjfabdccpdaaGreat.Sv
end Go.Proofs.YthpkjfabdccpdaaGreat.Pl
