/- Functions of the program and of the specification as plain functions, and laws about them. No condition. -/
import Derived.Test.YthpkjfabdccpdaaGreatPl1
import Derived.KernelRfl
set_option linter.all false
namespace Go.Proofs.YthpkjfabdccpdaaGreat.Pl
open Go Go.Proofs.YthpkjfabdccpdaaGreat.Sv
set_option linter.unusedVariables false
def Cq (x:(List AB)):Option Bool :=
 bd (loop (λs0=>br (Ah s0.1 (AV (AA x))) (λ_=>br (Ah s0.1 80) (λ_=>AS s0.1 λk1=>ix x k1 λx2=>br (Bz (AV (C2 x2.1)) 100) (λ_=>some (.dn ((0,((s0.1,true),()))))) λ_=>AS s0.1 λk3=>ix x k3 λx4=>br (Bz (AV (C2 x4.2.1)) 100) (λ_=>some (.dn ((0,((s0.1,true),()))))) λ_=>some (.nx (AH .i64 s0.1 1,s0.2))) λ_=>some (.dn ((1,(s0,()))))) λ_=>some (.dn ((1,(s0,()))))) (0,false)) λr5=>br (neq r5.1 0) (λ_=>some r5.2.1.2) λ_=>some (Bz (AV (AA x)) 70)
def D5 (x:(List AB)):Option Bool :=
 bd (loop (λs0=>br (Ah s0.1 (AV (AA x))) (λ_=>br (Ah s0.1 40) (λ_=>AS s0.1 λk1=>ix x k1 λx2=>br (Bz (AV (C2 x2.1)) 100) (λ_=>some (.dn ((0,((s0.1,true),()))))) λ_=>AS s0.1 λk3=>ix x k3 λx4=>br (Bz (AV (C2 x4.2.1)) 100) (λ_=>some (.dn ((0,((s0.1,true),()))))) λ_=>some (.nx (AH .i64 s0.1 1,s0.2))) λ_=>some (.dn ((1,(s0,()))))) λ_=>some (.dn ((1,(s0,()))))) (0,false)) λr5=>br (neq r5.1 0) (λ_=>some r5.2.1.2) λ_=>some (Bz (AV (AA x)) 30)
def C0 (x:(List A7)):Option Bool :=
 bd (loop (λs0=>br (Ah s0.1 (AV (AA x))) (λ_=>br (Ah s0.1 10) (λ_=>AS s0.1 λk1=>ix x k1 λx2=>bd (D5 x2.2) λr3=>br r3 (λ_=>some (.dn ((0,((s0.1,true),()))))) λ_=>some (.nx (AH .i64 s0.1 1,s0.2))) λ_=>some (.dn ((1,(s0,()))))) λ_=>some (.dn ((1,(s0,()))))) (0,false)) λr4=>br (neq r4.1 0) (λ_=>some r4.2.1.2) λ_=>some (Bz (AV (AA x)) 6)
def GC (x:AO):Option Bool :=
 bd (loop (λs0=>br (Ah s0.1 (AV (AA x.2))) (λ_=>br (Ah s0.1 20) (λ_=>AS s0.1 λk1=>ix x.2 k1 λx2=>bd (C0 x2) λr3=>br r3 (λ_=>some (.dn ((0,((s0.1,true),()))))) λ_=>some (.nx (AH .i64 s0.1 1,s0.2))) λ_=>some (.dn ((1,(s0,()))))) λ_=>some (.dn ((1,(s0,()))))) (0,false)) λr4=>br (neq r4.1 0) (λ_=>some r4.2.1.2) λ_=>some (Bz (AV (AA x.2)) 14)
def GD (x:(AO×((List (Int×(AY×((Bool×AT)×((List AB)×Int)))))×Int))):Option Bool :=
 bd (loop (λs0=>br (Ah s0.1 (AV (AA x.2.1))) (λ_=>br (Ah s0.1 20) (λ_=>AS s0.1 λk1=>ix x.2.1 k1 λx2=>bd (loop (λs3=>br (Ah s3.1 (AV (AA x2.2.1.1))) (λ_=>br (Ah s3.1 10) (λ_=>AS s3.1 λk4=>ix x2.2.1.1 k4 λx5=>bd (Cq x5) λr6=>br r6 (λ_=>some (.dn ((0,((s3.1,true),()))))) λ_=>some (.nx (AH .i64 s3.1 1,s3.2))) λ_=>some (.dn ((1,(s3,()))))) λ_=>some (.dn ((1,(s3,()))))) (0,s0.2)) λr7=>br (neq r7.1 0) (λ_=>some (.dn ((1,((s0.1,r7.2.1.2),()))))) λ_=>bd (Cq x2.2.2.2.1) λr8=>br r8 (λ_=>some (.dn ((1,((s0.1,true),()))))) λ_=>br (Bz (AV (AA x2.2.1.1)) 6) (λ_=>some (.dn ((1,((s0.1,true),()))))) λ_=>br (Bz (AV (AA x2.2.1.2.1)) 40) (λ_=>some (.dn ((1,((s0.1,true),()))))) λ_=>br (Bz (AV (AA x2.2.1.2.2.1)) 40) (λ_=>some (.dn ((1,((s0.1,true),()))))) λ_=>br (Bz (AV (AA x2.2.1.2.2.2.1)) 40) (λ_=>some (.dn ((1,((s0.1,true),()))))) λ_=>br (Bz (AV (C2 x2.2.2.1.2.1)) 200) (λ_=>some (.dn ((1,((s0.1,true),()))))) λ_=>some (.nx (AH .i64 s0.1 1,r7.2.1.2))) λ_=>some (.dn ((0,(s0,()))))) λ_=>some (.dn ((0,(s0,()))))) (0,false)) λr9=>br (neq r9.1 0) (λ_=>br (Bz (AV (AA x.2.1)) 14) (λ_=>some true) λ_=>bd (GC x.1) λr10=>some r10) λ_=>some r9.2.1.2
def Fc (x:(AO×Int)):Option Int :=
 bd (C5 x.1) λr0=>br (Ao r0.2.2 0) (λ_=>some r0.2.2) λ_=>br (Ah x.2 0) (λ_=>some 7) λ_=>br (Hz x.2 12) (λ_=>some 7) λ_=>some 0
def CY (x:(AO×Int)):Option (Bool×Int) :=
 bd (Fc x) λr0=>br (Ao r0 0) (λ_=>some (false,r0)) λ_=>br (Ah x.2 (AV (AA x.1.2))) (λ_=>AS x.2 λk1=>ix x.1.2 k1 λx2=>some ((Ah (AV (AA x2)) 2,0))) λ_=>some (true,0)
def EK (x:(AO×(Int×(List A7)))):Option AO :=
 AS (J6 (AV (AA x.1.2)) (AH .i64 x.2.1 1)) λk0=>AS (J6 (AV (AA x.1.2)) (AH .i64 x.2.1 1)) λk1=>gd (A6 k1 1048576) λ_=>AS x.2.1 λk2=>gd (B6 k2 (AA (DB (CK k1 ([]:List A7)) 0 x.1.2 (AA (CK k1 ([]:List A7)))))) λ_=>ix (DB (CK k1 ([]:List A7)) 0 x.1.2 (AA (CK k1 ([]:List A7)))) k2 λx3=>bd (loop (λs4=>br (Bz s4 0) (λ_=>AS (BJ .i64 s4 1) λk5=>gd (B6 k5 (AA (lset (DB (CK k1 ([]:List A7)) 0 x.1.2 (AA (CK k1 ([]:List A7)))) k2 x.2.2))) λ_=>ix (lset (DB (CK k1 ([]:List A7)) 0 x.1.2 (AA (CK k1 ([]:List A7)))) k2 x.2.2) k5 λx6=>br (Bm (AV (AA x6)) 0) (λ_=>some (.nx (BJ .i64 s4 1))) λ_=>some (.dn ((0,(s4,()))))) λ_=>some (.dn ((0,(s4,()))))) (AV (AA (lset (DB (CK k1 ([]:List A7)) 0 x.1.2 (AA (CK k1 ([]:List A7)))) k2 x.2.2)))) λr7=>AS r7.2.1 λk8=>gd (A6 k8 (AA (lset (DB (CK k1 ([]:List A7)) 0 x.1.2 (AA (CK k1 ([]:List A7)))) k2 x.2.2))) λ_=>gd (A6 0 k8) λ_=>br (B6 0 (AA (lset (DB (CK k1 ([]:List A7)) 0 x.1.2 (AA (CK k1 ([]:List A7)))) k2 x.2.2))) (λ_=>gd (A6 (AJ 0 (CF k8 0)) (AA (lset (DB (CK k1 ([]:List A7)) 0 x.1.2 (AA (CK k1 ([]:List A7)))) k2 x.2.2))) λ_=>some ((x.1.1,B3 (lset (DB (CK k1 ([]:List A7)) 0 x.1.2 (AA (CK k1 ([]:List A7)))) k2 x.2.2) 0 (AJ 0 (CF k8 0))))) λ_=>some (x.1.1,[])
def DH (x:(AO×(Int×A7))):Option (AO×Int) :=
 bd (Fc (x.1,x.2.1)) λr0=>br (Ao r0 0) (λ_=>some (((0,[]),r0))) λ_=>gd (Hz x.2.1 0) λ_=>bd (Cs (x.2.2,Tj .i64 x.1.1 x.2.1)) λr1=>br (Ao r1 0) (λ_=>some (((0,[]),r1))) λ_=>bd (loop (λ(s2:(Int×(AO×Int)))=>br (Ah s2.1 (AV (AA x.1.2))) (λ_=>AS s2.1 λk3=>ix x.1.2 k3 λx4=>bd (loop (λ(s5:(Int×(AO×Int)))=>br (Hz s5.1 0) (λ_=>AS s5.1 λk6=>ix x4 k6 λx7=>br (Bm x7.1 x.2.2.1) (λ_=>some (.dn ((1,((s5.1,((0,[]),8)),()))))) λ_=>some (.nx (BJ .i64 s5.1 1,s5.2))) λ_=>some (.dn ((0,(s5,()))))) ((BJ .i64 (AV (AA x4)) 1,s2.2))) λr8=>br (neq r8.1 0) (λ_=>some (.nx (AH .i64 s2.1 1,r8.2.1.2))) λ_=>some (.dn ((1,((s2.1,r8.2.1.2),()))))) λ_=>some (.dn ((0,(s2,()))))) ((0,((0,[]),0)))) λr9=>br (neq r9.1 0) (λ_=>br (Ah x.2.1 (AV (AA x.1.2))) (λ_=>AS x.2.1 λk10=>ix x.1.2 k10 λx11=>br (Bm (AV (AA x11)) 2) (λ_=>some (((0,[]),5))) λ_=>AS (AV (AA x11)) λk12=>AS (AV (AA x11)) λk13=>gd (A6 k12 (AA x11)) λ_=>gd (neq k12 k13) λ_=>gd (A6 0 k12) λ_=>gd (A6 (AJ (AA (B3 x11 0 k12)) (AA [x.2.2])) 1048576) λ_=>bd (EK ((x.1,(x.2.1,DK (B3 x11 0 k12) [x.2.2])))) λr14=>some (r14,0)) λ_=>gd (A6 (AA [x.2.2]) 1048576) λ_=>bd (EK ((x.1,(x.2.1,[x.2.2])))) λr15=>some (r15,0)) λ_=>some r9.2.1.2
def GE (x:(AO×Int)):Option ((Int×(AY×((Bool×AT)×((List AB)×Int))))×Int) :=
 bd (C5 x.1) λr0=>br (Ao r0.2.2 0) (λ_=>some (((0,(([],([],([],([],0)))),((false,([],false)),([],0)))),r0.2.2))) λ_=>br (Ah x.2 0) (λ_=>some (((0,(([],([],([],([],0)))),((false,([],false)),([],0)))),7))) λ_=>br (Hz x.2 12) (λ_=>some (((0,(([],([],([],([],0)))),((false,([],false)),([],0)))),7))) λ_=>br (Hz x.2 (AV (AA x.1.2))) (λ_=>some (((0,(([],([],([],([],0)))),((false,([],false)),([],0)))),4))) λ_=>AS x.2 λk1=>ix x.1.2 k1 λx2=>br (Ah (AV (AA x2)) 2) (λ_=>some (((0,(([],([],([],([],0)))),((false,([],false)),([],0)))),4))) λ_=>bd (Ct x) λr3=>bd (CV ((x.1,(x.2,r3)))) λr4=>some (r4,0)
def Do (x:((AO×((List (Int×(AY×((Bool×AT)×((List AB)×Int)))))×Int))×(AO×(Int×Int)))):Option ((AO×((List (Int×(AY×((Bool×AT)×((List AB)×Int)))))×Int))×Int) :=
 bd (loop (λ(s0:(Int×(List (Int×(Int×(AY×((Bool×AT)×((List AB)×Int))))))))=>br (Ah s0.1 (AV (AA x.1.2.1))) (λ_=>AS s0.1 λk1=>ix x.1.2.1 k1 λx2=>some (.nx ((AH .i64 s0.1 1,HW ((λa3=>(λa4=>Bm a3 a4))) s0.2 x2.1 x2)))) λ_=>some (.dn ((0,(s0,()))))) (0,[])) λr5=>bd (loop (λ(s6:(Int×(Int×((Int×((List (List A7))×((List (Int×(AY×((Bool×AT)×((List AB)×Int)))))×Int)))×(Int×((List (List A7))×((List (Int×(AY×((Bool×AT)×((List AB)×Int)))))×Int)))))))=>br (Ah s6.2.1 (AV (AA x.2.1.2))) (λ_=>AS s6.2.1 λk7=>ix x.2.1.2 k7 λx8=>br (Ah (AV (AA x8)) 2) (λ_=>some (.nx ((s6.1,(AH .i64 s6.2.1 1,s6.2.2))))) λ_=>br (AZ (jR (IE ((λa9=>(λa10=>Bm a9 a10))) (JG ((λa11=>(λa12=>Bm a11 a12))) r5.2.1.2 x.2.2.2) s6.2.1))) (λ_=>bd (GE (x.2.1,s6.2.1)) λr13=>br (Ao r13.2 0) (λ_=>some (.dn ((1,((r13.2,(s6.2.1,((0,([],([],0))),s6.2.2.2))),()))))) λ_=>gd (A6 (AJ (AA s6.2.2.2.2.2.1) (AA [r13.1])) 1048576) λ_=>some (.nx ((s6.1,(AH .i64 s6.2.1 1,(s6.2.2.1,(s6.2.2.2.1,(s6.2.2.2.2.1,(DK s6.2.2.2.2.2.1 [r13.1],s6.2.2.2.2.2.2))))))))) λ_=>gd (A6 (AJ (AA s6.2.2.2.2.2.1) (AA ([PG (IE (λa b=>Bm a b) (JG (λa b=>Bm a b) r5.2.1.2 x.2.2.2) s6.2.1) (0,(([],([],([],([],0)))),((false,([],false)),([],0))))]))) 1048576) λ_=>some (.nx ((s6.1,(AH .i64 s6.2.1 1,(s6.2.2.1,(s6.2.2.2.1,(s6.2.2.2.2.1,(DK s6.2.2.2.2.2.1 ([PG (IE (λa b=>Bm a b) (JG (λa b=>Bm a b) r5.2.1.2 x.2.2.2) s6.2.1) (0,(([],([],([],([],0)))),((false,([],false)),([],0))))]),s6.2.2.2.2.2.2))))))))) λ_=>some (.dn ((0,(s6,()))))) ((0,(0,((0,([],([],0))),(x.2.1.1,(x.2.1.2,([],x.2.2.1)))))))) λr102=>br (neq r102.1 0) (λ_=>some ((((r102.2.1.2.2.2.1,r102.2.1.2.2.2.2.1),r102.2.1.2.2.2.2.2),0))) λ_=>some ((((r102.2.1.2.2.1.1,r102.2.1.2.2.1.2.1),r102.2.1.2.2.1.2.2),r102.2.1.1))
end Go.Proofs.YthpkjfabdccpdaaGreat.Pl
namespace Go.Proofs.YthpkjfabdccpdaaGreat.Pl
open Go Go.Proofs.YthpkjfabdccpdaaGreat.Sv
def JobAt (L:AO) (n:Nat) (j:IM):Prop := ∃ r0 r1 bt k,L.2[n]? = some [r0,r1]/\j=((n:Int),EU r1.2 r0.2 bt k)/\k<=r1.2.length+r0.2.length/\(bt=true->n+1=L.2.length)/\VL r0.2/\VL r1.2
structure VSt (s:BL):Prop where
 lev:VLev s.1
 n1:1<=s.2.2
 n2:s.2.2<=1000001
 n3:E1 s.1.2<s.2.2
 due:s.2.1.map (·.1)=Bx 0 s.1.2
 job : ∀ j∈s.2.1,∃ n,JobAt s.1 n j
theorem io (a b:List AB) (bt:Bool) (k:Nat):(EU a b bt k).2.1.2.2=bt:=by
 show (CR (s0 bt) (Az a b k)).2.2=bt;rw [F3]
theorem Ot {L:AO} (v:VLev L) {i:Nat} {j:IM}:KS L (Bx 0 L.2) i j=false <-> ∃ n,(Bx 0 L.2)[i]? = some j.1/\JobAt L n j:=by
 constructor
 ·intro h;unfold KS at h;cases hd:(Bx 0 L.2)[i]? with
  | none=>rw [hd] at h;cases h
  | some d =>
   rw [hd] at h;simp only at h;by_cases h1:j.1=d;rotate_left
   ·rw [if_pos h1] at h;cases h
   rw [if_neg (by simp [h1])] at h;by_cases h2:j.2.2.1.2.2=true/\j.1≠(L.2.length:Int)-1
   ·rw [if_pos h2] at h;cases h
   rw [if_neg h2] at h;obtain ⟨n,hn,r0,r1,hl⟩:=HC hd;rw [Nat.zero_add] at hn;rw [hn,Int.toNat_natCast,hl] at h;simp only at h;by_cases h3:j.2.2.2.2<0\/j.2.2.2.2>((r1.2.length+r0.2.length:Nat):Int)
   ·rw [if_pos h3] at h;cases h
   rw [if_neg h3] at h;have h4:EU r1.2 r0.2 j.2.2.1.2.2 j.2.2.2.2.toNat=j.2:=by simpa using h
   have hv:=(v.lev n _ hl).2;refine ⟨n,by rw [h1],r0,r1,j.2.2.1.2.2,j.2.2.2.2.toNat,hl,Prod.ext (by rw [h1,hn]) h4.symm,by omega,λhb => ?_,(hv r0 (by simp)).vl,(hv r1 (by simp)).vl⟩
   have h5:j.1=(L.2.length:Int)-1:=by
    by_cases h6:j.1=(L.2.length:Int)-1
    ·exact h6
    ·exact absurd ⟨hb,h6⟩ h2
   omega
 ·rintro ⟨n,hd,r0,r1,bt,k,hl,rfl,hk,hb,v0,v1⟩;unfold KS;rw [hd];simp only;rw [if_neg (by simp),io,if_neg (λh:bt=true/\(n:Int)≠(L.2.length:Int)-1=>h.2 (by have:=hb h.1;omega)),Int.toNat_natCast,hl];simp only;rw [show (EU r1.2 r0.2 bt k).2.2.2=(k:Int) from rfl,if_neg (by omega),Int.toNat_natCast];simp
theorem Jm {L:AO} {due:List Int} : ∀ {js:List IM} {i:Nat},FX L due i js=none <-> ∀ k j,js[k]? = some j->KS L due (i+k) j=false
 | [],i=>by simp [FX]
 | j::js,i=>by
  unfold FX;by_cases h:KS L due i j=true
  ·rw [if_pos h];simp only [reduceCtorEq,false_iff];intro h2;have:=h2 0 j rfl;rw [Nat.add_zero,h] at this;cases this
  ·rw [if_neg h,Jm (js:=js)];constructor
   ·intro h2 k j' hk;cases k with
    | zero=>cases hk;simpa using h
    | succ k=>rw [show i+(k+1)=i+1+k by omega];exact h2 k j' hk
   ·intro h2 k j' hk;rw [show i+1+k=i+(k+1) by omega];exact h2 (k+1) j' hk
theorem Hq {s:BL}:(Br s).2=0<->VSt s:=by
 unfold Br;constructor
 ·intro h;by_cases h0:(EV s.1).2.2≠0
  ·rw [if_pos h0] at h;exact absurd h h0
  rw [if_neg h0] at h;have v:=Ho.1 (Decidable.not_not.1 h0);by_cases h1:s.2.2<1\/s.2.2>1000001
  ·rw [if_pos h1] at h;cases h
  rw [if_neg h1] at h;by_cases h2:s.2.2<=E1 s.1.2
  ·rw [if_pos h2] at h;cases h
  rw [if_neg h2] at h;cases hg:FX s.1 (Bx 0 s.1.2) 0 s.2.1 with
  | some i=>rw [hg] at h;cases h
  | none =>
   rw [hg] at h;simp only at h;by_cases h3:s.2.1.length<(Bx 0 s.1.2).length
   ·rw [if_pos h3] at h;cases h
   have hj:=Jm.1 hg
   have hj2 : ∀ k j,s.2.1[k]? = some j -> ∃ n,(Bx 0 s.1.2)[k]? = some j.1/\JobAt s.1 n j:=λk j hk=>by
    have:=hj k j hk;rw [Nat.zero_add] at this;exact (Ot v).1 this
   refine ⟨v,by omega,by omega,by omega,?_,λj hm => ?_⟩
   ·apply List.ext_getElem?;intro k;rw [List.getElem?_map];cases hk:s.2.1[k]? with
    | some j=>obtain ⟨n,e,_⟩:=hj2 k j hk;rw [e];rfl
    | none =>
     have:=List.getElem?_eq_none_iff.1 hk;rw [List.getElem?_eq_none (by omega)];rfl
   ·obtain ⟨k,hk⟩:=List.getElem?_of_mem hm;obtain ⟨n,_,h⟩:=hj2 k j hk;exact ⟨n,h⟩
 ·intro v;rw [if_neg (by simp [Ho.2 v.lev]),if_neg (by have:=v.n1;have:=v.n2;omega),if_neg (by have:=v.n3;omega)]
  have hg:FX s.1 (Bx 0 s.1.2) 0 s.2.1=none:=Jm.2 λk j hk=>by
   rw [Nat.zero_add];obtain ⟨n,hn⟩:=v.job j (List.mem_of_getElem? hk);exact (Ot v.lev).2 ⟨n,by rw [<- v.due,List.getElem?_map,hk];rfl,hn⟩
  rw [hg];simp only;rw [if_neg (by rw [<- v.due];simp)]
structure Sm (s:BL):Prop where
 lv:s.1.2.length<=1048576
 rs : ∀ rs∈s.1.2,rs.length<=1048576 /\ ∀ r∈rs,r.2.length<=9223372036854775807
 js:s.2.1.length<=1048576
theorem lQ {s:BL} (m:Sm s):Bw s=some (Br s):=Uj s m.lv m.rs m.js
theorem lR {s:BL} (m:Sm s):EJ s=some (Br s):=S4 s m.lv m.rs m.js
theorem VSt.jlen {s:BL} (v:VSt s):s.2.1.length=(Bx 0 s.1.2).length:=by rw [<- v.due];simp
theorem VSt.jsmall {s:BL} (v:VSt s):s.2.1.length<=12:=by
 have:=v.jlen;have:=GX s.1.2 0;have:=v.lev.len;omega
theorem VSt.sm {s:BL} (v:VSt s):Sm s:=⟨v.lev.small.1,v.lev.small.2,by have:=v.jsmall;omega⟩
def lG (x:Int):Nat->List Int->Option Nat
 | _,[]=>none
 | k,y::l=>if y=x then some k else lG x (k+1) l
theorem Zo {x:Int} : ∀ {l:List Int} {k i:Nat},lG x k l=some i->k<=i/\l[i-k]? = some x
 | [],_,_,h=>by cases h
 | y::l,k,i,h=>by
  unfold lG at h;by_cases e:y=x
  ·rw [if_pos e] at h;cases h;simp [e]
  ·rw [if_neg e] at h;obtain ⟨h1,h2⟩:=Zo h;exact ⟨by omega,by rw [show i-k=(i-(k+1))+1 by omega];simpa using h2⟩
end Go.Proofs.YthpkjfabdccpdaaGreat.Pl
namespace Go.Proofs.YthpkjfabdccpdaaGreat.Pl
open Go Go.Proofs.YthpkjfabdccpdaaGreat.Sv
def S5 (L:AO) (j:IM):Nat:=match L.2[j.1.toNat]? with
 | some [r0,r1]=>r1.2.length+r0.2.length-j.2.2.2.2.toNat
 | _=>0
def ip (L:AO) (j:IM):Bool:=decide ((j.2.2.2.1.length:Int)<=B4 L.1 j.1.toNat)
def S6 (L:AO) (n:Nat):Bool:=decide (n<12/\((L.2[n]?).getD []).length<2)
theorem VSt.at {s:BL} (v:VSt s) {level:Int} {i:Nat} (h:lG level 0 (Bx 0 s.1.2)=some i) : ∃ (j:IM) (n:Nat),s.2.1[i]? = some j/\level=(n:Int)/\j.1=(n:Int)/\JobAt s.1 n j/\n<s.1.2.length:=by
 obtain ⟨_,h1⟩:=Zo h;rw [Nat.sub_zero] at h1;rw [<- v.due,List.getElem?_map] at h1;cases hj:s.2.1[i]? with
 | none=>rw [hj] at h1;cases h1
 | some j =>
  rw [hj] at h1;simp only [Option.map_some,Option.some.injEq] at h1;obtain ⟨n,hn⟩:=v.job j (List.mem_of_getElem? hj);have hn0:=hn;obtain ⟨r0,r1,bt,k,hl,e,_⟩:=hn;have h2:j.1=(n:Int):=by rw [e]
  exact ⟨j,n,rfl,by rw [<- h1,h2],h2,hn0,(List.getElem?_eq_some_iff.1 hl).1⟩
theorem JobAt.left {L:AO} {n:Nat} {j:IM} (h:JobAt L n j):Bt j.2=some ((S5 L j:Int),0)/\BF j.2=some ((S5 L j:Int),0)/\S5 L j<=10000:=by
 obtain ⟨r0,r1,bt,k,hl,rfl,hk,_,v0,v1⟩:=h;have l0:=v0.len;have l1:=v1.len
 have e:S5 L ((n:Int),EU r1.2 r0.2 bt k)=r1.2.length+r0.2.length-k:=by
  unfold S5;simp only [Int.toNat_natCast,hl];show r1.2.length+r0.2.length-((k:Int)).toNat=_;rw [Int.toNat_natCast]
 rw [e];exact ⟨Mz v1 v0 bt hk,LL v1 v0 bt hk,by omega⟩
theorem WL {L:AO} (v:VLev L) (k:Int):Fc (L,k)=some (if k<0\/k>=12 then 7 else 0):=by
 obtain ⟨hb,hr⟩:=v.small;unfold Fc;rw [LI _ hb hr,G5 v,AD,AR,if_pos rfl,BD,Fw];by_cases h1:k<0
 ·rw [if_pos h1,if_pos (.inl h1)]
 ·rw [if_neg h1];by_cases h2:k>=12
  ·rw [if_pos h2,if_pos (.inr h2)]
  ·rw [if_neg h2,if_neg (by omega)]
theorem iq (l:List A7):Ah (l.length:Int) 2=decide (l.length<2):=by
 unfold Ah;rw [decide_eq_decide];omega
theorem QG {L:AO} (v:VLev L) {n:Nat} (hn:n<=12):CY (L,(n:Int))=some (S6 L n,if n>=12 then 7 else 0):=by
 unfold CY S6;simp only [AU,AP];rw [WL v,AD,AR];by_cases h:n>=12
 ·rw [if_pos (show (n:Int)<0\/(n:Int)>=12 by omega),if_neg (by decide),if_pos h];simp;omega
 ·rw [if_neg (show ¬ ((n:Int)<0\/(n:Int)>=12) by omega),if_pos rfl,if_neg h,BD];have h12:n<12:=by omega
  by_cases h2:n<L.2.length
  ·have hx:L.2[n]? = some (L.2[n]'h2):=by simp
   rw [if_pos (by omega),AE,AK hx,hx,iq,Option.getD_some];simp [h12]
  ·rw [if_neg (by omega),List.getElem?_eq_none (by omega)];simp [h12]
end Go.Proofs.YthpkjfabdccpdaaGreat.Pl
namespace Go.Proofs.YthpkjfabdccpdaaGreat.Pl
open Go Go.Proofs.YthpkjfabdccpdaaGreat.Sv
end Go.Proofs.YthpkjfabdccpdaaGreat.Pl
namespace Go.Proofs.YthpkjfabdccpdaaGreat.Pl
open Go Go.Proofs.YthpkjfabdccpdaaGreat.Sv
theorem IT {α β σ S:Type} {l:List α} (c:Nat) (hc9:c<=1000) (mk:Nat->σ->S) (I:Nat->σ->Prop) (Q:β->Prop) {f:S->Option (LR S β)} {s:S} (st:σ) (h0:s=mk 0 st) (hi:I 0 st)
  (hn : ∀ k st,(k=l.length\/k=c)->k<=l.length->I k st -> ∃ r,f (mk k st)=some (.dn r)/\Q r)
  (hc : ∀ k x st,l[k]? = some x->k<c->I k st->(∃ st',f (mk k st)=some (.nx (mk (k+1) st'))/\I (k+1) st') \/ ∃ r,f (mk k st)=some (.dn r)/\Q r) : ∃ r,loop f s=some r/\Q r:=by
 refine E9 (l:=l.take c) mk (λ_ k st=>I k st/\k<=(l.take c).length) Q st h0 (by simp;omega) ⟨hi,by omega⟩ (λst h=>hn _ st (by simp;omega) (by simp;omega) h.1) (λk x m st hd hx hk h => ?_);have hk2:k<c:=by simp at hk;omega
 have hx2:l[k]? = some x:=by rw [List.getElem?_take] at hx;rw [if_pos hk2] at hx;exact hx
 rcases hc k x st hx2 hk2 h.1 with ⟨st',h1,h2⟩ | h1
 ·exact .inl ⟨st',h1,h2,by omega⟩
 ·exact .inr h1
theorem QH {k c:Nat} (h:k<c):Ah (k:Int) (c:Int)=true:=by unfold Ah;simp;omega
theorem XS {α β:Type} {l:List α} {k c:Nat} (h:k=l.length\/k=c) (hk:k<=l.length) (A B C:Option β) (e:B=C):br (Ah (k:Int) (l.length:Int)) (λ_=>br (Ah (k:Int) (c:Int)) (λ_=>A) λ_=>B) (λ_=>C)=C:=by
 rw [BD];by_cases h1:(k:Int)<(l.length:Int)
 ·rw [if_pos h1,BD,if_neg (by omega),e]
 ·rw [if_neg h1]
theorem QI (l:List AB) : ∃ b,D5 l=some b/\(b=false->l.length<=30):=by
 unfold D5;simp only [AU,AP]
 obtain ⟨r,q1,q2⟩:=IT (l:=l) (σ:=Unit) (s:=((0:Int),false)) 40 (by omega) (λk _=>((k:Int),false)) (λ_ _=>True) (λ(r:Nat×((Int×Bool)×Unit))=>r.1=1\/(r.1=0/\r.2.1.2=true))
  (f:=λs0=>br (Ah s0.1 (l.length:Int)) (λ_=>br (Ah s0.1 40) (λ_=>AS s0.1 λk1=>ix l k1 λx2=>br (Bz (C2 x2.1:Int) 100) (λ_=>some (.dn ((0,((s0.1,true),()))))) λ_=>AS s0.1 λk3=>ix l k3 λx4=>br (Bz (C2 x4.2.1:Int) 100) (λ_=>some (.dn ((0,((s0.1,true),()))))) λ_=>some (.nx (AH .i64 s0.1 1,s0.2))) λ_=>some (.dn ((1,(s0,()))))) λ_=>some (.dn ((1,(s0,())))))
  () rfl trivial (λk _ h hk _=>⟨_,(XS (c:=40) h hk _ _ _ rfl),.inl rfl⟩) (λk x _ hx hk _=>by
   simp only;have hk2:=(List.getElem?_eq_some_iff.1 hx).1;rw [rl hk2,AN,show Ah (k:Int) 40=true from QH hk,AN,AE,AK hx,Ax,AE,AK hx,Ax,Aa (by omega)]
   repeat' split
   all_goals first | exact .inr ⟨_,rfl,.inr ⟨rfl,rfl⟩⟩ | exact .inl ⟨(),rfl,trivial⟩)
 rw [q1,AD,CO];rcases q2 with q2 | ⟨q2,q3⟩
 ·rw [if_neg (show ¬ r.1=0 by omega)];exact ⟨_,rfl,λh=>by unfold Bz at h;simp at h;omega⟩
 ·rw [if_pos q2,q3];exact ⟨_,rfl,λh=>by cases h⟩
theorem S7 (l:List A7) : ∃ b,C0 l=some b/\(b=false->l.length<=6 /\ ∀ r∈l,r.2.length<=30):=by
 unfold C0;simp only [AU,AP]
 obtain ⟨r,q1,q2⟩:=IT (l:=l) (σ:=Unit) (s:=((0:Int),false)) 10 (by omega) (λk _=>((k:Int),false)) (λk _ => ∀ i x,i<k->l[i]? = some x->x.2.length<=30) (λ(r:Nat×((Int×Bool)×Unit))=>(r.1=1 /\ ∀ i x,i<10->l[i]? = some x->x.2.length<=30)\/(r.1=0/\r.2.1.2=true))
  (f:=λs0=>br (Ah s0.1 (l.length:Int)) (λ_=>br (Ah s0.1 10) (λ_=>AS s0.1 λk1=>ix l k1 λx2=>bd (D5 x2.2) λr3=>br r3 (λ_=>some (.dn ((0,((s0.1,true),()))))) λ_=>some (.nx (AH .i64 s0.1 1,s0.2))) λ_=>some (.dn ((1,(s0,()))))) λ_=>some (.dn ((1,(s0,())))))
  () rfl (λi x h=>by omega) (λk _ h hk hI=>⟨_,(XS (c:=10) h hk _ _ _ rfl),.inl ⟨rfl,λi x hi hx=>hI i x (by have:=(List.getElem?_eq_some_iff.1 hx).1;omega) hx⟩⟩) (λk x _ hx hk hI=>by
   simp only;have hk2:=(List.getElem?_eq_some_iff.1 hx).1;obtain ⟨b,e,hb⟩:=QI x.2;rw [rl hk2,AN,show Ah (k:Int) 10=true from QH hk,AN,AE,AK hx,e,AD,Aa (by omega)];cases b with
   | true=>exact .inr ⟨_,rfl,.inr ⟨rfl,rfl⟩⟩
   | false =>
    refine .inl ⟨(),rfl,λi y hi hy => ?_⟩;by_cases h:i=k
    ·subst h;rw [hx] at hy;cases hy;exact hb rfl
    ·exact hI i y (by omega) hy)
 rw [q1,AD,CO];rcases q2 with ⟨q2,q3⟩ | ⟨q2,q3⟩
 ·rw [if_neg (show ¬ r.1=0 by omega)];refine ⟨_,rfl,λh => ?_⟩;have hl:l.length<=6:=by unfold Bz at h;simp at h;omega
  exact ⟨hl,λr hr=>by
   obtain ⟨i,hi⟩:=List.getElem?_of_mem hr
   exact q3 i r (by have:=(List.getElem?_eq_some_iff.1 hi).1;omega) hi⟩
 ·rw [if_pos q2,q3];exact ⟨_,rfl,λh=>by cases h⟩
theorem XT (L:AO) : ∃ b,GC L=some b/\(b=false->L.2.length<=14 /\ ∀ rs∈L.2,rs.length<=6 /\ ∀ r∈rs,r.2.length<=30):=by
 unfold GC;simp only [AU,AP]
 obtain ⟨r,q1,q2⟩:=IT (l:=L.2) (σ:=Unit) (s:=((0:Int),false)) 20 (by omega) (λk _=>((k:Int),false)) (λk _ => ∀ i x,i<k->L.2[i]? = some x->x.length<=6 /\ ∀ r∈x,r.2.length<=30) (λ(r:Nat×((Int×Bool)×Unit))=>(r.1=1 /\ ∀ i x,i<20->L.2[i]? = some x->x.length<=6 /\ ∀ r∈x,r.2.length<=30)\/(r.1=0/\r.2.1.2=true))
  (f:=λs0=>br (Ah s0.1 (L.2.length:Int)) (λ_=>br (Ah s0.1 20) (λ_=>AS s0.1 λk1=>ix L.2 k1 λx2=>bd (C0 x2) λr3=>br r3 (λ_=>some (.dn ((0,((s0.1,true),()))))) λ_=>some (.nx (AH .i64 s0.1 1,s0.2))) λ_=>some (.dn ((1,(s0,()))))) λ_=>some (.dn ((1,(s0,())))))
  () rfl (λi x h=>by omega) (λk _ h hk hI=>⟨_,(XS (c:=20) h hk _ _ _ rfl),.inl ⟨rfl,λi x hi hx=>hI i x (by have:=(List.getElem?_eq_some_iff.1 hx).1;omega) hx⟩⟩) (λk x _ hx hk hI=>by
   simp only;have hk2:=(List.getElem?_eq_some_iff.1 hx).1;obtain ⟨b,e,hb⟩:=S7 x;rw [rl hk2,AN,show Ah (k:Int) 20=true from QH hk,AN,AE,AK hx,e,AD,Aa (by omega)];cases b with
   | true=>exact .inr ⟨_,rfl,.inr ⟨rfl,rfl⟩⟩
   | false =>
    refine .inl ⟨(),rfl,λi y hi hy => ?_⟩;by_cases h:i=k
    ·subst h;rw [hx] at hy;cases hy;exact hb rfl
    ·exact hI i y (by omega) hy)
 rw [q1,AD,CO];rcases q2 with ⟨q2,q3⟩ | ⟨q2,q3⟩
 ·rw [if_neg (show ¬ r.1=0 by omega)];refine ⟨_,rfl,λh => ?_⟩;have hl:L.2.length<=14:=by unfold Bz at h;simp at h;omega
  exact ⟨hl,λr hr=>by
   obtain ⟨i,hi⟩:=List.getElem?_of_mem hr
   exact q3 i r (by have:=(List.getElem?_eq_some_iff.1 hi).1;omega) hi⟩
 ·rw [if_pos q2,q3];exact ⟨_,rfl,λh=>by cases h⟩
theorem WM (l:List AB) : ∃ b,Cq l=some b:=by
 unfold Cq;simp only [AU,AP]
 obtain ⟨r,q1,q2⟩:=IT (l:=l) (σ:=Unit) (s:=((0:Int),false)) 80 (by omega) (λk _=>((k:Int),false)) (λ_ _=>True) (λ(r:Nat×((Int×Bool)×Unit))=>True)
  (f:=λs0=>br (Ah s0.1 (l.length:Int)) (λ_=>br (Ah s0.1 80) (λ_=>AS s0.1 λk1=>ix l k1 λx2=>br (Bz (C2 x2.1:Int) 100) (λ_=>some (.dn ((0,((s0.1,true),()))))) λ_=>AS s0.1 λk3=>ix l k3 λx4=>br (Bz (C2 x4.2.1:Int) 100) (λ_=>some (.dn ((0,((s0.1,true),()))))) λ_=>some (.nx (AH .i64 s0.1 1,s0.2))) λ_=>some (.dn ((1,(s0,()))))) λ_=>some (.dn ((1,(s0,())))))
  () rfl trivial (λk _ h hk _=>⟨_,(XS (c:=80) h hk _ _ _ rfl),trivial⟩) (λk x _ hx hk _=>by
   simp only;have hk2:=(List.getElem?_eq_some_iff.1 hx).1;rw [rl hk2,AN,show Ah (k:Int) 80=true from QH hk,AN,AE,AK hx,Ax,AE,AK hx,Ax,Aa (by omega)]
   repeat' split
   all_goals first | exact .inr ⟨_,rfl,trivial⟩ | exact .inl ⟨(),rfl,trivial⟩)
 rw [q1,AD,CO];split<;>exact ⟨_,rfl⟩
theorem XU (s:BL) : ∃ b,GD s=some b/\(b=false->Sm s /\ ∀ rs∈s.1.2,∀ r∈rs,r.2.length<=30):=by
 unfold GD;simp only [AU,AP]
 obtain ⟨r,q1,q2⟩:=IT (l:=s.2.1) (σ:=Unit) (s:=((0:Int),false)) 20 (by omega) (λk _=>((k:Int),false)) (λ_ _=>True) (λ(r:Nat×((Int×Bool)×Unit))=>r.1=0\/(r.1=1/\r.2.1.2=true))
  (f:=λs0=>br (Ah s0.1 (s.2.1.length:Int)) (λ_=>br (Ah s0.1 20) (λ_=>AS s0.1 λk1=>ix s.2.1 k1 λx2=>bd (loop (λs3=>br (Ah s3.1 (x2.2.1.1.length:Int)) (λ_=>br (Ah s3.1 10) (λ_=>AS s3.1 λk4=>ix x2.2.1.1 k4 λx5=>bd (Cq x5) λr6=>br r6 (λ_=>some (.dn ((0,((s3.1,true),()))))) λ_=>some (.nx (AH .i64 s3.1 1,s3.2))) λ_=>some (.dn ((1,(s3,()))))) λ_=>some (.dn ((1,(s3,()))))) (0,s0.2)) λr7=>br (neq r7.1 0) (λ_=>some (.dn ((1,((s0.1,r7.2.1.2),()))))) λ_=>bd (Cq x2.2.2.2.1) λr8=>br r8 (λ_=>some (.dn ((1,((s0.1,true),()))))) λ_=>br (Bz (x2.2.1.1.length:Int) 6) (λ_=>some (.dn ((1,((s0.1,true),()))))) λ_=>br (Bz (x2.2.1.2.1.length:Int) 40) (λ_=>some (.dn ((1,((s0.1,true),()))))) λ_=>br (Bz (x2.2.1.2.2.1.length:Int) 40) (λ_=>some (.dn ((1,((s0.1,true),()))))) λ_=>br (Bz (x2.2.1.2.2.2.1.length:Int) 40) (λ_=>some (.dn ((1,((s0.1,true),()))))) λ_=>br (Bz (C2 x2.2.2.1.2.1:Int) 200) (λ_=>some (.dn ((1,((s0.1,true),()))))) λ_=>some (.nx (AH .i64 s0.1 1,r7.2.1.2))) λ_=>some (.dn ((0,(s0,()))))) λ_=>some (.dn ((0,(s0,())))))
  () rfl trivial (λk _ h hk _=>⟨_,(XS (c:=20) h hk _ _ _ rfl),.inl rfl⟩) (λk x _ hx hk _=>by
   simp only;have hk2:=(List.getElem?_eq_some_iff.1 hx).1;rw [rl hk2,AN,show Ah (k:Int) 20=true from QH hk,AN,AE,AK hx]
   obtain ⟨r,q1,q2⟩:=IT (l:=x.2.1.1) (σ:=Unit) (s:=((0:Int),false)) 10 (by omega) (λk _=>((k:Int),false)) (λ_ _=>True) (λ(r:Nat×((Int×Bool)×Unit))=>(r.1=1/\r.2.1.2=false)\/(r.1=0/\r.2.1.2=true))
    (f:=λs3=>br (Ah s3.1 (x.2.1.1.length:Int)) (λ_=>br (Ah s3.1 10) (λ_=>AS s3.1 λk4=>ix x.2.1.1 k4 λx5=>bd (Cq x5) λr6=>br r6 (λ_=>some (.dn ((0,((s3.1,true),()))))) λ_=>some (.nx (AH .i64 s3.1 1,s3.2))) λ_=>some (.dn ((1,(s3,()))))) λ_=>some (.dn ((1,(s3,())))))
    () rfl trivial (λk _ h hk _=>⟨_,(XS (c:=10) h hk _ _ _ rfl),.inl ⟨rfl,rfl⟩⟩) (λk y _ hy hk _=>by
     simp only;have hk2:=(List.getElem?_eq_some_iff.1 hy).1;obtain ⟨b,e⟩:=WM y;rw [rl hk2,AN,show Ah (k:Int) 10=true from QH hk,AN,AE,AK hy,e,AD,Aa (by omega)];cases b with
     | true=>exact .inr ⟨_,rfl,.inr ⟨rfl,rfl⟩⟩
     | false=>exact .inl ⟨(),rfl,trivial⟩)
   obtain ⟨b,e⟩:=WM x.2.2.2.1;rw [q1,AD,CO,e];rcases q2 with ⟨q2,q3⟩ | ⟨q2,q3⟩
   ·rw [if_neg (show ¬ r.1=0 by omega),AD,Gp,Ax,Ax,Ax,Ax,Ax,q3,Aa (by omega)]
    repeat' split
    all_goals first | exact .inr ⟨_,rfl,.inr ⟨rfl,rfl⟩⟩ | exact .inl ⟨(),rfl,trivial⟩
   ·rw [if_pos q2,q3]
    exact .inr ⟨_,rfl,.inr ⟨rfl,rfl⟩⟩)
 rw [q1,AD,CO];rcases q2 with q2 | ⟨q2,q3⟩
 ·rw [if_pos q2,Ax];by_cases h:(s.2.1.length:Int)>14
  ·rw [if_pos h];exact ⟨_,rfl,λh=>by cases h⟩
  ·rw [if_neg h];obtain ⟨b,e,hb⟩:=XT s.1;rw [e];refine ⟨b,rfl,λh2 => ?_⟩;obtain ⟨h3,h4⟩:=hb h2;exact ⟨⟨by omega,λrs hrs=>⟨by have:=(h4 rs hrs).1;omega,λr hr=>by have:=(h4 rs hrs).2 r hr;omega⟩,by omega⟩,λrs hrs=>(h4 rs hrs).2⟩
 ·rw [if_neg (show ¬ r.1=0 by omega),q3];exact ⟨_,rfl,λh=>by cases h⟩
end Go.Proofs.YthpkjfabdccpdaaGreat.Pl
namespace Go.Proofs.YthpkjfabdccpdaaGreat.Pl
open Go Go.Proofs.YthpkjfabdccpdaaGreat.Sv
end Go.Proofs.YthpkjfabdccpdaaGreat.Pl
namespace Go.Proofs.YthpkjfabdccpdaaGreat.Pl
open Go Go.Proofs.YthpkjfabdccpdaaGreat.Sv
theorem gA {β:Type} (k:Unit->Option β):gd true k=k ():=rfl
def A5 (l:List (List A7)) (i:Nat):List A7:=(l[i]?).getD []
def Jo (l:List (List A7)):Nat->Nat
 | 0=>0
 | k+1=>if A5 l k=[] then Jo l k else k+1
def IU (l:List (List A7)) (n:Nat):List (List A7):=l++List.replicate (n+1-l.length) []
def Jp (l:List (List A7)) (n:Nat) (r:List A7):List (List A7):=(IU l n).set n r
def HT (l:List (List A7)):List (List A7):=l.take (Jo l l.length)
def Fe (L:AO) (n:Nat) (r:List A7):AO:=(L.1,HT (Jp L.2 n r))
theorem RX (l:List (List A7)) : ∀ k,Jo l k<=k
 | 0=>Nat.le_refl _
 | k+1=>by
  unfold Jo;split
  ·exact Nat.le_succ_of_le (RX l k)
  ·exact Nat.le_refl _
theorem Ou (l:List (List A7)) : ∀ {k i:Nat},Jo l k<=i->i<k->A5 l i=[]
 | 0,_,_,h=>by omega
 | k+1,i,h1,h2=>by
  unfold Jo at h1;split at h1
  ·rename_i he;by_cases hi:i=k
   ·rw [hi];exact he
   ·exact Ou l h1 (by omega)
  ·omega
theorem QJ (l:List (List A7)) : ∀ {k m:Nat},Jo l k=m+1->A5 l m≠[]
 | 0,m,h=>by cases h
 | k+1,m,h=>by
  unfold Jo at h;split at h
  ·exact QJ l h
  ·rename_i hne;have:m=k:=by omega
   rw [this];exact hne
theorem QK (l:List (List A7)) (i:Nat):A5 (HT l) i=A5 l i:=by
 unfold HT;by_cases h:i<Jo l l.length
 ·unfold A5;rw [List.getElem?_take,if_pos h]
 ·have h1:A5 (l.take (Jo l l.length)) i=[]:=by
   unfold A5;rw [List.getElem?_take,if_neg h];rfl
  rw [h1];by_cases h2:i<l.length
  ·exact (Ou l (by omega) h2).symm
  ·unfold A5;rw [List.getElem?_eq_none (by omega)];rfl
theorem Uu (l:List (List A7)):(HT l).getLast? ≠ some []:=by
 have hl:(HT l).length=Jo l l.length:=by
  have:=RX l l.length;unfold HT;rw [List.length_take];omega
 cases hd:Jo l l.length with
 | zero =>
  have:HT l=[]:=List.length_eq_zero_iff.1 (by rw [hl,hd]);rw [this];simp
 | succ m =>
  have h1:=QJ l hd;rw [List.getLast?_eq_getElem?,hl,hd];intro h2;have h3:A5 (HT l) m=[]:=by unfold A5;rw [show m=m+1-1 by omega,h2];rfl
  rw [QK] at h3;exact h1 h3
theorem MB (l:List (List A7)) (n:Nat):(IU l n).length=max l.length (n+1):=by
 unfold IU;simp;omega
theorem S8 (l:List (List A7)) (n i:Nat):A5 (IU l n) i=A5 l i:=by
 unfold A5 IU;by_cases h:i<l.length
 ·rw [List.getElem?_append_left h]
 ·rw [List.getElem?_append_right (by omega),List.getElem?_replicate,List.getElem?_eq_none (l:=l) (by omega)];split<;>rfl
theorem Zp (l:List (List A7)) (n i:Nat) (r:List A7):A5 (Jp l n r) i=if i=n then r else A5 l i:=by
 unfold Jp;by_cases h:i=n
 ·rw [if_pos h,h];have:=MB l n;unfold A5;rw [List.getElem?_set_self (by omega)];rfl
 ·rw [if_neg h];unfold A5;rw [List.getElem?_set_ne (λe=>h e.symm)];exact S8 l n i
theorem M6 (L:AO) (n i:Nat) (r:List A7):A5 (Fe L n r).2 i=if i=n then r else A5 L.2 i:=by
 show A5 (HT _) i=_;rw [QK,Zp]
theorem Uv (L:AO) (n:Nat) (r:List A7):(Fe L n r).2.getLast? ≠ some []:=Uu _
theorem XV (L:AO) (n:Nat) (r:List A7):(Fe L n r).2.length<=max L.2.length (n+1):=by
 show (HT _).length<=_;unfold HT;rw [List.length_take];have:(Jp L.2 n r).length=max L.2.length (n+1):=by unfold Jp;rw [List.length_set,MB]
 omega
theorem XW (l:List (List A7)):(HT l).flatten=l.flatten:=by
 have h:l=HT l++l.drop (Jo l l.length):=(List.take_append_drop _ _).symm
 have h2:(l.drop (Jo l l.length)).flatten=[]:=by
  rw [List.flatten_eq_nil_iff];intro x hx;obtain ⟨i,hi⟩:=List.getElem?_of_mem hx;rw [List.getElem?_drop] at hi;have h3:=(List.getElem?_eq_some_iff.1 hi).1;have:=Ou l (k:=l.length) (i:=Jo l l.length+i) (by omega) h3;unfold A5 at this;rw [hi] at this;exact this
 conv=>rhs;rw [h,List.flatten_append,h2,List.append_nil]
theorem Zq (l:List (List A7)) (n:Nat):(IU l n).flatten=l.flatten:=by
 unfold IU;rw [List.flatten_append]
 have:(List.replicate (n+1-l.length) ([]:List A7)).flatten=[]:=by
  rw [List.flatten_eq_nil_iff];intro x hx;exact (List.mem_replicate.1 hx).2
 rw [this,List.append_nil]
theorem QL (L:AO) (n:Nat) (r:List A7) : ∃ p q,L.2.flatten=p++(A5 L.2 n++q)/\(Fe L n r).2.flatten=p++(r++q):=by
 have hn:n<(IU L.2 n).length:=by rw [MB];omega
 refine ⟨((IU L.2 n).take n).flatten,((IU L.2 n).drop (n+1)).flatten,?_,?_⟩
 ·rw [<- S8 L.2 n n,<- Zq L.2 n]
  have:IU L.2 n=(IU L.2 n).take n++((IU L.2 n)[n]::(IU L.2 n).drop (n+1)):=by
   rw [<- List.drop_eq_getElem_cons hn,List.take_append_drop]
  have h2:A5 (IU L.2 n) n=(IU L.2 n)[n]:=by unfold A5;rw [List.getElem?_eq_getElem hn];rfl
  rw [h2]
  conv=>lhs;rw [this]
  rw [List.flatten_append,List.flatten_cons]
 ·show (HT (Jp L.2 n r)).flatten=_;rw [XW];unfold Jp;rw [List.set_eq_take_append_cons_drop,if_pos hn,List.flatten_append,List.flatten_cons]
theorem VLev.own {L:AO} (v:VLev L) (i:Nat):(A5 L.2 i).length<=2 /\ ∀ r∈A5 L.2 i,VR (B4 L.1 i) r:=by
 unfold A5;cases h:L.2[i]? with
 | none=>exact ⟨by simp,λr hr=>by cases hr⟩
 | some rs=>exact v.lev i rs h
theorem VLev.with' {L:AO} (v:VLev L) {n:Nat} (hn:n<12) {r:List A7} (hl:r.length<=2) (hr : ∀ x∈r,VR (B4 L.1 n) x) (hid:((Fe L n r).2.flatten.map gw).Nodup):VLev (Fe L n r):=by
 refine ⟨v.B1,v.B2,?_,λi rs hi => ?_,hid,Uv L n r⟩
 ·have:=XV L n r;have:=v.len;omega
 ·have h1:=M6 L n i r;unfold A5 at h1;rw [hi] at h1;simp only [Option.getD_some] at h1;rw [h1];split
  ·rename_i he;rw [he];exact ⟨hl,hr⟩
  ·exact v.own i
theorem VLev.leave {L:AO} (v:VLev L) {n:Nat} (hn:n<12):VLev (Fe L n []):=by
 refine v.with' hn (by simp) (λ_ h=>by cases h) ?_
 obtain ⟨p,q,h1,h2⟩:=QL L n [];have:=v.ids;rw [h1] at this;rw [h2,List.nil_append];refine List.Sublist.nodup (List.Sublist.map _ ?_) this;exact List.Sublist.append (List.Sublist.refl _) (List.sublist_append_right _ _)
theorem VLev.arrive {L:AO} (v:VLev L) {n:Nat} (hn:n<12) {x:A7} (hl:(A5 L.2 n).length<2) (hx:VR (B4 L.1 n) x) (hid : ∀ y∈L.2.flatten,y.1≠x.1):VLev (Fe L n (A5 L.2 n++[x])):=by
 refine v.with' hn (by simp;omega) (λy hy => ?_) ?_
 ·rcases List.mem_append.1 hy with hy | hy
  ·exact (v.own n).2 y hy
  ·rw [List.mem_singleton.1 hy];exact hx
 ·obtain ⟨p,q,h1,h2⟩:=QL L n (A5 L.2 n++[x])
  have hp:(Fe L n (A5 L.2 n++[x])).2.flatten.Perm (x::L.2.flatten):=by
   rw [h1,h2,List.append_assoc];refine List.Perm.trans ?_ (List.perm_middle (l₁:=p++A5 L.2 n) (l₂:=q) (a:=x) |>.trans (by rw [List.append_assoc]));rw [List.append_assoc];exact List.Perm.refl _
  refine (hp.map gw).nodup_iff.2 (List.nodup_cons.2 ⟨λhm => ?_,v.ids⟩);obtain ⟨y,hy,e⟩:=List.mem_map.1 hm;exact hid y hy e
theorem S9 {l:List (List A7)} {x:A7}:x∈l.flatten <-> ∃ i,x∈A5 l i:=by
 rw [List.mem_flatten];constructor
 ·rintro ⟨rs,h1,h2⟩;obtain ⟨i,hi⟩:=List.getElem?_of_mem h1;exact ⟨i,by unfold A5;rw [hi];exact h2⟩
 ·rintro ⟨i,h⟩;unfold A5 at h;cases hi:l[i]? with
  | none=>rw [hi] at h;cases h
  | some rs=>rw [hi] at h;exact ⟨rs,List.mem_of_getElem? hi,h⟩
theorem MC {l:List (List A7)} {x:A7} (h:x∈l.flatten):x.1<=E1 l:=by
 have one : ∀ (rs:List A7) (m:Int),m<=rs.foldl (λm r=>J6 m r.1) m /\ ∀ x∈rs,x.1<=rs.foldl (λm r=>J6 m r.1) m:=by
  intro rs
  induction rs with
  | nil=>intro m;exact ⟨by simp,λx hx=>by cases hx⟩
  | cons r rs ih =>
   intro m;obtain ⟨h1,h2⟩:=ih (J6 m r.1);rw [GB] at h1 h2;simp only [List.foldl_cons,GB] at h1 h2 ⊢;refine ⟨by omega,λx hx => ?_⟩;rcases List.mem_cons.1 hx with e | hx
   ·rw [e];omega
   ·exact h2 x hx
 have two : ∀ (ls:List (List A7)) (m:Int),m<=ls.foldl (λm rs=>rs.foldl (λm r=>J6 m r.1) m) m /\ ∀ rs∈ls,∀ x∈rs,x.1<=ls.foldl (λm rs=>rs.foldl (λm r=>J6 m r.1) m) m:=by
  intro ls
  induction ls with
  | nil=>intro m;exact ⟨by simp,λx hx=>by cases hx⟩
  | cons rs ls ih =>
   intro m;obtain ⟨h1,h2⟩:=ih (rs.foldl (λm r=>J6 m r.1) m);obtain ⟨k1,k2⟩:=one rs m;simp only [List.foldl_cons];refine ⟨by omega,λrs' hrs x hx => ?_⟩;rcases List.mem_cons.1 hrs with e | hrs
   ·subst e;have:=k2 x hx;omega
   ·exact h2 rs' hrs x hx
 obtain ⟨rs,h1,h2⟩:=List.mem_flatten.1 h;exact (two l 0).2 rs h1 x h2
end Go.Proofs.YthpkjfabdccpdaaGreat.Pl
namespace Go.Proofs.YthpkjfabdccpdaaGreat.Pl
open Go Go.Proofs.YthpkjfabdccpdaaGreat.Sv
theorem QM {M:List (List A7)} {f:Int->Option (LR Int (Nat×(Int×Unit)))} (h0:f 0=some (.dn (0,(0,())))) (hs : ∀ k,k<M.length->f ((k+1:Nat):Int)=if A5 M k=[] then some (.nx (k:Int)) else some (.dn (0,(((k+1:Nat):Int),())))) : ∀ k,k<=M.length->Df (k+1) f (k:Int)=some (0,((Jo M k:Nat):Int),())
 | 0,_=>Bh h0
 | k+1,hk=>by
  have h:=hs k (by omega);unfold Jo;by_cases he:A5 M k=[]
  ·rw [if_pos he] at h ⊢;rw [BN h];exact QM h0 hs k (by omega)
  ·rw [if_neg he] at h ⊢;exact Bh h
theorem ir (L:List (List A7)) (n:Nat):DB (CK (max L.length (n+1)) ([]:List A7)) 0 L (AA (CK (max L.length (n+1)) ([]:List A7)))=IU L n:=by
 have h1:AA (CK (max L.length (n+1)) ([]:List A7))=max L.length (n+1):=by unfold AA CK;simp
 rw [h1];unfold DB IU CK;rw [List.take_of_length_le (by omega:L.length<=max L.length (n+1))];simp only [List.take_zero,List.nil_append,List.drop_replicate,Nat.zero_add]
 congr 2
 omega
theorem Zr (l:List (List A7)) (n:Nat) (r:List A7):lset (IU l n) n r=Jp l n r:=rfl
theorem G6 {l:List (List A7)} {i:Nat} (h:i<l.length):l[i]? = some (A5 l i):=by
 unfold A5;rw [List.getElem?_eq_getElem h];rfl
theorem gB {β:Type} (l:List A7) (x y:Unit->Option β):br (Bm (l.length:Int) 0) x y=if l=[] then x () else y ():=by
 rw [CP];by_cases h:l=[]
 ·rw [if_pos h,if_pos (by rw [h];rfl)]
 ·rw [if_neg h,if_neg (by have:=List.length_pos_iff.2 h;omega)]
theorem QN {L:AO} (h1:L.2.length<=1000) {n:Nat} (hn:n<1000) (r:List A7):EK (L,((n:Int),r))=some (Fe L n r):=by
 have hk:J6 (AV (AA L.2)) (AH .i64 (n:Int) 1)=((max L.2.length (n+1):Nat):Int):=by
  rw [Aa (by omega),GB,AU,AP];omega
 unfold EK;simp only [hk,AE,ir,Zr];have hp:(IU L.2 n).length=max L.2.length (n+1):=MB _ _;have hr:(Jp L.2 n r).length=max L.2.length (n+1):=by unfold Jp;rw [List.length_set,hp]
 rw [BU (by omega),Ms,if_pos (by rw [AP,hp];omega),AK (G6 (by omega))]
 have hlo:=QM (M:=Jp L.2 n r) (f:=λs4=>br (Bz s4 0) (λ_=>AS (BJ .i64 s4 1) λk5=>gd (B6 k5 (AA (Jp L.2 n r))) λ_=>ix (Jp L.2 n r) k5 λx6=>br (Bm (AV (AA x6)) 0) (λ_=>some (.nx (BJ .i64 s4 1))) λ_=>some (.dn ((0,(s4,()))))) λ_=>some (.dn ((0,(s4,()))))) rfl (λk hk=>by
  have hi:BJ .i64 ((k+1:Nat):Int) 1=(k:Int):=by rw [Bl (by omega)];omega
  simp only [hi,AE];rw [Ax,if_pos (by omega),Ms,if_pos (by rw [AP];omega),AK (G6 hk)]
  exact gB _ _ _) _ (Nat.le_refl _)
 rw [AU,show AA (Jp L.2 n r)=(Jp L.2 n r).length from rfl];refine BG (DM (by omega) hlo) ?_;have hd:=RX (Jp L.2 n r) (Jp L.2 n r).length;simp only [AE];rw [BU hd,UX,if_pos (by omega),ie,if_pos (by omega),UX,if_pos (by unfold AJ CF;omega)];unfold Fe HT B3 AJ CF;simp
end Go.Proofs.YthpkjfabdccpdaaGreat.Pl
namespace Go.Proofs.YthpkjfabdccpdaaGreat.Pl
open Go Go.Proofs.YthpkjfabdccpdaaGreat.Sv
def Zs (d:Int) (j:IM):Bool:=Bm d j.1
def Hr (js:List IM) (d:Int):Option IM:=js.find? (Zs d)
def MD (js:List IM):List (Int×IM):=js.map λj=>(j.1,j)
def zJ:IM:=(0,(([],([],([],([],0)))),((false,([],false)),([],0))))
def M7 (L:AO) (d:Int):IM:=match A5 L.2 d.toNat with
 | [r0,r1]=>(d,EU r1.2 r0.2 (decide (d=(L.2.length:Int)-1)) 0)
 | _=>zJ
def Kf (s:BL) (L:AO) (ended d:Int):IM:=(if d=ended then none else Hr s.2.1 d).getD (M7 L d)
def TA (s:BL) (L:AO) (next ended:Int):BL:=(L,((Bx 0 L.2).map (Kf s L ended),next))
theorem QO (d:Int) : ∀ js:List IM,IE (λa b=>Bm a b) (MD js) d=Hr js d
 | []=>rfl
 | j::js=>by
  show (bif Bm d j.1 then some j else IE (λa b=>Bm a b) (MD js) d)=(j::js).find? (Zs d)
  rw [List.find?_cons,QO d js];show _=match Bm d j.1 with | true=>some j | false=>Hr js d
  cases Bm d j.1<;>rfl
theorem QP {j:IM} : ∀ {js:List IM},j.1 ∉ js.map (·.1)->HW (λa b=>Bm a b) (MD js) j.1 j=MD (js++[j])
 | [],_=>rfl
 | i::js,h=>by
  show (bif Bm j.1 i.1 then (j.1,j)::MD js else (i.1,i)::HW (λa b=>Bm a b) (MD js) j.1 j)=(i.1,i)::MD (js++[j])
  have h1:Bm j.1 i.1=false:=by rw [EN];simp;intro e;exact h (by simp [e])
  rw [h1,cond_false,QP (λhm=>h (by simp at hm ⊢;exact .inr hm))]
theorem Uw {js:List IM} {d:Int} (h:d ∉ js.map (·.1)):Hr js d=none:=by
 unfold Hr;rw [List.find?_eq_none];intro j hj;unfold Zs;rw [EN];simp only [decide_eq_true_eq];intro e;exact h (by rw [e];exact List.mem_map_of_mem hj)
theorem QQ {x d:Int} : ∀ {js:List IM},(js.map (·.1)).Nodup->IE (λa b=>Bm a b) (JG (λa b=>Bm a b) (MD js) x) d=if d=x then none else Hr js d
 | [],_=>by split<;>rfl
 | j::js,h=>by
  rw [List.map_cons,List.nodup_cons] at h;show IE (λa b=>Bm a b) (bif Bm x j.1 then MD js else (j.1,j)::JG (λa b=>Bm a b) (MD js) x) d=_
  have hf:Hr (j::js) d=if d=j.1 then some j else Hr js d:=by
   unfold Hr;rw [List.find?_cons];unfold Zs;rw [EN];by_cases e:d=j.1<;>simp [e]
  rw [EN,hf];by_cases hx:x=j.1
  ·rw [show decide (x=j.1)=true by simp [hx],cond_true,QO];by_cases hd:d=x
   ·rw [if_pos hd];exact Uw (by rw [hd,hx];exact h.1)
   ·rw [if_neg hd,if_neg (by rw [<- hx];exact hd)]
  ·rw [show decide (x=j.1)=false by simp [hx],cond_false];show (bif Bm d j.1 then some j else IE (λa b=>Bm a b) (JG (λa b=>Bm a b) (MD js) x) d)=_
   rw [QQ h.2,EN];by_cases hd:d=j.1
   ·rw [show decide (d=j.1)=true by simp [hd],cond_true,if_pos hd,if_neg (by rw [hd];exact λe=>hx e.symm)]
   ·rw [show decide (d=j.1)=false by simp [hd],cond_false,if_neg hd]
theorem VR.vl' {L:AO} (v:VLev L) {n:Nat} {r:A7} (h:r∈A5 L.2 n):VL r.2:=((v.own n).2 r h).vl
theorem XX (L:AO) (hl:L.2.length<=1000) (n:Nat):Ct (L,(n:Int))=some (decide ((n:Int)=(L.2.length:Int)-1)):=by
 unfold Ct;simp only [AU,AP];rw [Bl (by omega),EN]
theorem Zt {L:AO} (v:VLev L) {n:Nat} (h:(A5 L.2 n).length=2):GE (L,(n:Int))=some (M7 L n,0):=by
 have hn:n<L.2.length:=by
  by_cases h0:n<L.2.length
  ·exact h0
  ·unfold A5 at h;rw [List.getElem?_eq_none (by omega)] at h;cases h
 have hl:=v.len;obtain ⟨hb,hr⟩:=v.small;unfold GE;simp only [AU,AP];rw [LI _ hb hr,G5 v,AD,AR,if_pos rfl,BD,if_neg (by omega),Fw,if_neg (by omega),Fw,if_neg (by omega),AE,AK (G6 hn),BD,if_neg (by omega),XX L (by omega) n,AD]
 obtain ⟨r0,r1,hrr⟩ : ∃ r0 r1,A5 L.2 n=[r0,r1]:=by
  match hq:A5 L.2 n with
  | [r0,r1]=>exact ⟨r0,r1,rfl⟩
  | []=>rw [hq] at h;cases h
  | [_]=>rw [hq] at h;cases h
  | _::_::_::_=>rw [hq] at h;simp at h
 rw [Sy _ (by rw [G6 hn,hrr]) (VR.vl' v (n:=n) (by rw [hrr];simp)) (VR.vl' v (n:=n) (by rw [hrr];simp)),AD];unfold M7;rw [Int.toNat_natCast,hrr]
theorem Ov (i:Nat) (rs:List A7) (ls:List (List A7)):Bx i (rs::ls)=(if rs.length=2 then [(i:Int)] else [])++Bx (i+1) ls:=rfl
theorem TB {s:BL} (hj:(s.2.1.map (·.1)).Nodup) (hl:s.2.1.length<=1000) {L:AO} (v:VLev L) (next ended:Int):Do (s,(L,(next,ended)))=some (TA s L next ended,0):=by
 have hv:=v.len;unfold Do;simp only [AU,AP]
 rw [ED (l:=s.2.1) (σ:=List (Int×IM)) (s:=((0:Int),([]:List (Int×IM)))) (λi m=>((i:Int),m)) (λls i m => ∃ p,s.2.1=p++ls/\m=MD p) (λ_ _ _=>(0,(((s.2.1.length:Int),MD s.2.1),()))) [] rfl (by omega) ⟨[],rfl,rfl⟩ (λm h=>by
  obtain ⟨p,h1,rfl⟩:=h
  simp only;rw [re,Ag,h1,List.append_nil]) (λi x ls m hd hx hi h=>by
   obtain ⟨p,h1,rfl⟩:=h;refine ⟨MD (p++[x]),?_,⟨p++[x],by rw [h1];simp,rfl⟩,rfl⟩;simp only;rw [rl hi,AN,AE,AK hx,A1 hx (by omega),QP];intro hm;rw [h1,List.map_append,List.nodup_append] at hj
   exact hj.2.2 _ hm x.1 (by simp) rfl),AD]
 simp only
 rw [ED (l:=L.2) (σ:=List IM) (s:=((0:Int),((0:Int),(((0:Int),(([]:List (List A7)),(([]:List IM),(0:Int)))),(L.1,(L.2,(([]:List IM),next))))))) (λi js=>((0:Int),((i:Int),(((0:Int),(([]:List (List A7)),(([]:List IM),(0:Int)))),(L.1,(L.2,(js,next))))))) (λls i js=>js++(Bx i ls).map (Kf s L ended)=(Bx 0 L.2).map (Kf s L ended)) (λ_ _ _=>(0,(((0:Int),((L.2.length:Int),(((0:Int),(([]:List (List A7)),(([]:List IM),(0:Int)))),(L.1,(L.2,((Bx 0 L.2).map (Kf s L ended),next)))))),()))) [] rfl (by omega) rfl (λm h=>by
  simp only;rw [re,Ag,<- h];simp [Bx]) (λi rs ls m hd hx hi h=>by
   have ho:A5 L.2 i=rs:=by unfold A5;rw [hx];rfl
   have h2:=(v.own i).1;rw [ho] at h2;refine ⟨m++(if rs.length=2 then [Kf s L ended i] else []),?_,?_,rfl⟩
   ·simp only;rw [rl hi,AN,AE,AK hx,BD]
    have hm:m.length<=1000:=by
     have h4:=congrArg List.length h;have h5:=GX L.2 0;rw [List.length_append,List.length_map,List.length_map] at h4;omega
    by_cases h4:rs.length=2;rotate_left
    ·rw [if_pos (by omega),if_neg h4,List.append_nil,A1 hx (by omega)]
    rw [if_neg (by omega),if_pos h4,QQ hj];have hn:Kf s L ended i=(if (i:Int)=ended then none else Hr s.2.1 i).getD (M7 L i):=rfl
    cases hq:(if (i:Int)=ended then none else Hr s.2.1 (i:Int)) with
    | none =>
     rw [hq,Option.getD_none] at hn;rw [hn,Zt v (by rw [ho];exact h4),Bd,Gp,if_neg (show ¬ jR (none:Option IM)=true by simp [jR]),AD];simp only;rw [AR,if_pos rfl,BU (by simp only [AJ,List.length_cons,List.length_nil];omega),A1 hx (by omega)];rfl
    | some j =>
     rw [hq,Option.getD_some] at hn;rw [hn,Bd,Gp,if_pos (show jR (some j)=true from rfl),BU (by simp only [AJ,List.length_cons,List.length_nil];omega),A1 hx (by omega)];rfl
   ·rw [List.append_assoc,<- h,Ov,List.map_append]
    congr 2
    split<;>rfl),AD]
 rfl
end Go.Proofs.YthpkjfabdccpdaaGreat.Pl
namespace Go.Proofs.YthpkjfabdccpdaaGreat.Pl
open Go Go.Proofs.YthpkjfabdccpdaaGreat.Sv
def pS (s:Bu):Option HB:=if s.1=true then some s.2.1 else none
theorem Asc.weak : ∀ {l:List AB} {p p':Option HB},(∀ q',p'=some q' -> ∃ q,p=some q/\CJ q q'=false)->Asc p l->Asc p' l
 | [],_,_,_,_=>trivial
 | x::l,p,p',h,⟨h1,h2⟩=>⟨λq' hq'=>by
  obtain ⟨q,e,hq⟩:=h q' hq';have h3:=h1 q e;by_cases he:q'=q
  ·rw [he];exact h3
  ·exact E0 (Od hq (λe=>he e.symm)) h3,h2⟩
theorem TC : ∀ (l:List AB) (s:Bu),Oj s l->Asc (pS s) (FD s l)
 | [],_,_=>trivial
 | x::l,s,⟨_,h2,h3⟩=>by
  have ih:=TC l _ h3;have ih':Asc (some x.1) (FD (true,(x.1,s.2.2)) l):=ih;unfold FD;by_cases hk:keep s x=true
  ·rw [if_pos hk];refine ⟨λq hq => ?_,ih'⟩;unfold pS at hq;by_cases h1:s.1=true
   ·rw [if_pos h1] at hq;cases hq;refine Od (h2 h1) λe => ?_;unfold keep at hk;rw [h1,e] at hk;simp at hk
   ·rw [if_neg h1] at hq;cases hq
  ·rw [if_neg hk,List.nil_append];refine ih'.weak λq' hq'=>⟨x.1,rfl,?_⟩;unfold pS at hq';by_cases h1:s.1=true
   ·rw [if_pos h1] at hq';cases hq';exact h2 h1
   ·rw [if_neg h1] at hq';cases hq'
theorem TD : ∀ {l:List AB} {s:Bu} {x:AB},x∈FD s l->x∈l
 | y::l,s,x,h=>by
  unfold FD at h;rcases List.mem_append.1 h with h | h
  ·split at h
   ·rw [List.mem_singleton.1 h];simp
   ·cases h
  ·exact List.mem_cons_of_mem _ (TD h)
theorem WN : ∀ {l:List AB} {s:Bu},Oj s l -> ∀ x∈l,kE x=0
 | y::l,s,⟨h1,_,h3⟩,x,h=>by
  rcases List.mem_cons.1 h with e | h
  ·rw [e];exact h1
  ·exact WN h3 x h
theorem iu {a b:List AB} (va:VL a) (vb:VL b) (bt:Bool) {k:Nat} (hk:k<=a.length+b.length) (hl:a.length+b.length<=5000):VL (EU a b bt k).2.2.1/\(EU a b bt k).2.2.1.length<=a.length+b.length:=by
 have hr:=HQ va vb bt hk
 have h1:(FD (s0 bt) (Az a b k)).length<=k:=by
  have:=IQ (s0 bt) (Az a b k);rw [Ch va vb hk] at this;exact this
 have h2:(EU a b bt k).2.2.1=FD (s0 bt) (Az a b k):=rfl;rw [h2];exact ⟨⟨by omega,λx hx=>WN hr x (TD hx),TC _ _ hr⟩,by omega⟩
theorem XY {S β:Type} {f:S->Option (LR S β)} {r:β} (mk:Int->S) (n:Nat) {s:S} (h0:s=mk ((n:Int)-1)) (hn:n<1000000) (hs : ∀ k,k<n->f (mk (k:Int))=some (.nx (mk ((k:Int)-1)))) (he:f (mk (-1))=some (.dn r)):loop f s=some r:=by
 subst h0
 have main : ∀ k,k<=n->Df (k+1) f (mk ((k:Int)-1))=some r:=by
  intro k
  induction k with
  | zero=>intro _;exact Bh he
  | succ k ih =>
   intro hk;have:=hs k (by omega);rw [show ((k+1:Nat):Int)-1=(k:Int) by omega,BN this];exact ih (by omega)
 exact DM (by omega) (main n (Nat.le_refl _))
theorem TE {L:AO} (v:VLev L) {n:Nat} (hn:n<12) {x:A7} (hx:x.2.length<=1048576) (hid : ∀ y∈L.2.flatten,y.1≠x.1) (hl:(A5 L.2 n).length<2) :
  DH (L,((n:Int),x))=some (if kR [] (B4 L.1 n) x≠0 then ((0,[]),kR [] (B4 L.1 n) x) else (Fe L n (A5 L.2 n++[x]),0)):=by
 have hv:=v.len;unfold DH;simp only [AU,AP];rw [WL v,AD,if_neg (by omega),AR,if_pos rfl,QD v.B1 v.B2 (by omega),QC x _ (by omega),show Hz (n:Int) 0=true by unfold Hz;simp];rw [gA,AD,AR];by_cases hk:kR [] (B4 L.1 n) x=0;rotate_left
 ·rw [if_neg hk,if_pos hk]
 rw [if_pos hk,if_neg (by simp [hk])]
 rw [ED (l:=L.2) (σ:=Unit) (s:=((0:Int),(((0:Int),([]:List (List A7))),(0:Int)))) (λi _=>((i:Int),(((0:Int),([]:List (List A7))),(0:Int)))) (λ_ _ _=>True) (λ_ _ _=>(0,(((L.2.length:Int),(((0:Int),([]:List (List A7))),(0:Int))),()))) () rfl (by omega) trivial (λ_ _=>by
  simp only;rw [re];rfl) (λi rs ls _ hd hi hlt _=>by
   refine ⟨(),?_,trivial,rfl⟩;have ho:A5 L.2 i=rs:=by unfold A5;rw [hi];rfl
   have h2:=(v.own i).1;rw [ho] at h2;simp only;rw [rl hlt,AN,AE,AK hi,Bl (by omega)]
   rw [XY (λk=>(k,(((0:Int),([]:List (List A7))),(0:Int)))) rs.length rfl (by omega) (λk hk=>by
    have hg:rs[k]? = some rs[k]:=List.getElem?_eq_getElem hk;have hne:rs[k].1≠x.1:=hid _ (List.mem_flatten.2 ⟨rs,List.mem_of_getElem? hi,List.getElem_mem hk⟩);simp only
    rw [Fw,if_pos (by omega),AE,AK hg,CP,if_neg hne,Bl (by omega)]) (r:=(0,(((-1:Int),(((0:Int),([]:List (List A7))),(0:Int))),()))) rfl,AD]
   rw [A1 hi (by omega)]
   rfl),AD]
 rw [CO,if_pos rfl,BD];by_cases h3:n<L.2.length
 ·rw [if_pos (by omega),AE,AK (G6 h3),CP,if_neg (by omega),AE,AE,BU (Nat.le_refl _),ig,if_pos rfl,BU (Nat.zero_le _)];have hs:B3 (A5 L.2 n) 0 (A5 L.2 n).length=A5 L.2 n:=by unfold B3;simp
  rw [hs,BU (by simp only [AJ,List.length_cons,List.length_nil];omega),QN (by omega) (by omega),AD];rfl
 ·rw [if_neg (by omega)];have ho:A5 L.2 n=[]:=by unfold A5;rw [List.getElem?_eq_none (by omega)];rfl
  rw [BU (by simp),QN (by omega) (by omega),AD,ho];rfl
end Go.Proofs.YthpkjfabdccpdaaGreat.Pl
namespace Go.Proofs.YthpkjfabdccpdaaGreat.Pl
open Go Go.Proofs.YthpkjfabdccpdaaGreat.Sv
def zS:BL:=((0,[]),([],0))
def PN (j:IM):List AB:=j.2.2.2.1
def jg (s:BL) (j:IM):Nat:=if ip s.1 j=true then j.1.toNat else j.1.toNat+1
def lS (s:BL) (j:IM):AO:=if PN j=[] then Fe s.1 j.1.toNat [] else Fe (Fe s.1 j.1.toNat []) (jg s j) (A5 (Fe s.1 j.1.toNat []).2 (jg s j)++[(s.2.2,PN j)])
theorem QR : ∀ (ls:List (List A7)) (i:Nat),(Bx i ls).Nodup /\ ∀ d∈Bx i ls,(i:Int)<=d
 | [],_=>⟨.nil,λ_ h=>by cases h⟩
 | rs::ls,i=>by
  obtain ⟨h1,h2⟩:=QR ls (i+1);rw [Ov];by_cases h:rs.length=2
  ·rw [if_pos h];refine ⟨List.nodup_cons.2 ⟨λhm => ?_,h1⟩,λd hd => ?_⟩
   ·have:=h2 _ hm;omega
   ·rcases List.mem_cons.1 hd with e | hd
    ·omega
    ·have:=h2 d hd;omega
  ·rw [if_neg h];exact ⟨h1,λd hd=>by have:=h2 d hd;omega⟩
theorem VSt.nodup {s:BL} (v:VSt s):(s.2.1.map (·.1)).Nodup:=by rw [v.due];exact (QR _ _).1
theorem JobAt.out {L:AO} {n:Nat} {j:IM} (ha:JobAt L n j) (v:VLev L) (hs:(∀ r∈A5 L.2 n,r.2.length<=2000)):VL (PN j)/\((PN j).length:Int)<=2*B4 L.1 n/\j.1=(n:Int)/\n<12/\A5 L.2 n≠[]:=by
 obtain ⟨r0,r1,bt,k,h1,rfl,hk,_,v0,v1⟩:=ha;have ho:A5 L.2 n=[r0,r1]:=by unfold A5;rw [h1];rfl
 have l0:=hs r0 (by rw [ho];simp);have l1:=hs r1 (by rw [ho];simp);have m0:=((v.own n).2 r0 (by rw [ho];simp)).le;have m1:=((v.own n).2 r1 (by rw [ho];simp)).le;obtain ⟨h2,h3⟩:=iu v1 v0 bt hk (by omega);have hn:=(List.getElem?_eq_some_iff.1 h1).1;have hv:=v.len;refine ⟨h2,?_,rfl,by omega,by rw [ho];simp⟩
 have h4:((PN ((n:Int),EU r1.2 r0.2 bt k)).length:Int)<=(r1.2.length:Int)+(r0.2.length:Int):=by
  have:(PN ((n:Int),EU r1.2 r0.2 bt k)).length<=r1.2.length+r0.2.length:=h3;omega
 omega
structure InstF (s:BL) (n:Nat) (j:IM):Prop where
 l1:VLev (Fe s.1 n [])
 to12:PN j≠[]->jg s j<12
 vr:PN j≠[]->VR (B4 s.1.1 (jg s j)) (s.2.2,PN j)
 id : ∀ y∈(Fe s.1 n []).2.flatten,y.1≠s.2.2
 room:PN j≠[]->(A5 (Fe s.1 n []).2 (jg s j)).length<2
 lev:VLev (lS s j)
end Go.Proofs.YthpkjfabdccpdaaGreat.Pl
namespace Go.Proofs.YthpkjfabdccpdaaGreat.Pl
open Go Go.Proofs.YthpkjfabdccpdaaGreat.Sv
end Go.Proofs.YthpkjfabdccpdaaGreat.Pl
namespace Go.Proofs.YthpkjfabdccpdaaGreat.Pl
open Go Go.Proofs.YthpkjfabdccpdaaGreat.Sv
theorem gC {ls:List (List A7)} {d:Int} (h:d∈Bx 0 ls) : ∃ (n:Nat) (r0 r1:A7),d=(n:Int)/\ls[n]? = some [r0,r1]:=by
 obtain ⟨k,hk⟩:=List.getElem?_of_mem h;obtain ⟨n,h1,r0,r1,h2⟩:=HC hk;exact ⟨n,r0,r1,by rw [h1,Nat.zero_add],h2⟩
theorem TF {l:List (List A7)} {n:Int} (h0:0<n) (h : ∀ x∈l.flatten,x.1<n):E1 l<n:=by
 have one : ∀ (rs:List A7) (m:Int),m<n->(∀ x∈rs,x.1<n)->rs.foldl (λm r=>J6 m r.1) m<n:=by
  intro rs
  induction rs with
  | nil=>intro m hm _;exact hm
  | cons r rs ih =>
   intro m hm hr;rw [List.foldl_cons];refine ih _ ?_ λx hx=>hr x (by simp [hx]);rw [GB];have:=hr r (by simp);omega
 have two : ∀ (ls:List (List A7)) (m:Int),m<n->(∀ rs∈ls,∀ x∈rs,x.1<n)->ls.foldl (λm rs=>rs.foldl (λm r=>J6 m r.1) m) m<n:=by
  intro ls
  induction ls with
  | nil=>intro m hm _;exact hm
  | cons rs ls ih =>
   intro m hm hr;rw [List.foldl_cons];exact ih _ (one rs m hm (hr rs (by simp))) λrs' hrs=>hr rs' (by simp [hrs])
 exact two l 0 h0 λrs hrs x hx=>h x (List.mem_flatten.2 ⟨rs,hrs,hx⟩)
theorem gD {l:List (List A7)} (hl:l.getLast? ≠ some []) {n:Nat} (h1:A5 l n≠[]) (h2 : ∀ i,n<i->A5 l i=[]):l.length=n+1:=by
 have h3:n<l.length:=by
  by_cases h:n<l.length
  ·exact h
  ·unfold A5 at h1;rw [List.getElem?_eq_none (by omega)] at h1;exact absurd rfl h1
 by_cases h4:l.length=n+1
 ·exact h4
 ·exfalso;have h5:=h2 (l.length-1) (by omega);refine hl ?_;rw [List.getLast?_eq_getElem?,G6 (by omega),h5]
theorem Ux {js:List IM} {d:Int} {j:IM} (h:Hr js d=some j):j∈js/\j.1=d:=by
 unfold Hr at h;have h1:=List.find?_some h;unfold Zs at h1;rw [EN] at h1;exact ⟨List.mem_of_find?_eq_some h,(of_decide_eq_true h1).symm⟩
theorem Zu {L:AO} (v:VLev L) {n:Nat} {r0 r1:A7} (h:L.2[n]? = some [r0,r1]):JobAt L n (M7 L (n:Int)):=by
 have ho:A5 L.2 n=[r0,r1]:=by unfold A5;rw [h];rfl
 refine ⟨r0,r1,decide ((n:Int)=(L.2.length:Int)-1),0,h,?_,Nat.zero_le _,λhd => ?_,VR.vl' v (n:=n) (by rw [ho];simp),VR.vl' v (n:=n) (by rw [ho];simp)⟩
 ·unfold M7;rw [Int.toNat_natCast,ho]
 ·have:=of_decide_eq_true hd;have:=(List.getElem?_eq_some_iff.1 h).1;omega
theorem Zv {s:BL} (v:VSt s) {L:AO} (vL:VLev L) {next ended:Int} (h1:1<=next) (h2:next<=1000001) (h3 : ∀ x∈L.2.flatten,x.1<next)
  (hk : ∀ (n:Nat) (r0 r1:A7),s.1.2[n]? = some [r0,r1]->(n:Int)≠ended->(∃ q0 q1,L.2[n]? = some [q0,q1])->L.2[n]? = some [r0,r1]/\(n+1=s.1.2.length->n+1=L.2.length)):VSt (TA s L next ended):=by
 have each : ∀ d∈Bx 0 L.2,(Kf s L ended d).1=d /\ ∃ n,JobAt L n (Kf s L ended d):=λd hd=>by
  obtain ⟨n,q0,q1,rfl,hn⟩:=gC hd;unfold Kf;cases hq:(if (n:Int)=ended then none else Hr s.2.1 (n:Int)) with
  | none =>
   rw [Option.getD_none];have hb:=Zu vL hn;refine ⟨?_,n,hb⟩;obtain ⟨_,_,_,_,_,e,_⟩:=hb;rw [e]
  | some j =>
   rw [Option.getD_some];by_cases he:(n:Int)=ended
   ·rw [if_pos he] at hq;cases hq
   rw [if_neg he] at hq;obtain ⟨hj,hj1⟩:=Ux hq;refine ⟨hj1,n,?_⟩;obtain ⟨m,r0,r1,bt,k,a1,rfl,a3,a4,a5,a6⟩:=v.job j hj;have hm:m=n:=by have:(m:Int)=(n:Int):=hj1;omega
   subst hm;obtain ⟨b1,b2⟩:=hk m r0 r1 a1 he ⟨q0,q1,hn⟩;exact ⟨r0,r1,bt,k,b1,rfl,a3,λhb=>b2 (a4 hb),a5,a6⟩
 refine ⟨vL,h1,h2,TF (by show 0<next;omega) h3,?_,λj hj => ?_⟩
 ·show ((Bx 0 L.2).map (Kf s L ended)).map (·.1)=Bx 0 L.2;rw [List.map_map]
  conv=>rhs;rw [<- List.map_id (Bx 0 L.2)]
  exact List.map_congr_left λd hd=>(each d hd).1
 ·obtain ⟨d,hd,rfl⟩:=List.mem_map.1 hj;exact (each d hd).2
theorem WO {l:List (List A7)} {n:Nat} {r0 r1:A7}:l[n]? = some [r0,r1]<->A5 l n=[r0,r1]:=by
 unfold A5;constructor
 ·intro h;rw [h];rfl
 ·intro h;cases hn:l[n]? with
  | none=>rw [hn] at h;cases h
  | some rs=>rw [hn] at h;exact congrArg some h
end Go.Proofs.YthpkjfabdccpdaaGreat.Pl
