/- Functions of the program and of the specification as plain functions, and laws about them. No condition. -/
import Derived.Test.YthpkjfabdccpdaaGreatPl2
import Derived.KernelRfl
set_option linter.all false
namespace Go.Proofs.YthpkjfabdccpdaaGreat.Pl
open Go Go.Proofs.YthpkjfabdccpdaaGreat.Sv
set_option linter.unusedVariables false
def BM (x:BI):Option (Int×Int) :=
 br (Ag x.1 1) (λ_=>some (0,7)) λ_=>br (Bv x.1 16) (λ_=>some (0,7)) λ_=>br (Bv (AW (AA x.2)) x.1) (λ_=>some (0,3)) λ_=>bd (loop (λs0=>br (Ag s0.2.2 (AW (AA x.2))) (λ_=>AO s0.2.2 λk1=>ix x.2 k1 λx2=>bd (Ar x2) λr3=>br (Aq r3 0) (λ_=>some (.dn ((0,((r3,(s0.2.2,s0.2.2)),()))))) λ_=>br (Bv s0.2.2 0) (λ_=>AO (A9 .i64 s0.2.2 1) λk4=>ix x.2 k4 λx5=>br (AV (Bl x5.1 x2.1)) (λ_=>some (.dn ((0,((6,(s0.2.2,s0.2.2)),()))))) λ_=>some (.nx ((s0.1,(s0.2.1,AH .i64 s0.2.2 1))))) λ_=>some (.nx ((s0.1,(s0.2.1,AH .i64 s0.2.2 1))))) λ_=>some (.dn ((1,(s0,()))))) ((0,(0,0)))) λr6=>br (neq r6.1 0) (λ_=>some (r6.2.1.2.1,r6.2.1.1)) λ_=>some (0,0)
def Dm (x:(BI×(AM×((List (Int×(AS×((Bool×AQ)×((List AB)×Int)))))×Int)))):Option Int :=
 bd (BM x.1) λr0=>br (Aq r0.2 0) (λ_=>some r0.2) λ_=>bd (Be x.2) λr1=>br (Aq r1.2 0) (λ_=>some r1.2) λ_=>br (Aq x.1.1 x.2.1.1) (λ_=>some 6) λ_=>some 0
def EO (x:BI):Option (Int×Int) :=
 br (Ag x.1 1) (λ_=>some (0,7)) λ_=>br (Bv x.1 16) (λ_=>some (0,7)) λ_=>br (Bv (AW (AA x.2)) x.1) (λ_=>some (0,3)) λ_=>bd (loop (λs0=>br (Ag s0.2.2 (AW (AA x.2))) (λ_=>AO s0.2.2 λk1=>ix x.2 k1 λx2=>bd (Ax x2) λr3=>br (Aq r3 0) (λ_=>some (.dn ((0,((r3,(s0.2.2,s0.2.2)),()))))) λ_=>br (Bv s0.2.2 0) (λ_=>AO s0.2.2 λk4=>ix x.2 k4 λx5=>AO (A9 .i64 s0.2.2 1) λk6=>ix x.2 k6 λx7=>br (AV (Bl x7.1 x5.1)) (λ_=>some (.dn ((0,((6,(s0.2.2,s0.2.2)),()))))) λ_=>some (.nx ((s0.1,(s0.2.1,AH .i64 s0.2.2 1))))) λ_=>some (.nx ((s0.1,(s0.2.1,AH .i64 s0.2.2 1))))) λ_=>some (.dn ((1,(s0,()))))) ((0,(0,0)))) λr8=>br (neq r8.1 0) (λ_=>some (r8.2.1.2.1,r8.2.1.1)) λ_=>some (0,0)
def DW (x:(BI×(AM×((List (Int×(AS×((Bool×AQ)×((List AB)×Int)))))×Int)))):Option Int :=
 bd (EO x.1) λr0=>br (Bh r0.2 0) (λ_=>bd (EN x.2) λr1=>br (Bh r1.2 0) (λ_=>br (Aq x.1.1 x.2.1.1) (λ_=>some 6) λ_=>some r1.2) λ_=>some r1.2) λ_=>br (Bh r0.2 0) (λ_=>br (Aq x.1.1 x.2.1.1) (λ_=>some 6) λ_=>some r0.2) λ_=>some r0.2
end Go.Proofs.YthpkjfabdccpdaaGreat.Pl
namespace Go.Proofs.YthpkjfabdccpdaaGreat.Pl
open Go Go.Proofs.YthpkjfabdccpdaaGreat.Sv
set_option linter.unusedVariables false
def Cw (x:((List AB)×(List AB))):Option Bool :=
 bd (loop (λs0=>br (Ag s0.1 (AW (AA x.1))) (λ_=>br (Ag s0.1 (AW (AA x.2))) (λ_=>AO s0.1 λk1=>ix x.1 k1 λx2=>AO s0.1 λk3=>ix x.2 k3 λx4=>br (AV (BZ (seq x2.1 x4.1) (BZ (seq x2.2.1 x4.2.1) (BZ (beq x2.2.2.1 x4.2.2.1) (BZ (Bh x2.2.2.2 x4.2.2.2) true))))) (λ_=>some (.dn ((0,((s0.1,false),()))))) λ_=>some (.nx (AH .i64 s0.1 1,s0.2))) λ_=>some (.dn ((1,(s0,()))))) λ_=>some (.dn ((1,(s0,()))))) (0,false)) λr5=>br (neq r5.1 0) (λ_=>some r5.2.1.2) λ_=>some (Bh (AW (AA x.1)) (AW (AA x.2)))
def EF (x:(BI×BI)):Option Bool :=
 br (Bh x.1.1 x.2.1) (λ_=>bd (Cw (x.1.2,x.2.2)) λr0=>some r0) λ_=>some false
def Dn (x:((List BI)×(List BI))):Option Bool :=
 br (Aq (AW (AA x.1)) (AW (AA x.2))) (λ_=>some false) λ_=>bd (loop (λs0=>br (Ag s0.1 (AW (AA x.1))) (λ_=>AO s0.1 λk1=>ix x.1 k1 λx2=>AO s0.1 λk3=>ix x.2 k3 λx4=>bd (EF (x2,x4)) λr5=>br (AV r5) (λ_=>some (.dn ((0,((s0.1,false),()))))) λ_=>some (.nx (AH .i64 s0.1 1,s0.2))) λ_=>some (.dn ((1,(s0,()))))) (0,false)) λr6=>br (neq r6.1 0) (λ_=>some r6.2.1.2) λ_=>some true
def GN (x:(AM×AM)):Option Bool :=
 br (Aq x.1.1 x.2.1) (λ_=>some false) λ_=>br (Aq (AW (AA x.1.2)) (AW (AA x.2.2))) (λ_=>some false) λ_=>bd (loop (λs0=>br (Ag s0.1 (AW (AA x.1.2))) (λ_=>AO s0.1 λk1=>ix x.1.2 k1 λx2=>AO s0.1 λk3=>ix x.2.2 k3 λx4=>bd (Dn (x2,x4)) λr5=>br (AV r5) (λ_=>some (.dn ((0,((s0.1,false),()))))) λ_=>some (.nx (AH .i64 s0.1 1,s0.2))) λ_=>some (.dn ((1,(s0,()))))) (0,false)) λr6=>br (neq r6.1 0) (λ_=>some r6.2.1.2) λ_=>some true
def EG (x:((Int×(AS×((Bool×AQ)×((List AB)×Int))))×(Int×(AS×((Bool×AQ)×((List AB)×Int)))))):Option Bool :=
 br (Bh x.1.1 x.2.1) (λ_=>bd (BK (x.1.2,x.2.2)) λr0=>some r0) λ_=>some false
def D6 (x:((AM×((List (Int×(AS×((Bool×AQ)×((List AB)×Int)))))×Int))×(AM×((List (Int×(AS×((Bool×AQ)×((List AB)×Int)))))×Int)))):Option Bool :=
 bd (GN (x.1.1,x.2.1)) λr0=>br (AV r0) (λ_=>some false) λ_=>br (Aq (AW (AA x.1.2.1)) (AW (AA x.2.2.1))) (λ_=>some false) λ_=>br (Aq x.1.2.2 x.2.2.2) (λ_=>some false) λ_=>bd (loop (λs1=>br (Ag s1.1 (AW (AA x.1.2.1))) (λ_=>AO s1.1 λk2=>ix x.1.2.1 k2 λx3=>AO s1.1 λk4=>ix x.2.2.1 k4 λx5=>bd (EG (x3,x5)) λr6=>br (AV r6) (λ_=>some (.dn ((0,((s1.1,false),()))))) λ_=>some (.nx (AH .i64 s1.1 1,s1.2))) λ_=>some (.dn ((1,(s1,()))))) (0,false)) λr7=>br (neq r7.1 0) (λ_=>some r7.2.1.2) λ_=>some true
end Go.Proofs.YthpkjfabdccpdaaGreat.Pl
namespace Go.Proofs.YthpkjfabdccpdaaGreat.Pl
open Go Go.Proofs.YthpkjfabdccpdaaGreat.Sv
set_option linter.unusedVariables false
def Gl (x:((AM×((List (Int×(AS×((Bool×AQ)×((List AB)×Int)))))×Int))×(List AB))):Option ((AM×((List (Int×(AS×((Bool×AQ)×((List AB)×Int)))))×Int))×Int) :=
 bd (Be x.1) λr0=>br (Aq r0.2 0) (λ_=>some ((((0,[]),([],0)),r0.2))) λ_=>bd (Cr (x.1.1,0)) λr1=>br (Aq r1.2 0) (λ_=>some ((((0,[]),([],0)),r1.2))) λ_=>br (Bv x.1.2.2 1000000) (λ_=>some ((((0,[]),([],0)),5))) λ_=>br (AV r1.1) (λ_=>some ((((0,[]),([],0)),5))) λ_=>gd (A0 (AA x.2) 1048576) λ_=>bd (E4 (x.1.2.2,x.2)) λr2=>br (Aq r2.2 0) (λ_=>some ((((0,[]),([],0)),r2.2))) λ_=>bd (HE ((x.1.1,(0,(x.1.2.2,x.2))))) λr3=>br (Aq r3.2 0) (λ_=>some ((((0,[]),([],0)),r3.2))) λ_=>bd (Hm ((x.1,(r3.1,(AH .i64 x.1.2.2 1,(-1)))))) λr4=>some r4
end Go.Proofs.YthpkjfabdccpdaaGreat.Pl
namespace Go.Proofs.YthpkjfabdccpdaaGreat.Pl
open Go Go.Proofs.YthpkjfabdccpdaaGreat.Sv
set_option linter.unusedVariables false
end Go.Proofs.YthpkjfabdccpdaaGreat.Pl
namespace Go.Proofs.YthpkjfabdccpdaaGreat.Pl
open Go Go.Proofs.YthpkjfabdccpdaaGreat.Sv
set_option linter.unusedVariables false
def Do (x:(BI×(List AB))):Option Int :=
 bd (BM x.1) λr0=>br (Aq r0.2 0) (λ_=>some r0.2) λ_=>br (Bv (AW (AA x.2)) 16) (λ_=>some 3) λ_=>bd (loop (λs1=>br (Ag s1.1 (AW (AA x.2))) (λ_=>AO s1.1 λk2=>ix x.2 k2 λx3=>bd (Ar x3) λr4=>br (Aq r4 0) (λ_=>some (.dn ((0,((s1.1,r4),()))))) λ_=>some (.nx (AH .i64 s1.1 1,s1.2))) λ_=>some (.dn ((1,(s1,()))))) (0,0)) λr5=>br (neq r5.1 0) (λ_=>some r5.2.1.2) λ_=>some 0
def DY (x:((List AB)×(List UInt8))):Option (Int×Bool) :=
 bd (loop (λs0=>br (Ag s0.1 s0.2) (λ_=>AO (Rq .i64 (Qy .u64 (Rq .u64 (AH .i64 s0.1 s0.2)) 1)) λk1=>ix x.1 k1 λx2=>br (AV (AV (Bl x2.1 x.2))) (λ_=>some (.nx ((AH .i64 (Rq .i64 (Qy .u64 (Rq .u64 (AH .i64 s0.1 s0.2)) 1)) 1,s0.2)))) λ_=>some (.nx ((s0.1,Rq .i64 (Qy .u64 (Rq .u64 (AH .i64 s0.1 s0.2)) 1))))) λ_=>some (.dn ((0,(s0,()))))) ((0,AW (AA x.1)))) λr3=>br (Ag r3.2.1.1 (AW (AA x.1))) (λ_=>AO r3.2.1.1 λk4=>ix x.1 k4 λx5=>some (r3.2.1.1,seq x5.1 x.2)) λ_=>some (r3.2.1.1,false)
def C5 (x:(BI×(List AB))):Option ((List AB)×(Int×Bool)) :=
 AO (AH .i64 x.1.1 1) λk0=>gd (A0 0 k0) λ_=>gd (A0 k0 1048576) λ_=>gd (A0 (AK 0 (AA x.1.2)) 1048576) λ_=>gd (A0 (AK 0 0) (AA (CW k0 ((([],([],(false,0))):AB))))) λ_=>br (neq (AA x.1.2) 0) (λ_=>bd (loop (λ(s1:(Int×(((List AB)×Nat)×(Int×Bool))))=>br (Ag s1.2.2.1 (AW (AA x.2))) (λ_=>AO s1.2.2.1 λk2=>ix x.2 k2 λx3=>gd (A0 (AK 0 s1.2.1.2) (AA s1.2.1.1)) λ_=>bd (DY ((B6 s1.2.1.1 0 (AK 0 s1.2.1.2),x3.1))) λr4=>br r4.2 (λ_=>AO r4.1 λk5=>gd (CB k5 s1.2.1.2) λ_=>gd (CB (AK 0 k5) (AA s1.2.1.1)) λ_=>ix s1.2.1.1 (AK 0 k5) λx6=>some (.nx ((A9 .i64 (AH .i64 s1.1 (AH .i64 (A9 .i64 (AW s1.2.1.2) r4.1) 1)) 1,((lset s1.2.1.1 (AK 0 k5) x3,s1.2.1.2),(AH .i64 s1.2.2.1 1,s1.2.2.2)))))) λ_=>br (Bh (AW s1.2.1.2) x.1.1) (λ_=>some (.dn ((0,((AH .i64 s1.1 (AH .i64 (A9 .i64 (AW s1.2.1.2) r4.1) 1),(s1.2.1,(s1.2.2.1,false))),()))))) λ_=>AO (AH .i64 (AW s1.2.1.2) 1) λk7=>AO (AW (CJ (AA s1.2.1.1) 0)) λk8=>gd (A0 k7 k8) λ_=>gd (neq (AK 0 k8) (AA s1.2.1.1)) λ_=>gd (CB 0 (AA s1.2.1.1)) λ_=>AO (AH .i64 r4.1 1) λk9=>gd (A0 (AK 0 k7) (AA s1.2.1.1)) λ_=>gd (A0 k9 k7) λ_=>br (CB (AK 0 k9) (AA s1.2.1.1)) (λ_=>AO r4.1 λk10=>gd (A0 (AK 0 k7) (AA s1.2.1.1)) λ_=>gd (A0 k10 k7) λ_=>br (CB (AK 0 k10) (AA s1.2.1.1)) (λ_=>gd (A0 (AK (AK 0 k10) (CJ k7 k10)) (AA s1.2.1.1)) λ_=>gd (A0 (AK (AK 0 k9) (CJ k7 k9)) (AA s1.2.1.1)) λ_=>AO r4.1 λk11=>gd (CB k11 k7) λ_=>gd (CB (AK 0 k11) (AA (DI s1.2.1.1 (AK 0 k9) (B6 s1.2.1.1 (AK 0 k10) (AK (AK 0 k10) (CJ k7 k10))) (CJ k7 k9)))) λ_=>ix (DI s1.2.1.1 (AK 0 k9) (B6 s1.2.1.1 (AK 0 k10) (AK (AK 0 k10) (CJ k7 k10))) (CJ k7 k9)) (AK 0 k11) λx12=>some (.nx ((AH .i64 s1.1 (AH .i64 (A9 .i64 (AW s1.2.1.2) r4.1) 1),((lset (DI s1.2.1.1 (AK 0 k9) (B6 s1.2.1.1 (AK 0 k10) (AK (AK 0 k10) (CJ k7 k10))) (CJ k7 k9)) (AK 0 k11) x3,k7),(AH .i64 s1.2.2.1 1,s1.2.2.2)))))) λ_=>gd (A0 (AK (AK 0 k9) (CJ k7 k9)) (AA s1.2.1.1)) λ_=>AO r4.1 λk13=>gd (CB k13 k7) λ_=>gd (CB (AK 0 k13) (AA (DI s1.2.1.1 (AK 0 k9) [] (CJ k7 k9)))) λ_=>ix (DI s1.2.1.1 (AK 0 k9) [] (CJ k7 k9)) (AK 0 k13) λx14=>some (.nx ((AH .i64 s1.1 (AH .i64 (A9 .i64 (AW s1.2.1.2) r4.1) 1),((lset (DI s1.2.1.1 (AK 0 k9) [] (CJ k7 k9)) (AK 0 k13) x3,k7),(AH .i64 s1.2.2.1 1,s1.2.2.2)))))) λ_=>AO r4.1 λk15=>gd (A0 (AK 0 k7) (AA s1.2.1.1)) λ_=>gd (A0 k15 k7) λ_=>br (CB (AK 0 k15) (AA s1.2.1.1)) (λ_=>gd (A0 (AK (AK 0 k15) (CJ k7 k15)) (AA s1.2.1.1)) λ_=>none) λ_=>none) λ_=>some (.dn ((0,(s1,()))))) ((0,((CW k0 ((([],([],(false,0))):AB)),0),(0,true))))) λr16=>gd (A0 (AK 0 r16.2.1.2.1.2) (AA r16.2.1.2.1.1)) λ_=>some ((B6 r16.2.1.2.1.1 0 (AK 0 r16.2.1.2.1.2),(r16.2.1.1,r16.2.1.2.2.2)))) λ_=>br (A0 (AK (AK 0 0) (AA x.1.2)) (AA (CW k0 ((([],([],(false,0))):AB))))) (λ_=>bd (loop (λ(s17:(Int×(((List AB)×Nat)×(Int×Bool))))=>br (Ag s17.2.2.1 (AW (AA x.2))) (λ_=>AO s17.2.2.1 λk18=>ix x.2 k18 λx19=>gd (A0 (AK 0 s17.2.1.2) (AA s17.2.1.1)) λ_=>bd (DY ((B6 s17.2.1.1 0 (AK 0 s17.2.1.2),x19.1))) λr20=>br r20.2 (λ_=>AO r20.1 λk21=>gd (CB k21 s17.2.1.2) λ_=>gd (CB (AK 0 k21) (AA s17.2.1.1)) λ_=>ix s17.2.1.1 (AK 0 k21) λx22=>some (.nx ((A9 .i64 (AH .i64 s17.1 (AH .i64 (A9 .i64 (AW s17.2.1.2) r20.1) 1)) 1,((lset s17.2.1.1 (AK 0 k21) x19,s17.2.1.2),(AH .i64 s17.2.2.1 1,s17.2.2.2)))))) λ_=>br (Bh (AW s17.2.1.2) x.1.1) (λ_=>some (.dn ((0,((AH .i64 s17.1 (AH .i64 (A9 .i64 (AW s17.2.1.2) r20.1) 1),(s17.2.1,(s17.2.2.1,false))),()))))) λ_=>AO (AH .i64 (AW s17.2.1.2) 1) λk23=>AO (AW (CJ (AA s17.2.1.1) 0)) λk24=>gd (A0 k23 k24) λ_=>gd (neq (AK 0 k24) (AA s17.2.1.1)) λ_=>gd (CB 0 (AA s17.2.1.1)) λ_=>AO (AH .i64 r20.1 1) λk25=>gd (A0 (AK 0 k23) (AA s17.2.1.1)) λ_=>gd (A0 k25 k23) λ_=>br (CB (AK 0 k25) (AA s17.2.1.1)) (λ_=>AO r20.1 λk26=>gd (A0 (AK 0 k23) (AA s17.2.1.1)) λ_=>gd (A0 k26 k23) λ_=>br (CB (AK 0 k26) (AA s17.2.1.1)) (λ_=>gd (A0 (AK (AK 0 k26) (CJ k23 k26)) (AA s17.2.1.1)) λ_=>gd (A0 (AK (AK 0 k25) (CJ k23 k25)) (AA s17.2.1.1)) λ_=>AO r20.1 λk27=>gd (CB k27 k23) λ_=>gd (CB (AK 0 k27) (AA (DI s17.2.1.1 (AK 0 k25) (B6 s17.2.1.1 (AK 0 k26) (AK (AK 0 k26) (CJ k23 k26))) (CJ k23 k25)))) λ_=>ix (DI s17.2.1.1 (AK 0 k25) (B6 s17.2.1.1 (AK 0 k26) (AK (AK 0 k26) (CJ k23 k26))) (CJ k23 k25)) (AK 0 k27) λx28=>some (.nx ((AH .i64 s17.1 (AH .i64 (A9 .i64 (AW s17.2.1.2) r20.1) 1),((lset (DI s17.2.1.1 (AK 0 k25) (B6 s17.2.1.1 (AK 0 k26) (AK (AK 0 k26) (CJ k23 k26))) (CJ k23 k25)) (AK 0 k27) x19,k23),(AH .i64 s17.2.2.1 1,s17.2.2.2)))))) λ_=>gd (A0 (AK (AK 0 k25) (CJ k23 k25)) (AA s17.2.1.1)) λ_=>AO r20.1 λk29=>gd (CB k29 k23) λ_=>gd (CB (AK 0 k29) (AA (DI s17.2.1.1 (AK 0 k25) [] (CJ k23 k25)))) λ_=>ix (DI s17.2.1.1 (AK 0 k25) [] (CJ k23 k25)) (AK 0 k29) λx30=>some (.nx ((AH .i64 s17.1 (AH .i64 (A9 .i64 (AW s17.2.1.2) r20.1) 1),((lset (DI s17.2.1.1 (AK 0 k25) [] (CJ k23 k25)) (AK 0 k29) x19,k23),(AH .i64 s17.2.2.1 1,s17.2.2.2)))))) λ_=>AO r20.1 λk31=>gd (A0 (AK 0 k23) (AA s17.2.1.1)) λ_=>gd (A0 k31 k23) λ_=>br (CB (AK 0 k31) (AA s17.2.1.1)) (λ_=>gd (A0 (AK (AK 0 k31) (CJ k23 k31)) (AA s17.2.1.1)) λ_=>none) λ_=>none) λ_=>some (.dn ((0,(s17,()))))) ((0,((DI (CW k0 ((([],([],(false,0))):AB))) (AK 0 0) x.1.2 (AA x.1.2),AK 0 (AA x.1.2)),(0,true))))) λr32=>gd (A0 (AK 0 r32.2.1.2.1.2) (AA r32.2.1.2.1.1)) λ_=>some ((B6 r32.2.1.2.1.1 0 (AK 0 r32.2.1.2.1.2),(r32.2.1.1,r32.2.1.2.2.2)))) λ_=>none
def Er (x:(BI×(List AB))):Option (BI×(Int×Int)) :=
 bd (Do x) λr0=>br (Aq r0 0) (λ_=>some (((0,[]),(0,r0)))) λ_=>bd (C5 x) λr1=>br (AV r1.2.2) (λ_=>some (((0,[]),(0,5)))) λ_=>some (((x.1.1,r1.1),(r1.2.1,0)))
end Go.Proofs.YthpkjfabdccpdaaGreat.Pl
namespace Go.Proofs.YthpkjfabdccpdaaGreat.Pl
open Go Go.Proofs.YthpkjfabdccpdaaGreat.Sv
set_option linter.unusedVariables false
def GO (x:(BI×(AM×((List (Int×(AS×((Bool×AQ)×((List AB)×Int)))))×Int)))):Option Bool :=
 bd (DK x.1.2) λr0=>br r0 (λ_=>some true) λ_=>bd (GM x.2) λr1=>some r1
def HM (x:Int):Option (BI×Int) :=
 br (Ag x 1) (λ_=>some (((0,[]),7))) λ_=>br (Bv x 16) (λ_=>some (((0,[]),7))) λ_=>some (((x,[]),0))
def HN (x:Int):Option (AM×Int) :=
 br (Ag x 1) (λ_=>some (((0,[]),7))) λ_=>br (Bv x 16) (λ_=>some (((0,[]),7))) λ_=>some (((x,[]),0))
def JP (x:Int):Option ((AM×((List (Int×(AS×((Bool×AQ)×((List AB)×Int)))))×Int))×Int) :=
 bd (HN x) λr0=>br (Aq r0.2 0) (λ_=>some ((((0,[]),([],0)),r0.2))) λ_=>some (((r0.1,([],1)),0))
def Dp (x:Int):Option ((BI×(AM×((List (Int×(AS×((Bool×AQ)×((List AB)×Int)))))×Int)))×Int) :=
 bd (HM x) λr0=>br (Aq r0.2 0) (λ_=>some ((((0,[]),((0,[]),([],0))),r0.2))) λ_=>bd (JP x) λr1=>br (Aq r1.2 0) (λ_=>some ((((0,[]),((0,[]),([],0))),r1.2))) λ_=>some (((r0.1,r1.1),0))
def DD (x:(BI×(AM×((List (Int×(AS×((Bool×AQ)×((List AB)×Int)))))×Int)))):Option (Int×Int) :=
 bd (BM x.1) λr0=>br (Aq r0.2 0) (λ_=>some (0,r0.2)) λ_=>bd (Be x.2) λr1=>br (Aq r1.2 0) (λ_=>some (0,r1.2)) λ_=>br (Aq x.1.1 x.2.1.1) (λ_=>some (0,6)) λ_=>br (Bv (AW (AA x.2.1.2)) 0) (λ_=>ix x.2.1.2 0 λx2=>some ((AH .i64 (A9 .i64 x.1.1 (AW (AA x.1.2))) (Kh .i64 x.1.1 (A9 .i64 2 (AW (AA x2)))),0))) λ_=>some ((AH .i64 (A9 .i64 x.1.1 (AW (AA x.1.2))) (Kh .i64 x.1.1 2),0))
def Du (x:((List UInt8)×Int)):Option AB :=
 some ((x.1,([(118:UInt8)],(false,x.2))))
def DZ (x:(BI×(List AB))):Option (Bool×Int) :=
 bd (Do x) λr0=>br (Aq r0 0) (λ_=>some (false,r0)) λ_=>bd (C5 x) λr1=>some (r1.2.2,0)
def CA (x:(BI×(AM×((List (Int×(AS×((Bool×AQ)×((List AB)×Int)))))×Int)))):Option (BI×(AM×((List (Int×(AS×((Bool×AQ)×((List AB)×Int)))))×Int))) :=
 some x
def Bx (x:((BI×(AM×((List (Int×(AS×((Bool×AQ)×((List AB)×Int)))))×Int)))×(List AB))):Option ((BI×(AM×((List (Int×(AS×((Bool×AQ)×((List AB)×Int)))))×Int)))×(Int×Int)) :=
 bd (BM x.1.1) λr0=>br (Aq r0.2 0) (λ_=>some ((((0,[]),((0,[]),([],0))),(0,r0.2)))) λ_=>bd (Be x.1.2) λr1=>br (Aq r1.2 0) (λ_=>some ((((0,[]),((0,[]),([],0))),(0,r1.2)))) λ_=>br (Aq x.1.1.1 x.1.2.1.1) (λ_=>some ((((0,[]),((0,[]),([],0))),(0,6)))) λ_=>br (Ag (AW (AA x.2)) 1) (λ_=>some ((((0,[]),((0,[]),([],0))),(0,2)))) λ_=>br (Bv (AW (AA x.2)) 8) (λ_=>some ((((0,[]),((0,[]),([],0))),(0,2)))) λ_=>br (Bv (AW (AA x.2)) x.1.1.1) (λ_=>some ((((0,[]),((0,[]),([],0))),(0,2)))) λ_=>bd (loop (λs2=>br (Ag s2 (AW (AA x.2))) (λ_=>AO s2 λk3=>ix x.2 k3 λx4=>bd (Ar x4) λr5=>br (Aq r5 0) (λ_=>some (.dn ((0,(s2,r5))))) λ_=>some (.nx (AH .i64 s2 1))) λ_=>some (.dn ((1,(s2,0))))) 0) λr6=>br (neq r6.1 0) (λ_=>some ((((0,[]),((0,[]),([],0))),(0,r6.2.2)))) λ_=>bd (loop (λs7=>br (Ag s7 (A9 .i64 (AW (AA x.2)) 1)) (λ_=>AO (AH .i64 s7 1) λk8=>ix x.2 k8 λx9=>AO s7 λk10=>ix x.2 k10 λx11=>br (PY x9.2.2.2 x11.2.2.2) (λ_=>some (.dn ((0,(s7,6))))) λ_=>some (.nx (AH .i64 s7 1))) λ_=>some (.dn ((1,(s7,0))))) 0) λr12=>br (neq r12.1 0) (λ_=>some ((((0,[]),((0,[]),([],0))),(0,r12.2.2)))) λ_=>bd (DZ (x.1.1,x.2)) λr13=>br (Aq r13.2 0) (λ_=>some ((((0,[]),((0,[]),([],0))),(0,r13.2)))) λ_=>br (AV r13.1) (λ_=>br (Bh (AW (AA x.1.1.2)) 0) (λ_=>bd (Er (x.1.1,x.2)) λr14=>br (Aq r14.2.2 0) (λ_=>some ((((0,[]),((0,[]),([],0))),(0,r14.2.2)))) λ_=>bd (CA (r14.1,x.1.2)) λr15=>some ((r15,(AH .i64 r14.2.1 0,0)))) λ_=>bd (Cr (x.1.2.1,0)) λr16=>br (Aq r16.2 0) (λ_=>some ((((0,[]),((0,[]),([],0))),(0,r16.2)))) λ_=>br (AV r16.1) (λ_=>some ((((0,[]),((0,[]),([],0))),(0,10)))) λ_=>bd (Gl (x.1.2,x.1.1.2)) λr17=>br (Aq r17.2 0) (λ_=>some ((((0,[]),((0,[]),([],0))),(0,r17.2)))) λ_=>bd (Er (((x.1.1.1,[]),x.2))) λr18=>br (Aq r18.2.2 0) (λ_=>some ((((0,[]),((0,[]),([],0))),(0,r18.2.2)))) λ_=>bd (CA (r18.1,r17.1)) λr19=>some ((r19,(AH .i64 r18.2.1 (AW (AA x.1.1.2)),0)))) λ_=>bd (Er (x.1.1,x.2)) λr20=>br (Aq r20.2.2 0) (λ_=>some ((((0,[]),((0,[]),([],0))),(0,r20.2.2)))) λ_=>bd (CA (r20.1,x.1.2)) λr21=>some ((r21,(AH .i64 r20.2.1 0,0)))
def Cy (x:((BI×(AM×((List (Int×(AS×((Bool×AQ)×((List AB)×Int)))))×Int)))×(List AB))):Option (Bool×Int) :=
 bd (BM x.1.1) λr0=>br (Aq r0.2 0) (λ_=>some (false,r0.2)) λ_=>bd (Be x.1.2) λr1=>br (Aq r1.2 0) (λ_=>some (false,r1.2)) λ_=>br (Aq x.1.1.1 x.1.2.1.1) (λ_=>some (false,6)) λ_=>br (Ag (AW (AA x.2)) 1) (λ_=>some (false,2)) λ_=>br (Bv (AW (AA x.2)) 8) (λ_=>some (false,2)) λ_=>br (Bv (AW (AA x.2)) x.1.1.1) (λ_=>some (false,2)) λ_=>bd (loop (λs2=>br (Ag s2 (AW (AA x.2))) (λ_=>AO s2 λk3=>ix x.2 k3 λx4=>bd (Ar x4) λr5=>br (Aq r5 0) (λ_=>some (.dn ((0,(s2,r5))))) λ_=>some (.nx (AH .i64 s2 1))) λ_=>some (.dn ((1,(s2,0))))) 0) λr6=>br (neq r6.1 0) (λ_=>some (false,r6.2.2)) λ_=>bd (loop (λs7=>br (Ag s7 (A9 .i64 (AW (AA x.2)) 1)) (λ_=>AO (AH .i64 s7 1) λk8=>ix x.2 k8 λx9=>AO s7 λk10=>ix x.2 k10 λx11=>br (PY x9.2.2.2 x11.2.2.2) (λ_=>some (.dn ((0,(s7,6))))) λ_=>some (.nx (AH .i64 s7 1))) λ_=>some (.dn ((1,(s7,0))))) 0) λr12=>br (neq r12.1 0) (λ_=>some (false,r12.2.2)) λ_=>bd (DZ (x.1.1,x.2)) λr13=>br (Aq r13.2 0) (λ_=>some (false,r13.2)) λ_=>some (AV r13.1,0)
def DE (x:((BI×(AM×((List (Int×(AS×((Bool×AQ)×((List AB)×Int)))))×Int)))×(List AB))):Option (Bool×Int) :=
 bd (BM x.1.1) λr0=>br (Aq r0.2 0) (λ_=>some (false,r0.2)) λ_=>bd (Be x.1.2) λr1=>br (Aq r1.2 0) (λ_=>some (false,r1.2)) λ_=>br (Aq x.1.1.1 x.1.2.1.1) (λ_=>some (false,6)) λ_=>br (Ag (AW (AA x.2)) 1) (λ_=>some (false,2)) λ_=>br (Bv (AW (AA x.2)) 8) (λ_=>some (false,2)) λ_=>br (Bv (AW (AA x.2)) x.1.1.1) (λ_=>some (false,2)) λ_=>bd (loop (λs2=>br (Ag s2 (AW (AA x.2))) (λ_=>AO s2 λk3=>ix x.2 k3 λx4=>bd (Ar x4) λr5=>br (Aq r5 0) (λ_=>some (.dn ((0,(s2,r5))))) λ_=>some (.nx (AH .i64 s2 1))) λ_=>some (.dn ((1,(s2,0))))) 0) λr6=>br (neq r6.1 0) (λ_=>some (false,r6.2.2)) λ_=>bd (loop (λs7=>br (Ag s7 (A9 .i64 (AW (AA x.2)) 1)) (λ_=>AO (AH .i64 s7 1) λk8=>ix x.2 k8 λx9=>AO s7 λk10=>ix x.2 k10 λx11=>br (PY x9.2.2.2 x11.2.2.2) (λ_=>some (.dn ((0,(s7,6))))) λ_=>some (.nx (AH .i64 s7 1))) λ_=>some (.dn ((1,(s7,0))))) 0) λr12=>br (neq r12.1 0) (λ_=>some (false,r12.2.2)) λ_=>bd (DZ (x.1.1,x.2)) λr13=>br (Aq r13.2 0) (λ_=>some (false,r13.2)) λ_=>br (AV r13.1) (λ_=>bd (Cr (x.1.2.1,0)) λr14=>br (Aq r14.2 0) (λ_=>some (false,r14.2)) λ_=>some (AV r14.1,0)) λ_=>some (false,0)
def EQ (x:Unit):Option Bool :=
 bd (Dp 1) λr0=>bd (DD r0.1) λr1=>jn (γ:=(Nat×(Bool×Unit))) (λs2=>br (Aq r0.2 0) (λ_=>some (.nx true)) λ_=>br (Aq r1.2 0) (λ_=>some (.nx true)) λ_=>some (.nx (Aq r1.1 3))) () (λs3=>br s3 (λ_=>some false) λ_=>bd (loop (λ(s4:(Bool×(Int×(Int×((List AB)×(Int×((List (List BI))×((List (Int×(AS×((Bool×AQ)×((List AB)×Int)))))×Int))))))))=>br (Ag s4.2.1 3) (λ_=>jn (γ:=(Nat×((Bool×(Int×((List AB)×(Int×((List (List BI))×((List (Int×(AS×((Bool×AQ)×((List AB)×Int)))))×Int))))))×Unit))) (λs5=>AO s4.2.1 λk6=>br (neq k6 0) (λ_=>bd (Du (([(97:UInt8)],AH .i64 s4.2.1 1))) λr7=>bd (Bx ((((s5.2.1,s5.2.2.1),((s5.2.2.2.1,s5.2.2.2.2.1),s5.2.2.2.2.2)),[r7]))) λr8=>jn (γ:=(Nat×(Bool×Unit))) (λs9=>br (Aq r8.2.2 0) (λ_=>some (.nx true)) λ_=>AO s4.2.1 λk10=>br (neq k10 0) (λ_=>some (.nx (Aq r8.2.1 1))) λ_=>br (neq k10 1) (λ_=>some (.nx (Aq r8.2.1 2))) λ_=>gd (neq k10 2) λ_=>some (.nx (Aq r8.2.1 2))) () (λs11=>br s11 (λ_=>some (.dn ((0,((false,s5.2),()))))) λ_=>some (.nx ((s5.1,(r8.1.1.1,(r8.1.1.2,(r8.1.2.1.1,(r8.1.2.1.2,r8.1.2.2)))))))) λr12=>none) λ_=>br (neq k6 1) (λ_=>bd (Du (([(98:UInt8)],AH .i64 s4.2.1 1))) λr13=>bd (Bx ((((s5.2.1,s5.2.2.1),((s5.2.2.2.1,s5.2.2.2.2.1),s5.2.2.2.2.2)),[r13]))) λr14=>jn (γ:=(Nat×(Bool×Unit))) (λs15=>br (Aq r14.2.2 0) (λ_=>some (.nx true)) λ_=>AO s4.2.1 λk16=>br (neq k16 0) (λ_=>some (.nx (Aq r14.2.1 1))) λ_=>br (neq k16 1) (λ_=>some (.nx (Aq r14.2.1 2))) λ_=>gd (neq k16 2) λ_=>some (.nx (Aq r14.2.1 2))) () (λs17=>br s17 (λ_=>some (.dn ((0,((false,s5.2),()))))) λ_=>some (.nx ((s5.1,(r14.1.1.1,(r14.1.1.2,(r14.1.2.1.1,(r14.1.2.1.2,r14.1.2.2)))))))) λr18=>none) λ_=>br (neq k6 2) (λ_=>bd (Du (([(99:UInt8)],AH .i64 s4.2.1 1))) λr19=>bd (Bx ((((s5.2.1,s5.2.2.1),((s5.2.2.2.1,s5.2.2.2.2.1),s5.2.2.2.2.2)),[r19]))) λr20=>jn (γ:=(Nat×(Bool×Unit))) (λs21=>br (Aq r20.2.2 0) (λ_=>some (.nx true)) λ_=>AO s4.2.1 λk22=>br (neq k22 0) (λ_=>some (.nx (Aq r20.2.1 1))) λ_=>br (neq k22 1) (λ_=>some (.nx (Aq r20.2.1 2))) λ_=>gd (neq k22 2) λ_=>some (.nx (Aq r20.2.1 2))) () (λs23=>br s23 (λ_=>some (.dn ((0,((false,s5.2),()))))) λ_=>some (.nx ((s5.1,(r20.1.1.1,(r20.1.1.2,(r20.1.2.1.1,(r20.1.2.1.2,r20.1.2.2)))))))) λr24=>none) λ_=>gd (neq k6 3) λ_=>bd (Du (([(100:UInt8)],AH .i64 s4.2.1 1))) λr25=>bd (Bx ((((s5.2.1,s5.2.2.1),((s5.2.2.2.1,s5.2.2.2.2.1),s5.2.2.2.2.2)),[r25]))) λr26=>jn (γ:=(Nat×(Bool×Unit))) (λs27=>br (Aq r26.2.2 0) (λ_=>some (.nx true)) λ_=>AO s4.2.1 λk28=>br (neq k28 0) (λ_=>some (.nx (Aq r26.2.1 1))) λ_=>br (neq k28 1) (λ_=>some (.nx (Aq r26.2.1 2))) λ_=>gd (neq k28 2) λ_=>some (.nx (Aq r26.2.1 2))) () (λs29=>br s29 (λ_=>some (.dn ((0,((false,s5.2),()))))) λ_=>some (.nx ((s5.1,(r26.1.1.1,(r26.1.1.2,(r26.1.2.1.1,(r26.1.2.1.2,r26.1.2.2)))))))) λr30=>none) (s4.1,s4.2.2) (λs31=>some (.nx ((s31.1,(AH .i64 s4.2.1 1,s31.2))))) λr32=>some (.dn ((1,((r32.2.1.1,(s4.2.1,r32.2.1.2)),()))))) λ_=>some (.dn ((0,(s4,()))))) ((false,(0,(r0.1.1.1,(r0.1.1.2,(r0.1.2.1.1,(r0.1.2.1.2,r0.1.2.2)))))))) λr33=>br (neq r33.1 0) (λ_=>bd (Du (([(100:UInt8)],4))) λr34=>bd (Cy ((((r33.2.1.2.2.1,r33.2.1.2.2.2.1),((r33.2.1.2.2.2.2.1,r33.2.1.2.2.2.2.2.1),r33.2.1.2.2.2.2.2.2)),[r34]))) λr35=>bd (DE ((((r33.2.1.2.2.1,r33.2.1.2.2.2.1),((r33.2.1.2.2.2.2.1,r33.2.1.2.2.2.2.2.1),r33.2.1.2.2.2.2.2.2)),[r34]))) λr36=>bd (Bx ((((r33.2.1.2.2.1,r33.2.1.2.2.2.1),((r33.2.1.2.2.2.2.1,r33.2.1.2.2.2.2.2.1),r33.2.1.2.2.2.2.2.2)),[r34]))) λr37=>bd (Du (([(99:UInt8)],4))) λr38=>bd (Bx ((((r33.2.1.2.2.1,r33.2.1.2.2.2.1),((r33.2.1.2.2.2.2.1,r33.2.1.2.2.2.2.2.1),r33.2.1.2.2.2.2.2.2)),[r38]))) λr39=>br r35.1 (λ_=>br (Bh r35.2 0) (λ_=>br r36.1 (λ_=>br (Bh r36.2 0) (λ_=>br (Bh r37.2.2 10) (λ_=>br (Bh r39.2.2 0) (λ_=>br (Bh (AW (AA r39.1.1.2)) 1) (λ_=>some (Bh (AW (AA r33.2.1.2.2.2.2.2.2.1)) 1)) λ_=>some false) λ_=>some false) λ_=>some false) λ_=>some false) λ_=>some false) λ_=>some false) λ_=>some false) λ_=>some r33.2.1.1) λr40=>none
def H9 (x:Int):Option (BI×Int) :=
 br (Ag x 1) (λ_=>some (((0,[]),7))) λ_=>br (Bv x 16) (λ_=>some (((0,[]),7))) λ_=>some (((x,[]),0))
def IA (x:Int):Option (AM×Int) :=
 br (Ag x 1) (λ_=>some (((0,[]),7))) λ_=>br (Bv x 16) (λ_=>some (((0,[]),7))) λ_=>some (((x,[]),0))
def IB (x:Int):Option ((AM×((List (Int×(AS×((Bool×AQ)×((List AB)×Int)))))×Int))×Int) :=
 bd (IA x) λr0=>br (Aq r0.2 0) (λ_=>some ((((0,[]),([],0)),r0.2))) λ_=>some (((r0.1,([],1)),0))
def G5 (x:Int):Option ((BI×(AM×((List (Int×(AS×((Bool×AQ)×((List AB)×Int)))))×Int)))×Int) :=
 bd (H9 x) λr0=>br (Aq r0.2 0) (λ_=>some ((((0,[]),((0,[]),([],0))),r0.2))) λ_=>bd (IB x) λr1=>some (((r0.1,r1.1),r1.2))
def HO (x:(BI×BI)):Option Bool :=
 br (Bh x.1.1 x.2.1) (λ_=>bd (Cw (x.1.2,x.2.2)) λr0=>some r0) λ_=>some false
def GP (x:((BI×(AM×((List (Int×(AS×((Bool×AQ)×((List AB)×Int)))))×Int)))×(BI×(AM×((List (Int×(AS×((Bool×AQ)×((List AB)×Int)))))×Int))))):Option Bool :=
 bd (HO (x.1.1,x.2.1)) λr0=>br r0 (λ_=>bd (D6 (x.1.2,x.2.2)) λr1=>some r1) λ_=>some false
def FQ (x:((BI×(AM×((List (Int×(AS×((Bool×AQ)×((List AB)×Int)))))×Int)))×(List AB))):Option Int :=
 bd (DW x.1) λr0=>br (Bh r0 0) (λ_=>br (Ag (AW (AA x.2)) 1) (λ_=>bd (loop (λs1=>br (Ag s1.2 (AW (AA x.2))) (λ_=>br (Bh s1.1 0) (λ_=>AO s1.2 λk2=>ix x.2 k2 λx3=>bd (Ax x3) λr4=>some (.nx (r4,AH .i64 s1.2 1))) λ_=>some (.dn ((0,(s1,()))))) λ_=>some (.dn ((0,(s1,()))))) (2,0)) λr5=>bd (loop (λs6=>br (Ag s6.1 (AW (AA x.2))) (λ_=>br (Bh s6.2 0) (λ_=>AO s6.1 λk7=>ix x.2 k7 λx8=>AO (A9 .i64 s6.1 1) λk9=>ix x.2 k9 λx10=>br (PY x8.2.2.2 x10.2.2.2) (λ_=>some (.nx (AH .i64 s6.1 1,6))) λ_=>some (.nx (AH .i64 s6.1 1,s6.2))) λ_=>some (.dn ((0,(s6,()))))) λ_=>some (.dn ((0,(s6,()))))) (1,r5.2.1.1)) λr11=>some r11.2.1.2) λ_=>br (Bv (AW (AA x.2)) 8) (λ_=>bd (loop (λs12=>br (Ag s12.2 (AW (AA x.2))) (λ_=>br (Bh s12.1 0) (λ_=>AO s12.2 λk13=>ix x.2 k13 λx14=>bd (Ax x14) λr15=>some (.nx (r15,AH .i64 s12.2 1))) λ_=>some (.dn ((0,(s12,()))))) λ_=>some (.dn ((0,(s12,()))))) (2,0)) λr16=>bd (loop (λs17=>br (Ag s17.1 (AW (AA x.2))) (λ_=>br (Bh s17.2 0) (λ_=>AO s17.1 λk18=>ix x.2 k18 λx19=>AO (A9 .i64 s17.1 1) λk20=>ix x.2 k20 λx21=>br (PY x19.2.2.2 x21.2.2.2) (λ_=>some (.nx (AH .i64 s17.1 1,6))) λ_=>some (.nx (AH .i64 s17.1 1,s17.2))) λ_=>some (.dn ((0,(s17,()))))) λ_=>some (.dn ((0,(s17,()))))) (1,r16.2.1.1)) λr22=>some r22.2.1.2) λ_=>br (Bv (AW (AA x.2)) x.1.1.1) (λ_=>bd (loop (λs23=>br (Ag s23.2 (AW (AA x.2))) (λ_=>br (Bh s23.1 0) (λ_=>AO s23.2 λk24=>ix x.2 k24 λx25=>bd (Ax x25) λr26=>some (.nx (r26,AH .i64 s23.2 1))) λ_=>some (.dn ((0,(s23,()))))) λ_=>some (.dn ((0,(s23,()))))) (2,0)) λr27=>bd (loop (λs28=>br (Ag s28.1 (AW (AA x.2))) (λ_=>br (Bh s28.2 0) (λ_=>AO s28.1 λk29=>ix x.2 k29 λx30=>AO (A9 .i64 s28.1 1) λk31=>ix x.2 k31 λx32=>br (PY x30.2.2.2 x32.2.2.2) (λ_=>some (.nx (AH .i64 s28.1 1,6))) λ_=>some (.nx (AH .i64 s28.1 1,s28.2))) λ_=>some (.dn ((0,(s28,()))))) λ_=>some (.dn ((0,(s28,()))))) (1,r27.2.1.1)) λr33=>some r33.2.1.2) λ_=>bd (loop (λs34=>br (Ag s34.2 (AW (AA x.2))) (λ_=>br (Bh s34.1 0) (λ_=>AO s34.2 λk35=>ix x.2 k35 λx36=>bd (Ax x36) λr37=>some (.nx (r37,AH .i64 s34.2 1))) λ_=>some (.dn ((0,(s34,()))))) λ_=>some (.dn ((0,(s34,()))))) (r0,0)) λr38=>bd (loop (λs39=>br (Ag s39.1 (AW (AA x.2))) (λ_=>br (Bh s39.2 0) (λ_=>AO s39.1 λk40=>ix x.2 k40 λx41=>AO (A9 .i64 s39.1 1) λk42=>ix x.2 k42 λx43=>br (PY x41.2.2.2 x43.2.2.2) (λ_=>some (.nx (AH .i64 s39.1 1,6))) λ_=>some (.nx (AH .i64 s39.1 1,s39.2))) λ_=>some (.dn ((0,(s39,()))))) λ_=>some (.dn ((0,(s39,()))))) (1,r38.2.1.1)) λr44=>some r44.2.1.2) λ_=>bd (loop (λs45=>br (Ag s45.2 (AW (AA x.2))) (λ_=>br (Bh s45.1 0) (λ_=>AO s45.2 λk46=>ix x.2 k46 λx47=>bd (Ax x47) λr48=>some (.nx (r48,AH .i64 s45.2 1))) λ_=>some (.dn ((0,(s45,()))))) λ_=>some (.dn ((0,(s45,()))))) (r0,0)) λr49=>bd (loop (λs50=>br (Ag s50.1 (AW (AA x.2))) (λ_=>br (Bh s50.2 0) (λ_=>AO s50.1 λk51=>ix x.2 k51 λx52=>AO (A9 .i64 s50.1 1) λk53=>ix x.2 k53 λx54=>br (PY x52.2.2.2 x54.2.2.2) (λ_=>some (.nx (AH .i64 s50.1 1,6))) λ_=>some (.nx (AH .i64 s50.1 1,s50.2))) λ_=>some (.dn ((0,(s50,()))))) λ_=>some (.dn ((0,(s50,()))))) (1,r49.2.1.1)) λr55=>some r55.2.1.2
def FS (x:(BI×(List AB))):Option Int :=
 bd (EO x.1) λr0=>br (Bh r0.2 0) (λ_=>br (Bv (AW (AA x.2)) 16) (λ_=>bd (loop (λs1=>br (Ag s1.1 (AW (AA x.2))) (λ_=>br (Bh s1.2 0) (λ_=>AO s1.1 λk2=>ix x.2 k2 λx3=>bd (Ax x3) λr4=>some (.nx (AH .i64 s1.1 1,r4))) λ_=>some (.dn ((0,(s1,()))))) λ_=>some (.dn ((0,(s1,()))))) (0,3)) λr5=>some r5.2.1.2) λ_=>bd (loop (λs6=>br (Ag s6.1 (AW (AA x.2))) (λ_=>br (Bh s6.2 0) (λ_=>AO s6.1 λk7=>ix x.2 k7 λx8=>bd (Ax x8) λr9=>some (.nx (AH .i64 s6.1 1,r9))) λ_=>some (.dn ((0,(s6,()))))) λ_=>some (.dn ((0,(s6,()))))) (0,r0.2)) λr10=>some r10.2.1.2) λ_=>bd (loop (λs11=>br (Ag s11.1 (AW (AA x.2))) (λ_=>br (Bh s11.2 0) (λ_=>AO s11.1 λk12=>ix x.2 k12 λx13=>bd (Ax x13) λr14=>some (.nx (AH .i64 s11.1 1,r14))) λ_=>some (.dn ((0,(s11,()))))) λ_=>some (.dn ((0,(s11,()))))) (0,r0.2)) λr15=>some r15.2.1.2
def Fm (x:((List AB)×AB)):Option ((List AB)×Int) :=
 bd (loop (λ(s0:(Int×(Int×(Bool×(List AB)))))=>br (Ag s0.2.1 (AW (AA x.1))) (λ_=>AO s0.2.1 λk1=>ix x.1 k1 λx2=>br (Bl x.2.1 x2.1) (λ_=>AO s0.2.1 λk3=>ix x.1 k3 λx4=>br (AV (Bl x4.1 x.2.1)) (λ_=>br (AV s0.2.2.1) (λ_=>gd (A0 (AK (AA s0.2.2.2) (AA [x.2])) 1048576) λ_=>AO s0.2.1 λk5=>ix x.1 k5 λx6=>br (AV (seq x6.1 x.2.1)) (λ_=>AO s0.2.1 λk7=>ix x.1 k7 λx8=>gd (A0 (AK (AA (CC s0.2.2.2 [x.2])) (AA [x8])) 1048576) λ_=>some (.nx ((AH .i64 s0.1 1,(AH .i64 s0.2.1 1,(true,CC (CC s0.2.2.2 [x.2]) [x8])))))) λ_=>some (.nx ((AH .i64 s0.1 1,(AH .i64 s0.2.1 1,(true,CC s0.2.2.2 [x.2])))))) λ_=>AO s0.2.1 λk9=>ix x.1 k9 λx10=>br (AV (seq x10.1 x.2.1)) (λ_=>AO s0.2.1 λk11=>ix x.1 k11 λx12=>gd (A0 (AK (AA s0.2.2.2) (AA [x12])) 1048576) λ_=>some (.nx ((AH .i64 s0.1 1,(AH .i64 s0.2.1 1,(s0.2.2.1,CC s0.2.2.2 [x12])))))) λ_=>some (.nx ((AH .i64 s0.1 1,(AH .i64 s0.2.1 1,s0.2.2))))) λ_=>AO s0.2.1 λk13=>ix x.1 k13 λx14=>br (AV (seq x14.1 x.2.1)) (λ_=>AO s0.2.1 λk15=>ix x.1 k15 λx16=>gd (A0 (AK (AA s0.2.2.2) (AA [x16])) 1048576) λ_=>some (.nx ((AH .i64 s0.1 1,(AH .i64 s0.2.1 1,(s0.2.2.1,CC s0.2.2.2 [x16])))))) λ_=>some (.nx ((AH .i64 s0.1 1,(AH .i64 s0.2.1 1,s0.2.2))))) λ_=>AO s0.2.1 λk17=>ix x.1 k17 λx18=>br (AV (Bl x18.1 x.2.1)) (λ_=>br (AV s0.2.2.1) (λ_=>gd (A0 (AK (AA s0.2.2.2) (AA [x.2])) 1048576) λ_=>AO s0.2.1 λk19=>ix x.1 k19 λx20=>br (AV (seq x20.1 x.2.1)) (λ_=>AO s0.2.1 λk21=>ix x.1 k21 λx22=>gd (A0 (AK (AA (CC s0.2.2.2 [x.2])) (AA [x22])) 1048576) λ_=>some (.nx ((s0.1,(AH .i64 s0.2.1 1,(true,CC (CC s0.2.2.2 [x.2]) [x22])))))) λ_=>some (.nx ((s0.1,(AH .i64 s0.2.1 1,(true,CC s0.2.2.2 [x.2])))))) λ_=>AO s0.2.1 λk23=>ix x.1 k23 λx24=>br (AV (seq x24.1 x.2.1)) (λ_=>AO s0.2.1 λk25=>ix x.1 k25 λx26=>gd (A0 (AK (AA s0.2.2.2) (AA [x26])) 1048576) λ_=>some (.nx ((s0.1,(AH .i64 s0.2.1 1,(s0.2.2.1,CC s0.2.2.2 [x26])))))) λ_=>some (.nx ((s0.1,(AH .i64 s0.2.1 1,s0.2.2))))) λ_=>AO s0.2.1 λk27=>ix x.1 k27 λx28=>br (AV (seq x28.1 x.2.1)) (λ_=>AO s0.2.1 λk29=>ix x.1 k29 λx30=>gd (A0 (AK (AA s0.2.2.2) (AA [x30])) 1048576) λ_=>some (.nx ((s0.1,(AH .i64 s0.2.1 1,(s0.2.2.1,CC s0.2.2.2 [x30])))))) λ_=>some (.nx ((s0.1,(AH .i64 s0.2.1 1,s0.2.2))))) λ_=>some (.dn ((0,(s0,()))))) ((1,(0,(false,[]))))) λr31=>br (AV r31.2.1.2.2.1) (λ_=>gd (A0 (AK (AA r31.2.1.2.2.2) (AA [x.2])) 1048576) λ_=>some (CC r31.2.1.2.2.2 [x.2],r31.2.1.1)) λ_=>some (r31.2.1.2.2.2,r31.2.1.1)
def G6 (x:(BI×(List AB))):Option ((List AB)×Int) :=
 gd (A0 (AA x.1.2) 1048576) λ_=>bd (loop (λ(s0:(Int×BI))=>br (Ag s0.2.1 (AW (AA x.2))) (λ_=>AO s0.2.1 λk1=>ix x.2 k1 λx2=>bd (Fm (s0.2.2,x2)) λr3=>some (.nx ((AH .i64 s0.1 r3.2,(AH .i64 s0.2.1 1,r3.1))))) λ_=>some (.dn ((0,(s0,()))))) ((0,(0,x.1.2)))) λr4=>some (r4.2.1.2.2,r4.2.1.1)
def GQ (x:(BI×(List AB))):Option (Bool×Int) :=
 bd (FS x) λr0=>br (Aq r0 0) (λ_=>some (false,r0)) λ_=>bd (G6 x) λr1=>some ((PY (AW (AA r1.1)) x.1.1,0))
def ER (x:((BI×(AM×((List (Int×(AS×((Bool×AQ)×((List AB)×Int)))))×Int)))×(List AB))):Option (Bool×Int) :=
 bd (FQ x) λr0=>br (Aq r0 0) (λ_=>some (false,r0)) λ_=>bd (GQ (x.1.1,x.2)) λr1=>some (AV r1.1,r1.2)
def GR (x:(BI×(AM×((List (Int×(AS×((Bool×AQ)×((List AB)×Int)))))×Int)))):Option Bool :=
 br (Iu 0 (AW (AA x.2.1.2))) (λ_=>some false) λ_=>ix x.2.1.2 0 λx0=>some (Bh (AW (AA x0)) 2)
def GS (x:((BI×(AM×((List (Int×(AS×((Bool×AQ)×((List AB)×Int)))))×Int)))×(List AB))):Option (Bool×Int) :=
 bd (ER x) λr0=>br r0.1 (λ_=>bd (GR x.1) λr1=>some (r1,r0.2)) λ_=>some (false,r0.2)
def GT (x:(BI×(AM×((List (Int×(AS×((Bool×AQ)×((List AB)×Int)))))×Int)))):Option (Int×Int) :=
 bd (DW x) λr0=>br (Aq r0 0) (λ_=>some (0,r0)) λ_=>br (Iu 0 (AW (AA x.2.1.2))) (λ_=>some ((AH .i64 (A9 .i64 x.1.1 (AW (AA x.1.2))) (Kh .i64 x.1.1 2),0))) λ_=>ix x.2.1.2 0 λx1=>some ((AH .i64 (A9 .i64 x.1.1 (AW (AA x.1.2))) (Kh .i64 x.1.1 (A9 .i64 2 (AW (AA x1)))),0))
def DL (x:((BI×(AM×((List (Int×(AS×((Bool×AQ)×((List AB)×Int)))))×Int)))×((List AB)×Int))):Option Bool :=
 bd (GO x.1) λr0=>br r0 (λ_=>bd (EQ ()) λr1=>some r1) λ_=>bd (DK x.2.1) λr2=>br r2 (λ_=>bd (EQ ()) λr3=>some r3) λ_=>bd (Dp x.2.2) λr4=>bd (G5 x.2.2) λr5=>bd (GP (r4.1,r5.1)) λr6=>br (AV r6) (λ_=>some false) λ_=>br (Aq r4.2 r5.2) (λ_=>some false) λ_=>bd (Dm x.1) λr7=>bd (DW x.1) λr8=>br (Aq r7 r8) (λ_=>some false) λ_=>bd (Cy (x.1,x.2.1)) λr9=>bd (ER (x.1,x.2.1)) λr10=>br (AV (beq r9.1 r10.1)) (λ_=>some false) λ_=>br (Aq r9.2 r10.2) (λ_=>some false) λ_=>bd (DE (x.1,x.2.1)) λr11=>bd (GS (x.1,x.2.1)) λr12=>bd (DD x.1) λr13=>bd (GT x.1) λr14=>br (beq r11.1 r12.1) (λ_=>br (Bh r11.2 r12.2) (λ_=>br (Bh r13.1 r14.1) (λ_=>br (Bh r13.2 r14.2) (λ_=>bd (EQ ()) λr15=>some r15) λ_=>some false) λ_=>some false) λ_=>some false) λ_=>some false
end Go.Proofs.YthpkjfabdccpdaaGreat.Pl
namespace Go.Proofs.YthpkjfabdccpdaaGreat.Pl
open Go Go.Proofs.YthpkjfabdccpdaaGreat.Sv
end Go.Proofs.YthpkjfabdccpdaaGreat.Pl
namespace Go.Proofs.YthpkjfabdccpdaaGreat.Pl
open Go Go.Proofs.YthpkjfabdccpdaaGreat.Sv
theorem MQ (l:List AB) (hl:l.length<=9223372036854775807):Cw (l,l)=some true:=by
 unfold Cw;simp only [AX,AR];refine BC (Ik (r:=(1,(((l.length:Int),false),()))) (λk=>((k:Int),false)) l.length rfl (by omega) (λk hk => ?_) (by simp only;rw [re];rfl)) ?_
 ·have hx:l[k]? = some l[k]:=List.getElem?_eq_getElem hk;simp only;rw [rl hk,AL,AL,AF,AJ hx,AF,AJ hx,O5,if_pos rfl,Ac (by omega)]
 ·rw [CR,if_neg (show ¬ (1=0) by omega)];unfold Bh;simp
theorem TN (r:BI) (hl:r.2.length<=9223372036854775807):EF (r,r)=some true:=by
 unfold EF;rw [By,if_pos rfl,MQ _ hl];rfl
theorem Rm (l:List BI) (hl:l.length<=1048576) (h : ∀ r∈l,r.2.length<=9223372036854775807):Dn (l,l)=some true:=by
 unfold Dn;simp only [AX,AR];rw [AT,if_pos rfl];refine BC (Ik (r:=(1,(((l.length:Int),false),()))) (λk=>((k:Int),false)) l.length rfl (by omega) (λk hk => ?_) (by simp only;rw [re];rfl)) rfl;have hx:l[k]? = some l[k]:=List.getElem?_eq_getElem hk;simp only;rw [rl hk,AL,AF,AJ hx,AF,AJ hx,TN _ (h _ (List.getElem_mem hk)),AD,FC,Aa,Ac (by omega)]
theorem TP (L:AM) (hb:L.2.length<=1048576) (hr : ∀ rs∈L.2,rs.length<=1048576 /\ ∀ r∈rs,r.2.length<=9223372036854775807):GN (L,L)=some true:=by
 unfold GN;simp only [AX,AR];rw [AT,if_pos rfl,AT,if_pos rfl];refine BC (Ik (r:=(1,(((L.2.length:Int),false),()))) (λk=>((k:Int),false)) L.2.length rfl (by omega) (λk hk => ?_) (by simp only;rw [re];rfl)) rfl;have hx:L.2[k]? = some L.2[k]:=List.getElem?_eq_getElem hk;have hk2:=hr _ (List.getElem_mem hk);simp only;rw [rl hk,AL,AF,AJ hx,AF,AJ hx,Rm _ hk2.1 hk2.2,AD,FC,Aa,Ac (by omega)]
theorem TQ {L:AM} {n:Nat} {j:Rr} (h:JobAt L n j):EG (j,j)=some true:=by
 obtain ⟨r0,r1,bt,k,_,rfl,hk,_,v0,v1⟩:=h;obtain ⟨s1,s2,s3,s4,s5,s6⟩:=NF v1 v0 bt hk;unfold EG;rw [By,if_pos rfl,PA _ _ s1 s2 s3 s4 s5 s6];simp [AD]
theorem Uz {t:CM} (v:VSt t):D6 (t,t)=some true:=by
 have m:=v.sm;have hj:=v.jsmall;unfold D6;simp only [AX,AR];rw [TP _ m.lv m.rs,AD,FC,Aa,AT,if_pos rfl,AT,if_pos rfl];refine BC (Ik (r:=(1,(((t.2.1.length:Int),false),()))) (λk=>((k:Int),false)) t.2.1.length rfl (by omega) (λk hk => ?_) (by simp only;rw [re];rfl)) rfl;have hx:t.2.1[k]? = some t.2.1[k]:=List.getElem?_eq_getElem hk;obtain ⟨n,ha⟩:=v.job _ (List.getElem_mem hk);simp only;rw [rl hk,AL,AF,AJ hx,AF,AJ hx,TQ ha,AD,FC,Aa,Ac (by omega)]
theorem kN:D6 (zS,zS)=some true:=by decide +kernel
end Go.Proofs.YthpkjfabdccpdaaGreat.Pl
namespace Go.Proofs.YthpkjfabdccpdaaGreat.Pl
open Go Go.Proofs.YthpkjfabdccpdaaGreat.Sv
end Go.Proofs.YthpkjfabdccpdaaGreat.Pl
namespace Go.Proofs.YthpkjfabdccpdaaGreat.Pl
open Go Go.Proofs.YthpkjfabdccpdaaGreat.Sv
def BF (b:BI):Int×Int:=if b.1<1\/b.1>16 then (0,7) else if (b.2.length:Int)>b.1 then (0,3) else JZ none 0 b.2
theorem Hn (b:BI):BM b=some (BF b):=by
 unfold BM BF;rw [BB,Ap,Ap];by_cases h1:b.1<1
 ·rw [if_pos h1,if_pos (.inl h1)]
 rw [if_neg h1];by_cases h2:b.1>16
 ·rw [if_pos h2,if_pos (.inr h2)]
 rw [if_neg h2,if_neg (show ¬ (b.1<1\/b.1>16) by omega),AX,AR];by_cases h3:(b.2.length:Int)>b.1
 ·rw [if_pos h3,if_pos h3]
 rw [if_neg h3,if_neg h3];have h4:=Ek b.2 (by omega);unfold A8 Ej at h4;rw [Ap,AX,AR,if_neg (show ¬ (b.2.length:Int)>5000 by omega),if_neg (show ¬ b.2.length>5000 by omega)] at h4;exact h4
theorem Nk (b:BI):EO b=some (BF b):=by
 rw [<- Hn];unfold EO BM
 congr 1
 funext _
 congr 1
 funext _
 congr 1
 funext _
 congr 2
 funext s0
 by_cases h:0<=s0.2.2
 ·simp only [WX h];cases hx:b.2[s0.2.2.toNat]? with
  | none=>unfold ix;simp only [hx]
  | some x=>simp only [AJ hx,GK,Ct,AD]
 ·have hn : ∀ {β:Type} (k:Nat->Option β),AO s0.2.2 k=none:=λk=>by unfold AO;simp [h]
  simp only [hn]
def BG (f:Cm):Int:=if (BF f.1).2≠0 then (BF f.1).2 else if (Bs f.2).2≠0 then (Bs f.2).2 else if f.1.1≠f.2.1.1 then 6 else 0
theorem U0 {f:Cm} (m:Sm f.2):Dm f=some (BG f):=by
 unfold Dm BG;rw [Hn,AD,AT];by_cases h1:(BF f.1).2=0;rotate_left
 ·rw [if_neg h1,if_pos h1]
 rw [if_pos h1,if_neg (show ¬ (BF f.1).2≠0 by simp [h1]),mN m,AD,AT];by_cases h2:(Bs f.2).2=0;rotate_left
 ·rw [if_neg h2,if_pos h2]
 rw [if_pos h2,if_neg (show ¬ (Bs f.2).2≠0 by simp [h2]),AT];by_cases h3:f.1.1=f.2.1.1
 ·rw [if_pos h3,if_neg (show ¬ f.1.1≠f.2.1.1 by simp [h3])]
 ·rw [if_neg h3,if_pos h3]
theorem J8 {f:Cm} (m:Sm f.2):DW f=some (BG f):=by
 unfold DW BG;rw [Nk,AD,By];by_cases h1:(BF f.1).2=0;rotate_left
 ·rw [if_neg h1,By,if_neg h1,if_pos h1]
 rw [if_pos h1,if_neg (show ¬ (BF f.1).2≠0 by simp [h1]),mO m,AD,By];by_cases h2:(Bs f.2).2=0;rotate_left
 ·rw [if_neg h2,if_pos h2]
 rw [if_pos h2,if_neg (show ¬ (Bs f.2).2≠0 by simp [h2]),AT];by_cases h3:f.1.1=f.2.1.1
 ·rw [if_pos h3,if_neg (show ¬ f.1.1≠f.2.1.1 by simp [h3]),h2]
 ·rw [if_neg h3,if_pos h3]
end Go.Proofs.YthpkjfabdccpdaaGreat.Pl
namespace Go.Proofs.YthpkjfabdccpdaaGreat.Pl
open Go Go.Proofs.YthpkjfabdccpdaaGreat.Sv
def px (b w:Int):Nat->Nat
 | 0=>0
 | k+1=>px b w k+if b*2 ^ k<w then 1 else 0
end Go.Proofs.YthpkjfabdccpdaaGreat.Pl
namespace Go.Proofs.YthpkjfabdccpdaaGreat.Pl
open Go Go.Proofs.YthpkjfabdccpdaaGreat.Sv
end Go.Proofs.YthpkjfabdccpdaaGreat.Pl
namespace Go.Proofs.YthpkjfabdccpdaaGreat.Pl
open Go Go.Proofs.YthpkjfabdccpdaaGreat.Sv
theorem NR {f:Cm} (h:BG f=0):(Bs f.2).2=0:=by
 unfold BG at h;by_cases h1:(BF f.1).2=0
 ·rw [if_neg (show ¬ (BF f.1).2≠0 by simp [h1])] at h;by_cases h2:(Bs f.2).2=0
  ·exact h2
  ·rw [if_pos h2] at h;exact absurd h h2
 ·rw [if_pos h1] at h;exact absurd h h1
def jY (B w:Int):Int:=if w=0 then 0 else (px B w 11:Int)+1
end Go.Proofs.YthpkjfabdccpdaaGreat.Pl
namespace Go.Proofs.YthpkjfabdccpdaaGreat.Pl
open Go Go.Proofs.YthpkjfabdccpdaaGreat.Sv
end Go.Proofs.YthpkjfabdccpdaaGreat.Pl
namespace Go.Proofs.YthpkjfabdccpdaaGreat.Pl
open Go Go.Proofs.YthpkjfabdccpdaaGreat.Sv
theorem NI : ∀ {l:List AB} {q:Hf},Asc (some q) l -> ∀ x∈l,Bl q x.1=true
 | x::l,q,⟨h1,h2⟩,y,hy=>by
  rcases List.mem_cons.1 hy with e | hy
  ·rw [e];exact h1 q rfl
  ·exact DC (h1 q rfl) (NI h2 y hy)
def kO:List AB->AB->List AB
 | [],x=>[x]
 | y::l,x=>if Bl y.1 x.1=true then y::kO l x else if y.1=x.1 then y::l else x::y::l
def mR (rs:List BI) (l:List AB):List AB:=rs.foldl (λout r=>r.2.foldl kO out) l
def g9 (x:AB):Bool := !x.2.2.1
def P2 (L:AM):List AB:=(mR (Fa L.2) []).filter g9
end Go.Proofs.YthpkjfabdccpdaaGreat.Pl
namespace Go.Proofs.YthpkjfabdccpdaaGreat.Pl
open Go Go.Proofs.YthpkjfabdccpdaaGreat.Sv
end Go.Proofs.YthpkjfabdccpdaaGreat.Pl
namespace Go.Proofs.YthpkjfabdccpdaaGreat.Pl
open Go Go.Proofs.YthpkjfabdccpdaaGreat.Sv
end Go.Proofs.YthpkjfabdccpdaaGreat.Pl
namespace Go.Proofs.YthpkjfabdccpdaaGreat.Pl
open Go Go.Proofs.YthpkjfabdccpdaaGreat.Sv
end Go.Proofs.YthpkjfabdccpdaaGreat.Pl
namespace Go.Proofs.YthpkjfabdccpdaaGreat.Pl
open Go Go.Proofs.YthpkjfabdccpdaaGreat.Sv
theorem X2 {t:CM} (h:t=zS\/VSt t):D6 (t,t)=some true:=by
 rcases h with h | h
 ·rw [h];exact kN
 ·exact Uz h
end Go.Proofs.YthpkjfabdccpdaaGreat.Pl
namespace Go.Proofs.YthpkjfabdccpdaaGreat.Pl
open Go Go.Proofs.YthpkjfabdccpdaaGreat.Sv
end Go.Proofs.YthpkjfabdccpdaaGreat.Pl
namespace Go.Proofs.YthpkjfabdccpdaaGreat.Pl
open Go Go.Proofs.YthpkjfabdccpdaaGreat.Sv
end Go.Proofs.YthpkjfabdccpdaaGreat.Pl
namespace Go.Proofs.YthpkjfabdccpdaaGreat.Pl
open Go Go.Proofs.YthpkjfabdccpdaaGreat.Sv
end Go.Proofs.YthpkjfabdccpdaaGreat.Pl
namespace Go.Proofs.YthpkjfabdccpdaaGreat.Pl
open Go Go.Proofs.YthpkjfabdccpdaaGreat.Sv
theorem X3 {α:Type} (l:List α) (k:Nat):B6 l 0 k=l.take k:=by unfold B6;simp
end Go.Proofs.YthpkjfabdccpdaaGreat.Pl
namespace Go.Proofs.YthpkjfabdccpdaaGreat.Pl
open Go Go.Proofs.YthpkjfabdccpdaaGreat.Sv
end Go.Proofs.YthpkjfabdccpdaaGreat.Pl
namespace Go.Proofs.YthpkjfabdccpdaaGreat.Pl
open Go Go.Proofs.YthpkjfabdccpdaaGreat.Sv
theorem jZ {a:Int} (h : -9223372036854775808<=a/\a<=9223372036854775807):Rq .i64 a=a:=by
 have:=Ci (a:=a) (b:=0) (by omega);unfold AH at this;rw [Int.add_zero] at this;exact this
end Go.Proofs.YthpkjfabdccpdaaGreat.Pl
