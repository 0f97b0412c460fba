/- Functions of the program and of the specification as plain functions, and laws about them. No condition. -/
import Derived.Test.YthpkjfabdccpdaaGreatPl2
import Derived.KernelRfl
set_option linter.all false
namespace Go.Proofs.YthpkjfabdccpdaaGreat.Pl
open Go Go.Proofs.YthpkjfabdccpdaaGreat.Sv
set_option linter.unusedVariables false
def BY (x:A7):Option (Int×Int) :=
 br (Ah x.1 1) (λ_=>some (0,7)) λ_=>br (Bz x.1 16) (λ_=>some (0,7)) λ_=>br (Bz (AV (AA x.2)) x.1) (λ_=>some (0,3)) λ_=>bd (loop (λs0=>br (Ah s0.2.2 (AV (AA x.2))) (λ_=>AS s0.2.2 λk1=>ix x.2 k1 λx2=>bd (Ar x2) λr3=>br (Ao r3 0) (λ_=>some (.dn ((0,((r3,(s0.2.2,s0.2.2)),()))))) λ_=>br (Bz s0.2.2 0) (λ_=>AS (BJ .i64 s0.2.2 1) λk4=>ix x.2 k4 λx5=>br (AZ (CJ x5.1 x2.1)) (λ_=>some (.dn ((0,((6,(s0.2.2,s0.2.2)),()))))) λ_=>some (.nx ((s0.1,(s0.2.1,AH .i64 s0.2.2 1))))) λ_=>some (.nx ((s0.1,(s0.2.1,AH .i64 s0.2.2 1))))) λ_=>some (.dn ((1,(s0,()))))) ((0,(0,0)))) λr6=>br (neq r6.1 0) (λ_=>some (r6.2.1.2.1,r6.2.1.1)) λ_=>some (0,0)
def FM (x:A7):Option (Int×Int) :=
 br (Ah x.1 1) (λ_=>some (0,7)) λ_=>br (Bz x.1 16) (λ_=>some (0,7)) λ_=>br (Bz (AV (AA x.2)) x.1) (λ_=>some (0,3)) λ_=>bd (loop (λs0=>br (Ah s0.2.2 (AV (AA x.2))) (λ_=>AS s0.2.2 λk1=>ix x.2 k1 λx2=>bd (Cu x2) λr3=>br (Ao r3 0) (λ_=>some (.dn ((0,((r3,(s0.2.2,s0.2.2)),()))))) λ_=>br (Bz s0.2.2 0) (λ_=>AS s0.2.2 λk4=>ix x.2 k4 λx5=>AS (BJ .i64 s0.2.2 1) λk6=>ix x.2 k6 λx7=>br (AZ (CJ x7.1 x5.1)) (λ_=>some (.dn ((0,((6,(s0.2.2,s0.2.2)),()))))) λ_=>some (.nx ((s0.1,(s0.2.1,AH .i64 s0.2.2 1))))) λ_=>some (.nx ((s0.1,(s0.2.1,AH .i64 s0.2.2 1))))) λ_=>some (.dn ((1,(s0,()))))) ((0,(0,0)))) λr8=>br (neq r8.1 0) (λ_=>some (r8.2.1.2.1,r8.2.1.1)) λ_=>some (0,0)
def EL (x:(A7×(AO×((List (Int×(AY×((Bool×AT)×((List AB)×Int)))))×Int)))):Option Int :=
 bd (FM x.1) λr0=>br (Bm r0.2 0) (λ_=>bd (EJ x.2) λr1=>br (Bm r1.2 0) (λ_=>br (Ao x.1.1 x.2.1.1) (λ_=>some 6) λ_=>some r1.2) λ_=>some r1.2) λ_=>br (Bm r0.2 0) (λ_=>br (Ao x.1.1 x.2.1.1) (λ_=>some 6) λ_=>some r0.2) λ_=>some r0.2
end Go.Proofs.YthpkjfabdccpdaaGreat.Pl
namespace Go.Proofs.YthpkjfabdccpdaaGreat.Pl
open Go Go.Proofs.YthpkjfabdccpdaaGreat.Sv
set_option linter.unusedVariables false
end Go.Proofs.YthpkjfabdccpdaaGreat.Pl
namespace Go.Proofs.YthpkjfabdccpdaaGreat.Pl
open Go Go.Proofs.YthpkjfabdccpdaaGreat.Sv
set_option linter.unusedVariables false
def Dp (x:((AO×((List (Int×(AY×((Bool×AT)×((List AB)×Int)))))×Int))×(List AB))):Option ((AO×((List (Int×(AY×((Bool×AT)×((List AB)×Int)))))×Int))×Int) :=
 bd (Bw x.1) λr0=>br (Ao r0.2 0) (λ_=>some ((((0,[]),([],0)),r0.2))) λ_=>bd (CY (x.1.1,0)) λr1=>br (Ao r1.2 0) (λ_=>some ((((0,[]),([],0)),r1.2))) λ_=>br (Bz x.1.2.2 1000000) (λ_=>some ((((0,[]),([],0)),5))) λ_=>br (AZ r1.1) (λ_=>some ((((0,[]),([],0)),5))) λ_=>gd (A6 (AA x.2) 1048576) λ_=>bd (Ew (x.1.2.2,x.2)) λr2=>br (Ao r2.2 0) (λ_=>some ((((0,[]),([],0)),r2.2))) λ_=>bd (DH ((x.1.1,(0,(x.1.2.2,x.2))))) λr3=>br (Ao r3.2 0) (λ_=>some ((((0,[]),([],0)),r3.2))) λ_=>bd (Do ((x.1,(r3.1,(AH .i64 x.1.2.2 1,(-1)))))) λr4=>some r4
end Go.Proofs.YthpkjfabdccpdaaGreat.Pl
namespace Go.Proofs.YthpkjfabdccpdaaGreat.Pl
open Go Go.Proofs.YthpkjfabdccpdaaGreat.Sv
set_option linter.unusedVariables false
end Go.Proofs.YthpkjfabdccpdaaGreat.Pl
namespace Go.Proofs.YthpkjfabdccpdaaGreat.Pl
open Go Go.Proofs.YthpkjfabdccpdaaGreat.Sv
set_option linter.unusedVariables false
def Dq (x:(A7×(List AB))):Option Int :=
 bd (BY x.1) λr0=>br (Ao r0.2 0) (λ_=>some r0.2) λ_=>br (Bz (AV (AA x.2)) 16) (λ_=>some 3) λ_=>bd (loop (λs1=>br (Ah s1.1 (AV (AA x.2))) (λ_=>AS s1.1 λk2=>ix x.2 k2 λx3=>bd (Ar x3) λr4=>br (Ao r4 0) (λ_=>some (.dn ((0,((s1.1,r4),()))))) λ_=>some (.nx (AH .i64 s1.1 1,s1.2))) λ_=>some (.dn ((1,(s1,()))))) (0,0)) λr5=>br (neq r5.1 0) (λ_=>some r5.2.1.2) λ_=>some 0
def Db (x:((List AB)×(List UInt8))):Option (Int×Bool) :=
 bd (loop (λs0=>br (Ah s0.1 s0.2) (λ_=>AS (MH .i64 (Qn .u64 (MH .u64 (AH .i64 s0.1 s0.2)) 1)) λk1=>ix x.1 k1 λx2=>br (AZ (AZ (CJ x2.1 x.2))) (λ_=>some (.nx ((AH .i64 (MH .i64 (Qn .u64 (MH .u64 (AH .i64 s0.1 s0.2)) 1)) 1,s0.2)))) λ_=>some (.nx ((s0.1,MH .i64 (Qn .u64 (MH .u64 (AH .i64 s0.1 s0.2)) 1))))) λ_=>some (.dn ((0,(s0,()))))) ((0,AV (AA x.1)))) λr3=>br (Ah r3.2.1.1 (AV (AA x.1))) (λ_=>AS r3.2.1.1 λk4=>ix x.1 k4 λx5=>some (r3.2.1.1,seq x5.1 x.2)) λ_=>some (r3.2.1.1,false)
def C8 (x:(A7×(List AB))):Option ((List AB)×(Int×Bool)) :=
 AS (AH .i64 x.1.1 1) λk0=>gd (A6 0 k0) λ_=>gd (A6 k0 1048576) λ_=>gd (A6 (AJ 0 (AA x.1.2)) 1048576) λ_=>gd (A6 (AJ 0 0) (AA (CK k0 ((([],([],(false,0))):AB))))) λ_=>br (neq (AA x.1.2) 0) (λ_=>bd (loop (λ(s1:(Int×(((List AB)×Nat)×(Int×Bool))))=>br (Ah s1.2.2.1 (AV (AA x.2))) (λ_=>AS s1.2.2.1 λk2=>ix x.2 k2 λx3=>gd (A6 (AJ 0 s1.2.1.2) (AA s1.2.1.1)) λ_=>bd (Db ((B3 s1.2.1.1 0 (AJ 0 s1.2.1.2),x3.1))) λr4=>br r4.2 (λ_=>AS r4.1 λk5=>gd (B6 k5 s1.2.1.2) λ_=>gd (B6 (AJ 0 k5) (AA s1.2.1.1)) λ_=>ix s1.2.1.1 (AJ 0 k5) λx6=>some (.nx ((BJ .i64 (AH .i64 s1.1 (AH .i64 (BJ .i64 (AV s1.2.1.2) r4.1) 1)) 1,((lset s1.2.1.1 (AJ 0 k5) x3,s1.2.1.2),(AH .i64 s1.2.2.1 1,s1.2.2.2)))))) λ_=>br (Bm (AV s1.2.1.2) x.1.1) (λ_=>some (.dn ((0,((AH .i64 s1.1 (AH .i64 (BJ .i64 (AV s1.2.1.2) r4.1) 1),(s1.2.1,(s1.2.2.1,false))),()))))) λ_=>AS (AH .i64 (AV s1.2.1.2) 1) λk7=>AS (AV (CF (AA s1.2.1.1) 0)) λk8=>gd (A6 k7 k8) λ_=>gd (neq (AJ 0 k8) (AA s1.2.1.1)) λ_=>gd (B6 0 (AA s1.2.1.1)) λ_=>AS (AH .i64 r4.1 1) λk9=>gd (A6 (AJ 0 k7) (AA s1.2.1.1)) λ_=>gd (A6 k9 k7) λ_=>br (B6 (AJ 0 k9) (AA s1.2.1.1)) (λ_=>AS r4.1 λk10=>gd (A6 (AJ 0 k7) (AA s1.2.1.1)) λ_=>gd (A6 k10 k7) λ_=>br (B6 (AJ 0 k10) (AA s1.2.1.1)) (λ_=>gd (A6 (AJ (AJ 0 k10) (CF k7 k10)) (AA s1.2.1.1)) λ_=>gd (A6 (AJ (AJ 0 k9) (CF k7 k9)) (AA s1.2.1.1)) λ_=>AS r4.1 λk11=>gd (B6 k11 k7) λ_=>gd (B6 (AJ 0 k11) (AA (DB s1.2.1.1 (AJ 0 k9) (B3 s1.2.1.1 (AJ 0 k10) (AJ (AJ 0 k10) (CF k7 k10))) (CF k7 k9)))) λ_=>ix (DB s1.2.1.1 (AJ 0 k9) (B3 s1.2.1.1 (AJ 0 k10) (AJ (AJ 0 k10) (CF k7 k10))) (CF k7 k9)) (AJ 0 k11) λx12=>some (.nx ((AH .i64 s1.1 (AH .i64 (BJ .i64 (AV s1.2.1.2) r4.1) 1),((lset (DB s1.2.1.1 (AJ 0 k9) (B3 s1.2.1.1 (AJ 0 k10) (AJ (AJ 0 k10) (CF k7 k10))) (CF k7 k9)) (AJ 0 k11) x3,k7),(AH .i64 s1.2.2.1 1,s1.2.2.2)))))) λ_=>gd (A6 (AJ (AJ 0 k9) (CF k7 k9)) (AA s1.2.1.1)) λ_=>AS r4.1 λk13=>gd (B6 k13 k7) λ_=>gd (B6 (AJ 0 k13) (AA (DB s1.2.1.1 (AJ 0 k9) [] (CF k7 k9)))) λ_=>ix (DB s1.2.1.1 (AJ 0 k9) [] (CF k7 k9)) (AJ 0 k13) λx14=>some (.nx ((AH .i64 s1.1 (AH .i64 (BJ .i64 (AV s1.2.1.2) r4.1) 1),((lset (DB s1.2.1.1 (AJ 0 k9) [] (CF k7 k9)) (AJ 0 k13) x3,k7),(AH .i64 s1.2.2.1 1,s1.2.2.2)))))) λ_=>AS r4.1 λk15=>gd (A6 (AJ 0 k7) (AA s1.2.1.1)) λ_=>gd (A6 k15 k7) λ_=>br (B6 (AJ 0 k15) (AA s1.2.1.1)) (λ_=>gd (A6 (AJ (AJ 0 k15) (CF k7 k15)) (AA s1.2.1.1)) λ_=>none) λ_=>none) λ_=>some (.dn ((0,(s1,()))))) ((0,((CK k0 ((([],([],(false,0))):AB)),0),(0,true))))) λr16=>gd (A6 (AJ 0 r16.2.1.2.1.2) (AA r16.2.1.2.1.1)) λ_=>some ((B3 r16.2.1.2.1.1 0 (AJ 0 r16.2.1.2.1.2),(r16.2.1.1,r16.2.1.2.2.2)))) λ_=>br (A6 (AJ (AJ 0 0) (AA x.1.2)) (AA (CK k0 ((([],([],(false,0))):AB))))) (λ_=>bd (loop (λ(s17:(Int×(((List AB)×Nat)×(Int×Bool))))=>br (Ah s17.2.2.1 (AV (AA x.2))) (λ_=>AS s17.2.2.1 λk18=>ix x.2 k18 λx19=>gd (A6 (AJ 0 s17.2.1.2) (AA s17.2.1.1)) λ_=>bd (Db ((B3 s17.2.1.1 0 (AJ 0 s17.2.1.2),x19.1))) λr20=>br r20.2 (λ_=>AS r20.1 λk21=>gd (B6 k21 s17.2.1.2) λ_=>gd (B6 (AJ 0 k21) (AA s17.2.1.1)) λ_=>ix s17.2.1.1 (AJ 0 k21) λx22=>some (.nx ((BJ .i64 (AH .i64 s17.1 (AH .i64 (BJ .i64 (AV s17.2.1.2) r20.1) 1)) 1,((lset s17.2.1.1 (AJ 0 k21) x19,s17.2.1.2),(AH .i64 s17.2.2.1 1,s17.2.2.2)))))) λ_=>br (Bm (AV s17.2.1.2) x.1.1) (λ_=>some (.dn ((0,((AH .i64 s17.1 (AH .i64 (BJ .i64 (AV s17.2.1.2) r20.1) 1),(s17.2.1,(s17.2.2.1,false))),()))))) λ_=>AS (AH .i64 (AV s17.2.1.2) 1) λk23=>AS (AV (CF (AA s17.2.1.1) 0)) λk24=>gd (A6 k23 k24) λ_=>gd (neq (AJ 0 k24) (AA s17.2.1.1)) λ_=>gd (B6 0 (AA s17.2.1.1)) λ_=>AS (AH .i64 r20.1 1) λk25=>gd (A6 (AJ 0 k23) (AA s17.2.1.1)) λ_=>gd (A6 k25 k23) λ_=>br (B6 (AJ 0 k25) (AA s17.2.1.1)) (λ_=>AS r20.1 λk26=>gd (A6 (AJ 0 k23) (AA s17.2.1.1)) λ_=>gd (A6 k26 k23) λ_=>br (B6 (AJ 0 k26) (AA s17.2.1.1)) (λ_=>gd (A6 (AJ (AJ 0 k26) (CF k23 k26)) (AA s17.2.1.1)) λ_=>gd (A6 (AJ (AJ 0 k25) (CF k23 k25)) (AA s17.2.1.1)) λ_=>AS r20.1 λk27=>gd (B6 k27 k23) λ_=>gd (B6 (AJ 0 k27) (AA (DB s17.2.1.1 (AJ 0 k25) (B3 s17.2.1.1 (AJ 0 k26) (AJ (AJ 0 k26) (CF k23 k26))) (CF k23 k25)))) λ_=>ix (DB s17.2.1.1 (AJ 0 k25) (B3 s17.2.1.1 (AJ 0 k26) (AJ (AJ 0 k26) (CF k23 k26))) (CF k23 k25)) (AJ 0 k27) λx28=>some (.nx ((AH .i64 s17.1 (AH .i64 (BJ .i64 (AV s17.2.1.2) r20.1) 1),((lset (DB s17.2.1.1 (AJ 0 k25) (B3 s17.2.1.1 (AJ 0 k26) (AJ (AJ 0 k26) (CF k23 k26))) (CF k23 k25)) (AJ 0 k27) x19,k23),(AH .i64 s17.2.2.1 1,s17.2.2.2)))))) λ_=>gd (A6 (AJ (AJ 0 k25) (CF k23 k25)) (AA s17.2.1.1)) λ_=>AS r20.1 λk29=>gd (B6 k29 k23) λ_=>gd (B6 (AJ 0 k29) (AA (DB s17.2.1.1 (AJ 0 k25) [] (CF k23 k25)))) λ_=>ix (DB s17.2.1.1 (AJ 0 k25) [] (CF k23 k25)) (AJ 0 k29) λx30=>some (.nx ((AH .i64 s17.1 (AH .i64 (BJ .i64 (AV s17.2.1.2) r20.1) 1),((lset (DB s17.2.1.1 (AJ 0 k25) [] (CF k23 k25)) (AJ 0 k29) x19,k23),(AH .i64 s17.2.2.1 1,s17.2.2.2)))))) λ_=>AS r20.1 λk31=>gd (A6 (AJ 0 k23) (AA s17.2.1.1)) λ_=>gd (A6 k31 k23) λ_=>br (B6 (AJ 0 k31) (AA s17.2.1.1)) (λ_=>gd (A6 (AJ (AJ 0 k31) (CF k23 k31)) (AA s17.2.1.1)) λ_=>none) λ_=>none) λ_=>some (.dn ((0,(s17,()))))) ((0,((DB (CK k0 ((([],([],(false,0))):AB))) (AJ 0 0) x.1.2 (AA x.1.2),AJ 0 (AA x.1.2)),(0,true))))) λr32=>gd (A6 (AJ 0 r32.2.1.2.1.2) (AA r32.2.1.2.1.1)) λ_=>some ((B3 r32.2.1.2.1.1 0 (AJ 0 r32.2.1.2.1.2),(r32.2.1.1,r32.2.1.2.2.2)))) λ_=>none
def C9 (x:(A7×(List AB))):Option (A7×(Int×Int)) :=
 bd (Dq x) λr0=>br (Ao r0 0) (λ_=>some (((0,[]),(0,r0)))) λ_=>bd (C8 x) λr1=>br (AZ r1.2.2) (λ_=>some (((0,[]),(0,5)))) λ_=>some (((x.1.1,r1.1),(r1.2.1,0)))
end Go.Proofs.YthpkjfabdccpdaaGreat.Pl
namespace Go.Proofs.YthpkjfabdccpdaaGreat.Pl
open Go Go.Proofs.YthpkjfabdccpdaaGreat.Sv
set_option linter.unusedVariables false
def E4 (x:(A7×(AO×((List (Int×(AY×((Bool×AT)×((List AB)×Int)))))×Int)))):Option Bool :=
 bd (D5 x.1.2) λr0=>br r0 (λ_=>some true) λ_=>bd (GD x.2) λr1=>some r1
def I3 (x:Int):Option (A7×Int) :=
 br (Ah x 1) (λ_=>some (((0,[]),7))) λ_=>br (Bz x 16) (λ_=>some (((0,[]),7))) λ_=>some (((x,[]),0))
def I4 (x:Int):Option (AO×Int) :=
 br (Ah x 1) (λ_=>some (((0,[]),7))) λ_=>br (Bz x 16) (λ_=>some (((0,[]),7))) λ_=>some (((x,[]),0))
def LM (x:Int):Option ((AO×((List (Int×(AY×((Bool×AT)×((List AB)×Int)))))×Int))×Int) :=
 bd (I4 x) λr0=>br (Ao r0.2 0) (λ_=>some ((((0,[]),([],0)),r0.2))) λ_=>some (((r0.1,([],1)),0))
def HU (x:Int):Option ((A7×(AO×((List (Int×(AY×((Bool×AT)×((List AB)×Int)))))×Int)))×Int) :=
 bd (I3 x) λr0=>br (Ao r0.2 0) (λ_=>some ((((0,[]),((0,[]),([],0))),r0.2))) λ_=>bd (LM x) λr1=>br (Ao r1.2 0) (λ_=>some ((((0,[]),((0,[]),([],0))),r1.2))) λ_=>some (((r0.1,r1.1),0))
def Cn (x:(A7×(AO×((List (Int×(AY×((Bool×AT)×((List AB)×Int)))))×Int)))):Option (Int×Int) :=
 bd (BY x.1) λr0=>br (Ao r0.2 0) (λ_=>some (0,r0.2)) λ_=>bd (Bw x.2) λr1=>br (Ao r1.2 0) (λ_=>some (0,r1.2)) λ_=>br (Ao x.1.1 x.2.1.1) (λ_=>some (0,6)) λ_=>br (Bz (AV (AA x.2.1.2)) 0) (λ_=>ix x.2.1.2 0 λx2=>some ((AH .i64 (BJ .i64 x.1.1 (AV (AA x.1.2))) (Kv .i64 x.1.1 (BJ .i64 2 (AV (AA x2)))),0))) λ_=>some ((AH .i64 (BJ .i64 x.1.1 (AV (AA x.1.2))) (Kv .i64 x.1.1 2),0))
def CI (x:((List UInt8)×Int)):Option AB :=
 some ((x.1,([(118:UInt8)],(false,x.2))))
def Dc (x:(A7×(List AB))):Option (Bool×Int) :=
 bd (Dq x) λr0=>br (Ao r0 0) (λ_=>some (false,r0)) λ_=>bd (C8 x) λr1=>some (r1.2.2,0)
def CE (x:(A7×(AO×((List (Int×(AY×((Bool×AT)×((List AB)×Int)))))×Int)))):Option (A7×(AO×((List (Int×(AY×((Bool×AT)×((List AB)×Int)))))×Int))) :=
 some x
def BC (x:((A7×(AO×((List (Int×(AY×((Bool×AT)×((List AB)×Int)))))×Int)))×(List AB))):Option ((A7×(AO×((List (Int×(AY×((Bool×AT)×((List AB)×Int)))))×Int)))×(Int×Int)) :=
 bd (BY x.1.1) λr0=>br (Ao r0.2 0) (λ_=>some ((((0,[]),((0,[]),([],0))),(0,r0.2)))) λ_=>bd (Bw x.1.2) λr1=>br (Ao r1.2 0) (λ_=>some ((((0,[]),((0,[]),([],0))),(0,r1.2)))) λ_=>br (Ao x.1.1.1 x.1.2.1.1) (λ_=>some ((((0,[]),((0,[]),([],0))),(0,6)))) λ_=>br (Ah (AV (AA x.2)) 1) (λ_=>some ((((0,[]),((0,[]),([],0))),(0,2)))) λ_=>br (Bz (AV (AA x.2)) 8) (λ_=>some ((((0,[]),((0,[]),([],0))),(0,2)))) λ_=>br (Bz (AV (AA x.2)) x.1.1.1) (λ_=>some ((((0,[]),((0,[]),([],0))),(0,2)))) λ_=>bd (loop (λs2=>br (Ah s2 (AV (AA x.2))) (λ_=>AS s2 λk3=>ix x.2 k3 λx4=>bd (Ar x4) λr5=>br (Ao r5 0) (λ_=>some (.dn ((0,(s2,r5))))) λ_=>some (.nx (AH .i64 s2 1))) λ_=>some (.dn ((1,(s2,0))))) 0) λr6=>br (neq r6.1 0) (λ_=>some ((((0,[]),((0,[]),([],0))),(0,r6.2.2)))) λ_=>bd (loop (λs7=>br (Ah s7 (BJ .i64 (AV (AA x.2)) 1)) (λ_=>AS (AH .i64 s7 1) λk8=>ix x.2 k8 λx9=>AS s7 λk10=>ix x.2 k10 λx11=>br (SC x9.2.2.2 x11.2.2.2) (λ_=>some (.dn ((0,(s7,6))))) λ_=>some (.nx (AH .i64 s7 1))) λ_=>some (.dn ((1,(s7,0))))) 0) λr12=>br (neq r12.1 0) (λ_=>some ((((0,[]),((0,[]),([],0))),(0,r12.2.2)))) λ_=>bd (Dc (x.1.1,x.2)) λr13=>br (Ao r13.2 0) (λ_=>some ((((0,[]),((0,[]),([],0))),(0,r13.2)))) λ_=>br (AZ r13.1) (λ_=>br (Bm (AV (AA x.1.1.2)) 0) (λ_=>bd (C9 (x.1.1,x.2)) λr14=>br (Ao r14.2.2 0) (λ_=>some ((((0,[]),((0,[]),([],0))),(0,r14.2.2)))) λ_=>bd (CE (r14.1,x.1.2)) λr15=>some ((r15,(AH .i64 r14.2.1 0,0)))) λ_=>bd (CY (x.1.2.1,0)) λr16=>br (Ao r16.2 0) (λ_=>some ((((0,[]),((0,[]),([],0))),(0,r16.2)))) λ_=>br (AZ r16.1) (λ_=>some ((((0,[]),((0,[]),([],0))),(0,10)))) λ_=>bd (Dp (x.1.2,x.1.1.2)) λr17=>br (Ao r17.2 0) (λ_=>some ((((0,[]),((0,[]),([],0))),(0,r17.2)))) λ_=>bd (C9 (((x.1.1.1,[]),x.2))) λr18=>br (Ao r18.2.2 0) (λ_=>some ((((0,[]),((0,[]),([],0))),(0,r18.2.2)))) λ_=>bd (CE (r18.1,r17.1)) λr19=>some ((r19,(AH .i64 r18.2.1 (AV (AA x.1.1.2)),0)))) λ_=>bd (C9 (x.1.1,x.2)) λr20=>br (Ao r20.2.2 0) (λ_=>some ((((0,[]),((0,[]),([],0))),(0,r20.2.2)))) λ_=>bd (CE (r20.1,x.1.2)) λr21=>some ((r21,(AH .i64 r20.2.1 0,0)))
def GZ (x:((A7×(AO×((List (Int×(AY×((Bool×AT)×((List AB)×Int)))))×Int)))×(List AB))):Option (Bool×Int) :=
 bd (BY x.1.1) λr0=>br (Ao r0.2 0) (λ_=>some (false,r0.2)) λ_=>bd (Bw x.1.2) λr1=>br (Ao r1.2 0) (λ_=>some (false,r1.2)) λ_=>br (Ao x.1.1.1 x.1.2.1.1) (λ_=>some (false,6)) λ_=>br (Ah (AV (AA x.2)) 1) (λ_=>some (false,2)) λ_=>br (Bz (AV (AA x.2)) 8) (λ_=>some (false,2)) λ_=>br (Bz (AV (AA x.2)) x.1.1.1) (λ_=>some (false,2)) λ_=>bd (loop (λs2=>br (Ah s2 (AV (AA x.2))) (λ_=>AS s2 λk3=>ix x.2 k3 λx4=>bd (Ar x4) λr5=>br (Ao r5 0) (λ_=>some (.dn ((0,(s2,r5))))) λ_=>some (.nx (AH .i64 s2 1))) λ_=>some (.dn ((1,(s2,0))))) 0) λr6=>br (neq r6.1 0) (λ_=>some (false,r6.2.2)) λ_=>bd (loop (λs7=>br (Ah s7 (BJ .i64 (AV (AA x.2)) 1)) (λ_=>AS (AH .i64 s7 1) λk8=>ix x.2 k8 λx9=>AS s7 λk10=>ix x.2 k10 λx11=>br (SC x9.2.2.2 x11.2.2.2) (λ_=>some (.dn ((0,(s7,6))))) λ_=>some (.nx (AH .i64 s7 1))) λ_=>some (.dn ((1,(s7,0))))) 0) λr12=>br (neq r12.1 0) (λ_=>some (false,r12.2.2)) λ_=>bd (Dc (x.1.1,x.2)) λr13=>br (Ao r13.2 0) (λ_=>some (false,r13.2)) λ_=>some (AZ r13.1,0)
def Gy (x:((A7×(AO×((List (Int×(AY×((Bool×AT)×((List AB)×Int)))))×Int)))×(List AB))):Option (Bool×Int) :=
 bd (BY x.1.1) λr0=>br (Ao r0.2 0) (λ_=>some (false,r0.2)) λ_=>bd (Bw x.1.2) λr1=>br (Ao r1.2 0) (λ_=>some (false,r1.2)) λ_=>br (Ao x.1.1.1 x.1.2.1.1) (λ_=>some (false,6)) λ_=>br (Ah (AV (AA x.2)) 1) (λ_=>some (false,2)) λ_=>br (Bz (AV (AA x.2)) 8) (λ_=>some (false,2)) λ_=>br (Bz (AV (AA x.2)) x.1.1.1) (λ_=>some (false,2)) λ_=>bd (loop (λs2=>br (Ah s2 (AV (AA x.2))) (λ_=>AS s2 λk3=>ix x.2 k3 λx4=>bd (Ar x4) λr5=>br (Ao r5 0) (λ_=>some (.dn ((0,(s2,r5))))) λ_=>some (.nx (AH .i64 s2 1))) λ_=>some (.dn ((1,(s2,0))))) 0) λr6=>br (neq r6.1 0) (λ_=>some (false,r6.2.2)) λ_=>bd (loop (λs7=>br (Ah s7 (BJ .i64 (AV (AA x.2)) 1)) (λ_=>AS (AH .i64 s7 1) λk8=>ix x.2 k8 λx9=>AS s7 λk10=>ix x.2 k10 λx11=>br (SC x9.2.2.2 x11.2.2.2) (λ_=>some (.dn ((0,(s7,6))))) λ_=>some (.nx (AH .i64 s7 1))) λ_=>some (.dn ((1,(s7,0))))) 0) λr12=>br (neq r12.1 0) (λ_=>some (false,r12.2.2)) λ_=>bd (Dc (x.1.1,x.2)) λr13=>br (Ao r13.2 0) (λ_=>some (false,r13.2)) λ_=>br (AZ r13.1) (λ_=>bd (CY (x.1.2.1,0)) λr14=>br (Ao r14.2 0) (λ_=>some (false,r14.2)) λ_=>some (AZ r14.1,0)) λ_=>some (false,0)
def Bb (x:Unit):Option Bool :=
 bd (HU 1) λr0=>bd (Cn r0.1) λr1=>jn (γ:=(Nat×(Bool×Unit))) (λs2=>br (Ao r0.2 0) (λ_=>some (.nx true)) λ_=>br (Ao r1.2 0) (λ_=>some (.nx true)) λ_=>some (.nx (Ao r1.1 3))) () (λs3=>br s3 (λ_=>some false) λ_=>bd (loop (λ(s4:(Bool×(Int×(Int×((List AB)×(Int×((List (List A7))×((List (Int×(AY×((Bool×AT)×((List AB)×Int)))))×Int))))))))=>br (Ah s4.2.1 3) (λ_=>jn (γ:=(Nat×((Bool×(Int×((List AB)×(Int×((List (List A7))×((List (Int×(AY×((Bool×AT)×((List AB)×Int)))))×Int))))))×Unit))) (λs5=>AS s4.2.1 λk6=>br (neq k6 0) (λ_=>bd (CI (([(97:UInt8)],AH .i64 s4.2.1 1))) λr7=>bd (BC ((((s5.2.1,s5.2.2.1),((s5.2.2.2.1,s5.2.2.2.2.1),s5.2.2.2.2.2)),[r7]))) λr8=>jn (γ:=(Nat×(Bool×Unit))) (λs9=>br (Ao r8.2.2 0) (λ_=>some (.nx true)) λ_=>AS s4.2.1 λk10=>br (neq k10 0) (λ_=>some (.nx (Ao r8.2.1 1))) λ_=>br (neq k10 1) (λ_=>some (.nx (Ao r8.2.1 2))) λ_=>gd (neq k10 2) λ_=>some (.nx (Ao r8.2.1 2))) () (λs11=>br s11 (λ_=>some (.dn ((0,((false,s5.2),()))))) λ_=>some (.nx ((s5.1,(r8.1.1.1,(r8.1.1.2,(r8.1.2.1.1,(r8.1.2.1.2,r8.1.2.2)))))))) λr12=>none) λ_=>br (neq k6 1) (λ_=>bd (CI (([(98:UInt8)],AH .i64 s4.2.1 1))) λr13=>bd (BC ((((s5.2.1,s5.2.2.1),((s5.2.2.2.1,s5.2.2.2.2.1),s5.2.2.2.2.2)),[r13]))) λr14=>jn (γ:=(Nat×(Bool×Unit))) (λs15=>br (Ao r14.2.2 0) (λ_=>some (.nx true)) λ_=>AS s4.2.1 λk16=>br (neq k16 0) (λ_=>some (.nx (Ao r14.2.1 1))) λ_=>br (neq k16 1) (λ_=>some (.nx (Ao r14.2.1 2))) λ_=>gd (neq k16 2) λ_=>some (.nx (Ao r14.2.1 2))) () (λs17=>br s17 (λ_=>some (.dn ((0,((false,s5.2),()))))) λ_=>some (.nx ((s5.1,(r14.1.1.1,(r14.1.1.2,(r14.1.2.1.1,(r14.1.2.1.2,r14.1.2.2)))))))) λr18=>none) λ_=>br (neq k6 2) (λ_=>bd (CI (([(99:UInt8)],AH .i64 s4.2.1 1))) λr19=>bd (BC ((((s5.2.1,s5.2.2.1),((s5.2.2.2.1,s5.2.2.2.2.1),s5.2.2.2.2.2)),[r19]))) λr20=>jn (γ:=(Nat×(Bool×Unit))) (λs21=>br (Ao r20.2.2 0) (λ_=>some (.nx true)) λ_=>AS s4.2.1 λk22=>br (neq k22 0) (λ_=>some (.nx (Ao r20.2.1 1))) λ_=>br (neq k22 1) (λ_=>some (.nx (Ao r20.2.1 2))) λ_=>gd (neq k22 2) λ_=>some (.nx (Ao r20.2.1 2))) () (λs23=>br s23 (λ_=>some (.dn ((0,((false,s5.2),()))))) λ_=>some (.nx ((s5.1,(r20.1.1.1,(r20.1.1.2,(r20.1.2.1.1,(r20.1.2.1.2,r20.1.2.2)))))))) λr24=>none) λ_=>gd (neq k6 3) λ_=>bd (CI (([(100:UInt8)],AH .i64 s4.2.1 1))) λr25=>bd (BC ((((s5.2.1,s5.2.2.1),((s5.2.2.2.1,s5.2.2.2.2.1),s5.2.2.2.2.2)),[r25]))) λr26=>jn (γ:=(Nat×(Bool×Unit))) (λs27=>br (Ao r26.2.2 0) (λ_=>some (.nx true)) λ_=>AS s4.2.1 λk28=>br (neq k28 0) (λ_=>some (.nx (Ao r26.2.1 1))) λ_=>br (neq k28 1) (λ_=>some (.nx (Ao r26.2.1 2))) λ_=>gd (neq k28 2) λ_=>some (.nx (Ao r26.2.1 2))) () (λs29=>br s29 (λ_=>some (.dn ((0,((false,s5.2),()))))) λ_=>some (.nx ((s5.1,(r26.1.1.1,(r26.1.1.2,(r26.1.2.1.1,(r26.1.2.1.2,r26.1.2.2)))))))) λr30=>none) (s4.1,s4.2.2) (λs31=>some (.nx ((s31.1,(AH .i64 s4.2.1 1,s31.2))))) λr32=>some (.dn ((1,((r32.2.1.1,(s4.2.1,r32.2.1.2)),()))))) λ_=>some (.dn ((0,(s4,()))))) ((false,(0,(r0.1.1.1,(r0.1.1.2,(r0.1.2.1.1,(r0.1.2.1.2,r0.1.2.2)))))))) λr33=>br (neq r33.1 0) (λ_=>bd (CI (([(100:UInt8)],4))) λr34=>bd (GZ ((((r33.2.1.2.2.1,r33.2.1.2.2.2.1),((r33.2.1.2.2.2.2.1,r33.2.1.2.2.2.2.2.1),r33.2.1.2.2.2.2.2.2)),[r34]))) λr35=>bd (Gy ((((r33.2.1.2.2.1,r33.2.1.2.2.2.1),((r33.2.1.2.2.2.2.1,r33.2.1.2.2.2.2.2.1),r33.2.1.2.2.2.2.2.2)),[r34]))) λr36=>bd (BC ((((r33.2.1.2.2.1,r33.2.1.2.2.2.1),((r33.2.1.2.2.2.2.1,r33.2.1.2.2.2.2.2.1),r33.2.1.2.2.2.2.2.2)),[r34]))) λr37=>bd (CI (([(99:UInt8)],4))) λr38=>bd (BC ((((r33.2.1.2.2.1,r33.2.1.2.2.2.1),((r33.2.1.2.2.2.2.1,r33.2.1.2.2.2.2.2.1),r33.2.1.2.2.2.2.2.2)),[r38]))) λr39=>br r35.1 (λ_=>br (Bm r35.2 0) (λ_=>br r36.1 (λ_=>br (Bm r36.2 0) (λ_=>br (Bm r37.2.2 10) (λ_=>br (Bm r39.2.2 0) (λ_=>br (Bm (AV (AA r39.1.1.2)) 1) (λ_=>some (Bm (AV (AA r33.2.1.2.2.2.2.2.2.1)) 1)) λ_=>some false) λ_=>some false) λ_=>some false) λ_=>some false) λ_=>some false) λ_=>some false) λ_=>some false) λ_=>some r33.2.1.1) λr40=>none
end Go.Proofs.YthpkjfabdccpdaaGreat.Pl
namespace Go.Proofs.YthpkjfabdccpdaaGreat.Pl
open Go Go.Proofs.YthpkjfabdccpdaaGreat.Sv
end Go.Proofs.YthpkjfabdccpdaaGreat.Pl
namespace Go.Proofs.YthpkjfabdccpdaaGreat.Pl
open Go Go.Proofs.YthpkjfabdccpdaaGreat.Sv
end Go.Proofs.YthpkjfabdccpdaaGreat.Pl
namespace Go.Proofs.YthpkjfabdccpdaaGreat.Pl
open Go Go.Proofs.YthpkjfabdccpdaaGreat.Sv
def Ow (s:BL) (l:List AB):AO:=Fe s.1 0 (A5 s.1.2 0++[(s.2.2,l)])
def TG (s:BL) (l:List AB):BL×Int :=
 if (Br s).2≠0 then (zS,(Br s).2) else if s.2.2>1000000\/2<=(A5 s.1.2 0).length then (zS,5) else if (DT l).2≠0 then (zS,(DT l).2)
 else if kR [] (B4 s.1.1 0) (s.2.2,l)≠0 then (zS,kR [] (B4 s.1.1 0) (s.2.2,l)) else (TA s (Ow s l) (s.2.2+1) (-1),0)
theorem TH {s:BL} (v:VSt s) : ∀ y∈s.1.2.flatten,y.1≠s.2.2:=λy hy=>by
 have:=MC hy;have:=v.n3;omega
theorem RY {s:BL} (v:VSt s) {l:List AB} (h1:(A5 s.1.2 0).length<2) (h2:kR [] (B4 s.1.1 0) (s.2.2,l)=0):VLev (Ow s l) :=
 v.lev.arrive (by omega) h1 (WH.1 h2).1 (TH v)
theorem RZ (s:BL) (l:List AB) (i:Nat):A5 (Ow s l).2 i=if i=0 then A5 s.1.2 0++[(s.2.2,l)] else A5 s.1.2 i:=by
 unfold Ow;rw [M6]
theorem gE {s:BL} (v:VSt s) {l:List AB} (h1:(A5 s.1.2 0).length<2) (h2:kR [] (B4 s.1.1 0) (s.2.2,l)=0) (h3:s.2.2<=1000000):VSt (TA s (Ow s l) (s.2.2+1) (-1)):=by
 have hn1:=v.n1;refine Zv v (RY v h1 h2) (by omega) (by omega) (λx hx => ?_) (λn r0 r1 hn _ _ => ?_)
 ·obtain ⟨i,hi⟩:=S9.1 hx
  have hold : ∀ {y:A7} {k:Nat},y∈A5 s.1.2 k->y.1<s.2.2+1:=fun {y k} hy=>by
   have:=MC (S9.2 ⟨k,hy⟩);have:=v.n3;omega
  rw [RZ] at hi;by_cases h0:i=0
  ·rw [if_pos h0] at hi;rcases List.mem_append.1 hi with hi | hi
   ·exact hold hi
   ·rw [List.mem_singleton.1 hi];show s.2.2<s.2.2+1;omega
  ·rw [if_neg h0] at hi;exact hold hi
 ·have hms:=WO.1 hn;have hn0:n≠0:=λe=>by rw [e] at hms;rw [hms] at h1;simp at h1
  have hown:A5 (Ow s l).2 n=[r0,r1]:=by rw [RZ,if_neg hn0,hms]
  refine ⟨WO.2 hown,λhl=>(gD (RY v h1 h2).last (by rw [hown];simp) λi hi => ?_).symm⟩;rw [RZ,if_neg (by omega)];unfold A5;rw [List.getElem?_eq_none (by omega)];rfl
theorem XZ {s:BL} (m:Sm s) {l:List AB} (hl:l.length<=1000):Dp (s,l)=some (TG s l):=by
 unfold Dp TG;rw [lQ m,AD,AR];by_cases h0:(Br s).2=0;rotate_left
 ·rw [if_neg h0,if_pos h0];rfl
 have v:=Hq.1 h0;have hn1:=v.n1;have hr:=QG v.lev (n:=0) (by omega);rw [if_pos h0,if_neg (by simp [h0])];show (bd (CY (s.1,((0:Nat):Int))) λr1=>_)=_;rw [hr,AD];simp only;rw [if_neg (show ¬ (0>=12) by omega),AR,if_pos rfl,Ax];by_cases h1:s.2.2>1000000
 ·rw [if_pos h1,if_pos (.inl h1)];rfl
 have hrm:S6 s.1 0=decide ((A5 s.1.2 0).length<2):=by unfold S6 A5;simp
 rw [if_neg h1,Bd,hrm,Cm];by_cases h2:2<=(A5 s.1.2 0).length
 ·rw [if_neg (by omega),if_pos (.inr h2)];rfl
 rw [if_pos (by omega),if_neg (show ¬ (s.2.2>1000000\/2<=(A5 s.1.2 0).length) by omega)];rw [BU (by simp only [AA];omega),MA _ (by simp only;omega),AD,if_neg (show ¬ (s.2.2<1\/s.2.2>1000000) by omega),AR];by_cases h3:(DT l).2=0;rotate_left
 ·rw [if_neg h3,if_pos h3];rfl
 rw [if_pos h3,if_neg (by simp [h3])];have hA:=TE v.lev (n:=0) (by omega) (x:=(s.2.2,l)) (by simp only;omega) (TH v) (by omega);show (bd (DH (s.1,(((0:Nat):Int),(s.2.2,l)))) λr3=>_)=_;rw [hA,AD];by_cases h4:kR [] (B4 s.1.1 0) (s.2.2,l)=0;rotate_left
 ·rw [if_pos h4,if_pos h4,AR,if_neg h4];rfl
 rw [if_neg (by simp [h4]),if_neg (by simp [h4]),AR,if_pos rfl];have hjs:=v.jsmall;have hW:=TB v.nodup (by omega) (RY v (by omega) h4) (s.2.2+1) (-1);rw [CT (by omega)];show (bd (Do (s,(Ow s l,(s.2.2+1,(-1))))) λr4=>_)=_;rw [hW];rfl
end Go.Proofs.YthpkjfabdccpdaaGreat.Pl
namespace Go.Proofs.YthpkjfabdccpdaaGreat.Pl
open Go Go.Proofs.YthpkjfabdccpdaaGreat.Sv
def BT (b:A7):Int×Int:=if b.1<1\/b.1>16 then (0,7) else if (b.2.length:Int)>b.1 then (0,3) else JE none 0 b.2
theorem I5 (b:A7):BY b=some (BT b):=by
 unfold BY BT;rw [BD,Ax,Ax];by_cases h1:b.1<1
 ·rw [if_pos h1,if_pos (.inl h1)]
 rw [if_neg h1];by_cases h2:b.1>16
 ·rw [if_pos h2,if_pos (.inr h2)]
 rw [if_neg h2,if_neg (show ¬ (b.1<1\/b.1>16) by omega),AU,AP];by_cases h3:(b.2.length:Int)>b.1
 ·rw [if_pos h3,if_pos h3]
 rw [if_neg h3,if_neg h3];have h4:=Eg b.2 (by omega);unfold BB DT at h4;rw [Ax,AU,AP,if_neg (show ¬ (b.2.length:Int)>5000 by omega),if_neg (show ¬ b.2.length>5000 by omega)] at h4;exact h4
theorem TI (b:A7):FM b=some (BT b):=by
 rw [<- I5];unfold FM BY
 congr 1
 funext _
 congr 1
 funext _
 congr 1
 funext _
 congr 2
 funext s0
 by_cases h:0<=s0.2.2
 ·simp only [V8 h];cases hx:b.2[s0.2.2.toNat]? with
  | none=>unfold ix;simp only [hx]
  | some x=>simp only [AK hx,Iz,Cy,AD]
 ·have hn : ∀ {β:Type} (k:Nat->Option β),AS s0.2.2 k=none:=λk=>by unfold AS;simp [h]
  simp only [hn]
def A9 (f:CQ):Int:=if (BT f.1).2≠0 then (BT f.1).2 else if (Br f.2).2≠0 then (Br f.2).2 else if f.1.1≠f.2.1.1 then 6 else 0
theorem TJ {f:CQ} (m:Sm f.2):EL f=some (A9 f):=by
 unfold EL A9;rw [TI,AD,CP];by_cases h1:(BT f.1).2=0;rotate_left
 ·rw [if_neg h1,CP,if_neg h1,if_pos h1]
 rw [if_pos h1,if_neg (show ¬ (BT f.1).2≠0 by simp [h1]),lR m,AD,CP];by_cases h2:(Br f.2).2=0;rotate_left
 ·rw [if_neg h2,if_pos h2]
 rw [if_pos h2,if_neg (show ¬ (Br f.2).2≠0 by simp [h2]),AR];by_cases h3:f.1.1=f.2.1.1
 ·rw [if_pos h3,if_neg (show ¬ f.1.1≠f.2.1.1 by simp [h3]),h2]
 ·rw [if_neg h3,if_pos h3]
end Go.Proofs.YthpkjfabdccpdaaGreat.Pl
namespace Go.Proofs.YthpkjfabdccpdaaGreat.Pl
open Go Go.Proofs.YthpkjfabdccpdaaGreat.Sv
def oe (b w:Int):Nat->Nat
 | 0=>0
 | k+1=>oe b w k+if b*2 ^ k<w then 1 else 0
end Go.Proofs.YthpkjfabdccpdaaGreat.Pl
namespace Go.Proofs.YthpkjfabdccpdaaGreat.Pl
open Go Go.Proofs.YthpkjfabdccpdaaGreat.Sv
end Go.Proofs.YthpkjfabdccpdaaGreat.Pl
namespace Go.Proofs.YthpkjfabdccpdaaGreat.Pl
open Go Go.Proofs.YthpkjfabdccpdaaGreat.Sv
theorem NF {f:CQ} (h:A9 f=0):(Br f.2).2=0:=by
 unfold A9 at h;by_cases h1:(BT f.1).2=0
 ·rw [if_neg (show ¬ (BT f.1).2≠0 by simp [h1])] at h;by_cases h2:(Br f.2).2=0
  ·exact h2
  ·rw [if_pos h2] at h;exact absurd h h2
 ·rw [if_pos h1] at h;exact absurd h h1
def iv (B w:Int):Int:=if w=0 then 0 else (oe B w 11:Int)+1
end Go.Proofs.YthpkjfabdccpdaaGreat.Pl
namespace Go.Proofs.YthpkjfabdccpdaaGreat.Pl
open Go Go.Proofs.YthpkjfabdccpdaaGreat.Sv
end Go.Proofs.YthpkjfabdccpdaaGreat.Pl
namespace Go.Proofs.YthpkjfabdccpdaaGreat.Pl
open Go Go.Proofs.YthpkjfabdccpdaaGreat.Sv
theorem Uy : ∀ {l:List AB} {q:HB},Asc (some q) l -> ∀ x∈l,CJ q x.1=true
 | x::l,q,⟨h1,h2⟩,y,hy=>by
  rcases List.mem_cons.1 hy with e | hy
  ·rw [e];exact h1 q rfl
  ·exact E0 (h1 q rfl) (Uy h2 y hy)
def jh:List AB->AB->List AB
 | [],x=>[x]
 | y::l,x=>if CJ y.1 x.1=true then y::jh l x else if y.1=x.1 then y::l else x::y::l
def lT (rs:List A7) (l:List AB):List AB:=rs.foldl (λout r=>r.2.foldl jh out) l
def gF (x:AB):Bool := !x.2.2.1
def Pk (L:AO):List AB:=(lT (FU L.2) []).filter gF
end Go.Proofs.YthpkjfabdccpdaaGreat.Pl
namespace Go.Proofs.YthpkjfabdccpdaaGreat.Pl
open Go Go.Proofs.YthpkjfabdccpdaaGreat.Sv
end Go.Proofs.YthpkjfabdccpdaaGreat.Pl
namespace Go.Proofs.YthpkjfabdccpdaaGreat.Pl
open Go Go.Proofs.YthpkjfabdccpdaaGreat.Sv
end Go.Proofs.YthpkjfabdccpdaaGreat.Pl
namespace Go.Proofs.YthpkjfabdccpdaaGreat.Pl
open Go Go.Proofs.YthpkjfabdccpdaaGreat.Sv
end Go.Proofs.YthpkjfabdccpdaaGreat.Pl
namespace Go.Proofs.YthpkjfabdccpdaaGreat.Pl
open Go Go.Proofs.YthpkjfabdccpdaaGreat.Sv
end Go.Proofs.YthpkjfabdccpdaaGreat.Pl
namespace Go.Proofs.YthpkjfabdccpdaaGreat.Pl
open Go Go.Proofs.YthpkjfabdccpdaaGreat.Sv
end Go.Proofs.YthpkjfabdccpdaaGreat.Pl
namespace Go.Proofs.YthpkjfabdccpdaaGreat.Pl
open Go Go.Proofs.YthpkjfabdccpdaaGreat.Sv
end Go.Proofs.YthpkjfabdccpdaaGreat.Pl
namespace Go.Proofs.YthpkjfabdccpdaaGreat.Pl
open Go Go.Proofs.YthpkjfabdccpdaaGreat.Sv
end Go.Proofs.YthpkjfabdccpdaaGreat.Pl
namespace Go.Proofs.YthpkjfabdccpdaaGreat.Pl
open Go Go.Proofs.YthpkjfabdccpdaaGreat.Sv
theorem Xa {α:Type} (l:List α) (k:Nat):B3 l 0 k=l.take k:=by unfold B3;simp
end Go.Proofs.YthpkjfabdccpdaaGreat.Pl
namespace Go.Proofs.YthpkjfabdccpdaaGreat.Pl
open Go Go.Proofs.YthpkjfabdccpdaaGreat.Sv
end Go.Proofs.YthpkjfabdccpdaaGreat.Pl
namespace Go.Proofs.YthpkjfabdccpdaaGreat.Pl
open Go Go.Proofs.YthpkjfabdccpdaaGreat.Sv
theorem iw {a:Int} (h : -9223372036854775808<=a/\a<=9223372036854775807):MH .i64 a=a:=by
 have:=CT (a:=a) (b:=0) (by omega);unfold AH at this;rw [Int.add_zero] at this;exact this
end Go.Proofs.YthpkjfabdccpdaaGreat.Pl
