/- Functions of the program and of the specification as plain functions, and laws about them. No condition. -/
import Derived.Test.YthpkjfabdccpdaaGreatPl0
set_option linter.all false
namespace Go.Proofs.YthpkjfabdccpdaaGreat.Pl
open Go Go.Proofs.YthpkjfabdccpdaaGreat.Sv
set_option linter.unusedVariables false
def DH (x:(Int×Int)):Option Int :=
 bd (loop (λs0=>br (Am s0.2 x.2) (λ_=>some (.nx (MZ .i64 2 s0.1,AH .i64 s0.2 1))) λ_=>some (.dn ((0,(s0,()))))) (x.1,0)) λr1=>some r1.2.1.1
def DQ (x:AD):Option Int :=
 br (CD (AZ (Ep x.1)) 32) (λ_=>some 3) λ_=>br (CD (AZ (Ep x.2.1)) 64) (λ_=>some 3) λ_=>br x.2.2.1 (λ_=>br (AX (seq x.2.1 [])) (λ_=>some 6) λ_=>br (Am x.2.2.2 1) (λ_=>some 7) λ_=>br (CD x.2.2.2 1000000000) (λ_=>some 7) λ_=>some 0) λ_=>br (Am x.2.2.2 1) (λ_=>some 7) λ_=>br (CD x.2.2.2 1000000000) (λ_=>some 7) λ_=>some 0
def EV (x:((List UInt8)×(List UInt8))):Option Int :=
 bd (loop (λs0=>br (Am s0 (AZ (Ep x.1))) (λ_=>br (Am s0 (AZ (Ep x.2))) (λ_=>AV s0 λk1=>ix x.1 k1 λx2=>AV s0 λk3=>ix x.2 k3 λx4=>br (Bg (R9 x2) (R9 x4)) (λ_=>some (.nx (AH .i64 s0 1))) λ_=>some (.dn ((0,(s0,()))))) λ_=>some (.dn ((0,(s0,()))))) λ_=>some (.dn ((0,(s0,()))))) 0) λr5=>some r5.2.1
def D9 (x:((List UInt8)×(List UInt8))):Option Int :=
 bd (EV x) λr0=>br (Bg r0 (AZ (Ep x.1))) (λ_=>br (Bg r0 (AZ (Ep x.2))) (λ_=>some 0) λ_=>br (Bg r0 (AZ (Ep x.1))) (λ_=>some (-1)) λ_=>br (Am r0 (AZ (Ep x.2))) (λ_=>AV r0 λk1=>ix x.1 k1 λx2=>AV r0 λk3=>ix x.2 k3 λx4=>br (Am (R9 x2) (R9 x4)) (λ_=>some (-1)) λ_=>some 1) λ_=>some 1) λ_=>br (Bg r0 (AZ (Ep x.1))) (λ_=>some (-1)) λ_=>br (Am r0 (AZ (Ep x.2))) (λ_=>AV r0 λk5=>ix x.1 k5 λx6=>AV r0 λk7=>ix x.2 k7 λx8=>br (Am (R9 x6) (R9 x8)) (λ_=>some (-1)) λ_=>some 1) λ_=>some 1
def Ca (x:(List AD)):Option (Int×Int) :=
 br (CD (AZ (AA x)) 5000) (λ_=>some (((-1),3))) λ_=>bd (loop (λs0=>br (Am s0.2.2 (AZ (AA x))) (λ_=>AV s0.2.2 λk1=>ix x k1 λx2=>bd (DQ x2) λr3=>br (Bg r3 0) (λ_=>br (CD s0.2.2 0) (λ_=>AV (Bz .i64 s0.2.2 1) λk4=>ix x k4 λx5=>AV s0.2.2 λk6=>ix x k6 λx7=>bd (D9 (x5.1,x7.1)) λr8=>br (Gz r8 0) (λ_=>some (.dn ((0,((6,(s0.2.2,s0.2.2)),()))))) λ_=>br (A6 r3 0) (λ_=>some (.dn ((0,((r3,(s0.2.2,s0.2.2)),()))))) λ_=>some (.nx ((s0.1,(s0.2.1,AH .i64 s0.2.2 1))))) λ_=>br (A6 r3 0) (λ_=>some (.dn ((0,((r3,(s0.2.2,s0.2.2)),()))))) λ_=>some (.nx ((s0.1,(s0.2.1,AH .i64 s0.2.2 1))))) λ_=>br (A6 r3 0) (λ_=>some (.dn ((0,((r3,(s0.2.2,s0.2.2)),()))))) λ_=>some (.nx ((s0.1,(s0.2.1,AH .i64 s0.2.2 1))))) λ_=>some (.dn ((1,(s0,()))))) ((0,(0,0)))) λr9=>br (neq r9.1 0) (λ_=>some (r9.2.1.2.1,r9.2.1.1)) λ_=>some (0,0)
def E0 (x:BQ):Option (Int×Int) :=
 br (Am x.1 1) (λ_=>some (((-1),7))) λ_=>br (CD x.1 1000000) (λ_=>some (((-1),7))) λ_=>bd (Ca x.2) λr0=>some r0
def Dx (x:(BQ×(Int×(List Int)))):Option Int :=
 bd (E0 x.1) λr0=>br (A6 r0.2 0) (λ_=>some r0.2) λ_=>br (Bg (AZ (AA x.1.2)) 0) (λ_=>some 4) λ_=>br (CD (AZ (AA x.1.2)) x.2.1) (λ_=>some 3) λ_=>bd (loop (λs1=>br (Am s1.1 (AZ (AA x.2.2))) (λ_=>AV s1.1 λk2=>ix x.2.2 k2 λx3=>br (Bg x3 x.1.1) (λ_=>some (.dn ((0,((s1.1,8),()))))) λ_=>some (.nx (AH .i64 s1.1 1,s1.2))) λ_=>some (.dn ((1,(s1,()))))) (0,0)) λr4=>br (neq r4.1 0) (λ_=>some r4.2.1.2) λ_=>some 0
def Cn (x:AI):Option (Int×(Int×Int)) :=
 br (Am x.1 1) (λ_=>some ((0,(0,7)))) λ_=>br (CD x.1 16) (λ_=>some ((0,(0,7)))) λ_=>br (CD (AZ (AA x.2)) 12) (λ_=>some ((0,(0,3)))) λ_=>bd (loop (λ(s0:(Int×((List Int)×(Int×(Int×Int)))))=>br (Am s0.2.2.2.2 (AZ (AA x.2))) (λ_=>AV s0.2.2.2.2 λk1=>ix x.2 k1 λx2=>br (CD (AZ (AA x2)) 2) (λ_=>some (.dn ((0,((0,(s0.2.1,(s0.2.2.2.2,(3,s0.2.2.2.2)))),()))))) λ_=>bd (loop (λ(s3:(Int×((List Int)×(Int×(Int×Int)))))=>br (Am s3.2.2.2.2 (AZ (AA x2))) (λ_=>AV s3.2.2.2.2 λk4=>ix x2 k4 λx5=>bd (DH (x.1,s0.2.2.2.2)) λr6=>bd (Dx ((x5,(r6,s3.2.1)))) λr7=>br (A6 r7 0) (λ_=>some (.dn ((0,((s3.2.2.2.2,(s3.2.1,(s0.2.2.2.2,(r7,s3.2.2.2.2)))),()))))) λ_=>AV s3.2.2.2.2 λk8=>ix x2 k8 λx9=>gd (Bo (BF (AA s3.2.1) (AA [x9.1])) 1048576) λ_=>some (.nx ((s3.1,(C3 s3.2.1 [x9.1],(s3.2.2.1,(s3.2.2.2.1,AH .i64 s3.2.2.2.2 1))))))) λ_=>some (.dn ((1,(s3,()))))) ((s0.1,(s0.2.1,(s0.2.2.1,(s0.2.2.2.1,0)))))) λr10=>br (neq r10.1 0) (λ_=>some (.dn ((0,((r10.2.1.1,(r10.2.1.2.1,(r10.2.1.2.2.1,(r10.2.1.2.2.2.1,s0.2.2.2.2)))),()))))) λ_=>some (.nx ((r10.2.1.1,(r10.2.1.2.1,(r10.2.1.2.2.1,(r10.2.1.2.2.2.1,AH .i64 s0.2.2.2.2 1))))))) λ_=>some (.dn ((1,(s0,()))))) ((0,([],(0,(0,0)))))) λr11=>br (neq r11.1 0) (λ_=>some ((r11.2.1.2.2.1,(r11.2.1.1,r11.2.1.2.2.2.1)))) λ_=>br (CD (AZ (AA x.2)) 0) (λ_=>AV (Bz .i64 (AZ (AA x.2)) 1) λk12=>ix x.2 k12 λx13=>br (Bg (AZ (AA x13)) 0) (λ_=>some ((Bz .i64 (AZ (AA x.2)) 1,(0,6)))) λ_=>some ((0,(0,0)))) λ_=>some ((0,(0,0)))
def EW (x:AI):Option ((List BQ)×Int) :=
 bd (Cn x) λr0=>br (A6 r0.2.2 0) (λ_=>some ([],r0.2.2)) λ_=>bd (loop (λs1=>br (Am s1.2 (AZ (AA x.2))) (λ_=>AV s1.2 λk2=>ix x.2 k2 λx3=>bd (loop (λs4=>br (Gz s4.2 0) (λ_=>AV s1.2 λk5=>ix x.2 k5 λx6=>AV s4.2 λk7=>ix x6 k7 λx8=>gd (Bo (BF (AA s4.1) (AA [x8])) 1048576) λ_=>some (.nx (C3 s4.1 [x8],Bz .i64 s4.2 1))) λ_=>some (.dn ((0,(s4,()))))) ((s1.1,Bz .i64 (AZ (AA x3)) 1))) λr9=>some (.nx (r9.2.1.1,AH .i64 s1.2 1))) λ_=>some (.dn ((0,(s1,()))))) ([],0)) λr10=>some (r10.2.1.1,0)
def CG (x:AI):Option Int :=
 bd (EW x) λr0=>bd (loop (λs1=>br (Am s1.2 (AZ (AA r0.1))) (λ_=>AV s1.2 λk2=>ix r0.1 k2 λx3=>some (.nx (KW s1.1 x3.1,AH .i64 s1.2 1))) λ_=>some (.dn ((0,(s1,()))))) (0,0)) λr4=>some r4.2.1.1
def Co (x:AI):Option (List Int) :=
 bd (loop (λs0=>br (Am s0.2 (AZ (AA x.2))) (λ_=>AV s0.2 λk1=>ix x.2 k1 λx2=>br (Bg (AZ (AA x2)) 2) (λ_=>gd (Bo (BF (AA s0.1) (AA [s0.2])) 1048576) λ_=>some (.nx (C3 s0.1 [s0.2],AH .i64 s0.2 1))) λ_=>some (.nx (s0.1,AH .i64 s0.2 1))) λ_=>some (.dn ((0,(s0,()))))) ([],0)) λr3=>some r3.2.1.1
def HI (x:(AI×Int)):Option Int :=
 bd (Cn x.1) λr0=>br (Bg r0.2.2 0) (λ_=>br (Am x.2 0) (λ_=>some 7) λ_=>br (Gz x.2 12) (λ_=>some 7) λ_=>some r0.2.2) λ_=>some r0.2.2
def GP (x:(AI×Int)):Option (Bool×Int) :=
 bd (HI x) λr0=>br (A6 r0 0) (λ_=>some (false,r0)) λ_=>some ((CD (AZ (AA x.1.2)) (AH .i64 x.2 1),0))
def Bs (x:(AI×Int)):Option Bool :=
 bd (GP x) λr0=>some (AX r0.1)
def DS (x:(List (List AD))):Option (Int×Int) :=
 br (Bg (AZ (AA x)) 0) (λ_=>some (((-1),6))) λ_=>br (CD (AZ (AA x)) 32) (λ_=>some (((-1),3))) λ_=>bd (loop (λs0=>br (Am s0.2.2 (AZ (AA x))) (λ_=>AV s0.2.2 λk1=>ix x k1 λx2=>bd (Ca x2) λr3=>br (A6 r3.2 0) (λ_=>some (.dn ((0,((r3.2,(s0.2.2,s0.2.2)),()))))) λ_=>some (.nx ((s0.1,(s0.2.1,AH .i64 s0.2.2 1))))) λ_=>some (.dn ((1,(s0,()))))) ((0,(0,0)))) λr4=>br (neq r4.1 0) (λ_=>some (r4.2.1.2.1,r4.2.1.1)) λ_=>some (0,0)
def E1 (x:(List AO)):Option Int :=
 br (Bg (AZ (AA x)) 0) (λ_=>some 6) λ_=>br (CD (AZ (AA x)) 32) (λ_=>some 3) λ_=>bd (loop (λs0=>br (Am s0.1 (AZ (AA x))) (λ_=>AV s0.1 λk1=>ix x k1 λx2=>br x2.2 (λ_=>AV s0.1 λk3=>ix x k3 λx4=>br (AX (seq x4.1 [])) (λ_=>some (.dn ((0,((s0.1,2),()))))) λ_=>some (.nx (AH .i64 s0.1 1,s0.2))) λ_=>some (.nx (AH .i64 s0.1 1,s0.2))) λ_=>some (.dn ((1,(s0,()))))) (0,0)) λr5=>br (neq r5.1 0) (λ_=>some r5.2.1.2) λ_=>some 0
def Ek (x:((List AO)×(Int×Int))):Option Bool :=
 AV x.2.1 λk0=>ix x.1 k0 λx1=>AV x.2.2 λk2=>ix x.1 k2 λx3=>br (AX (beq x1.2 x3.2)) (λ_=>some x3.2) λ_=>br (AX x1.2) (λ_=>br (AX (seq x1.1 x3.1)) (λ_=>some (C6 x1.1 x3.1)) λ_=>some (Am x.2.1 x.2.2)) λ_=>some (Am x.2.1 x.2.2)
def Ap (rec:((List AO)×Int)->Option (Int×Int)) (x:((List AO)×Int)):Option (Int×Int) :=
 br (Gz x.2 (AZ (AA x.1))) (λ_=>some ((Bz .i64 x.2 (AZ (AA x.1)),0))) λ_=>bd (rec (x.1,MZ .i64 2 x.2)) λr0=>bd (rec ((x.1,AH .i64 (MZ .i64 2 x.2) 1))) λr1=>bd (Ek ((x.1,(r0.1,r1.1)))) λr2=>br r2 (λ_=>some (r0.1,r1.1)) λ_=>some (r1.1,r0.1)
def Fo:((List AO)×Int)->Option (Int×Int):=Jc Ap 100
def Fp (x:(List AO)):Option Dw :=
 gd (Bo (AA x) 1048576) λ_=>AV (AZ (AA x)) λk0=>AV (AZ (AA x)) λk1=>gd (Bo k1 1048576) λ_=>bd (loop (λs2=>br (Am s2.1 (AZ (AA x))) (λ_=>bd (Fo (x,s2.1)) λr3=>AV s2.1 λk4=>gd (Dn k4 (AA s2.2.2.1)) λ_=>ix s2.2.2.1 k4 λx5=>some (.nx ((AH .i64 s2.1 1,(s2.2.1,(lset s2.2.2.1 k4 r3.2,s2.2.2.2)))))) λ_=>some (.dn ((0,(s2,()))))) ((1,(x,(DW k1 0,(0:Int)))))) λr6=>bd (Fo (x,1)) λr7=>some ((r6.2.1.2.1,(r6.2.1.2.2.1,r7.1)))
def EA (x:(List AO)):Option (Dw×Int) :=
 bd (E1 x) λr0=>br (A6 r0 0) (λ_=>some ((([],([],0)),r0))) λ_=>bd (Fp x) λr1=>some (r1,0)
def Cp (x:((List (List AD))×(List Int))):Option AN :=
 gd (Bo (AA x.1) 1048576) λ_=>gd (Bo (AA x.2) 1048576) λ_=>bd (loop (λs0=>br (Am s0.1 (AZ (AA x.1))) (λ_=>AV s0.1 λk1=>ix x.2 k1 λx2=>AV s0.1 λk3=>ix x.1 k3 λx4=>br (AX (Bg x2 (AZ (AA x4)))) (λ_=>AV s0.1 λk5=>ix x.1 k5 λx6=>AV s0.1 λk7=>ix x.2 k7 λx8=>AV x8 λk9=>ix x6 k9 λx10=>gd (Bo (BF (AA s0.2) (AA ([(x10.1,Bg x2 (AZ (AA x4)))]))) 1048576) λ_=>some (.nx ((AH .i64 s0.1 1,C3 s0.2 ([(x10.1,Bg x2 (AZ (AA x4)))]))))) λ_=>gd (Bo (BF (AA s0.2) (AA ([(([]:List UInt8),Bg x2 (AZ (AA x4)))]))) 1048576) λ_=>some (.nx ((AH .i64 s0.1 1,C3 s0.2 ([([],Bg x2 (AZ (AA x4)))]))))) λ_=>some (.dn ((0,(s0,()))))) (0,[])) λr11=>bd (EA r11.2.1.2) λr12=>some ((x.1,(x.2,r12.1)))
def GQ (x:(List (List AD))):Option (AN×(Int×Int)) :=
 bd (DS x) λr0=>br (A6 r0.2 0) (λ_=>some ((([],([],([],([],0)))),r0))) λ_=>AV (AZ (AA x)) λk1=>AV (AZ (AA x)) λk2=>gd (Bo k2 1048576) λ_=>bd (Cp (x,DW k2 0)) λr3=>some ((r3,(0,0)))
def Cq (x:Bool):Option (Bool×AO) :=
 some ((false,([],x)))
def E2 (x:((List (List AD))×Bool)):Option ((AN×((Bool×AO)×((List AD)×Int)))×(Int×Int)) :=
 bd (GQ x.1) λr0=>br (A6 r0.2.2 0) (λ_=>some (((([],([],([],([],0)))),((false,([],false)),([],0))),r0.2))) λ_=>bd (Cq x.2) λr1=>some (((r0.1,(r1,([],0))),(0,0)))
def A9 (x:(AI×(Int×Bool))):Option (Int×(AN×((Bool×AO)×((List AD)×Int)))) :=
 br (Gz x.2.1 (AZ (AA x.1.2))) (λ_=>none) λ_=>AV x.2.1 λk0=>ix x.1.2 k0 λx1=>ix x1 1 λx2=>ix x1 0 λx3=>bd (E2 ([x2.2,x3.2],x.2.2)) λr4=>some (x.2.1,r4.1)
def Ip (x:((List Int)×(List Int))):Option Bool :=
 br (A6 (AZ (AA x.1)) (AZ (AA x.2))) (λ_=>some false) λ_=>bd (loop (λs0=>br (Am s0.1 (AZ (AA x.1))) (λ_=>AV s0.1 λk1=>ix x.1 k1 λx2=>AV s0.1 λk3=>ix x.2 k3 λx4=>br (A6 x2 x4) (λ_=>some (.dn ((0,((s0.1,false),()))))) λ_=>some (.nx (AH .i64 s0.1 1,s0.2))) λ_=>some (.dn ((1,(s0,()))))) (0,false)) λr5=>br (neq r5.1 0) (λ_=>some r5.2.1.2) λ_=>some true
def Gu (x:(Dw×Dw)):Option Bool :=
 br (A6 (AZ (AA x.1.1)) (AZ (AA x.2.1))) (λ_=>some false) λ_=>br (A6 x.1.2.2 x.2.2.2) (λ_=>some false) λ_=>bd (Ip (x.1.2.1,x.2.2.1)) λr0=>br (AX r0) (λ_=>some false) λ_=>bd (loop (λs1=>br (Am s1.1 (AZ (AA x.1.1))) (λ_=>AV s1.1 λk2=>ix x.1.1 k2 λx3=>AV s1.1 λk4=>ix x.2.1 k4 λx5=>br (AX (Bb (seq x3.1 x5.1) (Bb (beq x3.2 x5.2) true))) (λ_=>some (.dn ((0,((s1.1,false),()))))) λ_=>some (.nx (AH .i64 s1.1 1,s1.2))) λ_=>some (.dn ((1,(s1,()))))) (0,false)) λr6=>br (neq r6.1 0) (λ_=>some r6.2.1.2) λ_=>some true
def E3 (x:((List (List AD))×(List Int))):Option Int :=
 bd (loop (λs0=>br (Am s0.2 (AZ (AA x.1))) (λ_=>AV s0.2 λk1=>ix x.2 k1 λx2=>AV s0.2 λk3=>ix x.1 k3 λx4=>br (Am x2 (AZ (AA x4))) (λ_=>br (Am s0.1 0) (λ_=>some (.nx (s0.2,AH .i64 s0.2 1))) λ_=>AV s0.2 λk5=>ix x.1 k5 λx6=>AV s0.2 λk7=>ix x.2 k7 λx8=>AV x8 λk9=>ix x6 k9 λx10=>AV s0.1 λk11=>ix x.1 k11 λx12=>AV s0.1 λk13=>ix x.2 k13 λx14=>AV x14 λk15=>ix x12 k15 λx16=>br (C6 x10.1 x16.1) (λ_=>some (.nx (s0.2,AH .i64 s0.2 1))) λ_=>some (.nx (s0.1,AH .i64 s0.2 1))) λ_=>some (.nx (s0.1,AH .i64 s0.2 1))) λ_=>some (.dn ((0,(s0,()))))) (((-1),0))) λr17=>some r17.2.1.1
def E4 (x:AN):Option (Int×Int) :=
 bd (DS x.1) λr0=>br (A6 r0.2 0) (λ_=>some r0) λ_=>br (A6 (AZ (AA x.2.1)) (AZ (AA x.1))) (λ_=>some (((-1),6))) λ_=>bd (loop (λs1=>br (Am s1.2.2 (AZ (AA x.2.1))) (λ_=>AV s1.2.2 λk2=>ix x.2.1 k2 λx3=>br (Am x3 0) (λ_=>some (.dn ((0,((6,(s1.2.2,s1.2.2)),()))))) λ_=>AV s1.2.2 λk4=>ix x.2.1 k4 λx5=>AV s1.2.2 λk6=>ix x.1 k6 λx7=>br (CD x5 (AZ (AA x7))) (λ_=>some (.dn ((0,((6,(s1.2.2,s1.2.2)),()))))) λ_=>some (.nx ((s1.1,(s1.2.1,AH .i64 s1.2.2 1))))) λ_=>some (.dn ((1,(s1,()))))) ((0,(0,0)))) λr8=>br (neq r8.1 0) (λ_=>some (r8.2.1.2.1,r8.2.1.1)) λ_=>bd (Cp (x.1,x.2.1)) λr9=>bd (Gu (x.2.2,r9.2.2)) λr10=>br (AX r10) (λ_=>some (((-1),6))) λ_=>bd (E3 (x.1,x.2.1)) λr11=>bd (loop (λs12=>br (Am s12.2.2 (AZ (AA x.1))) (λ_=>br (Gz r11 0) (λ_=>AV s12.2.2 λk13=>ix x.2.1 k13 λx14=>br (Bg x14 0) (λ_=>some (.nx ((s12.1,(s12.2.1,AH .i64 s12.2.2 1))))) λ_=>AV s12.2.2 λk15=>ix x.1 k15 λx16=>AV s12.2.2 λk17=>ix x.2.1 k17 λx18=>AV (Bz .i64 x18 1) λk19=>ix x16 k19 λx20=>AV r11 λk21=>ix x.1 k21 λx22=>AV r11 λk23=>ix x.2.1 k23 λx24=>AV x24 λk25=>ix x22 k25 λx26=>br (C6 x26.1 x20.1) (λ_=>some (.dn ((0,((6,(r11,s12.2.2)),()))))) λ_=>br (seq x20.1 x26.1) (λ_=>br (CD s12.2.2 r11) (λ_=>some (.dn ((0,((6,(r11,s12.2.2)),()))))) λ_=>some (.nx ((s12.1,(s12.2.1,AH .i64 s12.2.2 1))))) λ_=>some (.nx ((s12.1,(s12.2.1,AH .i64 s12.2.2 1))))) λ_=>some (.dn ((1,(s12,()))))) λ_=>some (.dn ((1,(s12,()))))) ((r8.2.1.1,(r8.2.1.2.1,0)))) λr27=>br (neq r27.1 0) (λ_=>some (r27.2.1.2.1,r27.2.1.1)) λ_=>some (0,0)
def Fq (x:(AN×((Bool×AO)×((List AD)×Int)))):Option Int :=
 bd (loop (λs0=>br (Am s0.2 (AZ (AA x.1.2.1))) (λ_=>AV s0.2 λk1=>ix x.1.2.1 k1 λx2=>some (.nx (AH .i64 s0.1 x2,AH .i64 s0.2 1))) λ_=>some (.dn ((0,(s0,()))))) (0,0)) λr3=>some r3.2.1.1
def Gc (x:(List (List AD))):Option ((List AD)×((List Int)×Int)) :=
 bd (DS x) λr0=>br (A6 r0.2 0) (λ_=>some (([],([],r0.2)))) λ_=>AV (AZ (AA x)) λk1=>AV (AZ (AA x)) λk2=>gd (Bo k2 1048576) λ_=>bd (loop (λ(s3:((List Int)×((List AD)×((List AD)×(Int×((List Int)×(List Int)))))))=>bd (E3 (x,s3.2.2.2.2.2)) λr4=>br (Am r4 0) (λ_=>some (.dn ((0,((s3.2.2.2.2.1,(s3.2.1,0)),()))))) λ_=>AV r4 λk5=>ix x k5 λx6=>AV r4 λk7=>gd (Dn k7 (AA s3.2.2.2.2.2)) λ_=>ix s3.2.2.2.2.2 k7 λx8=>AV x8 λk9=>ix x6 k9 λx10=>gd (Bo (BF (AA s3.2.1) (AA [x10])) 1048576) λ_=>gd (Bo (BF (AA s3.2.2.2.2.1) (AA [r4])) 1048576) λ_=>AV r4 λk11=>gd (Dn k11 (AA s3.2.2.2.2.2)) λ_=>ix s3.2.2.2.2.2 k11 λx12=>AV r4 λk13=>gd (Dn k13 (AA s3.2.2.2.2.2)) λ_=>ix s3.2.2.2.2.2 k13 λx14=>some (.nx ((s3.1,(C3 s3.2.1 [x10],(s3.2.2.1,(s3.2.2.2.1,(C3 s3.2.2.2.2.1 [r4],lset s3.2.2.2.2.2 k13 (AH .i64 x12 1))))))))) (([],([],([],(0,([],DW k2 0))))))) λr15=>some ((r15.2.1.2.1,(r15.2.1.1,r15.2.1.2.2)))
def Hr (x:(Bool×AO)):Option Int :=
 br (CD (AZ (Ep x.2.1)) 32) (λ_=>some 3) λ_=>br (AX x.1) (λ_=>br (AX (seq x.2.1 [])) (λ_=>some 6) λ_=>some 0) λ_=>some 0
def Iq (x:((Bool×AO)×AD)):Option (Bool×((Bool×AO)×Int)) :=
 bd (Hr x.1) λr0=>br (Bg r0 0) (λ_=>bd (DQ x.2) λr1=>br (Bg r1 0) (λ_=>br x.1.1 (λ_=>br (C6 x.2.1 x.1.2.1) (λ_=>some ((false,((false,([],false)),6)))) λ_=>br (A6 r1 0) (λ_=>some ((false,((false,([],false)),r1)))) λ_=>br (AX x.1.1) (λ_=>br x.1.2.2 (λ_=>some ((AX x.2.2.2.1,((true,(x.2.1,x.1.2.2)),0)))) λ_=>some ((true,((true,(x.2.1,x.1.2.2)),0)))) λ_=>br (AX (seq x.2.1 x.1.2.1)) (λ_=>br x.1.2.2 (λ_=>some ((AX x.2.2.2.1,((true,(x.2.1,x.1.2.2)),0)))) λ_=>some ((true,((true,(x.2.1,x.1.2.2)),0)))) λ_=>some ((false,((true,(x.2.1,x.1.2.2)),0)))) λ_=>br (A6 r1 0) (λ_=>some ((false,((false,([],false)),r1)))) λ_=>br (AX x.1.1) (λ_=>br x.1.2.2 (λ_=>some ((AX x.2.2.2.1,((true,(x.2.1,x.1.2.2)),0)))) λ_=>some ((true,((true,(x.2.1,x.1.2.2)),0)))) λ_=>br (AX (seq x.2.1 x.1.2.1)) (λ_=>br x.1.2.2 (λ_=>some ((AX x.2.2.2.1,((true,(x.2.1,x.1.2.2)),0)))) λ_=>some ((true,((true,(x.2.1,x.1.2.2)),0)))) λ_=>some ((false,((true,(x.2.1,x.1.2.2)),0)))) λ_=>br (A6 r1 0) (λ_=>some ((false,((false,([],false)),r1)))) λ_=>br (AX x.1.1) (λ_=>br x.1.2.2 (λ_=>some ((AX x.2.2.2.1,((true,(x.2.1,x.1.2.2)),0)))) λ_=>some ((true,((true,(x.2.1,x.1.2.2)),0)))) λ_=>br (AX (seq x.2.1 x.1.2.1)) (λ_=>br x.1.2.2 (λ_=>some ((AX x.2.2.2.1,((true,(x.2.1,x.1.2.2)),0)))) λ_=>some ((true,((true,(x.2.1,x.1.2.2)),0)))) λ_=>some ((false,((true,(x.2.1,x.1.2.2)),0)))) λ_=>br (Bg r0 0) (λ_=>br x.1.1 (λ_=>br (C6 x.2.1 x.1.2.1) (λ_=>some ((false,((false,([],false)),6)))) λ_=>br (A6 r0 0) (λ_=>some ((false,((false,([],false)),r0)))) λ_=>br (AX x.1.1) (λ_=>br x.1.2.2 (λ_=>some ((AX x.2.2.2.1,((true,(x.2.1,x.1.2.2)),0)))) λ_=>some ((true,((true,(x.2.1,x.1.2.2)),0)))) λ_=>br (AX (seq x.2.1 x.1.2.1)) (λ_=>br x.1.2.2 (λ_=>some ((AX x.2.2.2.1,((true,(x.2.1,x.1.2.2)),0)))) λ_=>some ((true,((true,(x.2.1,x.1.2.2)),0)))) λ_=>some ((false,((true,(x.2.1,x.1.2.2)),0)))) λ_=>br (A6 r0 0) (λ_=>some ((false,((false,([],false)),r0)))) λ_=>br (AX x.1.1) (λ_=>br x.1.2.2 (λ_=>some ((AX x.2.2.2.1,((true,(x.2.1,x.1.2.2)),0)))) λ_=>some ((true,((true,(x.2.1,x.1.2.2)),0)))) λ_=>br (AX (seq x.2.1 x.1.2.1)) (λ_=>br x.1.2.2 (λ_=>some ((AX x.2.2.2.1,((true,(x.2.1,x.1.2.2)),0)))) λ_=>some ((true,((true,(x.2.1,x.1.2.2)),0)))) λ_=>some ((false,((true,(x.2.1,x.1.2.2)),0)))) λ_=>br (A6 r0 0) (λ_=>some ((false,((false,([],false)),r0)))) λ_=>br (AX x.1.1) (λ_=>br x.1.2.2 (λ_=>some ((AX x.2.2.2.1,((true,(x.2.1,x.1.2.2)),0)))) λ_=>some ((true,((true,(x.2.1,x.1.2.2)),0)))) λ_=>br (AX (seq x.2.1 x.1.2.1)) (λ_=>br x.1.2.2 (λ_=>some ((AX x.2.2.2.1,((true,(x.2.1,x.1.2.2)),0)))) λ_=>some ((true,((true,(x.2.1,x.1.2.2)),0)))) λ_=>some ((false,((true,(x.2.1,x.1.2.2)),0)))
def HJ (x:((List AD)×Bool)):Option ((List AD)×(Int×Int)) :=
 br (CD (AZ (AA x.1)) 20000) (λ_=>some (([],((-1),3)))) λ_=>bd (Cq x.2) λr0=>bd (loop (λ(s1:(Int×(Int×((List AD)×((List AD)×(Int×(Bool×AO)))))))=>br (Am s1.2.1 (AZ (AA x.1))) (λ_=>AV s1.2.1 λk2=>ix x.1 k2 λx3=>bd (Iq (s1.2.2.2.2.2,x3)) λr4=>br (A6 r4.2.2 0) (λ_=>some (.dn ((0,((s1.2.1,(s1.2.1,([],(s1.2.2.2.1,(r4.2.2,s1.2.2.2.2.2))))),()))))) λ_=>br r4.1 (λ_=>AV s1.2.1 λk5=>ix x.1 k5 λx6=>gd (Bo (BF (AA s1.2.2.2.1) (AA [x6])) 1048576) λ_=>some (.nx ((s1.1,(AH .i64 s1.2.1 1,(s1.2.2.1,(C3 s1.2.2.2.1 [x6],(s1.2.2.2.2.1,r4.2.1)))))))) λ_=>some (.nx ((s1.1,(AH .i64 s1.2.1 1,(s1.2.2.1,(s1.2.2.2.1,(s1.2.2.2.2.1,r4.2.1)))))))) λ_=>some (.dn ((1,(s1,()))))) ((0,(0,([],([],(0,r0))))))) λr7=>br (neq r7.1 0) (λ_=>some ((r7.2.1.2.2.1,(r7.2.1.1,r7.2.1.2.2.2.2.1)))) λ_=>some ((r7.2.1.2.2.2.1,(0,0)))
def EX (x:((List AD)×Bool)):Option ((List AD)×(Bool×AO)) :=
 bd (HJ x) λr0=>bd (Cq x.2) λr1=>br (CD (AZ (AA x.1)) 0) (λ_=>AV (Bz .i64 (AZ (AA x.1)) 1) λk2=>ix x.1 k2 λx3=>some ((r0.1,(true,(x3.1,r1.2.2))))) λ_=>some (r0.1,r1)
def Cf (x:((List AD)×(List AD))):Option Bool :=
 br (A6 (AZ (AA x.1)) (AZ (AA x.2))) (λ_=>some false) λ_=>bd (loop (λs0=>br (Am s0.1 (AZ (AA x.1))) (λ_=>AV s0.1 λk1=>ix x.1 k1 λx2=>AV s0.1 λk3=>ix x.2 k3 λx4=>br (AX (Bb (seq x2.1 x4.1) (Bb (seq x2.2.1 x4.2.1) (Bb (beq x2.2.2.1 x4.2.2.1) (Bb (Bg x2.2.2.2 x4.2.2.2) true))))) (λ_=>some (.dn ((0,((s0.1,false),()))))) λ_=>some (.nx (AH .i64 s0.1 1,s0.2))) λ_=>some (.dn ((1,(s0,()))))) (0,false)) λr5=>br (neq r5.1 0) (λ_=>some r5.2.1.2) λ_=>some true
def Hs (x:(AN×((Bool×AO)×((List AD)×Int)))):Option Int :=
 bd (E4 x.1) λr0=>br (A6 r0.2 0) (λ_=>some r0.2) λ_=>bd (Fq x) λr1=>br (CD (AZ (AA x.2.2.1)) 20000) (λ_=>some 3) λ_=>br (CD r1 20000) (λ_=>some 3) λ_=>br (A6 x.2.2.2 r1) (λ_=>some 7) λ_=>bd (Gc x.1.1) λr2=>AV r1 λk3=>gd (Bo k3 (AA r2.1)) λ_=>gd (Bo 0 k3) λ_=>bd (EX (Er r2.1 0 k3,x.2.1.2.2)) λr4=>bd (Cf (x.2.2.1,r4.1)) λr5=>br (AX r5) (λ_=>some 6) λ_=>br (AX (Bb (beq x.2.1.1 r4.2.1) (Bb (seq x.2.1.2.1 r4.2.2.1) (Bb (beq x.2.1.2.2 r4.2.2.2) true)))) (λ_=>some 6) λ_=>some 0
def Ir (x:AN):Option (Int×Int) :=
 bd (E4 x) λr0=>br (A6 r0.2 0) (λ_=>some (0,r0.2)) λ_=>bd (loop (λs1=>br (Am s1.1 (AZ (AA x.1))) (λ_=>AV s1.1 λk2=>ix x.1 k2 λx3=>AV s1.1 λk4=>ix x.2.1 k4 λx5=>some (.nx ((AH .i64 s1.1 1,Bz .i64 (AH .i64 s1.2 (AZ (AA x3))) x5)))) λ_=>some (.dn ((0,(s1,()))))) (0,0)) λr6=>some (r6.2.1.2,0)
def BI (x:(AN×((Bool×AO)×((List AD)×Int)))):Option (Int×Int) :=
 bd (Hs x) λr0=>br (A6 r0 0) (λ_=>some (0,r0)) λ_=>bd (Ir x.1) λr1=>some r1
def Fs (x:AN):Option (AD×(Int×(AN×Int))) :=
 bd (E4 x) λr0=>br (A6 r0.2 0) (λ_=>some (((([],([],(false,0))):AD),(0,(([],([],([],([],0)))),r0.2))))) λ_=>bd (E3 (x.1,x.2.1)) λr1=>br (Am r1 0) (λ_=>some (((([],([],(false,0))):AD),(0,(([],([],([],([],0)))),12))))) λ_=>gd (Bo (AA x.2.1) 1048576) λ_=>AV r1 λk2=>gd (Dn k2 (AA x.2.1)) λ_=>ix x.2.1 k2 λx3=>AV r1 λk4=>gd (Dn k4 (AA x.2.1)) λ_=>ix x.2.1 k4 λx5=>AV r1 λk6=>ix x.1 k6 λx7=>AV r1 λk8=>ix x.2.1 k8 λx9=>AV x9 λk10=>ix x7 k10 λx11=>bd (Cp ((x.1,lset x.2.1 k4 (AH .i64 x3 1)))) λr12=>some ((x11,(r1,(r12,0))))
def Bl (x:((AN×((Bool×AO)×((List AD)×Int)))×Int)):Option ((AN×((Bool×AO)×((List AD)×Int)))×(Int×Int)) :=
 bd (BI x.1) λr0=>br (Bg r0.2 0) (λ_=>br (Am x.2 0) (λ_=>some (((([],([],([],([],0)))),((false,([],false)),([],0))),(0,7)))) λ_=>br (A6 r0.2 0) (λ_=>some (((([],([],([],([],0)))),((false,([],false)),([],0))),(0,r0.2)))) λ_=>bd (Fq x.1) λr1=>br (CD (AH .i64 r1 (NL x.2 r0.1)) 20000) (λ_=>some (((([],([],([],([],0)))),((false,([],false)),([],0))),(0,3)))) λ_=>bd (loop (λ(s2:(Int×((List (List AD))×((List Int)×((List AO)×((List Int)×(Int×(Bool×((List UInt8)×(Bool×((List AD)×Int)))))))))))=>br (Am s2.1 (NL x.2 r0.1)) (λ_=>bd (Fs ((s2.2.1,(s2.2.2.1,(s2.2.2.2.1,(s2.2.2.2.2.1,s2.2.2.2.2.2.1)))))) λr3=>some (.nx ((AH .i64 s2.1 1,(r3.2.2.1.1,(r3.2.2.1.2.1,(r3.2.2.1.2.2.1,(r3.2.2.1.2.2.2.1,(r3.2.2.1.2.2.2.2,s2.2.2.2.2.2.2))))))))) λ_=>some (.dn ((0,(s2,()))))) ((0,(x.1.1.1,(x.1.1.2.1,(x.1.1.2.2.1,(x.1.1.2.2.2.1,(x.1.1.2.2.2.2,(x.1.2.1.1,(x.1.2.1.2.1,(x.1.2.1.2.2,x.1.2.2))))))))))) λr4=>bd (Gc x.1.1.1) λr5=>AV (AH .i64 x.1.2.2.2 (NL x.2 r0.1)) λk6=>gd (Bo k6 (AA r5.1)) λ_=>gd (Bo 0 k6) λ_=>bd (EX (Er r5.1 0 k6,x.1.2.1.2.2)) λr7=>some ((((r4.2.1.2.1,(r4.2.1.2.2.1,(r4.2.1.2.2.2.1,(r4.2.1.2.2.2.2.1,r4.2.1.2.2.2.2.2.1)))),(r7.2,(r7.1,AH .i64 x.1.2.2.2 (NL x.2 r0.1)))),(NL x.2 r0.1,0)))) λ_=>br (A6 r0.2 0) (λ_=>some (((([],([],([],([],0)))),((false,([],false)),([],0))),(0,r0.2)))) λ_=>bd (Fq x.1) λr8=>br (CD (AH .i64 r8 (NL x.2 r0.1)) 20000) (λ_=>some (((([],([],([],([],0)))),((false,([],false)),([],0))),(0,3)))) λ_=>bd (loop (λ(s9:(Int×((List (List AD))×((List Int)×((List AO)×((List Int)×(Int×(Bool×((List UInt8)×(Bool×((List AD)×Int)))))))))))=>br (Am s9.1 (NL x.2 r0.1)) (λ_=>bd (Fs ((s9.2.1,(s9.2.2.1,(s9.2.2.2.1,(s9.2.2.2.2.1,s9.2.2.2.2.2.1)))))) λr10=>some (.nx ((AH .i64 s9.1 1,(r10.2.2.1.1,(r10.2.2.1.2.1,(r10.2.2.1.2.2.1,(r10.2.2.1.2.2.2.1,(r10.2.2.1.2.2.2.2,s9.2.2.2.2.2.2))))))))) λ_=>some (.dn ((0,(s9,()))))) ((0,(x.1.1.1,(x.1.1.2.1,(x.1.1.2.2.1,(x.1.1.2.2.2.1,(x.1.1.2.2.2.2,(x.1.2.1.1,(x.1.2.1.2.1,(x.1.2.1.2.2,x.1.2.2))))))))))) λr11=>bd (Gc x.1.1.1) λr12=>AV (AH .i64 x.1.2.2.2 (NL x.2 r0.1)) λk13=>gd (Bo k13 (AA r12.1)) λ_=>gd (Bo 0 k13) λ_=>bd (EX (Er r12.1 0 k13,x.1.2.1.2.2)) λr14=>some ((((r11.2.1.2.1,(r11.2.1.2.2.1,(r11.2.1.2.2.2.1,(r11.2.1.2.2.2.2.1,r11.2.1.2.2.2.2.2.1)))),(r14.2,(r14.1,AH .i64 x.1.2.2.2 (NL x.2 r0.1)))),(NL x.2 r0.1,0)))
def Is (x:(AN×AN)):Option Bool :=
 br (A6 (AZ (AA x.1.1)) (AZ (AA x.2.1))) (λ_=>some false) λ_=>bd (Ip (x.1.2.1,x.2.2.1)) λr0=>br (AX r0) (λ_=>some false) λ_=>bd (Gu (x.1.2.2,x.2.2.2)) λr1=>br (AX r1) (λ_=>some false) λ_=>bd (loop (λs2=>br (Am s2.1 (AZ (AA x.1.1))) (λ_=>AV s2.1 λk3=>ix x.1.1 k3 λx4=>AV s2.1 λk5=>ix x.2.1 k5 λx6=>bd (Cf (x4,x6)) λr7=>br (AX r7) (λ_=>some (.dn ((0,((s2.1,false),()))))) λ_=>some (.nx (AH .i64 s2.1 1,s2.2))) λ_=>some (.dn ((1,(s2,()))))) (0,false)) λr8=>br (neq r8.1 0) (λ_=>some r8.2.1.2) λ_=>some true
def Bm (x:((AN×((Bool×AO)×((List AD)×Int)))×(AN×((Bool×AO)×((List AD)×Int))))):Option Bool :=
 bd (Is (x.1.1,x.2.1)) λr0=>br r0 (λ_=>br (Bb (beq x.1.2.1.1 x.2.2.1.1) (Bb (seq x.1.2.1.2.1 x.2.2.1.2.1) (Bb (beq x.1.2.1.2.2 x.2.2.1.2.2) true))) (λ_=>bd (Cf (x.1.2.2.1,x.2.2.2.1)) λr1=>br r1 (λ_=>some (Bg x.1.2.2.2 x.2.2.2.2)) λ_=>some false) λ_=>some false) λ_=>some false
def GR (x:(AI×((List (Int×(AN×((Bool×AO)×((List AD)×Int)))))×Int))):Option (Int×Int) :=
 bd (Cn x.1) λr0=>br (Bg r0.2.2 0) (λ_=>br (Am x.2.2 1) (λ_=>some (((-1),7))) λ_=>br (CD x.2.2 1000001) (λ_=>some (((-1),7))) λ_=>br (Bg r0.2.2 0) (λ_=>bd (CG x.1) λr1=>br (XH x.2.2 r1) (λ_=>some (((-1),6))) λ_=>br (A6 r0.2.2 0) (λ_=>some (((-1),r0.2.2))) λ_=>bd (Co x.1) λr2=>bd (loop (λs3=>br (Am s3.2.2 (AZ (AA x.2.1))) (λ_=>AV s3.2.2 λk4=>ix x.2.1 k4 λx5=>br (Gz s3.2.2 (AZ (AA r2))) (λ_=>some (.dn ((0,((6,(s3.2.2,s3.2.2)),()))))) λ_=>AV s3.2.2 λk6=>ix r2 k6 λx7=>br (A6 x5.1 x7) (λ_=>some (.dn ((0,((6,(s3.2.2,s3.2.2)),()))))) λ_=>br x5.2.2.1.2.2 (λ_=>bd (Bs (x.1,x5.1)) λr8=>br (AX r8) (λ_=>some (.dn ((0,((6,(s3.2.2,s3.2.2)),()))))) λ_=>bd (A9 ((x.1,(x5.1,x5.2.2.1.2.2)))) λr9=>bd (BI r9.2) λr10=>br (Am x5.2.2.2.2 0) (λ_=>some (.dn ((0,((6,(s3.2.2,s3.2.2)),()))))) λ_=>br (CD x5.2.2.2.2 r10.1) (λ_=>some (.dn ((0,((6,(s3.2.2,s3.2.2)),()))))) λ_=>bd (Bl (r9.2,x5.2.2.2.2)) λr11=>bd (Bm (r11.1,x5.2)) λr12=>br (AX r12) (λ_=>some (.dn ((0,((6,(s3.2.2,s3.2.2)),()))))) λ_=>some (.nx ((s3.1,(s3.2.1,AH .i64 s3.2.2 1))))) λ_=>bd (A9 ((x.1,(x5.1,x5.2.2.1.2.2)))) λr13=>bd (BI r13.2) λr14=>br (Am x5.2.2.2.2 0) (λ_=>some (.dn ((0,((6,(s3.2.2,s3.2.2)),()))))) λ_=>br (CD x5.2.2.2.2 r14.1) (λ_=>some (.dn ((0,((6,(s3.2.2,s3.2.2)),()))))) λ_=>bd (Bl (r13.2,x5.2.2.2.2)) λr15=>bd (Bm (r15.1,x5.2)) λr16=>br (AX r16) (λ_=>some (.dn ((0,((6,(s3.2.2,s3.2.2)),()))))) λ_=>some (.nx ((s3.1,(s3.2.1,AH .i64 s3.2.2 1))))) λ_=>some (.dn ((1,(s3,()))))) ((0,(0,0)))) λr17=>br (neq r17.1 0) (λ_=>some (r17.2.1.2.1,r17.2.1.1)) λ_=>br (Am (AZ (AA x.2.1)) (AZ (AA r2))) (λ_=>some (((-1),4))) λ_=>some (0,0)) λ_=>br (A6 r0.2.2 0) (λ_=>some (((-1),r0.2.2))) λ_=>bd (Co x.1) λr18=>bd (loop (λs19=>br (Am s19.2.2 (AZ (AA x.2.1))) (λ_=>AV s19.2.2 λk20=>ix x.2.1 k20 λx21=>br (Gz s19.2.2 (AZ (AA r18))) (λ_=>some (.dn ((0,((6,(s19.2.2,s19.2.2)),()))))) λ_=>AV s19.2.2 λk22=>ix r18 k22 λx23=>br (A6 x21.1 x23) (λ_=>some (.dn ((0,((6,(s19.2.2,s19.2.2)),()))))) λ_=>br x21.2.2.1.2.2 (λ_=>bd (Bs (x.1,x21.1)) λr24=>br (AX r24) (λ_=>some (.dn ((0,((6,(s19.2.2,s19.2.2)),()))))) λ_=>bd (A9 ((x.1,(x21.1,x21.2.2.1.2.2)))) λr25=>bd (BI r25.2) λr26=>br (Am x21.2.2.2.2 0) (λ_=>some (.dn ((0,((6,(s19.2.2,s19.2.2)),()))))) λ_=>br (CD x21.2.2.2.2 r26.1) (λ_=>some (.dn ((0,((6,(s19.2.2,s19.2.2)),()))))) λ_=>bd (Bl (r25.2,x21.2.2.2.2)) λr27=>bd (Bm (r27.1,x21.2)) λr28=>br (AX r28) (λ_=>some (.dn ((0,((6,(s19.2.2,s19.2.2)),()))))) λ_=>some (.nx ((s19.1,(s19.2.1,AH .i64 s19.2.2 1))))) λ_=>bd (A9 ((x.1,(x21.1,x21.2.2.1.2.2)))) λr29=>bd (BI r29.2) λr30=>br (Am x21.2.2.2.2 0) (λ_=>some (.dn ((0,((6,(s19.2.2,s19.2.2)),()))))) λ_=>br (CD x21.2.2.2.2 r30.1) (λ_=>some (.dn ((0,((6,(s19.2.2,s19.2.2)),()))))) λ_=>bd (Bl (r29.2,x21.2.2.2.2)) λr31=>bd (Bm (r31.1,x21.2)) λr32=>br (AX r32) (λ_=>some (.dn ((0,((6,(s19.2.2,s19.2.2)),()))))) λ_=>some (.nx ((s19.1,(s19.2.1,AH .i64 s19.2.2 1))))) λ_=>some (.dn ((1,(s19,()))))) ((0,(0,0)))) λr33=>br (neq r33.1 0) (λ_=>some (r33.2.1.2.1,r33.2.1.1)) λ_=>br (Am (AZ (AA x.2.1)) (AZ (AA r18))) (λ_=>some (((-1),4))) λ_=>some (0,0)) λ_=>br (Bg r0.2.2 0) (λ_=>bd (CG x.1) λr34=>br (XH x.2.2 r34) (λ_=>some (((-1),6))) λ_=>br (A6 r0.2.2 0) (λ_=>some (((-1),r0.2.2))) λ_=>bd (Co x.1) λr35=>bd (loop (λs36=>br (Am s36.2.2 (AZ (AA x.2.1))) (λ_=>AV s36.2.2 λk37=>ix x.2.1 k37 λx38=>br (Gz s36.2.2 (AZ (AA r35))) (λ_=>some (.dn ((0,((6,(s36.2.2,s36.2.2)),()))))) λ_=>AV s36.2.2 λk39=>ix r35 k39 λx40=>br (A6 x38.1 x40) (λ_=>some (.dn ((0,((6,(s36.2.2,s36.2.2)),()))))) λ_=>br x38.2.2.1.2.2 (λ_=>bd (Bs (x.1,x38.1)) λr41=>br (AX r41) (λ_=>some (.dn ((0,((6,(s36.2.2,s36.2.2)),()))))) λ_=>bd (A9 ((x.1,(x38.1,x38.2.2.1.2.2)))) λr42=>bd (BI r42.2) λr43=>br (Am x38.2.2.2.2 0) (λ_=>some (.dn ((0,((6,(s36.2.2,s36.2.2)),()))))) λ_=>br (CD x38.2.2.2.2 r43.1) (λ_=>some (.dn ((0,((6,(s36.2.2,s36.2.2)),()))))) λ_=>bd (Bl (r42.2,x38.2.2.2.2)) λr44=>bd (Bm (r44.1,x38.2)) λr45=>br (AX r45) (λ_=>some (.dn ((0,((6,(s36.2.2,s36.2.2)),()))))) λ_=>some (.nx ((s36.1,(s36.2.1,AH .i64 s36.2.2 1))))) λ_=>bd (A9 ((x.1,(x38.1,x38.2.2.1.2.2)))) λr46=>bd (BI r46.2) λr47=>br (Am x38.2.2.2.2 0) (λ_=>some (.dn ((0,((6,(s36.2.2,s36.2.2)),()))))) λ_=>br (CD x38.2.2.2.2 r47.1) (λ_=>some (.dn ((0,((6,(s36.2.2,s36.2.2)),()))))) λ_=>bd (Bl (r46.2,x38.2.2.2.2)) λr48=>bd (Bm (r48.1,x38.2)) λr49=>br (AX r49) (λ_=>some (.dn ((0,((6,(s36.2.2,s36.2.2)),()))))) λ_=>some (.nx ((s36.1,(s36.2.1,AH .i64 s36.2.2 1))))) λ_=>some (.dn ((1,(s36,()))))) ((0,(0,0)))) λr50=>br (neq r50.1 0) (λ_=>some (r50.2.1.2.1,r50.2.1.1)) λ_=>br (Am (AZ (AA x.2.1)) (AZ (AA r35))) (λ_=>some (((-1),4))) λ_=>some (0,0)) λ_=>br (A6 r0.2.2 0) (λ_=>some (((-1),r0.2.2))) λ_=>bd (Co x.1) λr51=>bd (loop (λs52=>br (Am s52.2.2 (AZ (AA x.2.1))) (λ_=>AV s52.2.2 λk53=>ix x.2.1 k53 λx54=>br (Gz s52.2.2 (AZ (AA r51))) (λ_=>some (.dn ((0,((6,(s52.2.2,s52.2.2)),()))))) λ_=>AV s52.2.2 λk55=>ix r51 k55 λx56=>br (A6 x54.1 x56) (λ_=>some (.dn ((0,((6,(s52.2.2,s52.2.2)),()))))) λ_=>br x54.2.2.1.2.2 (λ_=>bd (Bs (x.1,x54.1)) λr57=>br (AX r57) (λ_=>some (.dn ((0,((6,(s52.2.2,s52.2.2)),()))))) λ_=>bd (A9 ((x.1,(x54.1,x54.2.2.1.2.2)))) λr58=>bd (BI r58.2) λr59=>br (Am x54.2.2.2.2 0) (λ_=>some (.dn ((0,((6,(s52.2.2,s52.2.2)),()))))) λ_=>br (CD x54.2.2.2.2 r59.1) (λ_=>some (.dn ((0,((6,(s52.2.2,s52.2.2)),()))))) λ_=>bd (Bl (r58.2,x54.2.2.2.2)) λr60=>bd (Bm (r60.1,x54.2)) λr61=>br (AX r61) (λ_=>some (.dn ((0,((6,(s52.2.2,s52.2.2)),()))))) λ_=>some (.nx ((s52.1,(s52.2.1,AH .i64 s52.2.2 1))))) λ_=>bd (A9 ((x.1,(x54.1,x54.2.2.1.2.2)))) λr62=>bd (BI r62.2) λr63=>br (Am x54.2.2.2.2 0) (λ_=>some (.dn ((0,((6,(s52.2.2,s52.2.2)),()))))) λ_=>br (CD x54.2.2.2.2 r63.1) (λ_=>some (.dn ((0,((6,(s52.2.2,s52.2.2)),()))))) λ_=>bd (Bl (r62.2,x54.2.2.2.2)) λr64=>bd (Bm (r64.1,x54.2)) λr65=>br (AX r65) (λ_=>some (.dn ((0,((6,(s52.2.2,s52.2.2)),()))))) λ_=>some (.nx ((s52.1,(s52.2.1,AH .i64 s52.2.2 1))))) λ_=>some (.dn ((1,(s52,()))))) ((0,(0,0)))) λr66=>br (neq r66.1 0) (λ_=>some (r66.2.1.2.1,r66.2.1.1)) λ_=>br (Am (AZ (AA x.2.1)) (AZ (AA r51))) (λ_=>some (((-1),4))) λ_=>some (0,0)
def Gn (x:(AI×((List (Int×(AN×((Bool×AO)×((List AD)×Int)))))×Int))):Option ((List Int)×Int) :=
 bd (GR x) λr0=>br (A6 r0.2 0) (λ_=>some ([],r0.2)) λ_=>bd (Co x.1) λr1=>some (r1,0)
def Gv (x:((AI×((List (Int×(AN×((Bool×AO)×((List AD)×Int)))))×Int))×Int)):Option (Int×Int) :=
 bd (Gn x.1) λr0=>br (A6 r0.2 0) (λ_=>some (0,r0.2)) λ_=>bd (loop (λs1=>br (Am s1.2.2 (AZ (AA r0.1))) (λ_=>AV s1.2.2 λk2=>ix r0.1 k2 λx3=>br (Bg x3 x.2) (λ_=>some (.dn ((0,((0,(s1.2.2,s1.2.2)),()))))) λ_=>some (.nx ((s1.1,(s1.2.1,AH .i64 s1.2.2 1))))) λ_=>some (.dn ((1,(s1,()))))) ((0,(0,0)))) λr4=>br (neq r4.1 0) (λ_=>some (r4.2.1.2.1,r4.2.1.1)) λ_=>some (0,4)
def Iu (x:((AI×((List (Int×(AN×((Bool×AO)×((List AD)×Int)))))×Int))×Int)):Option (Int×Int) :=
 bd (Gv x) λr0=>br (A6 r0.2 0) (λ_=>some (0,r0.2)) λ_=>AV r0.1 λk1=>ix x.1.2.1 k1 λx2=>bd (BI x2.2) λr3=>some r3
end Go.Proofs.YthpkjfabdccpdaaGreat.Pl
namespace Go.Proofs.YthpkjfabdccpdaaGreat.Pl
open Go Go.Proofs.YthpkjfabdccpdaaGreat.Sv
theorem MA (x:AD):DQ x=some (kE x):=by
 unfold DQ kE;rw [Az,AT,Ik];by_cases h1:x.1.length>32
 ·rw [if_pos (by omega),if_pos (.inl h1)]
 rw [if_neg (by omega),Az,AT,Ik];by_cases h2:x.2.1.length>64
 ·rw [if_pos (by omega),if_pos (.inr h2)]
 rw [if_neg (by omega : ¬ (x.2.1.length:Int)>64),if_neg (by omega),Fe];by_cases h3:x.2.2.1=true
 ·rw [if_pos h3,BY,ET];by_cases h4:x.2.1=[]
  ·rw [if_pos h4,if_neg (by simp [h4]),BB,Az];by_cases h5:x.2.2.2<1
   ·simp [h5]
   ·by_cases h6:x.2.2.2>1000000000<;>simp [h5,h6]
  ·rw [if_neg h4,if_pos ⟨h3,h4⟩]
 ·rw [if_neg h3,if_neg (by simp [h3]),BB,Az];by_cases h5:x.2.2.2<1
  ·simp [h5]
  ·by_cases h6:x.2.2.2>1000000000<;>simp [h5,h6]
def DT:List UInt8->List UInt8->Nat
 | x::a,y::b=>if x=y then DT a b+1 else 0
 | _,_=>0
theorem Yd (x y:UInt8):Bg (R9 x) (R9 y)=decide (x=y):=by
 rw [FH];unfold R9;by_cases h:x=y
 ·simp [h]
 ·have : ¬ ((x.toNat:Int)=(y.toNat:Int)):=λe=>h (UInt8.toNat_inj.1 (by omega));simp [h,this]
theorem Wi (a b:List UInt8) (ha:a.length<=9223372036854775806):EV (a,b)=some (DT a b:Int):=by
 unfold EV;simp only [AT,Ik]
 have key : ∀ (m:List UInt8) (k n:Nat),a.drop k=m->k<=a.length->k<=b.length->m.length<n->Dc n (λs0=>br (Am s0 (a.length:Int)) (λ_=>br (Am s0 (b.length:Int)) (λ_=>AV s0 λk1=>ix a k1 λx2=>AV s0 λk3=>ix b k3 λx4=>br (Bg (R9 x2) (R9 x4)) (λ_=>some (LR.nx (AH .i64 s0 1))) λ_=>some (.dn ((0,(s0,()))))) λ_=>some (.dn ((0,(s0,()))))) λ_=>some (.dn ((0,(s0,()))))) (k:Int)=some ((0:Nat),(((k+DT m (b.drop k):Nat):Int),())):=by
  intro m
  induction m with
  | nil =>
   intro k n hm hk hkb hn;obtain ⟨n,rfl⟩ : ∃ j,n=j+1:=⟨n-1,by omega⟩
   have hkl:k=a.length:=by
    have:=congrArg List.length hm;simp at this;omega
   subst hkl;refine BL ?_;rw [re];simp [Ao,DT]
  | cons x m ih =>
   intro k n hm hk hkb hn;obtain ⟨n,rfl⟩ : ∃ j,n=j+1:=⟨n-1,by omega⟩
   have hx:a[k]? = some x:=by
    have:=congrArg List.head? hm;rw [List.head?_drop] at this;simpa using this
   have hk':k<a.length:=(List.getElem?_eq_some_iff.1 hx).1
   have hm2:a.drop (k+1)=m:=by
    have:=congrArg List.tail hm;rw [List.tail_drop] at this;simpa using this
   by_cases hb:k<b.length
   ·have hy:b[k]? = some b[k]:=by simp [hb]
    rw [List.drop_eq_getElem_cons hb];unfold DT;by_cases e:x=b[k]
    ·rw [if_pos e];refine (A7 (s':=((k+1:Nat):Int)) ?_).trans ?_
     ·rw [rl hk',AR,rl hb,AR,AE,AJ hx,AE,AJ hy,Yd,Ch,if_pos e,Aa (by omega)]
     ·rw [ih (k+1) n hm2 (by omega) (by omega) (by simp at hn;omega),show k+1+DT m (b.drop (k+1))=k+(DT m (b.drop (k+1))+1) by omega]
    ·rw [if_neg e];refine BL ?_;rw [rl hk',AR,rl hb,AR,AE,AJ hx,AE,AJ hy,Yd,Ch,if_neg e];simp
   ·have hb2:k=b.length:=by omega
    refine BL ?_;rw [rl hk',AR,hb2,re,Ao,List.drop_length];simp [DT]
 refine BD (CL (n:=a.length+1) (by omega) (key a 0 (a.length+1) (by simp) (by omega) (by omega) (by omega))) ?_;simp
def LF (a b:L4):Int:=if C6 a b=true then -1 else if a=b then 0 else 1
theorem Sq : ∀ (a b:L4),(DT a b<=a.length/\DT a b<=b.length)/\(DT a b=a.length->DT a b=b.length->LF a b=0)/\(DT a b=a.length->DT a b≠b.length->LF a b = -1)/\(DT a b≠a.length->DT a b=b.length->LF a b=1)/\(∀ x y,a[DT a b]? = some x->b[DT a b]? = some y->LF a b=if x.toNat<y.toNat then -1 else 1)
 | [],[]=>by simp [DT,LF,L5]
 | [],y::b=>by simp [DT,LF,RJ]
 | x::a,[]=>by simp [DT,LF,L5]
 | x::a,y::b=>by
  obtain ⟨⟨h0,h0'⟩,h1,h2,h3,h4⟩:=Sq a b;by_cases e:x=y
  ·subst e
   have ho:LF (x::a) (x::b)=LF a b:=by
    unfold LF;rw [IC];simp
   have hc:DT (x::a) (x::b)=DT a b+1:=by simp [DT]
   rw [ho,hc];refine ⟨⟨by simp;omega,by simp;omega⟩,λu v=>h1 (by simp at u;omega) (by simp at v;omega),λu v=>h2 (by simp at u;omega) (by simp at v;omega),λu v=>h3 (by simp at u;omega) (by simp at v;omega),λp q hp hq=>h4 p q (by simpa using hp) (by simpa using hq)⟩
  ·have hc:DT (x::a) (y::b)=0:=by simp [DT,e]
   rw [hc];refine ⟨⟨by omega,by omega⟩,λu=>by simp at u,λu=>by simp at u,λ_ u=>by simp at u,λp q hp hq => ?_⟩;simp at hp hq;subst hp hq;unfold LF;rw [IC];have hne : ¬ (x::a=y::b):=λh=>e (by injection h);by_cases hlt:x.toNat<y.toNat
   ·have:x<y:=UInt8.lt_iff_toNat_lt.2 hlt;simp [this,hlt]
   ·have : ¬ x<y:=λh=>hlt (UInt8.lt_iff_toNat_lt.1 h);simp [this,hlt,e]
theorem Ye (a b:L4) (ha:a.length<=1000000000) (hb:b.length<=1000000000):D9 (a,b)=some (LF a b):=by
 obtain ⟨⟨h0,h0'⟩,h1,h2,h3,h4⟩:=Sq a b;unfold D9;simp only [AT,Ik];rw [Wi a b (by omega),AB,B7]
 have hl:(if (DT a b:Int)<(b.length:Int) then (AV (DT a b:Int) λk1=>ix a k1 λx2=>AV (DT a b:Int) λk3=>ix b k3 λx4=>br (Am (R9 x2) (R9 x4)) (λ_=>some (-1:Int)) λ_=>some 1) else some 1)=(if DT a b=a.length then (if (DT a b:Int)<(b.length:Int) then (AV (DT a b:Int) λk1=>ix a k1 λx2=>AV (DT a b:Int) λk3=>ix b k3 λx4=>br (Am (R9 x2) (R9 x4)) (λ_=>some (-1:Int)) λ_=>some 1) else some 1) else some (LF a b)):=by
  by_cases u:DT a b=a.length
  ·rw [if_pos u]
  ·rw [if_neg u];by_cases v:DT a b=b.length
   ·rw [if_neg (by omega),h3 u v]
   ·rw [if_pos (by omega),AE];have hx:a[DT a b]? = some (a[DT a b]'(by omega)):=by simp
    have hy:b[DT a b]? = some (b[DT a b]'(by omega)):=by simp
    rw [AJ hx,AE,AJ hy,BB,h4 _ _ hx hy];unfold R9;by_cases w:(a[DT a b]'(by omega)).toNat<(b[DT a b]'(by omega)).toNat
    ·rw [if_pos (by omega),if_pos w]
    ·rw [if_neg (by omega),if_neg w]
 by_cases u:DT a b=a.length
 ·rw [if_pos (by omega),B7];by_cases v:DT a b=b.length
  ·rw [if_pos (by omega),h1 u v]
  ·rw [if_neg (by omega),B7,if_pos (by omega),h2 u v]
 ·rw [if_neg (by omega),B7,if_neg (by omega),BB,hl,if_neg u]
theorem Vh (a b:L4):LF a b>=0<->C6 a b=false:=by
 unfold LF;cases h:C6 a b with
 | true=>simp
 | false=>simp;split<;>omega
theorem GG (l:List AD) (hl:l.length<=9223372036854775807):Ca l=some (Et l):=by
 unfold Ca Et;simp only [AT,AP];rw [Az];by_cases h:l.length>5000
 ·rw [if_pos (by omega),if_pos h]
 rw [if_neg (by omega),if_neg h];obtain ⟨T,hT⟩ : ∃ T,T=Je none 0 l:=⟨_,rfl⟩;rw [<- hT]
 obtain ⟨r,q1,q2⟩:=Gm (l:=l) (σ:=Unit) (s:=((0:Int),((0:Int),(0:Int)))) (λk _=>((0:Int),((0:Int),(k:Int)))) (λm k _=>Je (if k=0 then none else (l[k-1]?).map (·.1)) k m=T/\(∀ y,k≠0->l[k-1]? = some y->kE y=0)) (λ(r:Nat×((Int×(Int×Int))×Unit))=>(r.1=1/\T=(0,0))\/(r.1=0/\T=(r.2.1.2.1,r.2.1.1)))
  (f:=λs0=>br (Am s0.2.2 (l.length:Int)) (λ_=>AV s0.2.2 λk1=>ix l k1 λx2=>bd (DQ x2) λr3=>br (Bg r3 0) (λ_=>br (CD s0.2.2 0) (λ_=>AV (Bz .i64 s0.2.2 1) λk4=>ix l k4 λx5=>AV s0.2.2 λk6=>ix l k6 λx7=>bd (D9 (x5.1,x7.1)) λr8=>br (Gz r8 0) (λ_=>some (.dn ((0,((6,(s0.2.2,s0.2.2)),()))))) λ_=>br (A6 r3 0) (λ_=>some (.dn ((0,((r3,(s0.2.2,s0.2.2)),()))))) λ_=>some (.nx ((s0.1,(s0.2.1,AH .i64 s0.2.2 1))))) λ_=>br (A6 r3 0) (λ_=>some (.dn ((0,((r3,(s0.2.2,s0.2.2)),()))))) λ_=>some (.nx ((s0.1,(s0.2.1,AH .i64 s0.2.2 1))))) λ_=>br (A6 r3 0) (λ_=>some (.dn ((0,((r3,(s0.2.2,s0.2.2)),()))))) λ_=>some (.nx ((s0.1,(s0.2.1,AH .i64 s0.2.2 1))))) λ_=>some (.dn ((1,(s0,())))))
  () rfl (by omega) ⟨hT.symm,λ_ h=>absurd rfl h⟩ (λ_ h=>by
   refine ⟨_,by simp only;rw [re];rfl,.inl ⟨rfl,?_⟩⟩;rw [<- h.1];simp [Je]) (λk x m _ hd hx hk h=>by
   simp only;obtain ⟨h,hprev⟩:=h;rw [rl hk,AR,AE,AJ hx,MA,AB,B7];unfold Je at h
   have next:kE x=0->(T=Je (some x.1) (k+1) m)->Je (if k+1=0 then none else (l[k+1-1]?).map (·.1)) (k+1) m=T/\(∀ y,k+1≠0->l[k+1-1]? = some y->kE y=0):=λh0 e=>by
    rw [if_neg (by omega),Nat.add_sub_cancel,hx,e];exact ⟨rfl,λy _ hy=>by cases hy;exact h0⟩
   by_cases h0:kE x=0
   ·rw [if_pos h0,Az];rw [if_neg (by simp [h0])] at h;by_cases hk0:k=0
    ·rw [if_neg (by omega),AQ,if_pos h0];rw [if_pos hk0] at h;exact .inl ⟨(),by rw [Al hx (by omega)],next h0 h.symm⟩
    ·have hy:l[k-1]? = some (l[k-1]'(by omega)):=by rw [List.getElem?_eq_getElem]
     rw [if_pos (by omega),show Bz .i64 (k:Int) 1=((k-1:Nat):Int) by rw [Bj (by omega)];omega,AE,AJ hy,AE,AJ hx];rw [if_neg hk0,hy] at h;simp only [Option.map_some] at h;rw [Ye _ _ (by have:=Oh (hprev _ hk0 hy);omega) (by have:=Oh h0;omega),AB,EQ];by_cases hs:C6 (l[k-1]'(by omega)).1 x.1=true
     ·rw [if_neg (λe=>by rw [Vh,hs] at e;cases e),AQ,if_pos h0];rw [if_pos hs] at h;exact .inl ⟨(),by rw [Al hx (by omega)],next h0 h.symm⟩
     ·rw [if_pos ((Vh _ _).2 (by simpa using hs))];rw [if_neg hs] at h;exact .inr ⟨_,rfl,.inr ⟨rfl,h.symm⟩⟩
   ·rw [if_neg h0,AQ,if_neg h0];rw [if_pos h0] at h
    exact .inr ⟨_,rfl,.inr ⟨rfl,h.symm⟩⟩)
 refine BD q1 ?_;rw [CM];rcases q2 with ⟨q2,q3⟩ | ⟨q2,q3⟩
 ·rw [if_neg (show ¬ r.1=0 by omega),q3]
 ·rw [if_pos q2,q3]
theorem Yf (p q:AO) (hp:EH p) (hq:EH q):Ek ([p,q],(0,1))=some (w0 p q):=by
 unfold Ek w0;refine (EU 0 rfl (x:=p) rfl).trans ((EU 1 rfl (x:=q) rfl).trans ?_);rw [beq_eq,CZ,Ch,BY,Fe];by_cases h1:p.2=q.2
 ·rw [if_neg (show ¬ ¬ p.2=q.2 by simp [h1]),if_neg (show ¬ p.2≠q.2 by simp [h1])];by_cases h2:p.2=true
  ·rw [if_pos h2,hp h2,hq (h1 ▸ h2)];rfl
  ·rw [if_neg h2,BY,ET];by_cases h3:p.1=q.1
   ·rw [if_pos h3,if_neg (by simp [h3])];rfl
   ·rw [if_neg h3,if_pos h3]
 ·rw [if_pos h1,if_pos h1]
theorem NS (p q:AO) (n:Nat) (k:Int) (h:2<=k) (hk:k<=100):Jc Ap (n+1) ([p,q],k)=some (k-2,0):=by
 show Ap (Jc Ap n) ([p,q],k)=_;unfold Ap;show br (Gz k 2) (λ_=>some (Bz .i64 k 2,0)) _=_;rw [EQ,if_pos h,Bj (by omega)]
theorem Ol (p q:AO) (hp:EH p) (hq:EH q):Fo ([p,q],1)=some (if w0 p q=true then (0,1) else (1,0)):=by
 show Ap (Jc Ap 99) ([p,q],1)=_;unfold Ap;show br (Gz (1:Int) 2) (λ_=>some (Bz .i64 (1:Int) 2,0)) (λ_=>bd (Jc Ap (98+1) ([p,q],2)) λr0=>bd (Jc Ap (98+1) ([p,q],3)) _)=_;rw [EQ,if_neg (by omega),NS p q 98 2 (by omega) (by omega),AB,NS p q 98 3 (by omega) (by omega),AB];show bd (Ek ([p,q],(0,1))) _=_;rw [Yf p q hp hq,AB,Fe];cases h:w0 p q<;>rfl
theorem Yg (p q:AO) (hp:EH p) (hq:EH q):Fp [p,q]=some (Tt p q):=by
 unfold Fp;refine Eq.trans (b:=bd (loop _ (1,([p,q],([0,0],0)))) _) rfl ?_;refine BD (x:=(0,((2,([p,q],([0,if w0 p q=true then 1 else 0],0))),()))) (CL (n:=2) (by omega) ((A7 (s':=(2,([p,q],([0,if w0 p q=true then 1 else 0],0)))) ?_).trans (BL rfl))) ?_
 ·show bd (Fo ([p,q],1)) _=_;rw [Ol p q hp hq,AB];refine (Jh 1 rfl (x:=(0:Int)) rfl).trans ?_;cases h:w0 p q<;>rfl
 ·rw [Ol p q hp hq,AB];unfold Tt;cases h:w0 p q<;>rfl
theorem Wj {l:List AO} (h : ∀ k∈l,EH k) (h0:l≠[]) (hl:l.length<=32):E1 l=some 0:=by
 unfold E1;simp only [AT,AP];rw [B7,Az,if_neg (by have:=List.length_pos_iff.2 h0;omega),if_neg (by omega)]
 rw [Dk (l:=l) (σ:=Unit) (s:=((0:Int),(0:Int))) (λk _=>((k:Int),(0:Int))) (λ_ _ _=>True) (λ_ _ _=>(1,(((l.length:Int),0),()))) () rfl (by omega) trivial (λst _=>by
  simp only;rw [re];rfl) (λk x m st _ hx hk _=>⟨(),by
   simp only;rw [rl hk,AR,AE,AJ hx,Fe,Al hx (by omega)];by_cases hd:x.2=true
   ·rw [if_pos hd,AE,AJ hx,BY,ET,if_pos (h x (List.mem_of_getElem? hx) hd)]
   ·rw [if_neg hd],trivial,rfl⟩),AB]
 rfl
theorem Wk (p q:AO) (hp:EH p) (hq:EH q):EA [p,q]=some (Tt p q,0):=by
 unfold EA;rw [Wj (by simp [hp,hq]) (by simp) (by simp),AB,AQ,if_pos rfl,Yg p q hp hq,AB]
end Go.Proofs.YthpkjfabdccpdaaGreat.Pl
namespace Go.Proofs.YthpkjfabdccpdaaGreat.Pl
open Go Go.Proofs.YthpkjfabdccpdaaGreat.Sv
theorem GS:Cf=BK:=rfl
theorem Om:Ip=Ac:=rfl
theorem UT (l m:List AO) (hb:l.length<=9223372036854775806) (hl:l.length=m.length) : ∃ r,loop (λs1=>br (Am s1.1 (l.length:Int)) (λ_=>AV s1.1 λk2=>ix l k2 λx3=>AV s1.1 λk4=>ix m k4 λx5=>br (AX (Bb (seq x3.1 x5.1) (Bb (Sv.beq x3.2 x5.2) true))) (λ_=>some (LR.dn ((0:Nat),((s1.1,false),())))) λ_=>some (.nx (AH .i64 s1.1 1,s1.2))) λ_=>some (.dn ((1,(s1,()))))) ((0:Int),false)=some r/\((l=m/\r.1=1)\/(l≠m/\r.1=0/\r.2.1.2=false)):=by
 refine IH l m hl hb (λk x y hx hy => ?_) (by simp only;rw [re];rfl);have hk:=(List.getElem?_eq_some_iff.1 hx).1
 have he : ∀ {β:Type} (u v:Unit->Option β),br (AX (Bb (seq x.1 y.1) (Bb (Sv.beq x.2 y.2) true))) u v=if x=y then v () else u ():=by
  intro β u v;rw [L9,LB,beq_eq,In,CZ,Ch];by_cases e:x=y
  ·subst e;simp
  ·rw [if_pos (λh=>e (Prod.ext h.1 h.2)),if_neg e]
 constructor
 ·intro e;simp only;rw [rl hk,AR,AE,AJ hx,AE,AJ hy,he,if_pos e,Aa (by omega)]
 ·intro e;simp only;rw [rl hk,AR,AE,AJ hx,AE,AJ hy,he,if_neg e]
theorem On (s t:Dw) (h1:s.1.length<=1000) (h2:s.2.1.length<=1000):Gu (s,t)=some (decide (s=t)):=by
 obtain ⟨sk,sl,sw⟩:=s;obtain ⟨tk,tl,tw⟩:=t;simp only at h1 h2;unfold Gu;simp only [AT,AP];rw [AQ];by_cases e1:(sk.length:Int)=(tk.length:Int);rotate_left
 ·rw [if_neg e1];have : ¬ sk=tk:=λe=>e1 (by rw [e]);simp [this]
 rw [if_pos e1,AQ];by_cases e2:sw=tw;rotate_left
 ·rw [if_neg e2];simp [e2]
 rw [if_pos e2,Om,KK _ _ (by omega),AB,CZ,Ch];by_cases e3:sl=tl;rotate_left
 ·rw [if_pos e3];simp [e3]
 rw [if_neg (show ¬ ¬ sl=tl by simp [e3])];obtain ⟨r,q1,q2⟩:=UT sk tk (by omega) (by omega);refine BD q1 ?_;rw [CM];rcases q2 with ⟨e,q2⟩ | ⟨e,q2,q3⟩
 ·rw [if_neg (show ¬ r.1=0 by omega)];simp [e,e2,e3]
 ·rw [if_pos q2,q3];simp [e]
theorem Sr (s t:AN) (h1:s.1.length<=1000) (h2 : ∀ l∈s.1,l.length<=1000000) (h3:s.2.1.length<=1000) (h4:s.2.2.1.length<=1000) (h5:s.2.2.2.1.length<=1000):Is (s,t)=some (decide (s=t)):=by
 obtain ⟨sr,sa,st⟩:=s;obtain ⟨tr,ta,tt⟩:=t;simp only at h1 h2 h3 h4 h5;unfold Is;simp only [AT,AP];rw [AQ];by_cases e1:(sr.length:Int)=(tr.length:Int);rotate_left
 ·rw [if_neg e1];have : ¬ sr=tr:=λe=>e1 (by rw [e]);simp [this]
 rw [if_pos e1,Om,KK _ _ (by omega),AB,CZ,Ch];by_cases e2:sa=ta;rotate_left
 ·rw [if_pos e2];simp [e2]
 rw [if_neg (show ¬ ¬ sa=ta by simp [e2]),On _ _ h4 h5,AB,CZ,Ch];by_cases e3:st=tt;rotate_left
 ·rw [if_pos e3];simp [e3]
 rw [if_neg (show ¬ ¬ st=tt by simp [e3])]
 obtain ⟨r,q1,q2⟩:=IH sr tr (by omega) (by omega) (f:=λs2=>br (Am s2.1 (sr.length:Int)) (λ_=>AV s2.1 λk3=>ix sr k3 λx4=>AV s2.1 λk5=>ix tr k5 λx6=>bd (Cf (x4,x6)) λr7=>br (AX r7) (λ_=>some (.dn ((0,((s2.1,false),()))))) λ_=>some (.nx (AH .i64 s2.1 1,s2.2))) λ_=>some (.dn ((1,(s2,()))))) (λk x y hx hy=>by
   have hk:=(List.getElem?_eq_some_iff.1 hx).1;have hx1:=h2 x (List.mem_of_getElem? hx);constructor
   ·intro e;simp only;rw [rl hk,AR,AE,AJ hx,AE,AJ hy,GS,Fl _ _ (by omega),AB,CZ,Ch,if_neg (by simp [e]),Aa (by omega)]
   ·intro e;simp only
    rw [rl hk,AR,AE,AJ hx,AE,AJ hy,GS,Fl _ _ (by omega),AB,CZ,Ch,if_pos e]) (by simp only;rw [re];rfl)
 refine BD q1 ?_;rw [CM];rcases q2 with ⟨e,q2⟩ | ⟨e,q2,q3⟩
 ·rw [if_neg (show ¬ r.1=0 by omega)];simp [e,e2,e3]
 ·rw [if_pos q2,q3];simp [e]
theorem UU (x y:Ii) (h1:x.1.1.length<=1000) (h2 : ∀ l∈x.1.1,l.length<=1000000) (h3:x.1.2.1.length<=1000) (h4:x.1.2.2.1.length<=1000) (h5:x.1.2.2.2.1.length<=1000) (h6:x.2.2.1.length<=1000000):Bm (x,y)=some (decide (x=y)):=by
 obtain ⟨xm,⟨xs,xt,xb⟩,xo,xn⟩:=x;obtain ⟨ym,⟨ys,yt,yb⟩,yo,yn⟩:=y;simp only at h1 h2 h3 h4 h5 h6;unfold Bm;simp only [Sr _ _ h1 h2 h3 h4 h5,GS,Fl _ _ (show xo.length<=9223372036854775806 by omega),AB,Ch,FH,LB,beq_eq,L9,In]
 repeat' split
 all_goals simp_all
section
variable {a b:List AD} (va:VL a) (vb:VL b)
include va vb
theorem LG:DS [a,b]=some (0,0):=by
 have la:=va.len;have lb:=vb.len;unfold DS;refine Eq.trans (b:=bd (loop _ (0,(0,0))) _) rfl ?_;refine BD (x:=(1,((0,(0,2)),()))) (CS (s1:=(0,(0,1))) (s2:=(0,(0,2))) ?_ ?_ rfl) rfl
 ·refine (NZ 0 rfl rfl (x:=a) rfl).trans ?_;rw [GG _ (by omega),Jf va,AB];rfl
 ·refine (NZ 1 rfl rfl (x:=b) rfl).trans ?_;rw [GG _ (by omega),Jf vb,AB];rfl
theorem Iv {i j:Nat} (hi:i<=a.length) (hj:j<=b.length):E3 ([a,b],[(i:Int),(j:Int)])=some (if i=a.length/\j=b.length then -1 else if HR a b i j=true then 0 else 1):=by
 have la:=va.len;have lb:=vb.len;unfold E3;simp only [AT,AP];refine BD (x:=(0,((if i=a.length/\j=b.length then -1 else if HR a b i j=true then 0 else 1,2),()))) (CS (s1:=(if i=a.length then -1 else 0,1)) (s2:=(if i=a.length/\j=b.length then -1 else if HR a b i j=true then 0 else 1,2)) ?_ ?_ rfl) rfl
 ·refine (NZ 0 rfl rfl (x:=(i:Int)) rfl).trans ((EU 0 rfl (x:=a) rfl).trans ?_);rw [BB];by_cases h:i=a.length
  ·rw [if_neg (by omega),if_pos h];rfl
  ·rw [if_pos (by omega),if_neg h];rfl
 ·refine (NZ 1 rfl rfl (x:=(j:Int)) rfl).trans ((EU 1 rfl (x:=b) rfl).trans ?_);rw [BB];by_cases h:j=b.length
  ·rw [if_neg (by omega)];by_cases h2:i=a.length
   ·rw [if_pos h2,if_pos ⟨h2,h⟩];rfl
   ·rw [if_neg h2,if_neg (λh3=>h2 h3.1)];have hx:a[i]? = some (a[i]'(by omega)):=by simp
    rw [Va hx (List.getElem?_eq_none (by omega))];rfl
  ·have hy:b[j]? = some (b[j]'(by omega)):=by simp
   rw [if_pos (by omega),BB,if_neg (λh3:i=a.length/\j=b.length=>h h3.2)];by_cases h2:i=a.length
   ·rw [if_pos h2,if_pos (by omega),Vb (List.getElem?_eq_none (by omega)) hy];rfl
   ·rw [if_neg h2,if_neg (by omega)];have hx:a[i]? = some (a[i]'(by omega)):=by simp
    refine (EU 1 rfl (x:=b) rfl).trans ((EU 1 rfl (x:=(j:Int)) rfl).trans ((EU j rfl hy).trans ((EU 0 rfl (x:=a) rfl).trans ((EU 0 rfl (x:=(i:Int)) rfl).trans ((EU i rfl hx).trans ?_)))));rw [GB,Oc hx hy];cases hs:C6 (b[j]'(by omega)).1 (a[i]'(by omega)).1<;>rfl
theorem Iw {i j:Nat} (hi:i<=a.length) (hj:j<=b.length):Cp ([a,b],[(i:Int),(j:Int)])=some (LJ a b i j):=by
 have la:=va.len;have lb:=vb.len;unfold Cp;simp only [AT,AP];rw [CR (show [a,b].length<=1048576 from (show 2<=1048576 by omega)),CR (show [(i:Int),(j:Int)].length<=1048576 from (show 2<=1048576 by omega))];refine BD (x:=(0,((2,[kx a i,kx b j]),()))) (CS (s1:=(1,[kx a i])) (s2:=(2,[kx a i,kx b j])) ?_ ?_ rfl) ?_
 ·refine (NZ 0 rfl rfl (x:=(i:Int)) rfl).trans ((EU 0 rfl (x:=a) rfl).trans ?_);rw [FH,CZ,Ch];by_cases h:i=a.length
  ·have hne:((i:Int)=(a.length:Int)):=by omega
   rw [if_neg (show ¬ ¬ ((i:Int)=(a.length:Int)) by simp [hne]),L8 (List.getElem?_eq_none (by omega))];simp only [hne,decide_true];rfl
  ·have hx:a[i]? = some (a[i]'(by omega)):=by simp
   have hne : ¬ ((i:Int)=(a.length:Int)):=by omega
   rw [if_pos hne];refine (EU 0 rfl (x:=a) rfl).trans ((EU 0 rfl (x:=(i:Int)) rfl).trans ((EU i rfl hx).trans ?_));rw [Fj hx];simp only [hne,decide_false];rfl
 ·refine (NZ 1 rfl rfl (x:=(j:Int)) rfl).trans ((EU 1 rfl (x:=b) rfl).trans ?_);rw [FH,CZ,Ch];by_cases h:j=b.length
  ·have hne:((j:Int)=(b.length:Int)):=by omega
   rw [if_neg (show ¬ ¬ ((j:Int)=(b.length:Int)) by simp [hne]),L8 (l:=b) (i:=j) (List.getElem?_eq_none (by omega))];simp only [hne,decide_true];rfl
  ·have hx:b[j]? = some (b[j]'(by omega)):=by simp
   have hne : ¬ ((j:Int)=(b.length:Int)):=by omega
   rw [if_pos hne];refine (EU 1 rfl (x:=b) rfl).trans ((EU 1 rfl (x:=(j:Int)) rfl).trans ((EU j rfl hx).trans ?_));rw [Fj (l:=b) (i:=j) hx];simp only [hne,decide_false];rfl
 ·show bd (EA [kx a i,kx b j]) _=_;rw [Wk _ _ (BW _ _) (BW _ _)];rfl
theorem Vi {i:Nat} {l:List AD} (h:i≠0) (hi:i<=l.length) : ∃ x,l[i-1]? = some x:=⟨l[i-1]'(by omega),by simp⟩
theorem M8 {i j:Nat} (I:Inv a b i j):E4 (LJ a b i j)=some (0,0):=by
 have la:=va.len;have lb:=vb.len;have hi:=I.ia;have hj:=I.jb;unfold E4;rw [show (LJ a b i j).1=[a,b] from rfl,LG va vb,AB,AQ,if_pos rfl];rw [show (LJ a b i j).2.1=[(i:Int),(j:Int)] from rfl,AQ,if_pos (show AZ (AA [(i:Int),(j:Int)])=AZ (AA [a,b]) from rfl)];refine BD (x:=(1,((0,(0,2)),()))) (CS (s1:=(0,(0,1))) (s2:=(0,(0,2))) ?_ ?_ rfl) ?_
 ·refine (NZ 0 rfl rfl (x:=(i:Int)) rfl).trans ?_;rw [BB,if_neg (by omega)];refine (EU 0 rfl (x:=(i:Int)) rfl).trans ((EU 0 rfl (x:=a) rfl).trans ?_);rw [Az,if_neg (by simp only [AT,AP];omega)];rfl
 ·refine (NZ 1 rfl rfl (x:=(j:Int)) rfl).trans ?_;rw [BB,if_neg (by omega)];refine (EU 1 rfl (x:=(j:Int)) rfl).trans ((EU 1 rfl (x:=b) rfl).trans ?_);rw [Az,if_neg (by simp only [AT,AP];omega)];rfl
 rw [show neq ((1:Nat),(((0:Int),((0:Int),(2:Int))),())).1 0=false from rfl,Ao,Iw va vb hi hj,AB,On (LJ a b i j).2.2 (LJ a b i j).2.2 (show 2<=1000 by omega) (show 2<=1000 by omega),AB,CZ,Ch,if_neg (show ¬ ¬ (LJ a b i j).2.2=(LJ a b i j).2.2 by simp),Iv va vb hi hj,AB];by_cases hd:i=a.length/\j=b.length
 ·rw [if_pos hd];refine BD (x:=(1,((0,(0,0)),()))) (CL (n:=1) (by omega) (BL ?_)) rfl;rfl
 rw [if_neg hd];cases g:HR a b i j with
 | true =>
  rw [if_pos rfl]
  have hil:i<a.length:=by
   refine Nat.lt_of_not_le λh' => ?_;have hb2:j<b.length:=by omega
   rw [Vb (List.getElem?_eq_none h') (show b[j]? = some (b[j]'hb2) by simp)] at g;cases g
  have hx:a[i]? = some (a[i]'hil):=by simp
  refine BD (x:=(1,((0,(0,2)),()))) (CS (s1:=(0,(0,1))) (s2:=(0,(0,2))) ?_ ?_ rfl) rfl
  ·show br (Am (0:Int) 2) _ _=_;rw [BB,if_pos (by omega),EQ,if_pos (by omega)];refine (EU 0 rfl (x:=(i:Int)) rfl).trans ?_;rw [B7];by_cases h0:i=0
   ·rw [if_pos (by omega)];rfl
   ·rw [if_neg (by omega)];obtain ⟨y,hy⟩:=Vi va vb (l:=a) h0 hi;refine (EU 0 rfl (x:=a) rfl).trans ((EU 0 rfl (x:=(i:Int)) rfl).trans ?_);rw [show Bz .i64 (i:Int) 1=((i-1:Nat):Int) by rw [Bj (by omega)];omega,AE,AJ hy];refine (EU 0 rfl (x:=a) rfl).trans ((EU 0 rfl (x:=(i:Int)) rfl).trans ((EU i rfl hx).trans ?_));have hlt:=va.lt hy (show a[i-1+1]? = some _ by rw [show i-1+1=i by omega];exact hx);rw [GB,if_neg (by rw [Dj hlt];simp),ET,if_neg (UG hlt)];rfl
  ·show br (Am (1:Int) 2) _ _=_;rw [BB,if_pos (by omega),EQ,if_pos (by omega)];refine (EU 1 rfl (x:=(j:Int)) rfl).trans ?_;rw [B7];by_cases h0:j=0
   ·rw [if_pos (by omega)];rfl
   ·rw [if_neg (by omega)];obtain ⟨y,hy⟩:=Vi va vb (l:=b) h0 hj;refine (EU 1 rfl (x:=b) rfl).trans ((EU 1 rfl (x:=(j:Int)) rfl).trans ?_);rw [show Bz .i64 (j:Int) 1=((j-1:Nat):Int) by rw [Bj (by omega)];omega,AE,AJ hy];refine (EU 0 rfl (x:=a) rfl).trans ((EU 0 rfl (x:=(i:Int)) rfl).trans ((EU i rfl hx).trans ?_));have hlt:=I.pb (j-1) (by omega) y _ hy hx;rw [GB,if_neg (by rw [Dj hlt];simp),ET,if_neg (UG hlt)];rfl
 | false =>
  rw [if_neg (by simp)]
  have hjl:j<b.length:=by
   refine Nat.lt_of_not_le λh' => ?_;have ha2:i<a.length:=by omega
   rw [Va (show a[i]? = some (a[i]'ha2) by simp) (List.getElem?_eq_none h')] at g;cases g
  have hx:b[j]? = some (b[j]'hjl):=by simp
  refine BD (x:=(1,((0,(0,2)),()))) (CS (s1:=(0,(0,1))) (s2:=(0,(0,2))) ?_ ?_ rfl) rfl
  ·show br (Am (0:Int) 2) _ _=_;rw [BB,if_pos (by omega),EQ,if_pos (by omega)];refine (EU 0 rfl (x:=(i:Int)) rfl).trans ?_;rw [B7];by_cases h0:i=0
   ·rw [if_pos (by omega)];rfl
   ·rw [if_neg (by omega)];obtain ⟨y,hy⟩:=Vi va vb (l:=a) h0 hi;refine (EU 0 rfl (x:=a) rfl).trans ((EU 0 rfl (x:=(i:Int)) rfl).trans ?_);rw [show Bz .i64 (i:Int) 1=((i-1:Nat):Int) by rw [Bj (by omega)];omega,AE,AJ hy];refine (EU 1 rfl (x:=b) rfl).trans ((EU 1 rfl (x:=(j:Int)) rfl).trans ((EU j rfl hx).trans ?_));have hle:=I.pa (i-1) (by omega) y _ hy hx;rw [GB,if_neg (by rw [hle];simp),ET];by_cases he:y.1=(b[j]'hjl).1
    ·rw [if_pos he];rfl
    ·rw [if_neg he];rfl
  ·show br (Am (1:Int) 2) _ _=_;rw [BB,if_pos (by omega),EQ,if_pos (by omega)];refine (EU 1 rfl (x:=(j:Int)) rfl).trans ?_;rw [B7];by_cases h0:j=0
   ·rw [if_pos (by omega)];rfl
   ·rw [if_neg (by omega)];obtain ⟨y,hy⟩:=Vi va vb (l:=b) h0 hj;refine (EU 1 rfl (x:=b) rfl).trans ((EU 1 rfl (x:=(j:Int)) rfl).trans ?_);rw [show Bz .i64 (j:Int) 1=((j-1:Nat):Int) by rw [Bj (by omega)];omega,AE,AJ hy];refine (EU 1 rfl (x:=b) rfl).trans ((EU 1 rfl (x:=(j:Int)) rfl).trans ((EU j rfl hx).trans ?_));have hlt:=vb.lt hy (show b[j-1+1]? = some _ by rw [show j-1+1=j by omega];exact hx);rw [GB,if_neg (by rw [Dj hlt];simp),ET,if_neg (UG hlt)];rfl
end
end Go.Proofs.YthpkjfabdccpdaaGreat.Pl
namespace Go.Proofs.YthpkjfabdccpdaaGreat.Pl
open Go Go.Proofs.YthpkjfabdccpdaaGreat.Sv
section
variable {a b:List AD} (va:VL a) (vb:VL b)
include va vb
theorem Yh {n:Nat} {x:AD} (h:n<a.length+b.length) (hx:NY a b n=some x):Fs (LD a b n)=some (x,((Od a b n:Int),(LD a b (n+1),0))):=by
 obtain ⟨hI,hs⟩:=FG va vb (n:=n) (by omega);obtain ⟨hI2,hs2⟩:=FG va vb (n:=n+1) (by omega);have la:=va.len;have lb:=vb.len;have hia:=hI.ia;have hjb:=hI.jb;unfold Fs;rw [show LD a b n=LJ a b (Ai a b n).1 (Ai a b n).2 from rfl,M8 va vb hI,AB,AQ,if_pos rfl,show (LJ a b (Ai a b n).1 (Ai a b n).2).1=[a,b] from rfl,show (LJ a b (Ai a b n).1 (Ai a b n).2).2.1=[((Ai a b n).1:Int),((Ai a b n).2:Int)] from rfl,Iv va vb hia hjb,AB,if_neg (λhh:(Ai a b n).1=a.length/\(Ai a b n).2=b.length=>by omega)];unfold NY at hx;have hpos:Ai a b (n+1)=if HR a b (Ai a b n).1 (Ai a b n).2=true then ((Ai a b n).1+1,(Ai a b n).2) else ((Ai a b n).1,(Ai a b n).2+1):=rfl
 unfold LD Od;cases g:HR a b (Ai a b n).1 (Ai a b n).2 with
 | true =>
  rw [g,if_pos rfl] at hpos;rw [g,if_pos rfl] at hx;have hi:=(List.getElem?_eq_some_iff.1 hx).1;rw [if_pos rfl,BB,if_neg (by omega),CR (show AA [((Ai a b n).1:Int),((Ai a b n).2:Int)]<=1048576 from (show 2<=1048576 by omega))];refine (Jh 0 rfl (x:=((Ai a b n).1:Int)) rfl).trans ((Jh 0 rfl (x:=((Ai a b n).1:Int)) rfl).trans ((EU 0 rfl (x:=a) rfl).trans ((EU 0 rfl (x:=((Ai a b n).1:Int)) rfl).trans ((EU _ rfl hx).trans ?_))));rw [Aa (by omega),show lset [((Ai a b n).1:Int),((Ai a b n).2:Int)] 0 (((Ai a b n).1+1:Nat):Int)=[(((Ai a b n).1+1:Nat):Int),((Ai a b n).2:Int)] from rfl,Iw va vb (by omega) hjb,AB,hpos];rfl
 | false =>
  rw [g,if_neg (by simp)] at hpos;rw [g,if_neg (by simp)] at hx;have hi:=(List.getElem?_eq_some_iff.1 hx).1;rw [if_neg (by simp),BB,if_neg (by omega),CR (show AA [((Ai a b n).1:Int),((Ai a b n).2:Int)]<=1048576 from (show 2<=1048576 by omega))];refine (Jh 1 rfl (x:=((Ai a b n).2:Int)) rfl).trans ((Jh 1 rfl (x:=((Ai a b n).2:Int)) rfl).trans ((EU 1 rfl (x:=b) rfl).trans ((EU 1 rfl (x:=((Ai a b n).2:Int)) rfl).trans ((EU _ rfl hx).trans ?_))));rw [Aa (by omega),show lset [((Ai a b n).1:Int),((Ai a b n).2:Int)] 1 (((Ai a b n).2+1:Nat):Int)=[((Ai a b n).1:Int),(((Ai a b n).2+1:Nat):Int)] from rfl,Iw va vb hia (by omega),AB,hpos];rfl
theorem Yi {n:Nat} (h:n<=a.length+b.length):Ir (LD a b n)=some (((a.length+b.length-n:Nat):Int),0):=by
 obtain ⟨hI,hs⟩:=FG va vb (n:=n) h;have la:=va.len;have lb:=vb.len;have ha:=hI.ia;have hb:=hI.jb;unfold Ir;rw [show LD a b n=LJ a b (Ai a b n).1 (Ai a b n).2 from rfl,M8 va vb hI,AB,AQ,if_pos rfl];refine BD (x:=(0,((2,((a.length+b.length-n:Nat):Int)),()))) (CS (s1:=(1,(a.length:Int)-((Ai a b n).1:Int))) (s2:=(2,((a.length+b.length-n:Nat):Int))) ?_ ?_ rfl) rfl
 ·refine (NZ 0 rfl rfl (x:=a) rfl).trans ((EU 0 rfl (x:=((Ai a b n).1:Int)) rfl).trans ?_);simp only [AT,AP];rw [show AH .i64 (0:Int) (a.length:Int)=(a.length:Int) by rw [DC (by omega),Int.zero_add],Bj (by omega)];rfl
 ·refine (NZ 1 rfl rfl (x:=b) rfl).trans ((EU 1 rfl (x:=((Ai a b n).2:Int)) rfl).trans ?_);simp only [AT,AP];show some (LR.nx ((2:Int),Bz .i64 (AH .i64 ((a.length:Int)-((Ai a b n).1:Int)) (b.length:Int)) ((Ai a b n).2:Int)))=_;rw [DC (by omega),Bj (by omega),show (a.length:Int)-((Ai a b n).1:Int)+(b.length:Int)-((Ai a b n).2:Int)=((a.length+b.length-n:Nat):Int) by omega]
theorem Vj:Gc [a,b]=some (Aw a b (a.length+b.length),(HF a b (a.length+b.length),0)):=by
 have la:=va.len;have lb:=vb.len;unfold Gc;rw [LG va vb,AB,AQ,if_pos rfl];refine Eq.trans (b:=bd (loop _ ([],([],([],(0,([],[0,0])))))) _) rfl ?_
 refine BD (x:=(0,((HF a b (a.length+b.length),(Aw a b (a.length+b.length),0)),())))
  (IG (λk=>([],(Aw a b k,([],(0,(HF a b k,[((Ai a b k).1:Int),((Ai a b k).2:Int)])))))) 0 (a.length+b.length) rfl (by omega) (by omega) (λk _ hk => ?_) ?_) rfl
 ·obtain ⟨x,hx,_⟩:=D4 va vb (n:=k) hk;obtain ⟨hI,hs⟩:=FG va vb (n:=k) (by omega);have hl1:(Aw a b k).length=k:=CY va vb (by omega);have hl2:=M4 a b k;simp only;rw [Iv va vb hI.ia hI.jb,AB,if_neg (λhh:(Ai a b k).1=a.length/\(Ai a b k).2=b.length=>by omega)];rw [GE va vb hx];unfold NY at hx;rw [show HF a b (k+1)=HF a b k++[(Od a b k:Int)] from rfl];unfold Od;rw [show Ai a b (k+1)=if HR a b (Ai a b k).1 (Ai a b k).2=true then ((Ai a b k).1+1,(Ai a b k).2) else ((Ai a b k).1,(Ai a b k).2+1) from rfl]
  have g1 : ∀ {β:Type} (y:AD) (q:Unit->Option β),gd (Bo (BF (AA (Aw a b k)) (AA [y])) 1048576) q=q ():=λy q=>CR (by simp only [BF,AA,hl1,List.length_cons,List.length_nil];omega) q;have g2 : ∀ {β:Type} (y:Int) (q:Unit->Option β),gd (Bo (BF (AA (HF a b k)) (AA [y])) 1048576) q=q ():=λy q=>CR (by simp only [BF,AA,hl2,List.length_cons,List.length_nil];omega) q;cases g:HR a b (Ai a b k).1 (Ai a b k).2 with
  | true =>
   rw [g,if_pos rfl] at hx;have hi:=(List.getElem?_eq_some_iff.1 hx).1;simp only [if_true];rw [BB,if_neg (by omega)];refine (EU 0 rfl (x:=a) rfl).trans ((Jh 0 rfl (x:=((Ai a b k).1:Int)) rfl).trans ((EU _ rfl hx).trans ?_));rw [g1,g2];refine (Jh 0 rfl (x:=((Ai a b k).1:Int)) rfl).trans ((Jh 0 rfl (x:=((Ai a b k).1:Int)) rfl).trans ?_);rw [Aa (by omega)];rfl
  | false =>
   rw [g,if_neg (by simp)] at hx;have hi:=(List.getElem?_eq_some_iff.1 hx).1;simp only [Bool.false_eq_true,if_false];rw [BB,if_neg (by omega)];refine (EU 1 rfl (x:=b) rfl).trans ((Jh 1 rfl (x:=((Ai a b k).2:Int)) rfl).trans ((EU _ rfl hx).trans ?_));rw [g1,g2];refine (Jh 1 rfl (x:=((Ai a b k).2:Int)) rfl).trans ((Jh 1 rfl (x:=((Ai a b k).2:Int)) rfl).trans ?_);rw [Aa (by omega)];rfl
 ·obtain ⟨hI,hs⟩:=FG va vb (n:=a.length+b.length) (Nat.le_refl _);simp only;rw [Iv va vb hI.ia hI.jb,AB,if_pos (show (Ai a b (a.length+b.length)).1=a.length/\(Ai a b (a.length+b.length)).2=b.length by have:=hI.ia;have:=hI.jb;omega),BB,if_pos (by omega)]
end
theorem Ss {s:Bu} (h1:s.2.1.length<=32) (h2:s.1=false->s.2.1=[]):Hr s=some 0:=by
 unfold Hr;rw [Az,if_neg (by simp only [AT,Ik];omega),BY,Fe];cases h:s.1 with
 | true=>rfl
 | false=>rw [if_neg (by simp),BY,ET,if_pos (h2 h)]
theorem UV {s:Bu} {x:AD} (h1:s.2.1.length<=32) (h2:s.1=false->s.2.1=[]) (h3:kE x=0) (h4:s.1=true->C6 x.1 s.2.1=false):Iq (s,x)=some (keep s x,((true,(x.1,s.2.2)),0)):=by
 unfold Iq keep;rw [Ss h1 h2,AB,B7,if_pos rfl,MA,h3,AB,B7,if_pos rfl];obtain ⟨s1,s2,s3⟩:=s;obtain ⟨x1,x2,x3,x4⟩:=x;simp only at h4 ⊢;cases s1 with
 | true =>
  have:=h4 rfl;simp only [AR,GB,this,Bool.false_eq_true,if_false,AQ,if_true,BY,ET];by_cases he:x1=s2
  ·simp [he,Ao]
  ·simp only [he,if_false,decide_false];cases s3<;>cases x3<;>rfl
 | false =>
  simp only [Ao,AQ,if_true,BY];cases s3<;>cases x3<;>rfl
theorem UW {l:List AD} {bt:Bool} (hl:l.length<=20000) (hr:Og (false,([],bt)) l):HJ (l,bt)=some (Ez (false,([],bt)) l,(0,0)):=by
 unfold HJ Cq;simp only [AT,AP];rw [Az,if_neg (by omega),AB]
 rw [Dk (l:=l) (σ:=Bu×List AD) (s:=(0,(0,([],([],(0,(false,([],bt)))))))) (λk st=>((0:Int),((k:Int),(([]:List AD),(st.2,((0:Int),st.1))))))
  (λm k st=>Og st.1 m/\st.1.2.1.length<=32/\(st.1.1=false->st.1.2.1=[])/\st.2.length<=k/\k+m.length=l.length)
  (λm k st=>(1,((0,((l.length:Int),([],(st.2++Ez st.1 m,(0,CH st.1 m))))),()))) ((false,([],bt)),[]) rfl (by omega) ⟨hr,by simp,λ_=>rfl,by simp,by simp⟩ ?_ ?_,AB]
 ·simp;rfl
 ·intro st _;simp only;rw [re,Ao];simp [CH,Ez]
 ·rintro k x m ⟨s,out⟩ hm hx hk ⟨⟨h1,h2,h3⟩,h4,h5,h6,h7⟩;simp only at h1 h2 h3 h4 h5 h6 ⊢;refine ⟨((true,(x.1,s.2.2)),out++if keep s x=true then [x] else []),?_,⟨h3,Oh h1,(λh=>by cases h),?_,by simp at h7;omega⟩,?_⟩
  ·rw [rl hk,AR,AE,AJ hx,UV h4 h5 h1 h2,AB,AQ,if_pos rfl,Fe,AE,AJ hx];have hg : ∀ {β:Type} (k:Unit->Option β),gd (Bo (BF out.length [x].length) 1048576) k=k ():=λk=>Vf h6 (by simp at h7;omega) x k;rw [hg,Al hx (show l.length<=9223372036854775807 by omega)];cases hk2:keep s x<;>simp [C3]
  ·split<;>simp<;>omega
  ·simp only [CH,Ez,List.append_assoc]
section
variable {a b:List AD} (va:VL a) (vb:VL b)
include va vb
theorem P7 (bt:Bool) {n:Nat} (h:n<=a.length+b.length):EX (Aw a b n,bt)=some (Ez (s0 bt) (Aw a b n),CH (s0 bt) (Aw a b n)):=by
 have la:=va.len;have lb:=vb.len;have hml:(Aw a b n).length=n:=CY va vb h;unfold EX;simp only [AT,AP];rw [UW (by omega) (HG va vb bt h),AB];unfold Cq;rw [AB,Az,hml];cases n with
 | zero=>rw [if_neg (by omega)];rfl
 | succ m =>
  obtain ⟨x,hx,_⟩:=D4 va vb (n:=m) (by omega);rw [if_pos (by omega),show Bz .i64 ((m+1:Nat):Int) 1=(m:Int) by rw [Bj (by omega)];omega,AE,AJ (x:=x) (by rw [IE va vb h (by omega)];exact hx),Ji va vb bt hx]
theorem Su (bt:Bool) {n:Nat} (h:n<=a.length+b.length):Fq (EI a b bt n)=some (n:Int):=by
 obtain ⟨hI,hs⟩:=FG va vb (n:=n) h;have la:=va.len;have lb:=vb.len;unfold Fq;refine BD (x:=(0,(((n:Int),2),()))) (CS (s1:=(((Ai a b n).1:Int),1)) (s2:=((n:Int),2)) ?_ ?_ rfl) rfl
 ·refine (NZ 0 rfl rfl (x:=((Ai a b n).1:Int)) rfl).trans ?_;show some (LR.nx (AH .i64 0 ((Ai a b n).1:Int),(1:Int)))=_;rw [DC (by omega),Int.zero_add]
 ·refine (NZ 1 rfl rfl (x:=((Ai a b n).2:Int)) rfl).trans ?_;show some (LR.nx (AH .i64 ((Ai a b n).1:Int) ((Ai a b n).2:Int),(2:Int)))=_;rw [DC (by omega),show ((Ai a b n).1:Int)+((Ai a b n).2:Int)=(n:Int) by omega]
theorem Sw (bt:Bool) {n:Nat} (h:n<=a.length+b.length):Hs (EI a b bt n)=some 0:=by
 obtain ⟨hI,hs⟩:=FG va vb (n:=n) h;have la:=va.len;have lb:=vb.len;have hfl:=IF (s0 bt) (Aw a b n);have hml:(Aw a b n).length=n:=CY va vb h;unfold Hs;rw [show (EI a b bt n).1=LJ a b (Ai a b n).1 (Ai a b n).2 from rfl,M8 va vb hI,AB,AQ,if_pos rfl,Su va vb bt h,AB];simp only [AT,AP];rw [show (EI a b bt n).2.2.1=Ez (s0 bt) (Aw a b n) from rfl,show (EI a b bt n).2.2.2=(n:Int) from rfl,show (EI a b bt n).2.1=CH (s0 bt) (Aw a b n) from rfl,Az,if_neg (by omega),Az,if_neg (by omega),AQ,if_pos rfl];rw [show (LJ a b (Ai a b n).1 (Ai a b n).2).1=[a,b] from rfl,Vj va vb,AB,AE];rw [CR (by rw [CY va vb (Nat.le_refl _)];exact h),CR (Nat.zero_le _)];rw [show Er (Aw a b (a.length+b.length)) 0 n=Aw a b n from by unfold Er;rw [List.drop_zero,Nat.sub_zero];exact Gl va vb h,Fk];rw [show (s0 bt).2.2=bt from rfl,P7 va vb bt h,AB,GS,Fl _ _ (by omega),AB,CZ,Ch,if_neg (by simp),Fk,Hf,Hf,Il];rfl
theorem LH (bt:Bool) {n:Nat} (h:n<=a.length+b.length):BI (EI a b bt n)=some (((a.length+b.length-n:Nat):Int),0):=by
 unfold BI;rw [Sw va vb bt h,AB,AQ,if_pos rfl,show (EI a b bt n).1=LD a b n from rfl,Yi va vb h];rfl
theorem UX (bt:Bool) {n:Nat} (h:n<=a.length+b.length) {k:Nat}:Bl (EI a b bt n,(k:Int))=some (EI a b bt (n+min k (a.length+b.length-n)),(((min k (a.length+b.length-n):Nat):Int),0)):=by
 have la:=va.len;have lb:=vb.len;obtain ⟨u,hu⟩ : ∃ u,u=min k (a.length+b.length-n):=⟨_,rfl⟩
 have him:NL (k:Int) ((a.length+b.length-n:Nat):Int)=(u:Int):=by
  unfold NL;split<;>omega
 rw [<- hu];unfold Bl;rw [LH va vb bt h,AB,B7,if_pos rfl];simp only [him,AT,AP];rw [BB,if_neg (by omega),AQ,if_pos rfl,Su va vb bt h,AB,DC (by omega),Az,if_neg (by omega)]
 refine BD (x:=(0,(((u:Int),((LD a b (n+u)).1,((LD a b (n+u)).2.1,((LD a b (n+u)).2.2.1,((LD a b (n+u)).2.2.2.1,((LD a b (n+u)).2.2.2.2,((EI a b bt n).2.1.1,((EI a b bt n).2.1.2.1,((EI a b bt n).2.1.2.2,(EI a b bt n).2.2))))))))),())))
  (IG (λj=>((j:Int),((LD a b (n+j)).1,((LD a b (n+j)).2.1,((LD a b (n+j)).2.2.1,((LD a b (n+j)).2.2.2.1,((LD a b (n+j)).2.2.2.2,((EI a b bt n).2.1.1,((EI a b bt n).2.1.2.1,((EI a b bt n).2.1.2.2,(EI a b bt n).2.2)))))))))) 0 u rfl (by omega) (by omega) (λj _ hj => ?_) ?_) ?_
 ·obtain ⟨y,hy,_⟩:=D4 va vb (n:=n+j) (by omega);show br (Am (j:Int) (u:Int)) _ _=_;rw [BB,if_pos (by omega)];show bd (Fs (LD a b (n+j))) _=_;rw [Yh va vb (by omega) hy,AB,Aa (by omega)];rfl
 ·show br (Am (u:Int) (u:Int)) _ _=_;rw [BB,if_neg (by omega)]
 ·rw [show (EI a b bt n).1.1=[a,b] from rfl,Vj va vb,AB,show (EI a b bt n).2.2.2=(n:Int) from rfl,show AH .i64 (n:Int) (u:Int)=((n+u:Nat):Int) by rw [DC (by omega)];omega,AE];rw [CR (by rw [CY va vb (Nat.le_refl _)];omega),CR (Nat.zero_le _)];rw [show Er (Aw a b (a.length+b.length)) 0 (n+u)=Aw a b (n+u) from by unfold Er;rw [List.drop_zero,Nat.sub_zero];exact Gl va vb (by omega),show (EI a b bt n).2.1.2.2=bt from Fk _ _,P7 va vb bt (by omega),AB];rfl
end
end Go.Proofs.YthpkjfabdccpdaaGreat.Pl
namespace Go.Proofs.YthpkjfabdccpdaaGreat.Pl
open Go Go.Proofs.YthpkjfabdccpdaaGreat.Sv
theorem P8 (B:Int) (i:Nat):Br B (i+1)=2*Br B i:=by
 unfold Br;rw [Int.pow_succ,<- Int.mul_assoc,Int.mul_comm]
theorem Sx {B:Int} {i:Nat} (h1:1<=B) (h2:B<=16) (hi:i<=12):DH (B,(i:Int))=some (Br B i):=by
 unfold DH;refine BD (x:=(0,((Br B i,(i:Int)),()))) (Jd (λk=>(Br B k,(k:Int))) i (by simp [Br]) (by omega) (λk hk => ?_) ?_) rfl
 ·have h3:=Sn h1 h2 (show k<=12 by omega);simp only;rw [BB,if_pos (by omega),d6 (by omega),Aa (by omega),P8]
 ·simp only;rw [BB,if_neg (by omega)]
theorem eG (r:BQ) (hl:r.2.length<=9223372036854775807):E0 r=some (if r.1<1\/r.1>1000000 then (-1,7) else Et r.2):=by
 unfold E0;rw [BB,Az,GG _ hl,AB];by_cases h:r.1<1
 ·rw [if_pos h,if_pos (.inl h)]
 ·rw [if_neg h];by_cases h2:r.1>1000000
  ·rw [if_pos h2,if_pos (.inr h2)]
  ·rw [if_neg h2,if_neg (by omega)]
theorem Yj (r:BQ) (most:Int) (ids:List Int) (hl:r.2.length<=9223372036854775807) (hi:ids.length<=1048576):Dx (r,(most,ids))=some (kR ids most r):=by
 unfold Dx kR;rw [eG r (by omega),AB];simp only [AT,AP];by_cases h:r.1<1\/r.1>1000000
 ·rw [if_pos h,if_pos h];rfl
 rw [if_neg h,if_neg h,AQ];by_cases h2:(Et r.2).2=0;rotate_left
 ·rw [if_neg h2,if_pos h2]
 rw [if_pos h2,if_neg (show ¬ (Et r.2).2≠0 by simp [h2]),B7,Az];by_cases h3:r.2.length=0
 ·rw [if_pos (by omega),if_pos h3]
 rw [if_neg (by omega),if_neg h3];by_cases h4:(r.2.length:Int)>most
 ·rw [if_pos h4,if_pos h4]
 rw [if_neg h4,if_neg h4]
 obtain ⟨q,q1,q2⟩:=Gm (l:=ids) (σ:=Unit) (s:=((0:Int),(0:Int))) (λk _=>((k:Int),(0:Int))) (λm k _=>r.1∈ids<->r.1∈m) (λ(q:Nat×((Int×Int)×Unit))=>(q.1=1/\r.1 ∉ ids)\/(q.1=0/\r.1∈ids/\q.2.1.2=8))
  (f:=λs1=>br (Am s1.1 (ids.length:Int)) (λ_=>AV s1.1 λk2=>ix ids k2 λx3=>br (Bg x3 r.1) (λ_=>some (.dn ((0,((s1.1,8),()))))) λ_=>some (.nx (AH .i64 s1.1 1,s1.2))) λ_=>some (.dn ((1,(s1,())))))
  () rfl (by omega) Iff.rfl (λ_ h=>⟨_,by simp only;rw [re];rfl,.inl ⟨rfl,by simpa using h⟩⟩) (λk x m _ hd hx hk h=>by
   simp only;rw [rl hk,AR,AE,AJ hx,B7];by_cases e:x=r.1
   ·rw [if_pos e];exact .inr ⟨_,rfl,.inr ⟨rfl,by rw [h,e];simp,rfl⟩⟩
   ·rw [if_neg e];exact .inl ⟨(),by rw [Al hx (by omega)],by rw [h,List.mem_cons];exact ⟨λu=>u.elim (λe2=>absurd e2.symm e) id,.inr⟩⟩)
 refine BD q1 ?_;rw [CM];rcases q2 with ⟨q2,q3⟩ | ⟨q2,q3,q4⟩
 ·rw [if_neg (show ¬ q.1=0 by omega),if_neg q3]
 ·rw [if_pos q2,if_pos q3,q4]
theorem UY (L:AI) (hb:L.2.length<=1048576) (hr : ∀ rs∈L.2,rs.length<=1048576 /\ ∀ r∈rs,r.2.length<=9223372036854775807):Cn L=some (DG L):=by
 unfold Cn DG;simp only [AT,AP];rw [BB,Az,Az];by_cases hB1:L.1<1
 ·rw [if_pos hB1,if_pos (.inl hB1)]
 rw [if_neg hB1];by_cases hB2:L.1>16
 ·rw [if_pos hB2,if_pos (.inr hB2)]
 rw [if_neg hB2,if_neg (show ¬ (L.1<1\/L.1>16) by omega)];by_cases hl:(L.2.length:Int)>12
 ·rw [if_pos hl,if_pos (by omega)]
 rw [if_neg hl,if_neg (by omega)];have hl2:L.2.length<=12:=by omega
 obtain ⟨T,hT⟩ : ∃ T,T=KO L.1 0 [] L.2:=⟨_,rfl⟩;rw [<- hT]
 have hlast:T=none->(br (CD (L.2.length:Int) 0) (λ_=>AV (Bz .i64 (L.2.length:Int) 1) λk15=>ix L.2 k15 λx16=>br (Bg (x16.length:Int) 0) (λ_=>some ((Bz .i64 (L.2.length:Int) 1,((0:Int),(6:Int))))) λ_=>some ((0,(0,0)))) λ_=>some ((0,(0,0))))=some (if L.2.getLast? = some [] then (((L.2.length-1:Nat):Int),(0,6)) else (0,(0,0))):=by
  intro _;rw [Az];by_cases hn:L.2=[]
  ·rw [hn];rfl
  ·have hp:=List.length_pos_iff.2 hn;rw [if_pos (by omega),show Bz .i64 (L.2.length:Int) 1=((L.2.length-1:Nat):Int) by rw [Bj (by omega)];omega,AE,List.getLast?_eq_getElem?];have hx:L.2[L.2.length-1]? = some (L.2[L.2.length-1]'(by omega)):=by simp
   rw [AJ hx,hx,B7];by_cases he:L.2[L.2.length-1]'(by omega)=[]
   ·rw [he];simp
   ·rw [if_neg (by have:=List.length_pos_iff.2 he;omega),if_neg (by simp [he])]
 obtain ⟨r,q1,q2⟩:=Gm (l:=L.2) (σ:=List Int) (s:=((0:Int),(([]:List Int),((0:Int),((0:Int),(0:Int)))))) (λi ids=>((0:Int),(ids,((0:Int),((0:Int),(i:Int))))))
  (λm i ids=>KO L.1 i ids m=T/\ids.length<=2*i) (λ(r:Nat×((Int×(List Int×(Int×(Int×Int))))×Unit))=>(r.1=1/\T=none)\/(r.1=0/\Q1 T r.2.1.1 r.2.1.2.2.1 r.2.1.2.2.2.1/\T≠none))
  (f:=λ(s0:(Int×((List Int)×(Int×(Int×Int)))))=>br (Am s0.2.2.2.2 (L.2.length:Int)) (λ_=>AV s0.2.2.2.2 λk1=>ix L.2 k1 λx2=>br (CD (x2.length:Int) 2) (λ_=>some (.dn ((0,((0,(s0.2.1,(s0.2.2.2.2,(3,s0.2.2.2.2)))),()))))) λ_=>bd (loop (λ(s3:(Int×((List Int)×(Int×(Int×Int)))))=>br (Am s3.2.2.2.2 (x2.length:Int)) (λ_=>AV s3.2.2.2.2 λk4=>ix x2 k4 λx5=>bd (DH (L.1,s0.2.2.2.2)) λr6=>bd (Dx ((x5,(r6,s3.2.1)))) λr7=>br (A6 r7 0) (λ_=>some (.dn ((0,((s3.2.2.2.2,(s3.2.1,(s0.2.2.2.2,(r7,s3.2.2.2.2)))),()))))) λ_=>AV s3.2.2.2.2 λk8=>ix x2 k8 λx9=>gd (Bo (BF s3.2.1.length [x9.1].length) 1048576) λ_=>some (.nx ((s3.1,(C3 s3.2.1 [x9.1],(s3.2.2.1,(s3.2.2.2.1,AH .i64 s3.2.2.2.2 1))))))) λ_=>some (.dn ((1,(s3,()))))) ((s0.1,(s0.2.1,(s0.2.2.1,(s0.2.2.2.1,0)))))) λr10=>br (neq r10.1 0) (λ_=>some (.dn ((0,((r10.2.1.1,(r10.2.1.2.1,(r10.2.1.2.2.1,(r10.2.1.2.2.2.1,s0.2.2.2.2)))),()))))) λ_=>some (.nx ((r10.2.1.1,(r10.2.1.2.1,(r10.2.1.2.2.1,(r10.2.1.2.2.2.1,AH .i64 s0.2.2.2.2 1))))))) λ_=>some (.dn ((1,(s0,())))))
  [] rfl (by omega) ⟨hT.symm,by simp⟩ (λids h=>by
   refine ⟨_,by simp only;rw [re];rfl,.inl ⟨rfl,?_⟩⟩;rw [<- h.1];rfl) (λi rs m ids hd hx hi h=>by
   obtain ⟨h,hids⟩:=h;simp only;obtain ⟨hrs1,hrs2⟩:=hr rs (List.mem_of_getElem? hx);rw [rl hi,AR,AE,AJ hx,Az];unfold KO at h;by_cases h3:rs.length>2
   ·rw [if_pos (by omega)];rw [if_pos h3] at h;refine .inr ⟨_,rfl,.inr ⟨rfl,?_,by rw [<- h];simp⟩⟩;rw [<- h];exact ⟨rfl,rfl,rfl⟩
   rw [if_neg (by omega)];rw [if_neg h3] at h;obtain ⟨U,hU⟩ : ∃ U,U=KN (Br L.1 i) 0 ids rs:=⟨_,rfl⟩;rw [<- hU] at h
   obtain ⟨r,q1,q2⟩:=Gm (l:=rs) (σ:=Unit) (s:=((0:Int),(ids,((0:Int),((0:Int),(0:Int)))))) (λk _=>((0:Int),(ids++(rs.take k).map (·.1),((0:Int),((0:Int),(k:Int))))))
    (λm k _=>KN (Br L.1 i) k (ids++(rs.take k).map (·.1)) m=U) (λ(r:Nat×((Int×(List Int×(Int×(Int×Int))))×Unit))=>(r.1=1/\U=none/\r.2.1=(0,(ids++rs.map (·.1),(0,(0,(rs.length:Int))))))\/(r.1=0 /\ ∃ k e,U=some (k,e)/\r.2.1.1=(k:Int)/\r.2.1.2.2.1=(i:Int)/\r.2.1.2.2.2.1=e))
    (f:=λ(s3:(Int×((List Int)×(Int×(Int×Int)))))=>br (Am s3.2.2.2.2 (rs.length:Int)) (λ_=>AV s3.2.2.2.2 λk4=>ix rs k4 λx5=>bd (DH (L.1,(i:Int))) λr6=>bd (Dx ((x5,(r6,s3.2.1)))) λr7=>br (A6 r7 0) (λ_=>some (.dn ((0,((s3.2.2.2.2,(s3.2.1,((i:Int),(r7,s3.2.2.2.2)))),()))))) λ_=>AV s3.2.2.2.2 λk8=>ix rs k8 λx9=>gd (Bo (BF s3.2.1.length [x9.1].length) 1048576) λ_=>some (.nx ((s3.1,(C3 s3.2.1 [x9.1],(s3.2.2.1,(s3.2.2.2.1,AH .i64 s3.2.2.2.2 1))))))) λ_=>some (.dn ((1,(s3,())))))
    () (by simp) (by omega) (by simp [hU]) (λ_ h=>by
     refine ⟨_,by simp only;rw [re];rfl,.inl ⟨rfl,by rw [<- h];rfl,by simp⟩⟩) (λk r m _ hd hx hk h=>by
     simp only;have hr2:=hrs2 r (List.mem_of_getElem? hx);have htk:(rs.take (k+1)).map (·.1)=(rs.take k).map (·.1)++[r.1]:=by rw [List.take_add_one,hx];simp
     have hlen:(ids++(rs.take k).map (·.1)).length<=100:=by simp;omega
     rw [rl hk,AR,AE,AJ hx,Sx (by omega) (by omega) (by omega),AB,Yj _ _ _ (by omega) (by omega),AB,AQ];unfold KN at h;by_cases h0:kR (ids++(rs.take k).map (·.1)) (Br L.1 i) r=0
     ·rw [if_neg (λhh:kR (ids++(rs.take k).map (·.1)) (Br L.1 i) r≠0=>hh h0)] at h;rw [if_pos h0,AE,AJ hx,CR (by simp only [BF,List.length_cons,List.length_nil];omega)];refine .inl ⟨(),?_,?_⟩
      ·rw [Al hx (by omega),htk,<- List.append_assoc];rfl
      ·rw [htk,<- List.append_assoc];exact h
     ·rw [if_pos h0] at h;rw [if_neg h0]
      exact .inr ⟨_,rfl,.inr ⟨rfl,_,_,h.symm,rfl,rfl,rfl⟩⟩)
   rw [q1,AB,CM];rcases q2 with ⟨q2,q3,q4⟩ | ⟨q2,k,e,q3,q4,q5,q6⟩
   ·rw [if_neg (show ¬ r.1=0 by omega),q4,Al hx (by omega)];rw [q3] at h;exact .inl ⟨ids++rs.map (·.1),rfl,h,by simp;omega⟩
   ·rw [if_pos q2];rw [q3] at h;refine .inr ⟨_,rfl,.inr ⟨rfl,?_,by rw [<- h];simp⟩⟩;rw [<- h]
    exact ⟨q4,q5,q6⟩)
 refine BD q1 ?_;rw [CM];rcases q2 with ⟨q2,q3⟩ | ⟨q2,q3,q4⟩
 ·rw [if_neg (show ¬ r.1=0 by omega),q3];exact hlast q3
 ·rw [if_pos q2];cases hTc:T with
  | none=>exact absurd hTc q4
  | some t =>
   obtain ⟨i,k,e⟩:=t;rw [hTc] at q3;rw [q3.1,q3.2.1,q3.2.2]
def DZ (ls:List (List BQ)):List BQ:=ls.flatMap List.reverse
theorem VLev.small {L:AI} (v:VLev L):L.2.length<=1048576 /\ ∀ rs∈L.2,rs.length<=1048576 /\ ∀ r∈rs,r.2.length<=9223372036854775807:=by
 refine ⟨by have:=v.len;omega,λrs hrs => ?_⟩;obtain ⟨i,hi⟩:=List.getElem?_of_mem hrs;obtain ⟨h1,h2⟩:=v.lev i rs hi;exact ⟨by omega,λr hr=>by have:=(h2 r hr).vl.len;omega⟩
theorem Jj : ∀ (ls:List (List BQ)),(∀ rs∈ls,rs.length<=2)->(DZ ls).length<=2*ls.length
 | [],_=>by simp [DZ]
 | rs::ls,h=>by
  have h1:=Jj ls λr hr=>h r (by simp [hr]);have h2:=h rs (by simp);unfold DZ at h1 ⊢;rw [List.flatMap_cons,List.length_append,List.length_reverse,List.length_cons];omega
theorem VLev.two {L:AI} (v:VLev L) : ∀ rs∈L.2,rs.length<=2:=λrs hrs=>by
 obtain ⟨i,hi⟩:=List.getElem?_of_mem hrs;exact (v.lev i rs hi).1
theorem UZ {L:AI} (v:VLev L):EW L=some (DZ L.2,0):=by
 obtain ⟨hb,hr⟩:=v.small;have hl:=v.len;unfold EW;simp only [AT,AP];rw [UY _ hb hr,Fm v,AB,AQ,if_pos rfl]
 rw [Dk (l:=L.2) (σ:=List BQ) (s:=(([]:List BQ),(0:Int))) (λi m=>(m,(i:Int))) (λls i m=>(∀ rs∈ls,rs.length<=2)/\m.length<=2*i) (λls _ m=>(0,((m++DZ ls,(L.2.length:Int)),()))) [] rfl (by omega) ⟨v.two,by simp⟩ (λm _=>by
  simp only;rw [re,Ao];simp [DZ]) (λi rs ls m hd hx hi h=>by
   refine ⟨m++rs.reverse,?_,⟨λr hr=>h.1 r (by simp [hr]),by have:=h.1 rs (by simp);simp;omega⟩,by simp [DZ]⟩;have h2:=h.1 rs (by simp);have hm:m.length<=24:=by have:=h.2;omega
   simp only;rw [rl hi,AR,AE,AJ hx];have gg : ∀ {β:Type} (z:List BQ) (x:BQ) (k:Unit->Option β),z.length<=100->gd (Bo (BF z.length [x].length) 1048576) k=k ():=λz x k hz=>CR (by simp only [BF,List.length_cons,List.length_nil];omega) k
   match rs,h2,hx with
   | [],_,hx =>
    refine BD (x:=(0,((m,-1),()))) (CL (n:=1) (by omega) (BL rfl)) ?_;rw [Al hx (by omega)];simp
   | [r0],_,hx =>
    refine BD (x:=(0,((m++[r0],-1),()))) (CL (n:=2) (by omega) ((A7 (s':=(m++[r0],-1)) ?_).trans (BL rfl))) ?_
    ·show br (Gz (0:Int) 0) _ _=_;rw [EQ,if_pos (by omega),AE,AJ hx];refine (EU 0 rfl (x:=r0) rfl).trans ?_;rw [gg m _ _ (by omega)];rfl
    ·rw [Al hx (by omega)];simp
   | [r0,r1],_,hx =>
    refine BD (x:=(0,((m++[r1]++[r0],-1),()))) (CL (n:=3) (by omega) ((A7 (s':=(m++[r1],0)) ?_).trans ((A7 (s':=(m++[r1]++[r0],-1)) ?_).trans (BL rfl)))) ?_
    ·show br (Gz (1:Int) 0) _ _=_;rw [EQ,if_pos (by omega),AE,AJ hx];refine (EU 1 rfl (x:=r1) rfl).trans ?_;rw [gg m _ _ (by omega)];rfl
    ·show br (Gz (0:Int) 0) _ _=_;rw [EQ,if_pos (by omega),AE,AJ hx];refine (EU 0 rfl (x:=r0) rfl).trans ?_;rw [gg (m++[r1]) _ _ (by simp;omega)];rfl
    ·rw [Al hx (by omega)];simp),AB]
 simp
theorem GT (a b:Int):KW a b=max a b:=by unfold KW;split<;>omega
theorem E5 : ∀ (l:List BQ) (m:Int),0<=m->l.foldl (λm r=>KW m r.1) m=max m (l.foldl (λm r=>KW m r.1) 0)
 | [],m,h=>by simp;omega
 | r::l,m,h=>by
  have h1:=E5 l (KW m r.1) (by rw [GT];omega);have h2:=E5 l (KW 0 r.1) (by rw [GT];omega);simp only [List.foldl_cons];rw [h1,h2,GT,GT];omega
theorem PJ (l:List BQ) (m:Int) (h:0<=m):l.reverse.foldl (λm r=>KW m r.1) m=l.foldl (λm r=>KW m r.1) m:=by
 induction l generalizing m with
 | nil=>rfl
 | cons r l ih =>
  rw [List.reverse_cons,List.foldl_append,ih m h,List.foldl_cons];simp only [List.foldl_cons,List.foldl_nil];rw [E5 l m h,E5 l (KW m r.1) (by rw [GT];omega),GT,GT];omega
theorem RR (l:List BQ) (m:Int) (h:0<=m):0<=l.foldl (λm r=>KW m r.1) m:=by
 rw [E5 l m h];omega
theorem I8 : ∀ (ls:List (List BQ)) (m:Int),0<=m->(DZ ls).foldl (λm r=>KW m r.1) m=ls.foldl (λm rs=>rs.foldl (λm r=>KW m r.1) m) m
 | [],m,_=>rfl
 | rs::ls,m,h=>by
  have h1:=I8 ls (rs.foldl (λm r=>KW m r.1) m) (RR _ _ h);unfold DZ at h1 ⊢;rw [List.flatMap_cons,List.foldl_append,PJ rs m h,List.foldl_cons,h1]
theorem RS {L:AI} (v:VLev L):CG L=some (FM L.2):=by
 have hl:=v.len;have hn:=Jj L.2 v.two;unfold CG;simp only [AT,AP];rw [UZ v,AB]
 rw [Dk (l:=DZ L.2) (σ:=Int) (s:=((0:Int),(0:Int))) (λi m=>(m,(i:Int))) (λ_ _ _=>True) (λl _ m=>(0,((l.foldl (λm r=>KW m r.1) m,((DZ L.2).length:Int)),()))) 0 rfl (by omega) trivial (λm _=>by
  simp only;rw [re,Ao];rfl) (λk r l m hd hx hk _=>⟨KW m r.1,by
   simp only
   rw [rl hk,AR,AE,AJ hx,Al hx (by omega)],trivial,rfl⟩),AB]
 rw [I8 _ _ (by omega)];rfl
theorem Vk {L:AI} (hl:L.2.length<=1000):Co L=some (Ba 0 L.2):=by
 unfold Co;simp only [AT,AP]
 rw [Dk (l:=L.2) (σ:=List Int) (s:=(([]:List Int),(0:Int))) (λi m=>(m,(i:Int))) (λls i m=>m++Ba i ls=Ba 0 L.2) (λ_ _ _=>(0,((Ba 0 L.2,(L.2.length:Int)),()))) [] rfl (by omega) rfl (λm h=>by
  simp only;rw [re,Ao,<- h];simp [Ba]) (λi rs ls m hd hx hi h=>by
   refine ⟨m++(if rs.length=2 then [(i:Int)] else []),?_,?_,rfl⟩
   ·simp only;rw [rl hi,AR,AE,AJ hx,B7]
    have hm:m.length<=1000:=by
     have h4:=congrArg List.length h;have h5:=GF L.2 0;rw [List.length_append] at h4;omega
    by_cases h4:rs.length=2
    ·rw [if_pos (by omega),if_pos h4,CR (by simp only [BF,List.length_cons,List.length_nil];omega),Al hx (by omega)];rfl
    ·rw [if_neg (by omega),if_neg h4,List.append_nil,Al hx (by omega)]
   ·rw [List.append_assoc];exact h),AB]
theorem f7 {L:AI} (v:VLev L) (k:Int):HI (L,k)=some (if k<0\/k>=12 then 7 else 0):=by
 obtain ⟨hb,hr⟩:=v.small;unfold HI;rw [UY _ hb hr,Fm v,AB,B7,if_pos rfl,BB,EQ];by_cases h1:k<0
 ·rw [if_pos h1,if_pos (.inl h1)]
 ·rw [if_neg h1];by_cases h2:k>=12
  ·rw [if_pos h2,if_pos (.inr h2)]
  ·rw [if_neg h2,if_neg (by omega)]
theorem Ua {L:AI} (v:VLev L) {n:Nat} (hn:n<L.2.length):Bs (L,(n:Int))=some (decide ((n:Int)=(L.2.length:Int)-1)):=by
 have hl:=v.len;unfold Bs GP;simp only [AT,AP];rw [f7 v,AB,if_neg (by omega),AQ,if_pos rfl,AB,Aa (by omega)];unfold CD;rw [CZ];by_cases h:(n:Int)=(L.2.length:Int)-1
 ·simp [h]
 ·simp [h];omega
theorem Ub {a b:List AD} (va:VL a) (vb:VL b) (bt:Bool):E2 ([a,b],bt)=some (EI a b bt 0,(0,0)):=by
 unfold E2 GQ Cq;rw [LG va vb,AB,AQ,if_pos rfl];refine Eq.trans (b:=bd (bd (Cp ([a,b],[((0:Nat):Int),((0:Nat):Int)])) _) _) rfl ?_;rw [Iw va vb (Nat.zero_le _) (Nat.zero_le _)];rfl
theorem Wl {L:AI} {n:Nat} {r0 r1:BQ} (bt:Bool) (h:L.2[n]? = some [r0,r1]) (v0:VL r0.2) (v1:VL r1.2):A9 (L,((n:Int),bt))=some ((n:Int),EI r1.2 r0.2 bt 0):=by
 have hn:=(List.getElem?_eq_some_iff.1 h).1;unfold A9;simp only [AT,AP];rw [EQ,if_neg (by omega),AE,AJ h,AJ (x:=r1) rfl,AJ (x:=r0) rfl,Ub v1 v0];rfl
theorem eI {L:AI} {n:Nat} {r0 r1:BQ} {j:GN} (h:L.2[n]? = some [r0,r1]) (v0:VL r0.2) (v1:VL r1.2) {β:Type} (A B:Option β) :
  (bd (A9 (L,((n:Int),j.2.2.1.2.2))) λr16=>bd (BI r16.2) λr17=>br (Am j.2.2.2.2 0) (λ_=>A) λ_=>br (CD j.2.2.2.2 r17.1) (λ_=>A) λ_=>bd (Bl (r16.2,j.2.2.2.2)) λr18=>bd (Bm (r18.1,j.2)) λr19=>br (AX r19) (λ_=>A) λ_=>B)
  = if j.2.2.2.2<0\/j.2.2.2.2>((r1.2.length+r0.2.length:Nat):Int) then A else if EI r1.2 r0.2 j.2.2.1.2.2 j.2.2.2.2.toNat=j.2 then B else A:=by
 rw [Wl _ h v0 v1,AB,LH v1 v0 _ (Nat.zero_le _),AB,BB,Az,Nat.sub_zero];by_cases h1:j.2.2.2.2<0
 ·rw [if_pos h1,if_pos (.inl h1)]
 rw [if_neg h1];by_cases h2:j.2.2.2.2>((r1.2.length+r0.2.length:Nat):Int)
 ·rw [if_pos h2,if_pos (.inr h2)]
 rw [if_neg h2,if_neg (show ¬ (j.2.2.2.2<0\/j.2.2.2.2>((r1.2.length+r0.2.length:Nat):Int)) by omega)];obtain ⟨k,hk⟩ : ∃ k:Nat,j.2.2.2.2=(k:Int):=⟨j.2.2.2.2.toNat,by omega⟩;rw [hk,UX v1 v0 _ (Nat.zero_le _),AB,Nat.sub_zero,Nat.zero_add,Nat.min_eq_left (by omega),Int.toNat_natCast];obtain ⟨s1,s2,s3,s4,s5,s6⟩:=P6 v1 v0 j.2.2.1.2.2 (n:=k) (by omega);rw [UU _ _ s1 s2 s3 s4 s5 s6,AB,CZ,Ch];by_cases he:EI r1.2 r0.2 j.2.2.1.2.2 k=j.2
 ·rw [if_neg (by simp [he]),if_pos he]
 ·rw [if_pos he,if_neg he]
end Go.Proofs.YthpkjfabdccpdaaGreat.Pl
namespace Go.Proofs.YthpkjfabdccpdaaGreat.Pl
open Go Go.Proofs.YthpkjfabdccpdaaGreat.Sv
theorem Sy (s:Ab) (hb:s.1.2.length<=1048576) (hr : ∀ rs∈s.1.2,rs.length<=1048576 /\ ∀ r∈rs,r.2.length<=9223372036854775807) (hj:s.2.1.length<=1048576):GR s=some (Au s):=by
 unfold GR Au;simp only [AT,AP];rw [UY _ hb hr,AB,B7];by_cases h0:(DG s.1).2.2=0;rotate_left
 ·rw [if_neg h0,if_pos h0,B7,if_neg h0,AQ,if_neg h0]
 rw [if_pos h0,if_neg (show ¬ (DG s.1).2.2≠0 by simp [h0]),BB,Az];have v:=Gb.1 h0;by_cases h1:s.2.2<1
 ·rw [if_pos h1,if_pos (.inl h1)]
 rw [if_neg h1];by_cases h2:s.2.2>1000001
 ·rw [if_pos h2,if_pos (.inr h2)]
 rw [if_neg h2,if_neg (show ¬ (s.2.2<1\/s.2.2>1000001) by omega),B7,if_pos h0,RS v,AB,fF];by_cases h3:s.2.2<=FM s.1.2
 ·rw [if_pos h3,if_pos h3]
 rw [if_neg h3,if_neg h3,AQ,if_pos h0,Vk (by have:=v.len;omega),AB];obtain ⟨due,hdue⟩ : ∃ due,due=Ba 0 s.1.2:=⟨_,rfl⟩;have hdl:due.length<=12:=by have:=GF s.1.2 0;have:=v.len;rw [hdue];omega
 rw [<- hdue];obtain ⟨T,hT⟩ : ∃ T,T=FI s.1 due 0 s.2.1:=⟨_,rfl⟩;rw [<- hT]
 obtain ⟨r,q1,q2⟩:=Gm (l:=s.2.1) (σ:=Unit) (λi _=>((0:Int),((0:Int),(i:Int)))) (λjs i _=>FI s.1 due i js=T) (λ(r:Nat×((Int×(Int×Int))×Unit))=>(T=none/\r.1=1)\/(∃ i:Nat,T=some i/\r.1=0/\r.2.1.1=6/\r.2.1.2.1=(i:Int)))
  (f:=λs6=>br (Am s6.2.2 (s.2.1.length:Int)) (λ_=>AV s6.2.2 λk7=>ix s.2.1 k7 λx8=>br (Gz s6.2.2 (due.length:Int)) (λ_=>some (.dn ((0,((6,(s6.2.2,s6.2.2)),()))))) λ_=>AV s6.2.2 λk9=>ix due k9 λx10=>br (A6 x8.1 x10) (λ_=>some (.dn ((0,((6,(s6.2.2,s6.2.2)),()))))) λ_=>br x8.2.2.1.2.2 (λ_=>bd (Bs (s.1,x8.1)) λr11=>br (AX r11) (λ_=>some (.dn ((0,((6,(s6.2.2,s6.2.2)),()))))) λ_=>bd (A9 ((s.1,(x8.1,x8.2.2.1.2.2)))) λr12=>bd (BI r12.2) λr13=>br (Am x8.2.2.2.2 0) (λ_=>some (.dn ((0,((6,(s6.2.2,s6.2.2)),()))))) λ_=>br (CD x8.2.2.2.2 r13.1) (λ_=>some (.dn ((0,((6,(s6.2.2,s6.2.2)),()))))) λ_=>bd (Bl (r12.2,x8.2.2.2.2)) λr14=>bd (Bm (r14.1,x8.2)) λr15=>br (AX r15) (λ_=>some (.dn ((0,((6,(s6.2.2,s6.2.2)),()))))) λ_=>some (.nx ((s6.1,(s6.2.1,AH .i64 s6.2.2 1))))) λ_=>bd (A9 ((s.1,(x8.1,x8.2.2.1.2.2)))) λr16=>bd (BI r16.2) λr17=>br (Am x8.2.2.2.2 0) (λ_=>some (.dn ((0,((6,(s6.2.2,s6.2.2)),()))))) λ_=>br (CD x8.2.2.2.2 r17.1) (λ_=>some (.dn ((0,((6,(s6.2.2,s6.2.2)),()))))) λ_=>bd (Bl (r16.2,x8.2.2.2.2)) λr18=>bd (Bm (r18.1,x8.2)) λr19=>br (AX r19) (λ_=>some (.dn ((0,((6,(s6.2.2,s6.2.2)),()))))) λ_=>some (.nx ((s6.1,(s6.2.1,AH .i64 s6.2.2 1))))) λ_=>some (.dn ((1,(s6,())))))
  (s:=(0,(0,0))) () rfl (by omega) hT.symm (λ_ h=>by
   refine ⟨_,by simp only;rw [re];rfl,.inl ⟨by rw [<- h];rfl,rfl⟩⟩) (λi j js _ hd hx hi h=>by
   simp only;rw [rl hi,AR,AE,AJ hx,EQ];unfold FI at h
   have hbad:KP s.1 due i j=true -> ∃ r:Nat×((Int×(Int×Int))×Unit),(some (LR.dn ((0,((6,((i:Int),(i:Int))),()))):LR (Int×(Int×Int)) _))=some (.dn r)/\((T=none/\r.1=1)\/(∃ i:Nat,T=some i/\r.1=0/\r.2.1.1=6/\r.2.1.2.1=(i:Int))):=λhb=>by
    rw [if_pos hb] at h;exact ⟨_,rfl,.inr ⟨i,h.symm,rfl,rfl,rfl⟩⟩
   have hgood:KP s.1 due i j=false -> ∃ st':Unit,(some (LR.nx ((0:Int),((0:Int),AH .i64 (i:Int) 1))):Option (LR _ (Nat×((Int×(Int×Int))×Unit))))=some (.nx ((0:Int),((0:Int),((i+1:Nat):Int))))/\FI s.1 due (i+1) js=T:=λhg=>by
    rw [if_neg (by simp [hg])] at h;exact ⟨(),by rw [Al hx (by omega)],h⟩
   by_cases h1:(i:Int)>=(due.length:Int)
   ·rw [if_pos h1];exact .inr (hbad (by unfold KP;rw [List.getElem?_eq_none (by omega)]))
   rw [if_neg h1,AE];have hd2:due[i]? = some (due[i]'(by omega)):=by simp
   rw [AJ hd2,AQ];obtain ⟨n,hn,r0,r1,hlv⟩:=II (ls:=s.1.2) (i:=0) (k:=i) (d:=due[i]'(by omega)) (by rw [<- hdue];exact hd2);rw [Nat.zero_add] at hn
   have hE:KP s.1 due i j=(if j.1≠(due[i]'(by omega)) then true else if j.2.2.1.2.2=true/\j.1≠(s.1.2.length:Int)-1 then true else if j.2.2.2.2<0\/j.2.2.2.2>((r1.2.length+r0.2.length:Nat):Int) then true else decide (EI r1.2 r0.2 j.2.2.1.2.2 j.2.2.2.2.toNat≠j.2)):=by
    unfold KP;rw [hd2];simp only;rw [hn,Int.toNat_natCast,hlv]
   by_cases h2:j.1=(due[i]'(by omega));rotate_left
   ·rw [if_neg h2];exact .inr (hbad (by rw [hE,if_pos h2]))
   rw [if_pos h2];rw [if_neg (by simp [h2])] at hE;have hjn:j.1=(n:Int):=by rw [h2,hn]
   have hv:=(v.lev n _ hlv).2;have v0:=(hv r0 (by simp)).vl;have v1:=(hv r1 (by simp)).vl;have hnl:=(List.getElem?_eq_some_iff.1 hlv).1;rw [hjn,Ua v hnl,AB,CZ,Ch,eI hlv v0 v1,Fe];rw [hjn] at hE;by_cases h3:j.2.2.1.2.2=true/\(n:Int)≠(s.1.2.length:Int)-1
   ·rw [if_pos h3.1,if_pos h3.2];exact .inr (hbad (by rw [hE,if_pos h3]))
   rw [if_neg h3] at hE
   have h4 : ∀ {γ:Type} (A B:γ),(if j.2.2.1.2.2=true then if ¬(n:Int)=(s.1.2.length:Int)-1 then A else B else B)=B:=by
    intro γ A B;by_cases h5:j.2.2.1.2.2=true
    ·rw [if_pos h5,if_neg (λh6=>h3 ⟨h5,h6⟩)]
    ·rw [if_neg h5]
   rw [h4];by_cases h5:j.2.2.2.2<0\/j.2.2.2.2>((r1.2.length+r0.2.length:Nat):Int)
   ·rw [if_pos h5];exact .inr (hbad (by rw [hE,if_pos h5]))
   rw [if_neg h5];rw [if_neg h5] at hE;by_cases h6:EI r1.2 r0.2 j.2.2.1.2.2 j.2.2.2.2.toNat=j.2
   ·rw [if_pos h6];exact .inl (hgood (by rw [hE];simp [h6]))
   ·rw [if_neg h6]
    exact .inr (hbad (by rw [hE];simp [h6])))
 refine BD q1 ?_;rw [CM];rcases q2 with ⟨q2,q3⟩ | ⟨i,q2,q3,q4,q5⟩
 ·rw [if_neg (show ¬ r.1=0 by omega),q2,BB];simp only;by_cases h7:s.2.1.length<due.length
  ·rw [if_pos (by omega),if_pos h7]
  ·rw [if_neg (by omega),if_neg h7]
 ·rw [if_pos q3,q2,q4,q5]
end Go.Proofs.YthpkjfabdccpdaaGreat.Pl
