/- Functions of the program and of the specification as plain functions, and laws about them. No condition. -/
import Derived.Test.YthpkjfabdccpdaaGreatPl0
set_option linter.all false
namespace Go.Proofs.YthpkjfabdccpdaaGreat.Pl
open Go Go.Proofs.YthpkjfabdccpdaaGreat.Sv
set_option linter.unusedVariables false
def C9 (x:(Int×Int)):Option Int :=
 bd (loop (λs0=>br (Am s0.2 x.2) (λ_=>some (.nx (MQ .i64 2 s0.1,AI .i64 s0.2 1))) λ_=>some (.dn ((0,(s0,()))))) (x.1,0)) λr1=>some r1.2.1.1
def DJ (x:AD):Option Int :=
 br (CE (AX (E7 x.1)) 32) (λ_=>some 3) λ_=>br (CE (AX (E7 x.2.1)) 64) (λ_=>some 3) λ_=>br x.2.2.1 (λ_=>br (AY (seq x.2.1 [])) (λ_=>some 6) λ_=>br (Am x.2.2.2 1) (λ_=>some 7) λ_=>br (CE x.2.2.2 1000000000) (λ_=>some 7) λ_=>some 0) λ_=>br (Am x.2.2.2 1) (λ_=>some 7) λ_=>br (CE x.2.2.2 1000000000) (λ_=>some 7) λ_=>some 0
def Ec (x:((List UInt8)×(List UInt8))):Option Int :=
 bd (loop (λs0=>br (Am s0 (AX (E7 x.1))) (λ_=>br (Am s0 (AX (E7 x.2))) (λ_=>AT s0 λk1=>ix x.1 k1 λx2=>AT s0 λk3=>ix x.2 k3 λx4=>br (BN (Ry x2) (Ry x4)) (λ_=>some (.nx (AI .i64 s0 1))) λ_=>some (.dn ((0,(s0,()))))) λ_=>some (.dn ((0,(s0,()))))) λ_=>some (.dn ((0,(s0,()))))) 0) λr5=>some r5.2.1
def EE (x:((List UInt8)×(List UInt8))):Option Int :=
 bd (Ec x) λr0=>br (BN r0 (AX (E7 x.1))) (λ_=>br (BN r0 (AX (E7 x.2))) (λ_=>some 0) λ_=>br (BN r0 (AX (E7 x.1))) (λ_=>some (-1)) λ_=>br (Am r0 (AX (E7 x.2))) (λ_=>AT r0 λk1=>ix x.1 k1 λx2=>AT r0 λk3=>ix x.2 k3 λx4=>br (Am (Ry x2) (Ry x4)) (λ_=>some (-1)) λ_=>some 1) λ_=>some 1) λ_=>br (BN r0 (AX (E7 x.1))) (λ_=>some (-1)) λ_=>br (Am r0 (AX (E7 x.2))) (λ_=>AT r0 λk5=>ix x.1 k5 λx6=>AT r0 λk7=>ix x.2 k7 λx8=>br (Am (Ry x6) (Ry x8)) (λ_=>some (-1)) λ_=>some 1) λ_=>some 1
def CX (x:(List AD)):Option (Int×Int) :=
 br (CE (AX (AA x)) 5000) (λ_=>some (((-1),3))) λ_=>bd (loop (λs0=>br (Am s0.2.2 (AX (AA x))) (λ_=>AT s0.2.2 λk1=>ix x k1 λx2=>bd (DJ x2) λr3=>br (BN r3 0) (λ_=>br (CE s0.2.2 0) (λ_=>AT (B7 .i64 s0.2.2 1) λk4=>ix x k4 λx5=>AT s0.2.2 λk6=>ix x k6 λx7=>bd (EE (x5.1,x7.1)) λr8=>br (G1 r8 0) (λ_=>some (.dn ((0,((6,(s0.2.2,s0.2.2)),()))))) λ_=>br (A7 r3 0) (λ_=>some (.dn ((0,((r3,(s0.2.2,s0.2.2)),()))))) λ_=>some (.nx ((s0.1,(s0.2.1,AI .i64 s0.2.2 1))))) λ_=>br (A7 r3 0) (λ_=>some (.dn ((0,((r3,(s0.2.2,s0.2.2)),()))))) λ_=>some (.nx ((s0.1,(s0.2.1,AI .i64 s0.2.2 1))))) λ_=>br (A7 r3 0) (λ_=>some (.dn ((0,((r3,(s0.2.2,s0.2.2)),()))))) λ_=>some (.nx ((s0.1,(s0.2.1,AI .i64 s0.2.2 1))))) λ_=>some (.dn ((1,(s0,()))))) ((0,(0,0)))) λr9=>br (neq r9.1 0) (λ_=>some (r9.2.1.2.1,r9.2.1.1)) λ_=>some (0,0)
def EF (x:BE):Option (Int×Int) :=
 br (Am x.1 1) (λ_=>some (((-1),7))) λ_=>br (CE x.1 1000000) (λ_=>some (((-1),7))) λ_=>bd (CX x.2) λr0=>some r0
def DA (x:(BE×(Int×(List Int)))):Option Int :=
 bd (EF x.1) λr0=>br (A7 r0.2 0) (λ_=>some r0.2) λ_=>br (BN (AX (AA x.1.2)) 0) (λ_=>some 4) λ_=>br (CE (AX (AA x.1.2)) x.2.1) (λ_=>some 3) λ_=>bd (loop (λs1=>br (Am s1.1 (AX (AA x.2.2))) (λ_=>AT s1.1 λk2=>ix x.2.2 k2 λx3=>br (BN x3 x.1.1) (λ_=>some (.dn ((0,((s1.1,8),()))))) λ_=>some (.nx (AI .i64 s1.1 1,s1.2))) λ_=>some (.dn ((1,(s1,()))))) (0,0)) λr4=>br (neq r4.1 0) (λ_=>some r4.2.1.2) λ_=>some 0
def CM (x:AJ):Option (Int×(Int×Int)) :=
 br (Am x.1 1) (λ_=>some ((0,(0,7)))) λ_=>br (CE x.1 16) (λ_=>some ((0,(0,7)))) λ_=>br (CE (AX (AA x.2)) 12) (λ_=>some ((0,(0,3)))) λ_=>bd (loop (λ(s0:(Int×((List Int)×(Int×(Int×Int)))))=>br (Am s0.2.2.2.2 (AX (AA x.2))) (λ_=>AT s0.2.2.2.2 λk1=>ix x.2 k1 λx2=>br (CE (AX (AA x2)) 2) (λ_=>some (.dn ((0,((0,(s0.2.1,(s0.2.2.2.2,(3,s0.2.2.2.2)))),()))))) λ_=>bd (loop (λ(s3:(Int×((List Int)×(Int×(Int×Int)))))=>br (Am s3.2.2.2.2 (AX (AA x2))) (λ_=>AT s3.2.2.2.2 λk4=>ix x2 k4 λx5=>bd (C9 (x.1,s0.2.2.2.2)) λr6=>bd (DA ((x5,(r6,s3.2.1)))) λr7=>br (A7 r7 0) (λ_=>some (.dn ((0,((s3.2.2.2.2,(s3.2.1,(s0.2.2.2.2,(r7,s3.2.2.2.2)))),()))))) λ_=>AT s3.2.2.2.2 λk8=>ix x2 k8 λx9=>gd (BJ (Ao (AA s3.2.1) (AA [x9.1])) 1048576) λ_=>some (.nx ((s3.1,(By s3.2.1 [x9.1],(s3.2.2.1,(s3.2.2.2.1,AI .i64 s3.2.2.2.2 1))))))) λ_=>some (.dn ((1,(s3,()))))) ((s0.1,(s0.2.1,(s0.2.2.1,(s0.2.2.2.1,0)))))) λr10=>br (neq r10.1 0) (λ_=>some (.dn ((0,((r10.2.1.1,(r10.2.1.2.1,(r10.2.1.2.2.1,(r10.2.1.2.2.2.1,s0.2.2.2.2)))),()))))) λ_=>some (.nx ((r10.2.1.1,(r10.2.1.2.1,(r10.2.1.2.2.1,(r10.2.1.2.2.2.1,AI .i64 s0.2.2.2.2 1))))))) λ_=>some (.dn ((1,(s0,()))))) ((0,([],(0,(0,0)))))) λr11=>br (neq r11.1 0) (λ_=>some ((r11.2.1.2.2.1,(r11.2.1.1,r11.2.1.2.2.2.1)))) λ_=>br (CE (AX (AA x.2)) 0) (λ_=>AT (B7 .i64 (AX (AA x.2)) 1) λk12=>ix x.2 k12 λx13=>br (BN (AX (AA x13)) 0) (λ_=>some ((B7 .i64 (AX (AA x.2)) 1,(0,6)))) λ_=>some ((0,(0,0)))) λ_=>some ((0,(0,0)))
def Dg (x:AJ):Option ((List BE)×Int) :=
 bd (CM x) λr0=>br (A7 r0.2.2 0) (λ_=>some ([],r0.2.2)) λ_=>bd (loop (λs1=>br (Am s1.2 (AX (AA x.2))) (λ_=>AT s1.2 λk2=>ix x.2 k2 λx3=>bd (loop (λs4=>br (G1 s4.2 0) (λ_=>AT s1.2 λk5=>ix x.2 k5 λx6=>AT s4.2 λk7=>ix x6 k7 λx8=>gd (BJ (Ao (AA s4.1) (AA [x8])) 1048576) λ_=>some (.nx (By s4.1 [x8],B7 .i64 s4.2 1))) λ_=>some (.dn ((0,(s4,()))))) ((s1.1,B7 .i64 (AX (AA x3)) 1))) λr9=>some (.nx (r9.2.1.1,AI .i64 s1.2 1))) λ_=>some (.dn ((0,(s1,()))))) ([],0)) λr10=>some (r10.2.1.1,0)
def CH (x:AJ):Option Int :=
 bd (Dg x) λr0=>bd (loop (λs1=>br (Am s1.2 (AX (AA r0.1))) (λ_=>AT s1.2 λk2=>ix r0.1 k2 λx3=>some (.nx (J5 s1.1 x3.1,AI .i64 s1.2 1))) λ_=>some (.dn ((0,(s1,()))))) (0,0)) λr4=>some r4.2.1.1
def CR (x:AJ):Option (List Int) :=
 bd (loop (λs0=>br (Am s0.2 (AX (AA x.2))) (λ_=>AT s0.2 λk1=>ix x.2 k1 λx2=>br (BN (AX (AA x2)) 2) (λ_=>gd (BJ (Ao (AA s0.1) (AA [s0.2])) 1048576) λ_=>some (.nx (By s0.1 [s0.2],AI .i64 s0.2 1))) λ_=>some (.nx (s0.1,AI .i64 s0.2 1))) λ_=>some (.dn ((0,(s0,()))))) ([],0)) λr3=>some r3.2.1.1
def GU (x:(AJ×Int)):Option Int :=
 bd (CM x.1) λr0=>br (BN r0.2.2 0) (λ_=>br (Am x.2 0) (λ_=>some 7) λ_=>br (G1 x.2 12) (λ_=>some 7) λ_=>some r0.2.2) λ_=>some r0.2.2
def Gd (x:(AJ×Int)):Option (Bool×Int) :=
 bd (GU x) λr0=>br (A7 r0 0) (λ_=>some (false,r0)) λ_=>some ((CE (AX (AA x.1.2)) (AI .i64 x.2 1),0))
def BB (x:(AJ×Int)):Option Bool :=
 bd (Gd x) λr0=>some (AY r0.1)
def DK (x:(List (List AD))):Option (Int×Int) :=
 br (BN (AX (AA x)) 0) (λ_=>some (((-1),6))) λ_=>br (CE (AX (AA x)) 32) (λ_=>some (((-1),3))) λ_=>bd (loop (λs0=>br (Am s0.2.2 (AX (AA x))) (λ_=>AT s0.2.2 λk1=>ix x k1 λx2=>bd (CX x2) λr3=>br (A7 r3.2 0) (λ_=>some (.dn ((0,((r3.2,(s0.2.2,s0.2.2)),()))))) λ_=>some (.nx ((s0.1,(s0.2.1,AI .i64 s0.2.2 1))))) λ_=>some (.dn ((1,(s0,()))))) ((0,(0,0)))) λr4=>br (neq r4.1 0) (λ_=>some (r4.2.1.2.1,r4.2.1.1)) λ_=>some (0,0)
def FE (x:(List AM)):Option Int :=
 br (BN (AX (AA x)) 0) (λ_=>some 6) λ_=>br (CE (AX (AA x)) 32) (λ_=>some 3) λ_=>bd (loop (λs0=>br (Am s0.1 (AX (AA x))) (λ_=>AT s0.1 λk1=>ix x k1 λx2=>br x2.2 (λ_=>AT s0.1 λk3=>ix x k3 λx4=>br (AY (seq x4.1 [])) (λ_=>some (.dn ((0,((s0.1,2),()))))) λ_=>some (.nx (AI .i64 s0.1 1,s0.2))) λ_=>some (.nx (AI .i64 s0.1 1,s0.2))) λ_=>some (.dn ((1,(s0,()))))) (0,0)) λr5=>br (neq r5.1 0) (λ_=>some r5.2.1.2) λ_=>some 0
def Ez (x:((List AM)×(Int×Int))):Option Bool :=
 AT x.2.1 λk0=>ix x.1 k0 λx1=>AT x.2.2 λk2=>ix x.1 k2 λx3=>br (AY (beq x1.2 x3.2)) (λ_=>some x3.2) λ_=>br (AY x1.2) (λ_=>br (AY (seq x1.1 x3.1)) (λ_=>some (C1 x1.1 x3.1)) λ_=>some (Am x.2.1 x.2.2)) λ_=>some (Am x.2.1 x.2.2)
def Aq (rec:((List AM)×Int)->Option (Int×Int)) (x:((List AM)×Int)):Option (Int×Int) :=
 br (G1 x.2 (AX (AA x.1))) (λ_=>some ((B7 .i64 x.2 (AX (AA x.1)),0))) λ_=>bd (rec (x.1,MQ .i64 2 x.2)) λr0=>bd (rec ((x.1,AI .i64 (MQ .i64 2 x.2) 1))) λr1=>bd (Ez ((x.1,(r0.1,r1.1)))) λr2=>br r2 (λ_=>some (r0.1,r1.1)) λ_=>some (r1.1,r0.1)
def Fy:((List AM)×Int)->Option (Int×Int):=Je Aq 100
def Fz (x:(List AM)):Option Dv :=
 gd (BJ (AA x) 1048576) λ_=>AT (AX (AA x)) λk0=>AT (AX (AA x)) λk1=>gd (BJ k1 1048576) λ_=>bd (loop (λs2=>br (Am s2.1 (AX (AA x))) (λ_=>bd (Fy (x,s2.1)) λr3=>AT s2.1 λk4=>gd (Dk k4 (AA s2.2.2.1)) λ_=>ix s2.2.2.1 k4 λx5=>some (.nx ((AI .i64 s2.1 1,(s2.2.1,(lset s2.2.2.1 k4 r3.2,s2.2.2.2)))))) λ_=>some (.dn ((0,(s2,()))))) ((1,(x,(DT k1 0,(0:Int)))))) λr6=>bd (Fy (x,1)) λr7=>some ((r6.2.1.2.1,(r6.2.1.2.2.1,r7.1)))
def EG (x:(List AM)):Option (Dv×Int) :=
 bd (FE x) λr0=>br (A7 r0 0) (λ_=>some ((([],([],0)),r0))) λ_=>bd (Fz x) λr1=>some (r1,0)
def Ck (x:((List (List AD))×(List Int))):Option AN :=
 gd (BJ (AA x.1) 1048576) λ_=>gd (BJ (AA x.2) 1048576) λ_=>bd (loop (λs0=>br (Am s0.1 (AX (AA x.1))) (λ_=>AT s0.1 λk1=>ix x.2 k1 λx2=>AT s0.1 λk3=>ix x.1 k3 λx4=>br (AY (BN x2 (AX (AA x4)))) (λ_=>AT s0.1 λk5=>ix x.1 k5 λx6=>AT s0.1 λk7=>ix x.2 k7 λx8=>AT x8 λk9=>ix x6 k9 λx10=>gd (BJ (Ao (AA s0.2) (AA ([(x10.1,BN x2 (AX (AA x4)))]))) 1048576) λ_=>some (.nx ((AI .i64 s0.1 1,By s0.2 ([(x10.1,BN x2 (AX (AA x4)))]))))) λ_=>gd (BJ (Ao (AA s0.2) (AA ([(([]:List UInt8),BN x2 (AX (AA x4)))]))) 1048576) λ_=>some (.nx ((AI .i64 s0.1 1,By s0.2 ([([],BN x2 (AX (AA x4)))]))))) λ_=>some (.dn ((0,(s0,()))))) (0,[])) λr11=>bd (EG r11.2.1.2) λr12=>some ((x.1,(x.2,r12.1)))
def Ge (x:(List (List AD))):Option (AN×(Int×Int)) :=
 bd (DK x) λr0=>br (A7 r0.2 0) (λ_=>some ((([],([],([],([],0)))),r0))) λ_=>AT (AX (AA x)) λk1=>AT (AX (AA x)) λk2=>gd (BJ k2 1048576) λ_=>bd (Ck (x,DT k2 0)) λr3=>some ((r3,(0,0)))
def Cl (x:Bool):Option (Bool×AM) :=
 some ((false,([],x)))
def FG (x:((List (List AD))×Bool)):Option ((AN×((Bool×AM)×((List AD)×Int)))×(Int×Int)) :=
 bd (Ge x.1) λr0=>br (A7 r0.2.2 0) (λ_=>some (((([],([],([],([],0)))),((false,([],false)),([],0))),r0.2))) λ_=>bd (Cl x.2) λr1=>some (((r0.1,(r1,([],0))),(0,0)))
def Ak (x:(AJ×(Int×Bool))):Option (Int×(AN×((Bool×AM)×((List AD)×Int)))) :=
 br (G1 x.2.1 (AX (AA x.1.2))) (λ_=>none) λ_=>AT x.2.1 λk0=>ix x.1.2 k0 λx1=>ix x1 1 λx2=>ix x1 0 λx3=>bd (FG ([x2.2,x3.2],x.2.2)) λr4=>some (x.2.1,r4.1)
def F1 (x:((List Int)×(List Int))):Option Bool :=
 br (A7 (AX (AA x.1)) (AX (AA x.2))) (λ_=>some false) λ_=>bd (loop (λs0=>br (Am s0.1 (AX (AA x.1))) (λ_=>AT s0.1 λk1=>ix x.1 k1 λx2=>AT s0.1 λk3=>ix x.2 k3 λx4=>br (A7 x2 x4) (λ_=>some (.dn ((0,((s0.1,false),()))))) λ_=>some (.nx (AI .i64 s0.1 1,s0.2))) λ_=>some (.dn ((1,(s0,()))))) (0,false)) λr5=>br (neq r5.1 0) (λ_=>some r5.2.1.2) λ_=>some true
def E0 (x:(Dv×Dv)):Option Bool :=
 br (A7 (AX (AA x.1.1)) (AX (AA x.2.1))) (λ_=>some false) λ_=>br (A7 x.1.2.2 x.2.2.2) (λ_=>some false) λ_=>bd (F1 (x.1.2.1,x.2.2.1)) λr0=>br (AY r0) (λ_=>some false) λ_=>bd (loop (λs1=>br (Am s1.1 (AX (AA x.1.1))) (λ_=>AT s1.1 λk2=>ix x.1.1 k2 λx3=>AT s1.1 λk4=>ix x.2.1 k4 λx5=>br (AY (Bd (seq x3.1 x5.1) (Bd (beq x3.2 x5.2) true))) (λ_=>some (.dn ((0,((s1.1,false),()))))) λ_=>some (.nx (AI .i64 s1.1 1,s1.2))) λ_=>some (.dn ((1,(s1,()))))) (0,false)) λr6=>br (neq r6.1 0) (λ_=>some r6.2.1.2) λ_=>some true
def DL (x:((List (List AD))×(List Int))):Option Int :=
 bd (loop (λs0=>br (Am s0.2 (AX (AA x.1))) (λ_=>AT s0.2 λk1=>ix x.2 k1 λx2=>AT s0.2 λk3=>ix x.1 k3 λx4=>br (Am x2 (AX (AA x4))) (λ_=>br (Am s0.1 0) (λ_=>some (.nx (s0.2,AI .i64 s0.2 1))) λ_=>AT s0.2 λk5=>ix x.1 k5 λx6=>AT s0.2 λk7=>ix x.2 k7 λx8=>AT x8 λk9=>ix x6 k9 λx10=>AT s0.1 λk11=>ix x.1 k11 λx12=>AT s0.1 λk13=>ix x.2 k13 λx14=>AT x14 λk15=>ix x12 k15 λx16=>br (C1 x10.1 x16.1) (λ_=>some (.nx (s0.2,AI .i64 s0.2 1))) λ_=>some (.nx (s0.1,AI .i64 s0.2 1))) λ_=>some (.nx (s0.1,AI .i64 s0.2 1))) λ_=>some (.dn ((0,(s0,()))))) (((-1),0))) λr17=>some r17.2.1.1
def DM (x:AN):Option (Int×Int) :=
 bd (DK x.1) λr0=>br (A7 r0.2 0) (λ_=>some r0) λ_=>br (A7 (AX (AA x.2.1)) (AX (AA x.1))) (λ_=>some (((-1),6))) λ_=>bd (loop (λs1=>br (Am s1.2.2 (AX (AA x.2.1))) (λ_=>AT s1.2.2 λk2=>ix x.2.1 k2 λx3=>br (Am x3 0) (λ_=>some (.dn ((0,((6,(s1.2.2,s1.2.2)),()))))) λ_=>AT s1.2.2 λk4=>ix x.2.1 k4 λx5=>AT s1.2.2 λk6=>ix x.1 k6 λx7=>br (CE x5 (AX (AA x7))) (λ_=>some (.dn ((0,((6,(s1.2.2,s1.2.2)),()))))) λ_=>some (.nx ((s1.1,(s1.2.1,AI .i64 s1.2.2 1))))) λ_=>some (.dn ((1,(s1,()))))) ((0,(0,0)))) λr8=>br (neq r8.1 0) (λ_=>some (r8.2.1.2.1,r8.2.1.1)) λ_=>bd (Ck (x.1,x.2.1)) λr9=>bd (E0 (x.2.2,r9.2.2)) λr10=>br (AY r10) (λ_=>some (((-1),6))) λ_=>bd (DL (x.1,x.2.1)) λr11=>bd (loop (λs12=>br (Am s12.2.2 (AX (AA x.1))) (λ_=>br (G1 r11 0) (λ_=>AT s12.2.2 λk13=>ix x.2.1 k13 λx14=>br (BN x14 0) (λ_=>some (.nx ((s12.1,(s12.2.1,AI .i64 s12.2.2 1))))) λ_=>AT s12.2.2 λk15=>ix x.1 k15 λx16=>AT s12.2.2 λk17=>ix x.2.1 k17 λx18=>AT (B7 .i64 x18 1) λk19=>ix x16 k19 λx20=>AT r11 λk21=>ix x.1 k21 λx22=>AT r11 λk23=>ix x.2.1 k23 λx24=>AT x24 λk25=>ix x22 k25 λx26=>br (C1 x26.1 x20.1) (λ_=>some (.dn ((0,((6,(r11,s12.2.2)),()))))) λ_=>br (seq x20.1 x26.1) (λ_=>br (CE s12.2.2 r11) (λ_=>some (.dn ((0,((6,(r11,s12.2.2)),()))))) λ_=>some (.nx ((s12.1,(s12.2.1,AI .i64 s12.2.2 1))))) λ_=>some (.nx ((s12.1,(s12.2.1,AI .i64 s12.2.2 1))))) λ_=>some (.dn ((1,(s12,()))))) λ_=>some (.dn ((1,(s12,()))))) ((r8.2.1.1,(r8.2.1.2.1,0)))) λr27=>br (neq r27.1 0) (λ_=>some (r27.2.1.2.1,r27.2.1.1)) λ_=>some (0,0)
def Dx (x:(AN×((Bool×AM)×((List AD)×Int)))):Option Int :=
 bd (loop (λs0=>br (Am s0.2 (AX (AA x.1.2.1))) (λ_=>AT s0.2 λk1=>ix x.1.2.1 k1 λx2=>some (.nx (AI .i64 s0.1 x2,AI .i64 s0.2 1))) λ_=>some (.dn ((0,(s0,()))))) (0,0)) λr3=>some r3.2.1.1
def Ed (x:(List (List AD))):Option ((List AD)×((List Int)×Int)) :=
 bd (DK x) λr0=>br (A7 r0.2 0) (λ_=>some (([],([],r0.2)))) λ_=>AT (AX (AA x)) λk1=>AT (AX (AA x)) λk2=>gd (BJ k2 1048576) λ_=>bd (loop (λ(s3:((List Int)×((List AD)×((List AD)×(Int×((List Int)×(List Int)))))))=>bd (DL (x,s3.2.2.2.2.2)) λr4=>br (Am r4 0) (λ_=>some (.dn ((0,((s3.2.2.2.2.1,(s3.2.1,0)),()))))) λ_=>AT r4 λk5=>ix x k5 λx6=>AT r4 λk7=>gd (Dk k7 (AA s3.2.2.2.2.2)) λ_=>ix s3.2.2.2.2.2 k7 λx8=>AT x8 λk9=>ix x6 k9 λx10=>gd (BJ (Ao (AA s3.2.1) (AA [x10])) 1048576) λ_=>gd (BJ (Ao (AA s3.2.2.2.2.1) (AA [r4])) 1048576) λ_=>AT r4 λk11=>gd (Dk k11 (AA s3.2.2.2.2.2)) λ_=>ix s3.2.2.2.2.2 k11 λx12=>AT r4 λk13=>gd (Dk k13 (AA s3.2.2.2.2.2)) λ_=>ix s3.2.2.2.2.2 k13 λx14=>some (.nx ((s3.1,(By s3.2.1 [x10],(s3.2.2.1,(s3.2.2.2.1,(By s3.2.2.2.2.1 [r4],lset s3.2.2.2.2.2 k13 (AI .i64 x12 1))))))))) (([],([],([],(0,([],DT k2 0))))))) λr15=>some ((r15.2.1.2.1,(r15.2.1.1,r15.2.1.2.2)))
def FH (x:(Bool×AM)):Option Int :=
 br (CE (AX (E7 x.2.1)) 32) (λ_=>some 3) λ_=>br (AY x.1) (λ_=>br (AY (seq x.2.1 [])) (λ_=>some 6) λ_=>some 0) λ_=>some 0
def F2 (x:((Bool×AM)×AD)):Option (Bool×((Bool×AM)×Int)) :=
 bd (FH x.1) λr0=>br (BN r0 0) (λ_=>bd (DJ x.2) λr1=>br (BN r1 0) (λ_=>br x.1.1 (λ_=>br (C1 x.2.1 x.1.2.1) (λ_=>some ((false,((false,([],false)),6)))) λ_=>br (A7 r1 0) (λ_=>some ((false,((false,([],false)),r1)))) λ_=>br (AY x.1.1) (λ_=>br x.1.2.2 (λ_=>some ((AY x.2.2.2.1,((true,(x.2.1,x.1.2.2)),0)))) λ_=>some ((true,((true,(x.2.1,x.1.2.2)),0)))) λ_=>br (AY (seq x.2.1 x.1.2.1)) (λ_=>br x.1.2.2 (λ_=>some ((AY x.2.2.2.1,((true,(x.2.1,x.1.2.2)),0)))) λ_=>some ((true,((true,(x.2.1,x.1.2.2)),0)))) λ_=>some ((false,((true,(x.2.1,x.1.2.2)),0)))) λ_=>br (A7 r1 0) (λ_=>some ((false,((false,([],false)),r1)))) λ_=>br (AY x.1.1) (λ_=>br x.1.2.2 (λ_=>some ((AY x.2.2.2.1,((true,(x.2.1,x.1.2.2)),0)))) λ_=>some ((true,((true,(x.2.1,x.1.2.2)),0)))) λ_=>br (AY (seq x.2.1 x.1.2.1)) (λ_=>br x.1.2.2 (λ_=>some ((AY x.2.2.2.1,((true,(x.2.1,x.1.2.2)),0)))) λ_=>some ((true,((true,(x.2.1,x.1.2.2)),0)))) λ_=>some ((false,((true,(x.2.1,x.1.2.2)),0)))) λ_=>br (A7 r1 0) (λ_=>some ((false,((false,([],false)),r1)))) λ_=>br (AY x.1.1) (λ_=>br x.1.2.2 (λ_=>some ((AY x.2.2.2.1,((true,(x.2.1,x.1.2.2)),0)))) λ_=>some ((true,((true,(x.2.1,x.1.2.2)),0)))) λ_=>br (AY (seq x.2.1 x.1.2.1)) (λ_=>br x.1.2.2 (λ_=>some ((AY x.2.2.2.1,((true,(x.2.1,x.1.2.2)),0)))) λ_=>some ((true,((true,(x.2.1,x.1.2.2)),0)))) λ_=>some ((false,((true,(x.2.1,x.1.2.2)),0)))) λ_=>br (BN r0 0) (λ_=>br x.1.1 (λ_=>br (C1 x.2.1 x.1.2.1) (λ_=>some ((false,((false,([],false)),6)))) λ_=>br (A7 r0 0) (λ_=>some ((false,((false,([],false)),r0)))) λ_=>br (AY x.1.1) (λ_=>br x.1.2.2 (λ_=>some ((AY x.2.2.2.1,((true,(x.2.1,x.1.2.2)),0)))) λ_=>some ((true,((true,(x.2.1,x.1.2.2)),0)))) λ_=>br (AY (seq x.2.1 x.1.2.1)) (λ_=>br x.1.2.2 (λ_=>some ((AY x.2.2.2.1,((true,(x.2.1,x.1.2.2)),0)))) λ_=>some ((true,((true,(x.2.1,x.1.2.2)),0)))) λ_=>some ((false,((true,(x.2.1,x.1.2.2)),0)))) λ_=>br (A7 r0 0) (λ_=>some ((false,((false,([],false)),r0)))) λ_=>br (AY x.1.1) (λ_=>br x.1.2.2 (λ_=>some ((AY x.2.2.2.1,((true,(x.2.1,x.1.2.2)),0)))) λ_=>some ((true,((true,(x.2.1,x.1.2.2)),0)))) λ_=>br (AY (seq x.2.1 x.1.2.1)) (λ_=>br x.1.2.2 (λ_=>some ((AY x.2.2.2.1,((true,(x.2.1,x.1.2.2)),0)))) λ_=>some ((true,((true,(x.2.1,x.1.2.2)),0)))) λ_=>some ((false,((true,(x.2.1,x.1.2.2)),0)))) λ_=>br (A7 r0 0) (λ_=>some ((false,((false,([],false)),r0)))) λ_=>br (AY x.1.1) (λ_=>br x.1.2.2 (λ_=>some ((AY x.2.2.2.1,((true,(x.2.1,x.1.2.2)),0)))) λ_=>some ((true,((true,(x.2.1,x.1.2.2)),0)))) λ_=>br (AY (seq x.2.1 x.1.2.1)) (λ_=>br x.1.2.2 (λ_=>some ((AY x.2.2.2.1,((true,(x.2.1,x.1.2.2)),0)))) λ_=>some ((true,((true,(x.2.1,x.1.2.2)),0)))) λ_=>some ((false,((true,(x.2.1,x.1.2.2)),0)))
def Ee (x:((List AD)×Bool)):Option ((List AD)×(Int×Int)) :=
 br (CE (AX (AA x.1)) 20000) (λ_=>some (([],((-1),3)))) λ_=>bd (Cl x.2) λr0=>bd (loop (λ(s1:(Int×(Int×((List AD)×((List AD)×(Int×(Bool×AM)))))))=>br (Am s1.2.1 (AX (AA x.1))) (λ_=>AT s1.2.1 λk2=>ix x.1 k2 λx3=>bd (F2 (s1.2.2.2.2.2,x3)) λr4=>br (A7 r4.2.2 0) (λ_=>some (.dn ((0,((s1.2.1,(s1.2.1,([],(s1.2.2.2.1,(r4.2.2,s1.2.2.2.2.2))))),()))))) λ_=>br r4.1 (λ_=>AT s1.2.1 λk5=>ix x.1 k5 λx6=>gd (BJ (Ao (AA s1.2.2.2.1) (AA [x6])) 1048576) λ_=>some (.nx ((s1.1,(AI .i64 s1.2.1 1,(s1.2.2.1,(By s1.2.2.2.1 [x6],(s1.2.2.2.2.1,r4.2.1)))))))) λ_=>some (.nx ((s1.1,(AI .i64 s1.2.1 1,(s1.2.2.1,(s1.2.2.2.1,(s1.2.2.2.2.1,r4.2.1)))))))) λ_=>some (.dn ((1,(s1,()))))) ((0,(0,([],([],(0,r0))))))) λr7=>br (neq r7.1 0) (λ_=>some ((r7.2.1.2.2.1,(r7.2.1.1,r7.2.1.2.2.2.2.1)))) λ_=>some ((r7.2.1.2.2.2.1,(0,0)))
def Ct (x:((List AD)×Bool)):Option ((List AD)×(Bool×AM)) :=
 bd (Ee x) λr0=>bd (Cl x.2) λr1=>br (CE (AX (AA x.1)) 0) (λ_=>AT (B7 .i64 (AX (AA x.1)) 1) λk2=>ix x.1 k2 λx3=>some ((r0.1,(true,(x3.1,r1.2.2))))) λ_=>some (r0.1,r1)
def Bp (x:((List AD)×(List AD))):Option Bool :=
 br (A7 (AX (AA x.1)) (AX (AA x.2))) (λ_=>some false) λ_=>bd (loop (λs0=>br (Am s0.1 (AX (AA x.1))) (λ_=>AT s0.1 λk1=>ix x.1 k1 λx2=>AT s0.1 λk3=>ix x.2 k3 λx4=>br (AY (Bd (seq x2.1 x4.1) (Bd (seq x2.2.1 x4.2.1) (Bd (beq x2.2.2.1 x4.2.2.1) (Bd (BN x2.2.2.2 x4.2.2.2) true))))) (λ_=>some (.dn ((0,((s0.1,false),()))))) λ_=>some (.nx (AI .i64 s0.1 1,s0.2))) λ_=>some (.dn ((1,(s0,()))))) (0,false)) λr5=>br (neq r5.1 0) (λ_=>some r5.2.1.2) λ_=>some true
def FI (x:(AN×((Bool×AM)×((List AD)×Int)))):Option Int :=
 bd (DM x.1) λr0=>br (A7 r0.2 0) (λ_=>some r0.2) λ_=>bd (Dx x) λr1=>br (CE (AX (AA x.2.2.1)) 20000) (λ_=>some 3) λ_=>br (CE r1 20000) (λ_=>some 3) λ_=>br (A7 x.2.2.2 r1) (λ_=>some 7) λ_=>bd (Ed x.1.1) λr2=>AT r1 λk3=>gd (BJ k3 (AA r2.1)) λ_=>gd (BJ 0 k3) λ_=>bd (Ct (EJ r2.1 0 k3,x.2.1.2.2)) λr4=>bd (Bp (x.2.2.1,r4.1)) λr5=>br (AY r5) (λ_=>some 6) λ_=>br (AY (Bd (beq x.2.1.1 r4.2.1) (Bd (seq x.2.1.2.1 r4.2.2.1) (Bd (beq x.2.1.2.2 r4.2.2.2) true)))) (λ_=>some 6) λ_=>some 0
def F3 (x:AN):Option (Int×Int) :=
 bd (DM x) λr0=>br (A7 r0.2 0) (λ_=>some (0,r0.2)) λ_=>bd (loop (λs1=>br (Am s1.1 (AX (AA x.1))) (λ_=>AT s1.1 λk2=>ix x.1 k2 λx3=>AT s1.1 λk4=>ix x.2.1 k4 λx5=>some (.nx ((AI .i64 s1.1 1,B7 .i64 (AI .i64 s1.2 (AX (AA x3))) x5)))) λ_=>some (.dn ((0,(s1,()))))) (0,0)) λr6=>some (r6.2.1.2,0)
def BC (x:(AN×((Bool×AM)×((List AD)×Int)))):Option (Int×Int) :=
 bd (FI x) λr0=>br (A7 r0 0) (λ_=>some (0,r0)) λ_=>bd (F3 x.1) λr1=>some r1
def Dy (x:AN):Option (AD×(Int×(AN×Int))) :=
 bd (DM x) λr0=>br (A7 r0.2 0) (λ_=>some (((([],([],(false,0))):AD),(0,(([],([],([],([],0)))),r0.2))))) λ_=>bd (DL (x.1,x.2.1)) λr1=>br (Am r1 0) (λ_=>some (((([],([],(false,0))):AD),(0,(([],([],([],([],0)))),12))))) λ_=>gd (BJ (AA x.2.1) 1048576) λ_=>AT r1 λk2=>gd (Dk k2 (AA x.2.1)) λ_=>ix x.2.1 k2 λx3=>AT r1 λk4=>gd (Dk k4 (AA x.2.1)) λ_=>ix x.2.1 k4 λx5=>AT r1 λk6=>ix x.1 k6 λx7=>AT r1 λk8=>ix x.2.1 k8 λx9=>AT x9 λk10=>ix x7 k10 λx11=>bd (Ck ((x.1,lset x.2.1 k4 (AI .i64 x3 1)))) λr12=>some ((x11,(r1,(r12,0))))
def BO (x:((AN×((Bool×AM)×((List AD)×Int)))×Int)):Option ((AN×((Bool×AM)×((List AD)×Int)))×(Int×Int)) :=
 bd (BC x.1) λr0=>br (BN r0.2 0) (λ_=>br (Am x.2 0) (λ_=>some (((([],([],([],([],0)))),((false,([],false)),([],0))),(0,7)))) λ_=>br (A7 r0.2 0) (λ_=>some (((([],([],([],([],0)))),((false,([],false)),([],0))),(0,r0.2)))) λ_=>bd (Dx x.1) λr1=>br (CE (AI .i64 r1 (NC x.2 r0.1)) 20000) (λ_=>some (((([],([],([],([],0)))),((false,([],false)),([],0))),(0,3)))) λ_=>bd (loop (λ(s2:(Int×((List (List AD))×((List Int)×((List AM)×((List Int)×(Int×(Bool×((List UInt8)×(Bool×((List AD)×Int)))))))))))=>br (Am s2.1 (NC x.2 r0.1)) (λ_=>bd (Dy ((s2.2.1,(s2.2.2.1,(s2.2.2.2.1,(s2.2.2.2.2.1,s2.2.2.2.2.2.1)))))) λr3=>some (.nx ((AI .i64 s2.1 1,(r3.2.2.1.1,(r3.2.2.1.2.1,(r3.2.2.1.2.2.1,(r3.2.2.1.2.2.2.1,(r3.2.2.1.2.2.2.2,s2.2.2.2.2.2.2))))))))) λ_=>some (.dn ((0,(s2,()))))) ((0,(x.1.1.1,(x.1.1.2.1,(x.1.1.2.2.1,(x.1.1.2.2.2.1,(x.1.1.2.2.2.2,(x.1.2.1.1,(x.1.2.1.2.1,(x.1.2.1.2.2,x.1.2.2))))))))))) λr4=>bd (Ed x.1.1.1) λr5=>AT (AI .i64 x.1.2.2.2 (NC x.2 r0.1)) λk6=>gd (BJ k6 (AA r5.1)) λ_=>gd (BJ 0 k6) λ_=>bd (Ct (EJ r5.1 0 k6,x.1.2.1.2.2)) λr7=>some ((((r4.2.1.2.1,(r4.2.1.2.2.1,(r4.2.1.2.2.2.1,(r4.2.1.2.2.2.2.1,r4.2.1.2.2.2.2.2.1)))),(r7.2,(r7.1,AI .i64 x.1.2.2.2 (NC x.2 r0.1)))),(NC x.2 r0.1,0)))) λ_=>br (A7 r0.2 0) (λ_=>some (((([],([],([],([],0)))),((false,([],false)),([],0))),(0,r0.2)))) λ_=>bd (Dx x.1) λr8=>br (CE (AI .i64 r8 (NC x.2 r0.1)) 20000) (λ_=>some (((([],([],([],([],0)))),((false,([],false)),([],0))),(0,3)))) λ_=>bd (loop (λ(s9:(Int×((List (List AD))×((List Int)×((List AM)×((List Int)×(Int×(Bool×((List UInt8)×(Bool×((List AD)×Int)))))))))))=>br (Am s9.1 (NC x.2 r0.1)) (λ_=>bd (Dy ((s9.2.1,(s9.2.2.1,(s9.2.2.2.1,(s9.2.2.2.2.1,s9.2.2.2.2.2.1)))))) λr10=>some (.nx ((AI .i64 s9.1 1,(r10.2.2.1.1,(r10.2.2.1.2.1,(r10.2.2.1.2.2.1,(r10.2.2.1.2.2.2.1,(r10.2.2.1.2.2.2.2,s9.2.2.2.2.2.2))))))))) λ_=>some (.dn ((0,(s9,()))))) ((0,(x.1.1.1,(x.1.1.2.1,(x.1.1.2.2.1,(x.1.1.2.2.2.1,(x.1.1.2.2.2.2,(x.1.2.1.1,(x.1.2.1.2.1,(x.1.2.1.2.2,x.1.2.2))))))))))) λr11=>bd (Ed x.1.1.1) λr12=>AT (AI .i64 x.1.2.2.2 (NC x.2 r0.1)) λk13=>gd (BJ k13 (AA r12.1)) λ_=>gd (BJ 0 k13) λ_=>bd (Ct (EJ r12.1 0 k13,x.1.2.1.2.2)) λr14=>some ((((r11.2.1.2.1,(r11.2.1.2.2.1,(r11.2.1.2.2.2.1,(r11.2.1.2.2.2.2.1,r11.2.1.2.2.2.2.2.1)))),(r14.2,(r14.1,AI .i64 x.1.2.2.2 (NC x.2 r0.1)))),(NC x.2 r0.1,0)))
def F4 (x:(AN×AN)):Option Bool :=
 br (A7 (AX (AA x.1.1)) (AX (AA x.2.1))) (λ_=>some false) λ_=>bd (F1 (x.1.2.1,x.2.2.1)) λr0=>br (AY r0) (λ_=>some false) λ_=>bd (E0 (x.1.2.2,x.2.2.2)) λr1=>br (AY r1) (λ_=>some false) λ_=>bd (loop (λs2=>br (Am s2.1 (AX (AA x.1.1))) (λ_=>AT s2.1 λk3=>ix x.1.1 k3 λx4=>AT s2.1 λk5=>ix x.2.1 k5 λx6=>bd (Bp (x4,x6)) λr7=>br (AY r7) (λ_=>some (.dn ((0,((s2.1,false),()))))) λ_=>some (.nx (AI .i64 s2.1 1,s2.2))) λ_=>some (.dn ((1,(s2,()))))) (0,false)) λr8=>br (neq r8.1 0) (λ_=>some r8.2.1.2) λ_=>some true
def BI (x:((AN×((Bool×AM)×((List AD)×Int)))×(AN×((Bool×AM)×((List AD)×Int))))):Option Bool :=
 bd (F4 (x.1.1,x.2.1)) λr0=>br r0 (λ_=>br (Bd (beq x.1.2.1.1 x.2.2.1.1) (Bd (seq x.1.2.1.2.1 x.2.2.1.2.1) (Bd (beq x.1.2.1.2.2 x.2.2.1.2.2) true))) (λ_=>bd (Bp (x.1.2.2.1,x.2.2.2.1)) λr1=>br r1 (λ_=>some (BN x.1.2.2.2 x.2.2.2.2)) λ_=>some false) λ_=>some false) λ_=>some false
def EH (x:(AJ×((List (Int×(AN×((Bool×AM)×((List AD)×Int)))))×Int))):Option (Int×Int) :=
 bd (CM x.1) λr0=>br (BN r0.2.2 0) (λ_=>br (Am x.2.2 1) (λ_=>some (((-1),7))) λ_=>br (CE x.2.2 1000001) (λ_=>some (((-1),7))) λ_=>br (BN r0.2.2 0) (λ_=>bd (CH x.1) λr1=>br (fq x.2.2 r1) (λ_=>some (((-1),6))) λ_=>br (A7 r0.2.2 0) (λ_=>some (((-1),r0.2.2))) λ_=>bd (CR x.1) λr2=>bd (loop (λs3=>br (Am s3.2.2 (AX (AA x.2.1))) (λ_=>AT s3.2.2 λk4=>ix x.2.1 k4 λx5=>br (G1 s3.2.2 (AX (AA r2))) (λ_=>some (.dn ((0,((6,(s3.2.2,s3.2.2)),()))))) λ_=>AT s3.2.2 λk6=>ix r2 k6 λx7=>br (A7 x5.1 x7) (λ_=>some (.dn ((0,((6,(s3.2.2,s3.2.2)),()))))) λ_=>br x5.2.2.1.2.2 (λ_=>bd (BB (x.1,x5.1)) λr8=>br (AY r8) (λ_=>some (.dn ((0,((6,(s3.2.2,s3.2.2)),()))))) λ_=>bd (Ak ((x.1,(x5.1,x5.2.2.1.2.2)))) λr9=>bd (BC r9.2) λr10=>br (Am x5.2.2.2.2 0) (λ_=>some (.dn ((0,((6,(s3.2.2,s3.2.2)),()))))) λ_=>br (CE x5.2.2.2.2 r10.1) (λ_=>some (.dn ((0,((6,(s3.2.2,s3.2.2)),()))))) λ_=>bd (BO (r9.2,x5.2.2.2.2)) λr11=>bd (BI (r11.1,x5.2)) λr12=>br (AY r12) (λ_=>some (.dn ((0,((6,(s3.2.2,s3.2.2)),()))))) λ_=>some (.nx ((s3.1,(s3.2.1,AI .i64 s3.2.2 1))))) λ_=>bd (Ak ((x.1,(x5.1,x5.2.2.1.2.2)))) λr13=>bd (BC r13.2) λr14=>br (Am x5.2.2.2.2 0) (λ_=>some (.dn ((0,((6,(s3.2.2,s3.2.2)),()))))) λ_=>br (CE x5.2.2.2.2 r14.1) (λ_=>some (.dn ((0,((6,(s3.2.2,s3.2.2)),()))))) λ_=>bd (BO (r13.2,x5.2.2.2.2)) λr15=>bd (BI (r15.1,x5.2)) λr16=>br (AY r16) (λ_=>some (.dn ((0,((6,(s3.2.2,s3.2.2)),()))))) λ_=>some (.nx ((s3.1,(s3.2.1,AI .i64 s3.2.2 1))))) λ_=>some (.dn ((1,(s3,()))))) ((0,(0,0)))) λr17=>br (neq r17.1 0) (λ_=>some (r17.2.1.2.1,r17.2.1.1)) λ_=>br (Am (AX (AA x.2.1)) (AX (AA r2))) (λ_=>some (((-1),4))) λ_=>some (0,0)) λ_=>br (A7 r0.2.2 0) (λ_=>some (((-1),r0.2.2))) λ_=>bd (CR x.1) λr18=>bd (loop (λs19=>br (Am s19.2.2 (AX (AA x.2.1))) (λ_=>AT s19.2.2 λk20=>ix x.2.1 k20 λx21=>br (G1 s19.2.2 (AX (AA r18))) (λ_=>some (.dn ((0,((6,(s19.2.2,s19.2.2)),()))))) λ_=>AT s19.2.2 λk22=>ix r18 k22 λx23=>br (A7 x21.1 x23) (λ_=>some (.dn ((0,((6,(s19.2.2,s19.2.2)),()))))) λ_=>br x21.2.2.1.2.2 (λ_=>bd (BB (x.1,x21.1)) λr24=>br (AY r24) (λ_=>some (.dn ((0,((6,(s19.2.2,s19.2.2)),()))))) λ_=>bd (Ak ((x.1,(x21.1,x21.2.2.1.2.2)))) λr25=>bd (BC r25.2) λr26=>br (Am x21.2.2.2.2 0) (λ_=>some (.dn ((0,((6,(s19.2.2,s19.2.2)),()))))) λ_=>br (CE x21.2.2.2.2 r26.1) (λ_=>some (.dn ((0,((6,(s19.2.2,s19.2.2)),()))))) λ_=>bd (BO (r25.2,x21.2.2.2.2)) λr27=>bd (BI (r27.1,x21.2)) λr28=>br (AY r28) (λ_=>some (.dn ((0,((6,(s19.2.2,s19.2.2)),()))))) λ_=>some (.nx ((s19.1,(s19.2.1,AI .i64 s19.2.2 1))))) λ_=>bd (Ak ((x.1,(x21.1,x21.2.2.1.2.2)))) λr29=>bd (BC r29.2) λr30=>br (Am x21.2.2.2.2 0) (λ_=>some (.dn ((0,((6,(s19.2.2,s19.2.2)),()))))) λ_=>br (CE x21.2.2.2.2 r30.1) (λ_=>some (.dn ((0,((6,(s19.2.2,s19.2.2)),()))))) λ_=>bd (BO (r29.2,x21.2.2.2.2)) λr31=>bd (BI (r31.1,x21.2)) λr32=>br (AY r32) (λ_=>some (.dn ((0,((6,(s19.2.2,s19.2.2)),()))))) λ_=>some (.nx ((s19.1,(s19.2.1,AI .i64 s19.2.2 1))))) λ_=>some (.dn ((1,(s19,()))))) ((0,(0,0)))) λr33=>br (neq r33.1 0) (λ_=>some (r33.2.1.2.1,r33.2.1.1)) λ_=>br (Am (AX (AA x.2.1)) (AX (AA r18))) (λ_=>some (((-1),4))) λ_=>some (0,0)) λ_=>br (BN r0.2.2 0) (λ_=>bd (CH x.1) λr34=>br (fq x.2.2 r34) (λ_=>some (((-1),6))) λ_=>br (A7 r0.2.2 0) (λ_=>some (((-1),r0.2.2))) λ_=>bd (CR x.1) λr35=>bd (loop (λs36=>br (Am s36.2.2 (AX (AA x.2.1))) (λ_=>AT s36.2.2 λk37=>ix x.2.1 k37 λx38=>br (G1 s36.2.2 (AX (AA r35))) (λ_=>some (.dn ((0,((6,(s36.2.2,s36.2.2)),()))))) λ_=>AT s36.2.2 λk39=>ix r35 k39 λx40=>br (A7 x38.1 x40) (λ_=>some (.dn ((0,((6,(s36.2.2,s36.2.2)),()))))) λ_=>br x38.2.2.1.2.2 (λ_=>bd (BB (x.1,x38.1)) λr41=>br (AY r41) (λ_=>some (.dn ((0,((6,(s36.2.2,s36.2.2)),()))))) λ_=>bd (Ak ((x.1,(x38.1,x38.2.2.1.2.2)))) λr42=>bd (BC r42.2) λr43=>br (Am x38.2.2.2.2 0) (λ_=>some (.dn ((0,((6,(s36.2.2,s36.2.2)),()))))) λ_=>br (CE x38.2.2.2.2 r43.1) (λ_=>some (.dn ((0,((6,(s36.2.2,s36.2.2)),()))))) λ_=>bd (BO (r42.2,x38.2.2.2.2)) λr44=>bd (BI (r44.1,x38.2)) λr45=>br (AY r45) (λ_=>some (.dn ((0,((6,(s36.2.2,s36.2.2)),()))))) λ_=>some (.nx ((s36.1,(s36.2.1,AI .i64 s36.2.2 1))))) λ_=>bd (Ak ((x.1,(x38.1,x38.2.2.1.2.2)))) λr46=>bd (BC r46.2) λr47=>br (Am x38.2.2.2.2 0) (λ_=>some (.dn ((0,((6,(s36.2.2,s36.2.2)),()))))) λ_=>br (CE x38.2.2.2.2 r47.1) (λ_=>some (.dn ((0,((6,(s36.2.2,s36.2.2)),()))))) λ_=>bd (BO (r46.2,x38.2.2.2.2)) λr48=>bd (BI (r48.1,x38.2)) λr49=>br (AY r49) (λ_=>some (.dn ((0,((6,(s36.2.2,s36.2.2)),()))))) λ_=>some (.nx ((s36.1,(s36.2.1,AI .i64 s36.2.2 1))))) λ_=>some (.dn ((1,(s36,()))))) ((0,(0,0)))) λr50=>br (neq r50.1 0) (λ_=>some (r50.2.1.2.1,r50.2.1.1)) λ_=>br (Am (AX (AA x.2.1)) (AX (AA r35))) (λ_=>some (((-1),4))) λ_=>some (0,0)) λ_=>br (A7 r0.2.2 0) (λ_=>some (((-1),r0.2.2))) λ_=>bd (CR x.1) λr51=>bd (loop (λs52=>br (Am s52.2.2 (AX (AA x.2.1))) (λ_=>AT s52.2.2 λk53=>ix x.2.1 k53 λx54=>br (G1 s52.2.2 (AX (AA r51))) (λ_=>some (.dn ((0,((6,(s52.2.2,s52.2.2)),()))))) λ_=>AT s52.2.2 λk55=>ix r51 k55 λx56=>br (A7 x54.1 x56) (λ_=>some (.dn ((0,((6,(s52.2.2,s52.2.2)),()))))) λ_=>br x54.2.2.1.2.2 (λ_=>bd (BB (x.1,x54.1)) λr57=>br (AY r57) (λ_=>some (.dn ((0,((6,(s52.2.2,s52.2.2)),()))))) λ_=>bd (Ak ((x.1,(x54.1,x54.2.2.1.2.2)))) λr58=>bd (BC r58.2) λr59=>br (Am x54.2.2.2.2 0) (λ_=>some (.dn ((0,((6,(s52.2.2,s52.2.2)),()))))) λ_=>br (CE x54.2.2.2.2 r59.1) (λ_=>some (.dn ((0,((6,(s52.2.2,s52.2.2)),()))))) λ_=>bd (BO (r58.2,x54.2.2.2.2)) λr60=>bd (BI (r60.1,x54.2)) λr61=>br (AY r61) (λ_=>some (.dn ((0,((6,(s52.2.2,s52.2.2)),()))))) λ_=>some (.nx ((s52.1,(s52.2.1,AI .i64 s52.2.2 1))))) λ_=>bd (Ak ((x.1,(x54.1,x54.2.2.1.2.2)))) λr62=>bd (BC r62.2) λr63=>br (Am x54.2.2.2.2 0) (λ_=>some (.dn ((0,((6,(s52.2.2,s52.2.2)),()))))) λ_=>br (CE x54.2.2.2.2 r63.1) (λ_=>some (.dn ((0,((6,(s52.2.2,s52.2.2)),()))))) λ_=>bd (BO (r62.2,x54.2.2.2.2)) λr64=>bd (BI (r64.1,x54.2)) λr65=>br (AY r65) (λ_=>some (.dn ((0,((6,(s52.2.2,s52.2.2)),()))))) λ_=>some (.nx ((s52.1,(s52.2.1,AI .i64 s52.2.2 1))))) λ_=>some (.dn ((1,(s52,()))))) ((0,(0,0)))) λr66=>br (neq r66.1 0) (λ_=>some (r66.2.1.2.1,r66.2.1.1)) λ_=>br (Am (AX (AA x.2.1)) (AX (AA r51))) (λ_=>some (((-1),4))) λ_=>some (0,0)
end Go.Proofs.YthpkjfabdccpdaaGreat.Pl
namespace Go.Proofs.YthpkjfabdccpdaaGreat.Pl
open Go Go.Proofs.YthpkjfabdccpdaaGreat.Sv
theorem L8 (x:AD):DJ x=some (kE x):=by
 unfold DJ kE;rw [A5,AV,Is];by_cases h1:x.1.length>32
 ·rw [if_pos (by omega),if_pos (.inl h1)]
 rw [if_neg (by omega),A5,AV,Is];by_cases h2:x.2.1.length>64
 ·rw [if_pos (by omega),if_pos (.inr h2)]
 rw [if_neg (by omega : ¬ (x.2.1.length:Int)>64),if_neg (by omega),Gl];by_cases h3:x.2.2.1=true
 ·rw [if_pos h3,Be,Ea];by_cases h4:x.2.1=[]
  ·rw [if_pos h4,if_neg (by simp [h4]),BG,A5];by_cases h5:x.2.2.2<1
   ·simp [h5]
   ·by_cases h6:x.2.2.2>1000000000<;>simp [h5,h6]
  ·rw [if_neg h4,if_pos ⟨h3,h4⟩]
 ·rw [if_neg h3,if_neg (by simp [h3]),BG,A5];by_cases h5:x.2.2.2<1
  ·simp [h5]
  ·by_cases h6:x.2.2.2>1000000000<;>simp [h5,h6]
def DN:List UInt8->List UInt8->Nat
 | x::a,y::b=>if x=y then DN a b+1 else 0
 | _,_=>0
theorem ZS (x y:UInt8):BN (Ry x) (Ry y)=decide (x=y):=by
 rw [DI];unfold Ry;by_cases h:x=y
 ·simp [h]
 ·have : ¬ ((x.toNat:Int)=(y.toNat:Int)):=λe=>h (UInt8.toNat_inj.1 (by omega));simp [h,this]
theorem W4 (a b:List UInt8) (ha:a.length<=9223372036854775806):Ec (a,b)=some (DN a b:Int):=by
 unfold Ec;simp only [AV,Is]
 have key : ∀ (m:List UInt8) (k n:Nat),a.drop k=m->k<=a.length->k<=b.length->m.length<n->DW n (λs0=>br (Am s0 (a.length:Int)) (λ_=>br (Am s0 (b.length:Int)) (λ_=>AT s0 λk1=>ix a k1 λx2=>AT s0 λk3=>ix b k3 λx4=>br (BN (Ry x2) (Ry x4)) (λ_=>some (LR.nx (AI .i64 s0 1))) λ_=>some (.dn ((0,(s0,()))))) λ_=>some (.dn ((0,(s0,()))))) λ_=>some (.dn ((0,(s0,()))))) (k:Int)=some ((0:Nat),(((k+DN m (b.drop k):Nat):Int),())):=by
  intro m
  induction m with
  | nil =>
   intro k n hm hk hkb hn;obtain ⟨n,rfl⟩ : ∃ j,n=j+1:=⟨n-1,by omega⟩
   have hkl:k=a.length:=by
    have:=congrArg List.length hm;simp at this;omega
   subst hkl;refine BZ ?_;rw [re];simp [Ai,DN]
  | cons x m ih =>
   intro k n hm hk hkb hn;obtain ⟨n,rfl⟩ : ∃ j,n=j+1:=⟨n-1,by omega⟩
   have hx:a[k]? = some x:=by
    have:=congrArg List.head? hm;rw [List.head?_drop] at this;simpa using this
   have hk':k<a.length:=(List.getElem?_eq_some_iff.1 hx).1
   have hm2:a.drop (k+1)=m:=by
    have:=congrArg List.tail hm;rw [List.tail_drop] at this;simpa using this
   by_cases hb:k<b.length
   ·have hy:b[k]? = some b[k]:=by simp [hb]
    rw [List.drop_eq_getElem_cons hb];unfold DN;by_cases e:x=b[k]
    ·rw [if_pos e];refine (BV (s':=((k+1:Nat):Int)) ?_).trans ?_
     ·rw [rl hk',AP,rl hb,AP,AF,AK hx,AF,AK hy,ZS,CZ,if_pos e,Ab (by omega)]
     ·rw [ih (k+1) n hm2 (by omega) (by omega) (by simp at hn;omega),show k+1+DN m (b.drop (k+1))=k+(DN m (b.drop (k+1))+1) by omega]
    ·rw [if_neg e];refine BZ ?_;rw [rl hk',AP,rl hb,AP,AF,AK hx,AF,AK hy,ZS,CZ,if_neg e];simp
   ·have hb2:k=b.length:=by omega
    refine BZ ?_;rw [rl hk',AP,hb2,re,Ai,List.drop_length];simp [DN]
 refine A8 (C8 (n:=a.length+1) (by omega) (key a 0 (a.length+1) (by simp) (by omega) (by omega) (by omega))) ?_;simp
def LB (a b:L0):Int:=if C1 a b=true then -1 else if a=b then 0 else 1
theorem Sd : ∀ (a b:L0),(DN a b<=a.length/\DN a b<=b.length)/\(DN a b=a.length->DN a b=b.length->LB a b=0)/\(DN a b=a.length->DN a b≠b.length->LB a b = -1)/\(DN a b≠a.length->DN a b=b.length->LB a b=1)/\(∀ x y,a[DN a b]? = some x->b[DN a b]? = some y->LB a b=if x.toNat<y.toNat then -1 else 1)
 | [],[]=>by simp [DN,LB,L1]
 | [],y::b=>by simp [DN,LB,Q9]
 | x::a,[]=>by simp [DN,LB,L1]
 | x::a,y::b=>by
  obtain ⟨⟨h0,h0'⟩,h1,h2,h3,h4⟩:=Sd a b;by_cases e:x=y
  ·subst e
   have ho:LB (x::a) (x::b)=LB a b:=by
    unfold LB;rw [IM];simp
   have hc:DN (x::a) (x::b)=DN a b+1:=by simp [DN]
   rw [ho,hc];refine ⟨⟨by simp;omega,by simp;omega⟩,λu v=>h1 (by simp at u;omega) (by simp at v;omega),λu v=>h2 (by simp at u;omega) (by simp at v;omega),λu v=>h3 (by simp at u;omega) (by simp at v;omega),λp q hp hq=>h4 p q (by simpa using hp) (by simpa using hq)⟩
  ·have hc:DN (x::a) (y::b)=0:=by simp [DN,e]
   rw [hc];refine ⟨⟨by omega,by omega⟩,λu=>by simp at u,λu=>by simp at u,λ_ u=>by simp at u,λp q hp hq => ?_⟩;simp at hp hq;subst hp hq;unfold LB;rw [IM];have hne : ¬ (x::a=y::b):=λh=>e (by injection h);by_cases hlt:x.toNat<y.toNat
   ·have:x<y:=UInt8.lt_iff_toNat_lt.2 hlt;simp [this,hlt]
   ·have : ¬ x<y:=λh=>hlt (UInt8.lt_iff_toNat_lt.1 h);simp [this,hlt,e]
theorem ZT (a b:L0) (ha:a.length<=1000000000) (hb:b.length<=1000000000):EE (a,b)=some (LB a b):=by
 obtain ⟨⟨h0,h0'⟩,h1,h2,h3,h4⟩:=Sd a b;unfold EE;simp only [AV,Is];rw [W4 a b (by omega),AC,Bj]
 have hl:(if (DN a b:Int)<(b.length:Int) then (AT (DN a b:Int) λk1=>ix a k1 λx2=>AT (DN a b:Int) λk3=>ix b k3 λx4=>br (Am (Ry x2) (Ry x4)) (λ_=>some (-1:Int)) λ_=>some 1) else some 1)=(if DN a b=a.length then (if (DN a b:Int)<(b.length:Int) then (AT (DN a b:Int) λk1=>ix a k1 λx2=>AT (DN a b:Int) λk3=>ix b k3 λx4=>br (Am (Ry x2) (Ry x4)) (λ_=>some (-1:Int)) λ_=>some 1) else some 1) else some (LB a b)):=by
  by_cases u:DN a b=a.length
  ·rw [if_pos u]
  ·rw [if_neg u];by_cases v:DN a b=b.length
   ·rw [if_neg (by omega),h3 u v]
   ·rw [if_pos (by omega),AF];have hx:a[DN a b]? = some (a[DN a b]'(by omega)):=by simp
    have hy:b[DN a b]? = some (b[DN a b]'(by omega)):=by simp
    rw [AK hx,AF,AK hy,BG,h4 _ _ hx hy];unfold Ry;by_cases w:(a[DN a b]'(by omega)).toNat<(b[DN a b]'(by omega)).toNat
    ·rw [if_pos (by omega),if_pos w]
    ·rw [if_neg (by omega),if_neg w]
 by_cases u:DN a b=a.length
 ·rw [if_pos (by omega),Bj];by_cases v:DN a b=b.length
  ·rw [if_pos (by omega),h1 u v]
  ·rw [if_neg (by omega),Bj,if_pos (by omega),h2 u v]
 ·rw [if_neg (by omega),Bj,if_neg (by omega),BG,hl,if_neg u]
theorem V0 (a b:L0):LB a b>=0<->C1 a b=false:=by
 unfold LB;cases h:C1 a b with
 | true=>simp
 | false=>simp;split<;>omega
theorem GV (l:List AD) (hl:l.length<=9223372036854775807):CX l=some (Ca l):=by
 unfold CX Ca;simp only [AV,AR];rw [A5];by_cases h:l.length>5000
 ·rw [if_pos (by omega),if_pos h]
 rw [if_neg (by omega),if_neg h];obtain ⟨T,hT⟩ : ∃ T,T=Jf none 0 l:=⟨_,rfl⟩;rw [<- hT]
 obtain ⟨r,q1,q2⟩:=H2 (l:=l) (σ:=Unit) (s:=((0:Int),((0:Int),(0:Int)))) (λk _=>((0:Int),((0:Int),(k:Int)))) (λm k _=>Jf (if k=0 then none else (l[k-1]?).map (·.1)) k m=T/\(∀ y,k≠0->l[k-1]? = some y->kE y=0)) (λ(r:Nat×((Int×(Int×Int))×Unit))=>(r.1=1/\T=(0,0))\/(r.1=0/\T=(r.2.1.2.1,r.2.1.1)))
  (f:=λs0=>br (Am s0.2.2 (l.length:Int)) (λ_=>AT s0.2.2 λk1=>ix l k1 λx2=>bd (DJ x2) λr3=>br (BN r3 0) (λ_=>br (CE s0.2.2 0) (λ_=>AT (B7 .i64 s0.2.2 1) λk4=>ix l k4 λx5=>AT s0.2.2 λk6=>ix l k6 λx7=>bd (EE (x5.1,x7.1)) λr8=>br (G1 r8 0) (λ_=>some (.dn ((0,((6,(s0.2.2,s0.2.2)),()))))) λ_=>br (A7 r3 0) (λ_=>some (.dn ((0,((r3,(s0.2.2,s0.2.2)),()))))) λ_=>some (.nx ((s0.1,(s0.2.1,AI .i64 s0.2.2 1))))) λ_=>br (A7 r3 0) (λ_=>some (.dn ((0,((r3,(s0.2.2,s0.2.2)),()))))) λ_=>some (.nx ((s0.1,(s0.2.1,AI .i64 s0.2.2 1))))) λ_=>br (A7 r3 0) (λ_=>some (.dn ((0,((r3,(s0.2.2,s0.2.2)),()))))) λ_=>some (.nx ((s0.1,(s0.2.1,AI .i64 s0.2.2 1))))) λ_=>some (.dn ((1,(s0,())))))
  () rfl (by omega) ⟨hT.symm,λ_ h=>absurd rfl h⟩ (λ_ h=>by
   refine ⟨_,by simp only;rw [re];rfl,.inl ⟨rfl,?_⟩⟩;rw [<- h.1];simp [Jf]) (λk x m _ hd hx hk h=>by
   simp only;obtain ⟨h,hprev⟩:=h;rw [rl hk,AP,AF,AK hx,L8,AC,Bj];unfold Jf at h
   have next:kE x=0->(T=Jf (some x.1) (k+1) m)->Jf (if k+1=0 then none else (l[k+1-1]?).map (·.1)) (k+1) m=T/\(∀ y,k+1≠0->l[k+1-1]? = some y->kE y=0):=λh0 e=>by
    rw [if_neg (by omega),Nat.add_sub_cancel,hx,e];exact ⟨rfl,λy _ hy=>by cases hy;exact h0⟩
   by_cases h0:kE x=0
   ·rw [if_pos h0,A5];rw [if_neg (by simp [h0])] at h;by_cases hk0:k=0
    ·rw [if_neg (by omega),AS,if_pos h0];rw [if_pos hk0] at h;exact .inl ⟨(),by rw [Az hx (by omega)],next h0 h.symm⟩
    ·have hy:l[k-1]? = some (l[k-1]'(by omega)):=by rw [List.getElem?_eq_getElem]
     rw [if_pos (by omega),show B7 .i64 (k:Int) 1=((k-1:Nat):Int) by rw [B8 (by omega)];omega,AF,AK hy,AF,AK hx];rw [if_neg hk0,hy] at h;simp only [Option.map_some] at h;rw [ZT _ _ (by have:=OX (hprev _ hk0 hy);omega) (by have:=OX h0;omega),AC,Dm];by_cases hs:C1 (l[k-1]'(by omega)).1 x.1=true
     ·rw [if_neg (λe=>by rw [V0,hs] at e;cases e),AS,if_pos h0];rw [if_pos hs] at h;exact .inl ⟨(),by rw [Az hx (by omega)],next h0 h.symm⟩
     ·rw [if_pos ((V0 _ _).2 (by simpa using hs))];rw [if_neg hs] at h;exact .inr ⟨_,rfl,.inr ⟨rfl,h.symm⟩⟩
   ·rw [if_neg h0,AS,if_neg h0];rw [if_pos h0] at h
    exact .inr ⟨_,rfl,.inr ⟨rfl,h.symm⟩⟩)
 refine A8 q1 ?_;rw [Cd];rcases q2 with ⟨q2,q3⟩ | ⟨q2,q3⟩
 ·rw [if_neg (show ¬ r.1=0 by omega),q3]
 ·rw [if_pos q2,q3]
theorem ZU (p q:AM) (hp:EO p) (hq:EO q):Ez ([p,q],(0,1))=some (w0 p q):=by
 unfold Ez w0;refine (Eb 0 rfl (x:=p) rfl).trans ((Eb 1 rfl (x:=q) rfl).trans ?_);rw [beq_eq,CW,CZ,Be,Gl];by_cases h1:p.2=q.2
 ·rw [if_neg (show ¬ ¬ p.2=q.2 by simp [h1]),if_neg (show ¬ p.2≠q.2 by simp [h1])];by_cases h2:p.2=true
  ·rw [if_pos h2,hp h2,hq (h1 ▸ h2)];rfl
  ·rw [if_neg h2,Be,Ea];by_cases h3:p.1=q.1
   ·rw [if_pos h3,if_neg (by simp [h3])];rfl
   ·rw [if_neg h3,if_pos h3]
 ·rw [if_pos h1,if_pos h1]
theorem NJ (p q:AM) (n:Nat) (k:Int) (h:2<=k) (hk:k<=100):Je Aq (n+1) ([p,q],k)=some (k-2,0):=by
 show Aq (Je Aq n) ([p,q],k)=_;unfold Aq;show br (G1 k 2) (λ_=>some (B7 .i64 k 2,0)) _=_;rw [Dm,if_pos h,B8 (by omega)]
theorem Ob (p q:AM) (hp:EO p) (hq:EO q):Fy ([p,q],1)=some (if w0 p q=true then (0,1) else (1,0)):=by
 show Aq (Je Aq 99) ([p,q],1)=_;unfold Aq;show br (G1 (1:Int) 2) (λ_=>some (B7 .i64 (1:Int) 2,0)) (λ_=>bd (Je Aq (98+1) ([p,q],2)) λr0=>bd (Je Aq (98+1) ([p,q],3)) _)=_;rw [Dm,if_neg (by omega),NJ p q 98 2 (by omega) (by omega),AC,NJ p q 98 3 (by omega) (by omega),AC];show bd (Ez ([p,q],(0,1))) _=_;rw [ZU p q hp hq,AC,Gl];cases h:w0 p q<;>rfl
theorem ZV (p q:AM) (hp:EO p) (hq:EO q):Fz [p,q]=some (Tt p q):=by
 unfold Fz;refine Eq.trans (b:=bd (loop _ (1,([p,q],([0,0],0)))) _) rfl ?_;refine A8 (x:=(0,((2,([p,q],([0,if w0 p q=true then 1 else 0],0))),()))) (C8 (n:=2) (by omega) ((BV (s':=(2,([p,q],([0,if w0 p q=true then 1 else 0],0)))) ?_).trans (BZ rfl))) ?_
 ·show bd (Fy ([p,q],1)) _=_;rw [Ob p q hp hq,AC];refine (Ji 1 rfl (x:=(0:Int)) rfl).trans ?_;cases h:w0 p q<;>rfl
 ·rw [Ob p q hp hq,AC];unfold Tt;cases h:w0 p q<;>rfl
theorem W5 {l:List AM} (h : ∀ k∈l,EO k) (h0:l≠[]) (hl:l.length<=32):FE l=some 0:=by
 unfold FE;simp only [AV,AR];rw [Bj,A5,if_neg (by have:=List.length_pos_iff.2 h0;omega),if_neg (by omega)]
 rw [Cs (l:=l) (σ:=Unit) (s:=((0:Int),(0:Int))) (λk _=>((k:Int),(0:Int))) (λ_ _ _=>True) (λ_ _ _=>(1,(((l.length:Int),0),()))) () rfl (by omega) trivial (λst _=>by
  simp only;rw [re];rfl) (λk x m st _ hx hk _=>⟨(),by
   simp only;rw [rl hk,AP,AF,AK hx,Gl,Az hx (by omega)];by_cases hd:x.2=true
   ·rw [if_pos hd,AF,AK hx,Be,Ea,if_pos (h x (List.mem_of_getElem? hx) hd)]
   ·rw [if_neg hd],trivial,rfl⟩),AC]
 rfl
theorem W6 (p q:AM) (hp:EO p) (hq:EO q):EG [p,q]=some (Tt p q,0):=by
 unfold EG;rw [W5 (by simp [hp,hq]) (by simp) (by simp),AC,AS,if_pos rfl,ZV p q hp hq,AC]
end Go.Proofs.YthpkjfabdccpdaaGreat.Pl
namespace Go.Proofs.YthpkjfabdccpdaaGreat.Pl
open Go Go.Proofs.YthpkjfabdccpdaaGreat.Sv
theorem Gf:Bp=BK:=rfl
theorem Oc:F1=Ac:=rfl
theorem UO (l m:List AM) (hb:l.length<=9223372036854775806) (hl:l.length=m.length) : ∃ r,loop (λs1=>br (Am s1.1 (l.length:Int)) (λ_=>AT s1.1 λk2=>ix l k2 λx3=>AT s1.1 λk4=>ix m k4 λx5=>br (AY (Bd (seq x3.1 x5.1) (Bd (Sv.beq x3.2 x5.2) true))) (λ_=>some (LR.dn ((0:Nat),((s1.1,false),())))) λ_=>some (.nx (AI .i64 s1.1 1,s1.2))) λ_=>some (.dn ((1,(s1,()))))) ((0:Int),false)=some r/\((l=m/\r.1=1)\/(l≠m/\r.1=0/\r.2.1.2=false)):=by
 refine IS l m hl hb (λk x y hx hy => ?_) (by simp only;rw [re];rfl);have hk:=(List.getElem?_eq_some_iff.1 hx).1
 have he : ∀ {β:Type} (u v:Unit->Option β),br (AY (Bd (seq x.1 y.1) (Bd (Sv.beq x.2 y.2) true))) u v=if x=y then v () else u ():=by
  intro β u v;rw [L6,K6,beq_eq,Iw,CW,CZ];by_cases e:x=y
  ·subst e;simp
  ·rw [if_pos (λh=>e (Prod.ext h.1 h.2)),if_neg e]
 constructor
 ·intro e;simp only;rw [rl hk,AP,AF,AK hx,AF,AK hy,he,if_pos e,Ab (by omega)]
 ·intro e;simp only;rw [rl hk,AP,AF,AK hx,AF,AK hy,he,if_neg e]
theorem Od (s t:Dv) (h1:s.1.length<=1000) (h2:s.2.1.length<=1000):E0 (s,t)=some (decide (s=t)):=by
 obtain ⟨sk,sl,sw⟩:=s;obtain ⟨tk,tl,tw⟩:=t;simp only at h1 h2;unfold E0;simp only [AV,AR];rw [AS];by_cases e1:(sk.length:Int)=(tk.length:Int);rotate_left
 ·rw [if_neg e1];have : ¬ sk=tk:=λe=>e1 (by rw [e]);simp [this]
 rw [if_pos e1,AS];by_cases e2:sw=tw;rotate_left
 ·rw [if_neg e2];simp [e2]
 rw [if_pos e2,Oc,KJ _ _ (by omega),AC,CW,CZ];by_cases e3:sl=tl;rotate_left
 ·rw [if_pos e3];simp [e3]
 rw [if_neg (show ¬ ¬ sl=tl by simp [e3])];obtain ⟨r,q1,q2⟩:=UO sk tk (by omega) (by omega);refine A8 q1 ?_;rw [Cd];rcases q2 with ⟨e,q2⟩ | ⟨e,q2,q3⟩
 ·rw [if_neg (show ¬ r.1=0 by omega)];simp [e,e2,e3]
 ·rw [if_pos q2,q3];simp [e]
theorem Se (s t:AN) (h1:s.1.length<=1000) (h2 : ∀ l∈s.1,l.length<=1000000) (h3:s.2.1.length<=1000) (h4:s.2.2.1.length<=1000) (h5:s.2.2.2.1.length<=1000):F4 (s,t)=some (decide (s=t)):=by
 obtain ⟨sr,sa,st⟩:=s;obtain ⟨tr,ta,tt⟩:=t;simp only at h1 h2 h3 h4 h5;unfold F4;simp only [AV,AR];rw [AS];by_cases e1:(sr.length:Int)=(tr.length:Int);rotate_left
 ·rw [if_neg e1];have : ¬ sr=tr:=λe=>e1 (by rw [e]);simp [this]
 rw [if_pos e1,Oc,KJ _ _ (by omega),AC,CW,CZ];by_cases e2:sa=ta;rotate_left
 ·rw [if_pos e2];simp [e2]
 rw [if_neg (show ¬ ¬ sa=ta by simp [e2]),Od _ _ h4 h5,AC,CW,CZ];by_cases e3:st=tt;rotate_left
 ·rw [if_pos e3];simp [e3]
 rw [if_neg (show ¬ ¬ st=tt by simp [e3])]
 obtain ⟨r,q1,q2⟩:=IS sr tr (by omega) (by omega) (f:=λs2=>br (Am s2.1 (sr.length:Int)) (λ_=>AT s2.1 λk3=>ix sr k3 λx4=>AT s2.1 λk5=>ix tr k5 λx6=>bd (Bp (x4,x6)) λr7=>br (AY r7) (λ_=>some (.dn ((0,((s2.1,false),()))))) λ_=>some (.nx (AI .i64 s2.1 1,s2.2))) λ_=>some (.dn ((1,(s2,()))))) (λk x y hx hy=>by
   have hk:=(List.getElem?_eq_some_iff.1 hx).1;have hx1:=h2 x (List.mem_of_getElem? hx);constructor
   ·intro e;simp only;rw [rl hk,AP,AF,AK hx,AF,AK hy,Gf,Fw _ _ (by omega),AC,CW,CZ,if_neg (by simp [e]),Ab (by omega)]
   ·intro e;simp only
    rw [rl hk,AP,AF,AK hx,AF,AK hy,Gf,Fw _ _ (by omega),AC,CW,CZ,if_pos e]) (by simp only;rw [re];rfl)
 refine A8 q1 ?_;rw [Cd];rcases q2 with ⟨e,q2⟩ | ⟨e,q2,q3⟩
 ·rw [if_neg (show ¬ r.1=0 by omega)];simp [e,e2,e3]
 ·rw [if_pos q2,q3];simp [e]
theorem Oe (x y:Iq) (h1:x.1.1.length<=1000) (h2 : ∀ l∈x.1.1,l.length<=1000000) (h3:x.1.2.1.length<=1000) (h4:x.1.2.2.1.length<=1000) (h5:x.1.2.2.2.1.length<=1000) (h6:x.2.2.1.length<=1000000):BI (x,y)=some (decide (x=y)):=by
 obtain ⟨xm,⟨xs,xt,xb⟩,xo,xn⟩:=x;obtain ⟨ym,⟨ys,yt,yb⟩,yo,yn⟩:=y;simp only at h1 h2 h3 h4 h5 h6;unfold BI;simp only [Se _ _ h1 h2 h3 h4 h5,Gf,Fw _ _ (show xo.length<=9223372036854775806 by omega),AC,CZ,DI,K6,beq_eq,L6,Iw]
 repeat' split
 all_goals simp_all
section
variable {a b:List AD} (va:VL a) (vb:VL b)
include va vb
theorem LC:DK [a,b]=some (0,0):=by
 have la:=va.len;have lb:=vb.len;unfold DK;refine Eq.trans (b:=bd (loop _ (0,(0,0))) _) rfl ?_;refine A8 (x:=(1,((0,(0,2)),()))) (CQ (s1:=(0,(0,1))) (s2:=(0,(0,2))) ?_ ?_ rfl) rfl
 ·refine (NO 0 rfl rfl (x:=a) rfl).trans ?_;rw [GV _ (by omega),Jg va,AC];rfl
 ·refine (NO 1 rfl rfl (x:=b) rfl).trans ?_;rw [GV _ (by omega),Jg vb,AC];rfl
theorem Ix {i j:Nat} (hi:i<=a.length) (hj:j<=b.length):DL ([a,b],[(i:Int),(j:Int)])=some (if i=a.length/\j=b.length then -1 else if Ha a b i j=true then 0 else 1):=by
 have la:=va.len;have lb:=vb.len;unfold DL;simp only [AV,AR];refine A8 (x:=(0,((if i=a.length/\j=b.length then -1 else if Ha a b i j=true then 0 else 1,2),()))) (CQ (s1:=(if i=a.length then -1 else 0,1)) (s2:=(if i=a.length/\j=b.length then -1 else if Ha a b i j=true then 0 else 1,2)) ?_ ?_ rfl) rfl
 ·refine (NO 0 rfl rfl (x:=(i:Int)) rfl).trans ((Eb 0 rfl (x:=a) rfl).trans ?_);rw [BG];by_cases h:i=a.length
  ·rw [if_neg (by omega),if_pos h];rfl
  ·rw [if_pos (by omega),if_neg h];rfl
 ·refine (NO 1 rfl rfl (x:=(j:Int)) rfl).trans ((Eb 1 rfl (x:=b) rfl).trans ?_);rw [BG];by_cases h:j=b.length
  ·rw [if_neg (by omega)];by_cases h2:i=a.length
   ·rw [if_pos h2,if_pos ⟨h2,h⟩];rfl
   ·rw [if_neg h2,if_neg (λh3=>h2 h3.1)];have hx:a[i]? = some (a[i]'(by omega)):=by simp
    rw [Vs hx (List.getElem?_eq_none (by omega))];rfl
  ·have hy:b[j]? = some (b[j]'(by omega)):=by simp
   rw [if_pos (by omega),BG,if_neg (λh3:i=a.length/\j=b.length=>h h3.2)];by_cases h2:i=a.length
   ·rw [if_pos h2,if_pos (by omega),Vt (List.getElem?_eq_none (by omega)) hy];rfl
   ·rw [if_neg h2,if_neg (by omega)];have hx:a[i]? = some (a[i]'(by omega)):=by simp
    refine (Eb 1 rfl (x:=b) rfl).trans ((Eb 1 rfl (x:=(j:Int)) rfl).trans ((Eb j rfl hy).trans ((Eb 0 rfl (x:=a) rfl).trans ((Eb 0 rfl (x:=(i:Int)) rfl).trans ((Eb i rfl hx).trans ?_)))));rw [GQ,OS hx hy];cases hs:C1 (b[j]'(by omega)).1 (a[i]'(by omega)).1<;>rfl
theorem Iy {i j:Nat} (hi:i<=a.length) (hj:j<=b.length):Ck ([a,b],[(i:Int),(j:Int)])=some (LG a b i j):=by
 have la:=va.len;have lb:=vb.len;unfold Ck;simp only [AV,AR];rw [Bb (show [a,b].length<=1048576 from (show 2<=1048576 by omega)),Bb (show [(i:Int),(j:Int)].length<=1048576 from (show 2<=1048576 by omega))];refine A8 (x:=(0,((2,[kx a i,kx b j]),()))) (CQ (s1:=(1,[kx a i])) (s2:=(2,[kx a i,kx b j])) ?_ ?_ rfl) ?_
 ·refine (NO 0 rfl rfl (x:=(i:Int)) rfl).trans ((Eb 0 rfl (x:=a) rfl).trans ?_);rw [DI,CW,CZ];by_cases h:i=a.length
  ·have hne:((i:Int)=(a.length:Int)):=by omega
   rw [if_neg (show ¬ ¬ ((i:Int)=(a.length:Int)) by simp [hne]),L5 (List.getElem?_eq_none (by omega))];simp only [hne,decide_true];rfl
  ·have hx:a[i]? = some (a[i]'(by omega)):=by simp
   have hne : ¬ ((i:Int)=(a.length:Int)):=by omega
   rw [if_pos hne];refine (Eb 0 rfl (x:=a) rfl).trans ((Eb 0 rfl (x:=(i:Int)) rfl).trans ((Eb i rfl hx).trans ?_));rw [Fu hx];simp only [hne,decide_false];rfl
 ·refine (NO 1 rfl rfl (x:=(j:Int)) rfl).trans ((Eb 1 rfl (x:=b) rfl).trans ?_);rw [DI,CW,CZ];by_cases h:j=b.length
  ·have hne:((j:Int)=(b.length:Int)):=by omega
   rw [if_neg (show ¬ ¬ ((j:Int)=(b.length:Int)) by simp [hne]),L5 (l:=b) (i:=j) (List.getElem?_eq_none (by omega))];simp only [hne,decide_true];rfl
  ·have hx:b[j]? = some (b[j]'(by omega)):=by simp
   have hne : ¬ ((j:Int)=(b.length:Int)):=by omega
   rw [if_pos hne];refine (Eb 1 rfl (x:=b) rfl).trans ((Eb 1 rfl (x:=(j:Int)) rfl).trans ((Eb j rfl hx).trans ?_));rw [Fu (l:=b) (i:=j) hx];simp only [hne,decide_false];rfl
 ·show bd (EG [kx a i,kx b j]) _=_;rw [W6 _ _ (BX _ _) (BX _ _)];rfl
theorem V1 {i:Nat} {l:List AD} (h:i≠0) (hi:i<=l.length) : ∃ x,l[i-1]? = some x:=⟨l[i-1]'(by omega),by simp⟩
theorem Mw {i j:Nat} (I:Inv a b i j):DM (LG a b i j)=some (0,0):=by
 have la:=va.len;have lb:=vb.len;have hi:=I.ia;have hj:=I.jb;unfold DM;rw [show (LG a b i j).1=[a,b] from rfl,LC va vb,AC,AS,if_pos rfl];rw [show (LG a b i j).2.1=[(i:Int),(j:Int)] from rfl,AS,if_pos (show AX (AA [(i:Int),(j:Int)])=AX (AA [a,b]) from rfl)];refine A8 (x:=(1,((0,(0,2)),()))) (CQ (s1:=(0,(0,1))) (s2:=(0,(0,2))) ?_ ?_ rfl) ?_
 ·refine (NO 0 rfl rfl (x:=(i:Int)) rfl).trans ?_;rw [BG,if_neg (by omega)];refine (Eb 0 rfl (x:=(i:Int)) rfl).trans ((Eb 0 rfl (x:=a) rfl).trans ?_);rw [A5,if_neg (by simp only [AV,AR];omega)];rfl
 ·refine (NO 1 rfl rfl (x:=(j:Int)) rfl).trans ?_;rw [BG,if_neg (by omega)];refine (Eb 1 rfl (x:=(j:Int)) rfl).trans ((Eb 1 rfl (x:=b) rfl).trans ?_);rw [A5,if_neg (by simp only [AV,AR];omega)];rfl
 rw [show neq ((1:Nat),(((0:Int),((0:Int),(2:Int))),())).1 0=false from rfl,Ai,Iy va vb hi hj,AC,Od (LG a b i j).2.2 (LG a b i j).2.2 (show 2<=1000 by omega) (show 2<=1000 by omega),AC,CW,CZ,if_neg (show ¬ ¬ (LG a b i j).2.2=(LG a b i j).2.2 by simp),Ix va vb hi hj,AC];by_cases hd:i=a.length/\j=b.length
 ·rw [if_pos hd];refine A8 (x:=(1,((0,(0,0)),()))) (C8 (n:=1) (by omega) (BZ ?_)) rfl;rfl
 rw [if_neg hd];cases g:Ha a b i j with
 | true =>
  rw [if_pos rfl]
  have hil:i<a.length:=by
   refine Nat.lt_of_not_le λh' => ?_;have hb2:j<b.length:=by omega
   rw [Vt (List.getElem?_eq_none h') (show b[j]? = some (b[j]'hb2) by simp)] at g;cases g
  have hx:a[i]? = some (a[i]'hil):=by simp
  refine A8 (x:=(1,((0,(0,2)),()))) (CQ (s1:=(0,(0,1))) (s2:=(0,(0,2))) ?_ ?_ rfl) rfl
  ·show br (Am (0:Int) 2) _ _=_;rw [BG,if_pos (by omega),Dm,if_pos (by omega)];refine (Eb 0 rfl (x:=(i:Int)) rfl).trans ?_;rw [Bj];by_cases h0:i=0
   ·rw [if_pos (by omega)];rfl
   ·rw [if_neg (by omega)];obtain ⟨y,hy⟩:=V1 va vb (l:=a) h0 hi;refine (Eb 0 rfl (x:=a) rfl).trans ((Eb 0 rfl (x:=(i:Int)) rfl).trans ?_);rw [show B7 .i64 (i:Int) 1=((i-1:Nat):Int) by rw [B8 (by omega)];omega,AF,AK hy];refine (Eb 0 rfl (x:=a) rfl).trans ((Eb 0 rfl (x:=(i:Int)) rfl).trans ((Eb i rfl hx).trans ?_));have hlt:=va.lt hy (show a[i-1+1]? = some _ by rw [show i-1+1=i by omega];exact hx);rw [GQ,if_neg (by rw [Df hlt];simp),Ea,if_neg (UB hlt)];rfl
  ·show br (Am (1:Int) 2) _ _=_;rw [BG,if_pos (by omega),Dm,if_pos (by omega)];refine (Eb 1 rfl (x:=(j:Int)) rfl).trans ?_;rw [Bj];by_cases h0:j=0
   ·rw [if_pos (by omega)];rfl
   ·rw [if_neg (by omega)];obtain ⟨y,hy⟩:=V1 va vb (l:=b) h0 hj;refine (Eb 1 rfl (x:=b) rfl).trans ((Eb 1 rfl (x:=(j:Int)) rfl).trans ?_);rw [show B7 .i64 (j:Int) 1=((j-1:Nat):Int) by rw [B8 (by omega)];omega,AF,AK hy];refine (Eb 0 rfl (x:=a) rfl).trans ((Eb 0 rfl (x:=(i:Int)) rfl).trans ((Eb i rfl hx).trans ?_));have hlt:=I.pb (j-1) (by omega) y _ hy hx;rw [GQ,if_neg (by rw [Df hlt];simp),Ea,if_neg (UB hlt)];rfl
 | false =>
  rw [if_neg (by simp)]
  have hjl:j<b.length:=by
   refine Nat.lt_of_not_le λh' => ?_;have ha2:i<a.length:=by omega
   rw [Vs (show a[i]? = some (a[i]'ha2) by simp) (List.getElem?_eq_none h')] at g;cases g
  have hx:b[j]? = some (b[j]'hjl):=by simp
  refine A8 (x:=(1,((0,(0,2)),()))) (CQ (s1:=(0,(0,1))) (s2:=(0,(0,2))) ?_ ?_ rfl) rfl
  ·show br (Am (0:Int) 2) _ _=_;rw [BG,if_pos (by omega),Dm,if_pos (by omega)];refine (Eb 0 rfl (x:=(i:Int)) rfl).trans ?_;rw [Bj];by_cases h0:i=0
   ·rw [if_pos (by omega)];rfl
   ·rw [if_neg (by omega)];obtain ⟨y,hy⟩:=V1 va vb (l:=a) h0 hi;refine (Eb 0 rfl (x:=a) rfl).trans ((Eb 0 rfl (x:=(i:Int)) rfl).trans ?_);rw [show B7 .i64 (i:Int) 1=((i-1:Nat):Int) by rw [B8 (by omega)];omega,AF,AK hy];refine (Eb 1 rfl (x:=b) rfl).trans ((Eb 1 rfl (x:=(j:Int)) rfl).trans ((Eb j rfl hx).trans ?_));have hle:=I.pa (i-1) (by omega) y _ hy hx;rw [GQ,if_neg (by rw [hle];simp),Ea];by_cases he:y.1=(b[j]'hjl).1
    ·rw [if_pos he];rfl
    ·rw [if_neg he];rfl
  ·show br (Am (1:Int) 2) _ _=_;rw [BG,if_pos (by omega),Dm,if_pos (by omega)];refine (Eb 1 rfl (x:=(j:Int)) rfl).trans ?_;rw [Bj];by_cases h0:j=0
   ·rw [if_pos (by omega)];rfl
   ·rw [if_neg (by omega)];obtain ⟨y,hy⟩:=V1 va vb (l:=b) h0 hj;refine (Eb 1 rfl (x:=b) rfl).trans ((Eb 1 rfl (x:=(j:Int)) rfl).trans ?_);rw [show B7 .i64 (j:Int) 1=((j-1:Nat):Int) by rw [B8 (by omega)];omega,AF,AK hy];refine (Eb 1 rfl (x:=b) rfl).trans ((Eb 1 rfl (x:=(j:Int)) rfl).trans ((Eb j rfl hx).trans ?_));have hlt:=vb.lt hy (show b[j-1+1]? = some _ by rw [show j-1+1=j by omega];exact hx);rw [GQ,if_neg (by rw [Df hlt];simp),Ea,if_neg (UB hlt)];rfl
end
end Go.Proofs.YthpkjfabdccpdaaGreat.Pl
namespace Go.Proofs.YthpkjfabdccpdaaGreat.Pl
open Go Go.Proofs.YthpkjfabdccpdaaGreat.Sv
section
variable {a b:List AD} (va:VL a) (vb:VL b)
include va vb
theorem ZW {n:Nat} {x:AD} (h:n<a.length+b.length) (hx:NN a b n=some x):Dy (K9 a b n)=some (x,((OT a b n:Int),(K9 a b (n+1),0))):=by
 obtain ⟨hI,hs⟩:=FT va vb (n:=n) (by omega);obtain ⟨hI2,hs2⟩:=FT va vb (n:=n+1) (by omega);have la:=va.len;have lb:=vb.len;have hia:=hI.ia;have hjb:=hI.jb;unfold Dy;rw [show K9 a b n=LG a b (Aj a b n).1 (Aj a b n).2 from rfl,Mw va vb hI,AC,AS,if_pos rfl,show (LG a b (Aj a b n).1 (Aj a b n).2).1=[a,b] from rfl,show (LG a b (Aj a b n).1 (Aj a b n).2).2.1=[((Aj a b n).1:Int),((Aj a b n).2:Int)] from rfl,Ix va vb hia hjb,AC,if_neg (λhh:(Aj a b n).1=a.length/\(Aj a b n).2=b.length=>by omega)];unfold NN at hx;have hpos:Aj a b (n+1)=if Ha a b (Aj a b n).1 (Aj a b n).2=true then ((Aj a b n).1+1,(Aj a b n).2) else ((Aj a b n).1,(Aj a b n).2+1):=rfl
 unfold K9 OT;cases g:Ha a b (Aj a b n).1 (Aj a b n).2 with
 | true =>
  rw [g,if_pos rfl] at hpos;rw [g,if_pos rfl] at hx;have hi:=(List.getElem?_eq_some_iff.1 hx).1;rw [if_pos rfl,BG,if_neg (by omega),Bb (show AA [((Aj a b n).1:Int),((Aj a b n).2:Int)]<=1048576 from (show 2<=1048576 by omega))];refine (Ji 0 rfl (x:=((Aj a b n).1:Int)) rfl).trans ((Ji 0 rfl (x:=((Aj a b n).1:Int)) rfl).trans ((Eb 0 rfl (x:=a) rfl).trans ((Eb 0 rfl (x:=((Aj a b n).1:Int)) rfl).trans ((Eb _ rfl hx).trans ?_))));rw [Ab (by omega),show lset [((Aj a b n).1:Int),((Aj a b n).2:Int)] 0 (((Aj a b n).1+1:Nat):Int)=[(((Aj a b n).1+1:Nat):Int),((Aj a b n).2:Int)] from rfl,Iy va vb (by omega) hjb,AC,hpos];rfl
 | false =>
  rw [g,if_neg (by simp)] at hpos;rw [g,if_neg (by simp)] at hx;have hi:=(List.getElem?_eq_some_iff.1 hx).1;rw [if_neg (by simp),BG,if_neg (by omega),Bb (show AA [((Aj a b n).1:Int),((Aj a b n).2:Int)]<=1048576 from (show 2<=1048576 by omega))];refine (Ji 1 rfl (x:=((Aj a b n).2:Int)) rfl).trans ((Ji 1 rfl (x:=((Aj a b n).2:Int)) rfl).trans ((Eb 1 rfl (x:=b) rfl).trans ((Eb 1 rfl (x:=((Aj a b n).2:Int)) rfl).trans ((Eb _ rfl hx).trans ?_))));rw [Ab (by omega),show lset [((Aj a b n).1:Int),((Aj a b n).2:Int)] 1 (((Aj a b n).2+1:Nat):Int)=[((Aj a b n).1:Int),(((Aj a b n).2+1:Nat):Int)] from rfl,Iy va vb hia (by omega),AC,hpos];rfl
theorem ZX {n:Nat} (h:n<=a.length+b.length):F3 (K9 a b n)=some (((a.length+b.length-n:Nat):Int),0):=by
 obtain ⟨hI,hs⟩:=FT va vb (n:=n) h;have la:=va.len;have lb:=vb.len;have ha:=hI.ia;have hb:=hI.jb;unfold F3;rw [show K9 a b n=LG a b (Aj a b n).1 (Aj a b n).2 from rfl,Mw va vb hI,AC,AS,if_pos rfl];refine A8 (x:=(0,((2,((a.length+b.length-n:Nat):Int)),()))) (CQ (s1:=(1,(a.length:Int)-((Aj a b n).1:Int))) (s2:=(2,((a.length+b.length-n:Nat):Int))) ?_ ?_ rfl) rfl
 ·refine (NO 0 rfl rfl (x:=a) rfl).trans ((Eb 0 rfl (x:=((Aj a b n).1:Int)) rfl).trans ?_);simp only [AV,AR];rw [show AI .i64 (0:Int) (a.length:Int)=(a.length:Int) by rw [Du (by omega),Int.zero_add],B8 (by omega)];rfl
 ·refine (NO 1 rfl rfl (x:=b) rfl).trans ((Eb 1 rfl (x:=((Aj a b n).2:Int)) rfl).trans ?_);simp only [AV,AR];show some (LR.nx ((2:Int),B7 .i64 (AI .i64 ((a.length:Int)-((Aj a b n).1:Int)) (b.length:Int)) ((Aj a b n).2:Int)))=_;rw [Du (by omega),B8 (by omega),show (a.length:Int)-((Aj a b n).1:Int)+(b.length:Int)-((Aj a b n).2:Int)=((a.length+b.length-n:Nat):Int) by omega]
theorem V2:Ed [a,b]=some (Aw a b (a.length+b.length),(HP a b (a.length+b.length),0)):=by
 have la:=va.len;have lb:=vb.len;unfold Ed;rw [LC va vb,AC,AS,if_pos rfl];refine Eq.trans (b:=bd (loop _ ([],([],([],(0,([],[0,0])))))) _) rfl ?_
 refine A8 (x:=(0,((HP a b (a.length+b.length),(Aw a b (a.length+b.length),0)),())))
  (IR (λk=>([],(Aw a b k,([],(0,(HP a b k,[((Aj a b k).1:Int),((Aj a b k).2:Int)])))))) 0 (a.length+b.length) rfl (by omega) (by omega) (λk _ hk => ?_) ?_) rfl
 ·obtain ⟨x,hx,_⟩:=D8 va vb (n:=k) hk;obtain ⟨hI,hs⟩:=FT va vb (n:=k) (by omega);have hl1:(Aw a b k).length=k:=CV va vb (by omega);have hl2:=Mr a b k;simp only;rw [Ix va vb hI.ia hI.jb,AC,if_neg (λhh:(Aj a b k).1=a.length/\(Aj a b k).2=b.length=>by omega)];rw [GT va vb hx];unfold NN at hx;rw [show HP a b (k+1)=HP a b k++[(OT a b k:Int)] from rfl];unfold OT;rw [show Aj a b (k+1)=if Ha a b (Aj a b k).1 (Aj a b k).2=true then ((Aj a b k).1+1,(Aj a b k).2) else ((Aj a b k).1,(Aj a b k).2+1) from rfl]
  have g1 : ∀ {β:Type} (y:AD) (q:Unit->Option β),gd (BJ (Ao (AA (Aw a b k)) (AA [y])) 1048576) q=q ():=λy q=>Bb (by simp only [Ao,AA,hl1,List.length_cons,List.length_nil];omega) q;have g2 : ∀ {β:Type} (y:Int) (q:Unit->Option β),gd (BJ (Ao (AA (HP a b k)) (AA [y])) 1048576) q=q ():=λy q=>Bb (by simp only [Ao,AA,hl2,List.length_cons,List.length_nil];omega) q;cases g:Ha a b (Aj a b k).1 (Aj a b k).2 with
  | true =>
   rw [g,if_pos rfl] at hx;have hi:=(List.getElem?_eq_some_iff.1 hx).1;simp only [if_true];rw [BG,if_neg (by omega)];refine (Eb 0 rfl (x:=a) rfl).trans ((Ji 0 rfl (x:=((Aj a b k).1:Int)) rfl).trans ((Eb _ rfl hx).trans ?_));rw [g1,g2];refine (Ji 0 rfl (x:=((Aj a b k).1:Int)) rfl).trans ((Ji 0 rfl (x:=((Aj a b k).1:Int)) rfl).trans ?_);rw [Ab (by omega)];rfl
  | false =>
   rw [g,if_neg (by simp)] at hx;have hi:=(List.getElem?_eq_some_iff.1 hx).1;simp only [Bool.false_eq_true,if_false];rw [BG,if_neg (by omega)];refine (Eb 1 rfl (x:=b) rfl).trans ((Ji 1 rfl (x:=((Aj a b k).2:Int)) rfl).trans ((Eb _ rfl hx).trans ?_));rw [g1,g2];refine (Ji 1 rfl (x:=((Aj a b k).2:Int)) rfl).trans ((Ji 1 rfl (x:=((Aj a b k).2:Int)) rfl).trans ?_);rw [Ab (by omega)];rfl
 ·obtain ⟨hI,hs⟩:=FT va vb (n:=a.length+b.length) (Nat.le_refl _);simp only;rw [Ix va vb hI.ia hI.jb,AC,if_pos (show (Aj a b (a.length+b.length)).1=a.length/\(Aj a b (a.length+b.length)).2=b.length by have:=hI.ia;have:=hI.jb;omega),BG,if_pos (by omega)]
end
theorem Sf {s:Bs} (h1:s.2.1.length<=32) (h2:s.1=false->s.2.1=[]):FH s=some 0:=by
 unfold FH;rw [A5,if_neg (by simp only [AV,Is];omega),Be,Gl];cases h:s.1 with
 | true=>rfl
 | false=>rw [if_neg (by simp),Be,Ea,if_pos (h2 h)]
theorem UP {s:Bs} {x:AD} (h1:s.2.1.length<=32) (h2:s.1=false->s.2.1=[]) (h3:kE x=0) (h4:s.1=true->C1 x.1 s.2.1=false):F2 (s,x)=some (keep s x,((true,(x.1,s.2.2)),0)):=by
 unfold F2 keep;rw [Sf h1 h2,AC,Bj,if_pos rfl,L8,h3,AC,Bj,if_pos rfl];obtain ⟨s1,s2,s3⟩:=s;obtain ⟨x1,x2,x3,x4⟩:=x;simp only at h4 ⊢;cases s1 with
 | true =>
  have:=h4 rfl;simp only [AP,GQ,this,Bool.false_eq_true,if_false,AS,if_true,Be,Ea];by_cases he:x1=s2
  ·simp [he,Ai]
  ·simp only [he,if_false,decide_false];cases s3<;>cases x3<;>rfl
 | false =>
  simp only [Ai,AS,if_true,Be];cases s3<;>cases x3<;>rfl
theorem UQ {l:List AD} {bt:Bool} (hl:l.length<=20000) (hr:OW (false,([],bt)) l):Ee (l,bt)=some (FD (false,([],bt)) l,(0,0)):=by
 unfold Ee Cl;simp only [AV,AR];rw [A5,if_neg (by omega),AC]
 rw [Cs (l:=l) (σ:=Bs×List AD) (s:=(0,(0,([],([],(0,(false,([],bt)))))))) (λk st=>((0:Int),((k:Int),(([]:List AD),(st.2,((0:Int),st.1))))))
  (λm k st=>OW st.1 m/\st.1.2.1.length<=32/\(st.1.1=false->st.1.2.1=[])/\st.2.length<=k/\k+m.length=l.length)
  (λm k st=>(1,((0,((l.length:Int),([],(st.2++FD st.1 m,(0,CI st.1 m))))),()))) ((false,([],bt)),[]) rfl (by omega) ⟨hr,by simp,λ_=>rfl,by simp,by simp⟩ ?_ ?_,AC]
 ·simp;rfl
 ·intro st _;simp only;rw [re,Ai];simp [CI,FD]
 ·rintro k x m ⟨s,out⟩ hm hx hk ⟨⟨h1,h2,h3⟩,h4,h5,h6,h7⟩;simp only at h1 h2 h3 h4 h5 h6 ⊢;refine ⟨((true,(x.1,s.2.2)),out++if keep s x=true then [x] else []),?_,⟨h3,OX h1,(λh=>by cases h),?_,by simp at h7;omega⟩,?_⟩
  ·rw [rl hk,AP,AF,AK hx,UP h4 h5 h1 h2,AC,AS,if_pos rfl,Gl,AF,AK hx];have hg : ∀ {β:Type} (k:Unit->Option β),gd (BJ (Ao out.length [x].length) 1048576) k=k ():=λk=>Vx h6 (by simp at h7;omega) x k;rw [hg,Az hx (show l.length<=9223372036854775807 by omega)];cases hk2:keep s x<;>simp [By]
  ·split<;>simp<;>omega
  ·simp only [CI,FD,List.append_assoc]
section
variable {a b:List AD} (va:VL a) (vb:VL b)
include va vb
theorem Pz (bt:Bool) {n:Nat} (h:n<=a.length+b.length):Ct (Aw a b n,bt)=some (FD (s0 bt) (Aw a b n),CI (s0 bt) (Aw a b n)):=by
 have la:=va.len;have lb:=vb.len;have hml:(Aw a b n).length=n:=CV va vb h;unfold Ct;simp only [AV,AR];rw [UQ (by omega) (HQ va vb bt h),AC];unfold Cl;rw [AC,A5,hml];cases n with
 | zero=>rw [if_neg (by omega)];rfl
 | succ m =>
  obtain ⟨x,hx,_⟩:=D8 va vb (n:=m) (by omega);rw [if_pos (by omega),show B7 .i64 ((m+1:Nat):Int) 1=(m:Int) by rw [B8 (by omega)];omega,AF,AK (x:=x) (by rw [IP va vb h (by omega)];exact hx),Jj va vb bt hx]
theorem Sh (bt:Bool) {n:Nat} (h:n<=a.length+b.length):Dx (EQ a b bt n)=some (n:Int):=by
 obtain ⟨hI,hs⟩:=FT va vb (n:=n) h;have la:=va.len;have lb:=vb.len;unfold Dx;refine A8 (x:=(0,(((n:Int),2),()))) (CQ (s1:=(((Aj a b n).1:Int),1)) (s2:=((n:Int),2)) ?_ ?_ rfl) rfl
 ·refine (NO 0 rfl rfl (x:=((Aj a b n).1:Int)) rfl).trans ?_;show some (LR.nx (AI .i64 0 ((Aj a b n).1:Int),(1:Int)))=_;rw [Du (by omega),Int.zero_add]
 ·refine (NO 1 rfl rfl (x:=((Aj a b n).2:Int)) rfl).trans ?_;show some (LR.nx (AI .i64 ((Aj a b n).1:Int) ((Aj a b n).2:Int),(2:Int)))=_;rw [Du (by omega),show ((Aj a b n).1:Int)+((Aj a b n).2:Int)=(n:Int) by omega]
theorem Si (bt:Bool) {n:Nat} (h:n<=a.length+b.length):FI (EQ a b bt n)=some 0:=by
 obtain ⟨hI,hs⟩:=FT va vb (n:=n) h;have la:=va.len;have lb:=vb.len;have hfl:=IQ (s0 bt) (Aw a b n);have hml:(Aw a b n).length=n:=CV va vb h;unfold FI;rw [show (EQ a b bt n).1=LG a b (Aj a b n).1 (Aj a b n).2 from rfl,Mw va vb hI,AC,AS,if_pos rfl,Sh va vb bt h,AC];simp only [AV,AR];rw [show (EQ a b bt n).2.2.1=FD (s0 bt) (Aw a b n) from rfl,show (EQ a b bt n).2.2.2=(n:Int) from rfl,show (EQ a b bt n).2.1=CI (s0 bt) (Aw a b n) from rfl,A5,if_neg (by omega),A5,if_neg (by omega),AS,if_pos rfl];rw [show (LG a b (Aj a b n).1 (Aj a b n).2).1=[a,b] from rfl,V2 va vb,AC,AF];rw [Bb (by rw [CV va vb (Nat.le_refl _)];exact h),Bb (Nat.zero_le _)];rw [show EJ (Aw a b (a.length+b.length)) 0 n=Aw a b n from by unfold EJ;rw [List.drop_zero,Nat.sub_zero];exact Gy va vb h,Fv];rw [show (s0 bt).2.2=bt from rfl,Pz va vb bt h,AC,Gf,Fw _ _ (by omega),AC,CW,CZ,if_neg (by simp),Fv,Ho,Ho,Iu];rfl
theorem LD (bt:Bool) {n:Nat} (h:n<=a.length+b.length):BC (EQ a b bt n)=some (((a.length+b.length-n:Nat):Int),0):=by
 unfold BC;rw [Si va vb bt h,AC,AS,if_pos rfl,show (EQ a b bt n).1=K9 a b n from rfl,ZX va vb h];rfl
theorem UR (bt:Bool) {n:Nat} (h:n<=a.length+b.length) {k:Nat}:BO (EQ a b bt n,(k:Int))=some (EQ a b bt (n+min k (a.length+b.length-n)),(((min k (a.length+b.length-n):Nat):Int),0)):=by
 have la:=va.len;have lb:=vb.len;obtain ⟨u,hu⟩ : ∃ u,u=min k (a.length+b.length-n):=⟨_,rfl⟩
 have him:NC (k:Int) ((a.length+b.length-n:Nat):Int)=(u:Int):=by
  unfold NC;split<;>omega
 rw [<- hu];unfold BO;rw [LD va vb bt h,AC,Bj,if_pos rfl];simp only [him,AV,AR];rw [BG,if_neg (by omega),AS,if_pos rfl,Sh va vb bt h,AC,Du (by omega),A5,if_neg (by omega)]
 refine A8 (x:=(0,(((u:Int),((K9 a b (n+u)).1,((K9 a b (n+u)).2.1,((K9 a b (n+u)).2.2.1,((K9 a b (n+u)).2.2.2.1,((K9 a b (n+u)).2.2.2.2,((EQ a b bt n).2.1.1,((EQ a b bt n).2.1.2.1,((EQ a b bt n).2.1.2.2,(EQ a b bt n).2.2))))))))),())))
  (IR (λj=>((j:Int),((K9 a b (n+j)).1,((K9 a b (n+j)).2.1,((K9 a b (n+j)).2.2.1,((K9 a b (n+j)).2.2.2.1,((K9 a b (n+j)).2.2.2.2,((EQ a b bt n).2.1.1,((EQ a b bt n).2.1.2.1,((EQ a b bt n).2.1.2.2,(EQ a b bt n).2.2)))))))))) 0 u rfl (by omega) (by omega) (λj _ hj => ?_) ?_) ?_
 ·obtain ⟨y,hy,_⟩:=D8 va vb (n:=n+j) (by omega);show br (Am (j:Int) (u:Int)) _ _=_;rw [BG,if_pos (by omega)];show bd (Dy (K9 a b (n+j))) _=_;rw [ZW va vb (by omega) hy,AC,Ab (by omega)];rfl
 ·show br (Am (u:Int) (u:Int)) _ _=_;rw [BG,if_neg (by omega)]
 ·rw [show (EQ a b bt n).1.1=[a,b] from rfl,V2 va vb,AC,show (EQ a b bt n).2.2.2=(n:Int) from rfl,show AI .i64 (n:Int) (u:Int)=((n+u:Nat):Int) by rw [Du (by omega)];omega,AF];rw [Bb (by rw [CV va vb (Nat.le_refl _)];omega),Bb (Nat.zero_le _)];rw [show EJ (Aw a b (a.length+b.length)) 0 (n+u)=Aw a b (n+u) from by unfold EJ;rw [List.drop_zero,Nat.sub_zero];exact Gy va vb (by omega),show (EQ a b bt n).2.1.2.2=bt from Fv _ _,Pz va vb bt (by omega),AC];rfl
end
end Go.Proofs.YthpkjfabdccpdaaGreat.Pl
namespace Go.Proofs.YthpkjfabdccpdaaGreat.Pl
open Go Go.Proofs.YthpkjfabdccpdaaGreat.Sv
theorem W7 (B:Int) (i:Nat):Bc B (i+1)=2*Bc B i:=by
 unfold Bc;rw [Int.pow_succ,<- Int.mul_assoc,Int.mul_comm]
theorem Sj {B:Int} {i:Nat} (h1:1<=B) (h2:B<=16) (hi:i<=12):C9 (B,(i:Int))=some (Bc B i):=by
 unfold C9;refine A8 (x:=(0,((Bc B i,(i:Int)),()))) (HN (λk=>(Bc B k,(k:Int))) i (by simp [Bc]) (by omega) (λk hk => ?_) ?_) rfl
 ·have h3:=Sa h1 h2 (show k<=12 by omega);simp only;rw [BG,if_pos (by omega),fG (by omega),Ab (by omega),W7]
 ·simp only;rw [BG,if_neg (by omega)]
theorem V3 (r:BE) (hl:r.2.length<=9223372036854775807):EF r=some (if r.1<1\/r.1>1000000 then (-1,7) else Ca r.2):=by
 unfold EF;rw [BG,A5,GV _ hl,AC];by_cases h:r.1<1
 ·rw [if_pos h,if_pos (.inl h)]
 ·rw [if_neg h];by_cases h2:r.1>1000000
  ·rw [if_pos h2,if_pos (.inr h2)]
  ·rw [if_neg h2,if_neg (by omega)]
theorem Sk (r:BE) (most:Int) (ids:List Int) (hl:r.2.length<=9223372036854775807) (hi:ids.length<=1048576):DA (r,(most,ids))=some (kR ids most r):=by
 unfold DA kR;rw [V3 r (by omega),AC];simp only [AV,AR];by_cases h:r.1<1\/r.1>1000000
 ·rw [if_pos h,if_pos h];rfl
 rw [if_neg h,if_neg h,AS];by_cases h2:(Ca r.2).2=0;rotate_left
 ·rw [if_neg h2,if_pos h2]
 rw [if_pos h2,if_neg (show ¬ (Ca r.2).2≠0 by simp [h2]),Bj,A5];by_cases h3:r.2.length=0
 ·rw [if_pos (by omega),if_pos h3]
 rw [if_neg (by omega),if_neg h3];by_cases h4:(r.2.length:Int)>most
 ·rw [if_pos h4,if_pos h4]
 rw [if_neg h4,if_neg h4]
 obtain ⟨q,q1,q2⟩:=H2 (l:=ids) (σ:=Unit) (s:=((0:Int),(0:Int))) (λk _=>((k:Int),(0:Int))) (λm k _=>r.1∈ids<->r.1∈m) (λ(q:Nat×((Int×Int)×Unit))=>(q.1=1/\r.1 ∉ ids)\/(q.1=0/\r.1∈ids/\q.2.1.2=8))
  (f:=λs1=>br (Am s1.1 (ids.length:Int)) (λ_=>AT s1.1 λk2=>ix ids k2 λx3=>br (BN x3 r.1) (λ_=>some (.dn ((0,((s1.1,8),()))))) λ_=>some (.nx (AI .i64 s1.1 1,s1.2))) λ_=>some (.dn ((1,(s1,())))))
  () rfl (by omega) Iff.rfl (λ_ h=>⟨_,by simp only;rw [re];rfl,.inl ⟨rfl,by simpa using h⟩⟩) (λk x m _ hd hx hk h=>by
   simp only;rw [rl hk,AP,AF,AK hx,Bj];by_cases e:x=r.1
   ·rw [if_pos e];exact .inr ⟨_,rfl,.inr ⟨rfl,by rw [h,e];simp,rfl⟩⟩
   ·rw [if_neg e];exact .inl ⟨(),by rw [Az hx (by omega)],by rw [h,List.mem_cons];exact ⟨λu=>u.elim (λe2=>absurd e2.symm e) id,.inr⟩⟩)
 refine A8 q1 ?_;rw [Cd];rcases q2 with ⟨q2,q3⟩ | ⟨q2,q3,q4⟩
 ·rw [if_neg (show ¬ q.1=0 by omega),if_neg q3]
 ·rw [if_pos q2,if_pos q3,q4]
theorem RG (L:AJ) (hb:L.2.length<=1048576) (hr : ∀ rs∈L.2,rs.length<=1048576 /\ ∀ r∈rs,r.2.length<=9223372036854775807):CM L=some (ER L):=by
 unfold CM ER;simp only [AV,AR];rw [BG,A5,A5];by_cases hB1:L.1<1
 ·rw [if_pos hB1,if_pos (.inl hB1)]
 rw [if_neg hB1];by_cases hB2:L.1>16
 ·rw [if_pos hB2,if_pos (.inr hB2)]
 rw [if_neg hB2,if_neg (show ¬ (L.1<1\/L.1>16) by omega)];by_cases hl:(L.2.length:Int)>12
 ·rw [if_pos hl,if_pos (by omega)]
 rw [if_neg hl,if_neg (by omega)];have hl2:L.2.length<=12:=by omega
 obtain ⟨T,hT⟩ : ∃ T,T=KN L.1 0 [] L.2:=⟨_,rfl⟩;rw [<- hT]
 have hlast:T=none->(br (CE (L.2.length:Int) 0) (λ_=>AT (B7 .i64 (L.2.length:Int) 1) λk15=>ix L.2 k15 λx16=>br (BN (x16.length:Int) 0) (λ_=>some ((B7 .i64 (L.2.length:Int) 1,((0:Int),(6:Int))))) λ_=>some ((0,(0,0)))) λ_=>some ((0,(0,0))))=some (if L.2.getLast? = some [] then (((L.2.length-1:Nat):Int),(0,6)) else (0,(0,0))):=by
  intro _;rw [A5];by_cases hn:L.2=[]
  ·rw [hn];rfl
  ·have hp:=List.length_pos_iff.2 hn;rw [if_pos (by omega),show B7 .i64 (L.2.length:Int) 1=((L.2.length-1:Nat):Int) by rw [B8 (by omega)];omega,AF,List.getLast?_eq_getElem?];have hx:L.2[L.2.length-1]? = some (L.2[L.2.length-1]'(by omega)):=by simp
   rw [AK hx,hx,Bj];by_cases he:L.2[L.2.length-1]'(by omega)=[]
   ·rw [he];simp
   ·rw [if_neg (by have:=List.length_pos_iff.2 he;omega),if_neg (by simp [he])]
 obtain ⟨r,q1,q2⟩:=H2 (l:=L.2) (σ:=List Int) (s:=((0:Int),(([]:List Int),((0:Int),((0:Int),(0:Int)))))) (λi ids=>((0:Int),(ids,((0:Int),((0:Int),(i:Int))))))
  (λm i ids=>KN L.1 i ids m=T/\ids.length<=2*i) (λ(r:Nat×((Int×(List Int×(Int×(Int×Int))))×Unit))=>(r.1=1/\T=none)\/(r.1=0/\Q1 T r.2.1.1 r.2.1.2.2.1 r.2.1.2.2.2.1/\T≠none))
  (f:=λ(s0:(Int×((List Int)×(Int×(Int×Int)))))=>br (Am s0.2.2.2.2 (L.2.length:Int)) (λ_=>AT s0.2.2.2.2 λk1=>ix L.2 k1 λx2=>br (CE (x2.length:Int) 2) (λ_=>some (.dn ((0,((0,(s0.2.1,(s0.2.2.2.2,(3,s0.2.2.2.2)))),()))))) λ_=>bd (loop (λ(s3:(Int×((List Int)×(Int×(Int×Int)))))=>br (Am s3.2.2.2.2 (x2.length:Int)) (λ_=>AT s3.2.2.2.2 λk4=>ix x2 k4 λx5=>bd (C9 (L.1,s0.2.2.2.2)) λr6=>bd (DA ((x5,(r6,s3.2.1)))) λr7=>br (A7 r7 0) (λ_=>some (.dn ((0,((s3.2.2.2.2,(s3.2.1,(s0.2.2.2.2,(r7,s3.2.2.2.2)))),()))))) λ_=>AT s3.2.2.2.2 λk8=>ix x2 k8 λx9=>gd (BJ (Ao s3.2.1.length [x9.1].length) 1048576) λ_=>some (.nx ((s3.1,(By s3.2.1 [x9.1],(s3.2.2.1,(s3.2.2.2.1,AI .i64 s3.2.2.2.2 1))))))) λ_=>some (.dn ((1,(s3,()))))) ((s0.1,(s0.2.1,(s0.2.2.1,(s0.2.2.2.1,0)))))) λr10=>br (neq r10.1 0) (λ_=>some (.dn ((0,((r10.2.1.1,(r10.2.1.2.1,(r10.2.1.2.2.1,(r10.2.1.2.2.2.1,s0.2.2.2.2)))),()))))) λ_=>some (.nx ((r10.2.1.1,(r10.2.1.2.1,(r10.2.1.2.2.1,(r10.2.1.2.2.2.1,AI .i64 s0.2.2.2.2 1))))))) λ_=>some (.dn ((1,(s0,())))))
  [] rfl (by omega) ⟨hT.symm,by simp⟩ (λids h=>by
   refine ⟨_,by simp only;rw [re];rfl,.inl ⟨rfl,?_⟩⟩;rw [<- h.1];rfl) (λi rs m ids hd hx hi h=>by
   obtain ⟨h,hids⟩:=h;simp only;obtain ⟨hrs1,hrs2⟩:=hr rs (List.mem_of_getElem? hx);rw [rl hi,AP,AF,AK hx,A5];unfold KN at h;by_cases h3:rs.length>2
   ·rw [if_pos (by omega)];rw [if_pos h3] at h;refine .inr ⟨_,rfl,.inr ⟨rfl,?_,by rw [<- h];simp⟩⟩;rw [<- h];exact ⟨rfl,rfl,rfl⟩
   rw [if_neg (by omega)];rw [if_neg h3] at h;obtain ⟨U,hU⟩ : ∃ U,U=KM (Bc L.1 i) 0 ids rs:=⟨_,rfl⟩;rw [<- hU] at h
   obtain ⟨r,q1,q2⟩:=H2 (l:=rs) (σ:=Unit) (s:=((0:Int),(ids,((0:Int),((0:Int),(0:Int)))))) (λk _=>((0:Int),(ids++(rs.take k).map (·.1),((0:Int),((0:Int),(k:Int))))))
    (λm k _=>KM (Bc L.1 i) k (ids++(rs.take k).map (·.1)) m=U) (λ(r:Nat×((Int×(List Int×(Int×(Int×Int))))×Unit))=>(r.1=1/\U=none/\r.2.1=(0,(ids++rs.map (·.1),(0,(0,(rs.length:Int))))))\/(r.1=0 /\ ∃ k e,U=some (k,e)/\r.2.1.1=(k:Int)/\r.2.1.2.2.1=(i:Int)/\r.2.1.2.2.2.1=e))
    (f:=λ(s3:(Int×((List Int)×(Int×(Int×Int)))))=>br (Am s3.2.2.2.2 (rs.length:Int)) (λ_=>AT s3.2.2.2.2 λk4=>ix rs k4 λx5=>bd (C9 (L.1,(i:Int))) λr6=>bd (DA ((x5,(r6,s3.2.1)))) λr7=>br (A7 r7 0) (λ_=>some (.dn ((0,((s3.2.2.2.2,(s3.2.1,((i:Int),(r7,s3.2.2.2.2)))),()))))) λ_=>AT s3.2.2.2.2 λk8=>ix rs k8 λx9=>gd (BJ (Ao s3.2.1.length [x9.1].length) 1048576) λ_=>some (.nx ((s3.1,(By s3.2.1 [x9.1],(s3.2.2.1,(s3.2.2.2.1,AI .i64 s3.2.2.2.2 1))))))) λ_=>some (.dn ((1,(s3,())))))
    () (by simp) (by omega) (by simp [hU]) (λ_ h=>by
     refine ⟨_,by simp only;rw [re];rfl,.inl ⟨rfl,by rw [<- h];rfl,by simp⟩⟩) (λk r m _ hd hx hk h=>by
     simp only;have hr2:=hrs2 r (List.mem_of_getElem? hx);have htk:(rs.take (k+1)).map (·.1)=(rs.take k).map (·.1)++[r.1]:=by rw [List.take_add_one,hx];simp
     have hlen:(ids++(rs.take k).map (·.1)).length<=100:=by simp;omega
     rw [rl hk,AP,AF,AK hx,Sj (by omega) (by omega) (by omega),AC,Sk _ _ _ (by omega) (by omega),AC,AS];unfold KM at h;by_cases h0:kR (ids++(rs.take k).map (·.1)) (Bc L.1 i) r=0
     ·rw [if_neg (λhh:kR (ids++(rs.take k).map (·.1)) (Bc L.1 i) r≠0=>hh h0)] at h;rw [if_pos h0,AF,AK hx,Bb (by simp only [Ao,List.length_cons,List.length_nil];omega)];refine .inl ⟨(),?_,?_⟩
      ·rw [Az hx (by omega),htk,<- List.append_assoc];rfl
      ·rw [htk,<- List.append_assoc];exact h
     ·rw [if_pos h0] at h;rw [if_neg h0]
      exact .inr ⟨_,rfl,.inr ⟨rfl,_,_,h.symm,rfl,rfl,rfl⟩⟩)
   rw [q1,AC,Cd];rcases q2 with ⟨q2,q3,q4⟩ | ⟨q2,k,e,q3,q4,q5,q6⟩
   ·rw [if_neg (show ¬ r.1=0 by omega),q4,Az hx (by omega)];rw [q3] at h;exact .inl ⟨ids++rs.map (·.1),rfl,h,by simp;omega⟩
   ·rw [if_pos q2];rw [q3] at h;refine .inr ⟨_,rfl,.inr ⟨rfl,?_,by rw [<- h];simp⟩⟩;rw [<- h]
    exact ⟨q4,q5,q6⟩)
 refine A8 q1 ?_;rw [Cd];rcases q2 with ⟨q2,q3⟩ | ⟨q2,q3,q4⟩
 ·rw [if_neg (show ¬ r.1=0 by omega),q3];exact hlast q3
 ·rw [if_pos q2];cases hTc:T with
  | none=>exact absurd hTc q4
  | some t =>
   obtain ⟨i,k,e⟩:=t;rw [hTc] at q3;rw [q3.1,q3.2.1,q3.2.2]
def Cy (ls:List (List BE)):List BE:=ls.flatMap List.reverse
theorem VLev.small {L:AJ} (v:VLev L):L.2.length<=1048576 /\ ∀ rs∈L.2,rs.length<=1048576 /\ ∀ r∈rs,r.2.length<=9223372036854775807:=by
 refine ⟨by have:=v.len;omega,λrs hrs => ?_⟩;obtain ⟨i,hi⟩:=List.getElem?_of_mem hrs;obtain ⟨h1,h2⟩:=v.lev i rs hi;exact ⟨by omega,λr hr=>by have:=(h2 r hr).vl.len;omega⟩
theorem Jk : ∀ (ls:List (List BE)),(∀ rs∈ls,rs.length<=2)->(Cy ls).length<=2*ls.length
 | [],_=>by simp [Cy]
 | rs::ls,h=>by
  have h1:=Jk ls λr hr=>h r (by simp [hr]);have h2:=h rs (by simp);unfold Cy at h1 ⊢;rw [List.flatMap_cons,List.length_append,List.length_reverse,List.length_cons];omega
theorem VLev.two {L:AJ} (v:VLev L) : ∀ rs∈L.2,rs.length<=2:=λrs hrs=>by
 obtain ⟨i,hi⟩:=List.getElem?_of_mem hrs;exact (v.lev i rs hi).1
theorem Of {L:AJ} (v:VLev L):Dg L=some (Cy L.2,0):=by
 obtain ⟨hb,hr⟩:=v.small;have hl:=v.len;unfold Dg;simp only [AV,AR];rw [RG _ hb hr,Fx v,AC,AS,if_pos rfl]
 rw [Cs (l:=L.2) (σ:=List BE) (s:=(([]:List BE),(0:Int))) (λi m=>(m,(i:Int))) (λls i m=>(∀ rs∈ls,rs.length<=2)/\m.length<=2*i) (λls _ m=>(0,((m++Cy ls,(L.2.length:Int)),()))) [] rfl (by omega) ⟨v.two,by simp⟩ (λm _=>by
  simp only;rw [re,Ai];simp [Cy]) (λi rs ls m hd hx hi h=>by
   refine ⟨m++rs.reverse,?_,⟨λr hr=>h.1 r (by simp [hr]),by have:=h.1 rs (by simp);simp;omega⟩,by simp [Cy]⟩;have h2:=h.1 rs (by simp);have hm:m.length<=24:=by have:=h.2;omega
   simp only;rw [rl hi,AP,AF,AK hx];have gg : ∀ {β:Type} (z:List BE) (x:BE) (k:Unit->Option β),z.length<=100->gd (BJ (Ao z.length [x].length) 1048576) k=k ():=λz x k hz=>Bb (by simp only [Ao,List.length_cons,List.length_nil];omega) k
   match rs,h2,hx with
   | [],_,hx =>
    refine A8 (x:=(0,((m,-1),()))) (C8 (n:=1) (by omega) (BZ rfl)) ?_;rw [Az hx (by omega)];simp
   | [r0],_,hx =>
    refine A8 (x:=(0,((m++[r0],-1),()))) (C8 (n:=2) (by omega) ((BV (s':=(m++[r0],-1)) ?_).trans (BZ rfl))) ?_
    ·show br (G1 (0:Int) 0) _ _=_;rw [Dm,if_pos (by omega),AF,AK hx];refine (Eb 0 rfl (x:=r0) rfl).trans ?_;rw [gg m _ _ (by omega)];rfl
    ·rw [Az hx (by omega)];simp
   | [r0,r1],_,hx =>
    refine A8 (x:=(0,((m++[r1]++[r0],-1),()))) (C8 (n:=3) (by omega) ((BV (s':=(m++[r1],0)) ?_).trans ((BV (s':=(m++[r1]++[r0],-1)) ?_).trans (BZ rfl)))) ?_
    ·show br (G1 (1:Int) 0) _ _=_;rw [Dm,if_pos (by omega),AF,AK hx];refine (Eb 1 rfl (x:=r1) rfl).trans ?_;rw [gg m _ _ (by omega)];rfl
    ·show br (G1 (0:Int) 0) _ _=_;rw [Dm,if_pos (by omega),AF,AK hx];refine (Eb 0 rfl (x:=r0) rfl).trans ?_;rw [gg (m++[r1]) _ _ (by simp;omega)];rfl
    ·rw [Az hx (by omega)];simp),AC]
 simp
theorem F5 (a b:Int):J5 a b=max a b:=by unfold J5;split<;>omega
theorem FJ : ∀ (l:List BE) (m:Int),0<=m->l.foldl (λm r=>J5 m r.1) m=max m (l.foldl (λm r=>J5 m r.1) 0)
 | [],m,h=>by simp;omega
 | r::l,m,h=>by
  have h1:=FJ l (J5 m r.1) (by rw [F5];omega);have h2:=FJ l (J5 0 r.1) (by rw [F5];omega);simp only [List.foldl_cons];rw [h1,h2,F5,F5];omega
theorem O8 (l:List BE) (m:Int) (h:0<=m):l.reverse.foldl (λm r=>J5 m r.1) m=l.foldl (λm r=>J5 m r.1) m:=by
 induction l generalizing m with
 | nil=>rfl
 | cons r l ih =>
  rw [List.reverse_cons,List.foldl_append,ih m h,List.foldl_cons];simp only [List.foldl_cons,List.foldl_nil];rw [FJ l m h,FJ l (J5 m r.1) (by rw [F5];omega),F5,F5];omega
theorem RI (l:List BE) (m:Int) (h:0<=m):0<=l.foldl (λm r=>J5 m r.1) m:=by
 rw [FJ l m h];omega
theorem I8 : ∀ (ls:List (List BE)) (m:Int),0<=m->(Cy ls).foldl (λm r=>J5 m r.1) m=ls.foldl (λm rs=>rs.foldl (λm r=>J5 m r.1) m) m
 | [],m,_=>rfl
 | rs::ls,m,h=>by
  have h1:=I8 ls (rs.foldl (λm r=>J5 m r.1) m) (RI _ _ h);unfold Cy at h1 ⊢;rw [List.flatMap_cons,List.foldl_append,O8 rs m h,List.foldl_cons,h1]
theorem RJ {L:AJ} (v:VLev L):CH L=some (Ey L.2):=by
 have hl:=v.len;have hn:=Jk L.2 v.two;unfold CH;simp only [AV,AR];rw [Of v,AC]
 rw [Cs (l:=Cy L.2) (σ:=Int) (s:=((0:Int),(0:Int))) (λi m=>(m,(i:Int))) (λ_ _ _=>True) (λl _ m=>(0,((l.foldl (λm r=>J5 m r.1) m,((Cy L.2).length:Int)),()))) 0 rfl (by omega) trivial (λm _=>by
  simp only;rw [re,Ai];rfl) (λk r l m hd hx hk _=>⟨J5 m r.1,by
   simp only
   rw [rl hk,AP,AF,AK hx,Az hx (by omega)],trivial,rfl⟩),AC]
 rw [I8 _ _ (by omega)];rfl
theorem V4 {L:AJ} (hl:L.2.length<=1000):CR L=some (BQ 0 L.2):=by
 unfold CR;simp only [AV,AR]
 rw [Cs (l:=L.2) (σ:=List Int) (s:=(([]:List Int),(0:Int))) (λi m=>(m,(i:Int))) (λls i m=>m++BQ i ls=BQ 0 L.2) (λ_ _ _=>(0,((BQ 0 L.2,(L.2.length:Int)),()))) [] rfl (by omega) rfl (λm h=>by
  simp only;rw [re,Ai,<- h];simp [BQ]) (λi rs ls m hd hx hi h=>by
   refine ⟨m++(if rs.length=2 then [(i:Int)] else []),?_,?_,rfl⟩
   ·simp only;rw [rl hi,AP,AF,AK hx,Bj]
    have hm:m.length<=1000:=by
     have h4:=congrArg List.length h;have h5:=Fa L.2 0;rw [List.length_append] at h4;omega
    by_cases h4:rs.length=2
    ·rw [if_pos (by omega),if_pos h4,Bb (by simp only [Ao,List.length_cons,List.length_nil];omega),Az hx (by omega)];rfl
    ·rw [if_neg (by omega),if_neg h4,List.append_nil,Az hx (by omega)]
   ·rw [List.append_assoc];exact h),AC]
theorem ZY {L:AJ} (v:VLev L) (k:Int):GU (L,k)=some (if k<0\/k>=12 then 7 else 0):=by
 obtain ⟨hb,hr⟩:=v.small;unfold GU;rw [RG _ hb hr,Fx v,AC,Bj,if_pos rfl,BG,Dm];by_cases h1:k<0
 ·rw [if_pos h1,if_pos (.inl h1)]
 ·rw [if_neg h1];by_cases h2:k>=12
  ·rw [if_pos h2,if_pos (.inr h2)]
  ·rw [if_neg h2,if_neg (by omega)]
theorem Og {L:AJ} (v:VLev L) {n:Nat} (hn:n<L.2.length):BB (L,(n:Int))=some (decide ((n:Int)=(L.2.length:Int)-1)):=by
 have hl:=v.len;unfold BB Gd;simp only [AV,AR];rw [ZY v,AC,if_neg (by omega),AS,if_pos rfl,AC,Ab (by omega)];unfold CE;rw [CW];by_cases h:(n:Int)=(L.2.length:Int)-1
 ·simp [h]
 ·simp [h];omega
theorem US {a b:List AD} (va:VL a) (vb:VL b) (bt:Bool):FG ([a,b],bt)=some (EQ a b bt 0,(0,0)):=by
 unfold FG Ge Cl;rw [LC va vb,AC,AS,if_pos rfl];refine Eq.trans (b:=bd (bd (Ck ([a,b],[((0:Nat):Int),((0:Nat):Int)])) _) _) rfl ?_;rw [Iy va vb (Nat.zero_le _) (Nat.zero_le _)];rfl
theorem P0 {L:AJ} {n:Nat} {r0 r1:BE} (bt:Bool) (h:L.2[n]? = some [r0,r1]) (v0:VL r0.2) (v1:VL r1.2):Ak (L,((n:Int),bt))=some ((n:Int),EQ r1.2 r0.2 bt 0):=by
 have hn:=(List.getElem?_eq_some_iff.1 h).1;unfold Ak;simp only [AV,AR];rw [Dm,if_neg (by omega),AF,AK h,AK (x:=r1) rfl,AK (x:=r0) rfl,US v1 v0];rfl
theorem fQ {L:AJ} {n:Nat} {r0 r1:BE} {j:G5} (h:L.2[n]? = some [r0,r1]) (v0:VL r0.2) (v1:VL r1.2) {β:Type} (A B:Option β) :
  (bd (Ak (L,((n:Int),j.2.2.1.2.2))) λr16=>bd (BC r16.2) λr17=>br (Am j.2.2.2.2 0) (λ_=>A) λ_=>br (CE j.2.2.2.2 r17.1) (λ_=>A) λ_=>bd (BO (r16.2,j.2.2.2.2)) λr18=>bd (BI (r18.1,j.2)) λr19=>br (AY r19) (λ_=>A) λ_=>B)
  = if j.2.2.2.2<0\/j.2.2.2.2>((r1.2.length+r0.2.length:Nat):Int) then A else if EQ r1.2 r0.2 j.2.2.1.2.2 j.2.2.2.2.toNat=j.2 then B else A:=by
 rw [P0 _ h v0 v1,AC,LD v1 v0 _ (Nat.zero_le _),AC,BG,A5,Nat.sub_zero];by_cases h1:j.2.2.2.2<0
 ·rw [if_pos h1,if_pos (.inl h1)]
 rw [if_neg h1];by_cases h2:j.2.2.2.2>((r1.2.length+r0.2.length:Nat):Int)
 ·rw [if_pos h2,if_pos (.inr h2)]
 rw [if_neg h2,if_neg (show ¬ (j.2.2.2.2<0\/j.2.2.2.2>((r1.2.length+r0.2.length:Nat):Int)) by omega)];obtain ⟨k,hk⟩ : ∃ k:Nat,j.2.2.2.2=(k:Int):=⟨j.2.2.2.2.toNat,by omega⟩;rw [hk,UR v1 v0 _ (Nat.zero_le _),AC,Nat.sub_zero,Nat.zero_add,Nat.min_eq_left (by omega),Int.toNat_natCast];obtain ⟨s1,s2,s3,s4,s5,s6⟩:=Mv v1 v0 j.2.2.1.2.2 (n:=k) (by omega);rw [Oe _ _ s1 s2 s3 s4 s5 s6,AC,CW,CZ];by_cases he:EQ r1.2 r0.2 j.2.2.1.2.2 k=j.2
 ·rw [if_neg (by simp [he]),if_pos he]
 ·rw [if_pos he,if_neg he]
end Go.Proofs.YthpkjfabdccpdaaGreat.Pl
namespace Go.Proofs.YthpkjfabdccpdaaGreat.Pl
open Go Go.Proofs.YthpkjfabdccpdaaGreat.Sv
theorem Sl (s:A3) (hb:s.1.2.length<=1048576) (hr : ∀ rs∈s.1.2,rs.length<=1048576 /\ ∀ r∈rs,r.2.length<=9223372036854775807) (hj:s.2.1.length<=1048576):EH s=some (Dw s):=by
 unfold EH Dw;simp only [AV,AR];rw [RG _ hb hr,AC,Bj];by_cases h0:(ER s.1).2.2=0;rotate_left
 ·rw [if_neg h0,if_pos h0,Bj,if_neg h0,AS,if_neg h0]
 rw [if_pos h0,if_neg (show ¬ (ER s.1).2.2≠0 by simp [h0]),BG,A5];have v:=Hq.1 h0;by_cases h1:s.2.2<1
 ·rw [if_pos h1,if_pos (.inl h1)]
 rw [if_neg h1];by_cases h2:s.2.2>1000001
 ·rw [if_pos h2,if_pos (.inr h2)]
 rw [if_neg h2,if_neg (show ¬ (s.2.2<1\/s.2.2>1000001) by omega),Bj,if_pos h0,RJ v,AC,Vr];by_cases h3:s.2.2<=Ey s.1.2
 ·rw [if_pos h3,if_pos h3]
 rw [if_neg h3,if_neg h3,AS,if_pos h0,V4 (by have:=v.len;omega),AC];obtain ⟨due,hdue⟩ : ∃ due,due=BQ 0 s.1.2:=⟨_,rfl⟩;have hdl:due.length<=12:=by have:=Fa s.1.2 0;have:=v.len;rw [hdue];omega
 rw [<- hdue];obtain ⟨T,hT⟩ : ∃ T,T=FU s.1 due 0 s.2.1:=⟨_,rfl⟩;rw [<- hT]
 obtain ⟨r,q1,q2⟩:=H2 (l:=s.2.1) (σ:=Unit) (λi _=>((0:Int),((0:Int),(i:Int)))) (λjs i _=>FU s.1 due i js=T) (λ(r:Nat×((Int×(Int×Int))×Unit))=>(T=none/\r.1=1)\/(∃ i:Nat,T=some i/\r.1=0/\r.2.1.1=6/\r.2.1.2.1=(i:Int)))
  (f:=λs6=>br (Am s6.2.2 (s.2.1.length:Int)) (λ_=>AT s6.2.2 λk7=>ix s.2.1 k7 λx8=>br (G1 s6.2.2 (due.length:Int)) (λ_=>some (.dn ((0,((6,(s6.2.2,s6.2.2)),()))))) λ_=>AT s6.2.2 λk9=>ix due k9 λx10=>br (A7 x8.1 x10) (λ_=>some (.dn ((0,((6,(s6.2.2,s6.2.2)),()))))) λ_=>br x8.2.2.1.2.2 (λ_=>bd (BB (s.1,x8.1)) λr11=>br (AY r11) (λ_=>some (.dn ((0,((6,(s6.2.2,s6.2.2)),()))))) λ_=>bd (Ak ((s.1,(x8.1,x8.2.2.1.2.2)))) λr12=>bd (BC r12.2) λr13=>br (Am x8.2.2.2.2 0) (λ_=>some (.dn ((0,((6,(s6.2.2,s6.2.2)),()))))) λ_=>br (CE x8.2.2.2.2 r13.1) (λ_=>some (.dn ((0,((6,(s6.2.2,s6.2.2)),()))))) λ_=>bd (BO (r12.2,x8.2.2.2.2)) λr14=>bd (BI (r14.1,x8.2)) λr15=>br (AY r15) (λ_=>some (.dn ((0,((6,(s6.2.2,s6.2.2)),()))))) λ_=>some (.nx ((s6.1,(s6.2.1,AI .i64 s6.2.2 1))))) λ_=>bd (Ak ((s.1,(x8.1,x8.2.2.1.2.2)))) λr16=>bd (BC r16.2) λr17=>br (Am x8.2.2.2.2 0) (λ_=>some (.dn ((0,((6,(s6.2.2,s6.2.2)),()))))) λ_=>br (CE x8.2.2.2.2 r17.1) (λ_=>some (.dn ((0,((6,(s6.2.2,s6.2.2)),()))))) λ_=>bd (BO (r16.2,x8.2.2.2.2)) λr18=>bd (BI (r18.1,x8.2)) λr19=>br (AY r19) (λ_=>some (.dn ((0,((6,(s6.2.2,s6.2.2)),()))))) λ_=>some (.nx ((s6.1,(s6.2.1,AI .i64 s6.2.2 1))))) λ_=>some (.dn ((1,(s6,())))))
  (s:=(0,(0,0))) () rfl (by omega) hT.symm (λ_ h=>by
   refine ⟨_,by simp only;rw [re];rfl,.inl ⟨by rw [<- h];rfl,rfl⟩⟩) (λi j js _ hd hx hi h=>by
   simp only;rw [rl hi,AP,AF,AK hx,Dm];unfold FU at h
   have hbad:KO s.1 due i j=true -> ∃ r:Nat×((Int×(Int×Int))×Unit),(some (LR.dn ((0,((6,((i:Int),(i:Int))),()))):LR (Int×(Int×Int)) _))=some (.dn r)/\((T=none/\r.1=1)\/(∃ i:Nat,T=some i/\r.1=0/\r.2.1.1=6/\r.2.1.2.1=(i:Int))):=λhb=>by
    rw [if_pos hb] at h;exact ⟨_,rfl,.inr ⟨i,h.symm,rfl,rfl,rfl⟩⟩
   have hgood:KO s.1 due i j=false -> ∃ st':Unit,(some (LR.nx ((0:Int),((0:Int),AI .i64 (i:Int) 1))):Option (LR _ (Nat×((Int×(Int×Int))×Unit))))=some (.nx ((0:Int),((0:Int),((i+1:Nat):Int))))/\FU s.1 due (i+1) js=T:=λhg=>by
    rw [if_neg (by simp [hg])] at h;exact ⟨(),by rw [Az hx (by omega)],h⟩
   by_cases h1:(i:Int)>=(due.length:Int)
   ·rw [if_pos h1];exact .inr (hbad (by unfold KO;rw [List.getElem?_eq_none (by omega)]))
   rw [if_neg h1,AF];have hd2:due[i]? = some (due[i]'(by omega)):=by simp
   rw [AK hd2,AS];obtain ⟨n,hn,r0,r1,hlv⟩:=HA (ls:=s.1.2) (i:=0) (k:=i) (d:=due[i]'(by omega)) (by rw [<- hdue];exact hd2);rw [Nat.zero_add] at hn
   have hE:KO s.1 due i j=(if j.1≠(due[i]'(by omega)) then true else if j.2.2.1.2.2=true/\j.1≠(s.1.2.length:Int)-1 then true else if j.2.2.2.2<0\/j.2.2.2.2>((r1.2.length+r0.2.length:Nat):Int) then true else decide (EQ r1.2 r0.2 j.2.2.1.2.2 j.2.2.2.2.toNat≠j.2)):=by
    unfold KO;rw [hd2];simp only;rw [hn,Int.toNat_natCast,hlv]
   by_cases h2:j.1=(due[i]'(by omega));rotate_left
   ·rw [if_neg h2];exact .inr (hbad (by rw [hE,if_pos h2]))
   rw [if_pos h2];rw [if_neg (by simp [h2])] at hE;have hjn:j.1=(n:Int):=by rw [h2,hn]
   have hv:=(v.lev n _ hlv).2;have v0:=(hv r0 (by simp)).vl;have v1:=(hv r1 (by simp)).vl;have hnl:=(List.getElem?_eq_some_iff.1 hlv).1;rw [hjn,Og v hnl,AC,CW,CZ,fQ hlv v0 v1,Gl];rw [hjn] at hE;by_cases h3:j.2.2.1.2.2=true/\(n:Int)≠(s.1.2.length:Int)-1
   ·rw [if_pos h3.1,if_pos h3.2];exact .inr (hbad (by rw [hE,if_pos h3]))
   rw [if_neg h3] at hE
   have h4 : ∀ {γ:Type} (A B:γ),(if j.2.2.1.2.2=true then if ¬(n:Int)=(s.1.2.length:Int)-1 then A else B else B)=B:=by
    intro γ A B;by_cases h5:j.2.2.1.2.2=true
    ·rw [if_pos h5,if_neg (λh6=>h3 ⟨h5,h6⟩)]
    ·rw [if_neg h5]
   rw [h4];by_cases h5:j.2.2.2.2<0\/j.2.2.2.2>((r1.2.length+r0.2.length:Nat):Int)
   ·rw [if_pos h5];exact .inr (hbad (by rw [hE,if_pos h5]))
   rw [if_neg h5];rw [if_neg h5] at hE;by_cases h6:EQ r1.2 r0.2 j.2.2.1.2.2 j.2.2.2.2.toNat=j.2
   ·rw [if_pos h6];exact .inl (hgood (by rw [hE];simp [h6]))
   ·rw [if_neg h6]
    exact .inr (hbad (by rw [hE];simp [h6])))
 refine A8 q1 ?_;rw [Cd];rcases q2 with ⟨q2,q3⟩ | ⟨i,q2,q3,q4,q5⟩
 ·rw [if_neg (show ¬ r.1=0 by omega),q2,BG];simp only;by_cases h7:s.2.1.length<due.length
  ·rw [if_pos (by omega),if_pos h7]
  ·rw [if_neg (by omega),if_neg h7]
 ·rw [if_pos q3,q2,q4,q5]
end Go.Proofs.YthpkjfabdccpdaaGreat.Pl
