/- Functions of the program and of the specification as plain functions, and laws about them. No condition. -/
import Derived.Test.YthpkjfabdccpdaaGreatPl0
set_option linter.all false
namespace Go.Proofs.YthpkjfabdccpdaaGreat.Pl
open Go Go.Proofs.YthpkjfabdccpdaaGreat.Sv
set_option linter.unusedVariables false
def DM (x:(Int×Int)):Option Int :=
 bd (loop (λs0=>br (Ah s0.2 x.2) (λ_=>some (.nx (Mn .i64 2 s0.1,AI .i64 s0.2 1))) λ_=>some (.dn ((0,(s0,()))))) (x.1,0)) λr1=>some r1.2.1.1
def DV (x:AD):Option Int :=
 br (B8 (AY (FD x.1)) 32) (λ_=>some 3) λ_=>br (B8 (AY (FD x.2.1)) 64) (λ_=>some 3) λ_=>br x.2.2.1 (λ_=>br (Ab (seq x.2.1 [])) (λ_=>some 6) λ_=>br (Ah x.2.2.2 1) (λ_=>some 7) λ_=>br (B8 x.2.2.2 1000000000) (λ_=>some 7) λ_=>some 0) λ_=>br (Ah x.2.2.2 1) (λ_=>some 7) λ_=>br (B8 x.2.2.2 1000000000) (λ_=>some 7) λ_=>some 0
def Ek (x:((List UInt8)×(List UInt8))):Option Int :=
 bd (loop (λs0=>br (Ah s0 (AY (FD x.1))) (λ_=>br (Ah s0 (AY (FD x.2))) (λ_=>AS s0 λk1=>ix x.1 k1 λx2=>AS s0 λk3=>ix x.2 k3 λx4=>br (BP (Sa x2) (Sa x4)) (λ_=>some (.nx (AI .i64 s0 1))) λ_=>some (.dn ((0,(s0,()))))) λ_=>some (.dn ((0,(s0,()))))) λ_=>some (.dn ((0,(s0,()))))) 0) λr5=>some r5.2.1
def EO (x:((List UInt8)×(List UInt8))):Option Int :=
 bd (Ek x) λr0=>br (BP r0 (AY (FD x.1))) (λ_=>br (BP r0 (AY (FD x.2))) (λ_=>some 0) λ_=>br (BP r0 (AY (FD x.1))) (λ_=>some (-1)) λ_=>br (Ah r0 (AY (FD x.2))) (λ_=>AS r0 λk1=>ix x.1 k1 λx2=>AS r0 λk3=>ix x.2 k3 λx4=>br (Ah (Sa x2) (Sa x4)) (λ_=>some (-1)) λ_=>some 1) λ_=>some 1) λ_=>br (BP r0 (AY (FD x.1))) (λ_=>some (-1)) λ_=>br (Ah r0 (AY (FD x.2))) (λ_=>AS r0 λk5=>ix x.1 k5 λx6=>AS r0 λk7=>ix x.2 k7 λx8=>br (Ah (Sa x6) (Sa x8)) (λ_=>some (-1)) λ_=>some 1) λ_=>some 1
def Cj (x:(List AD)):Option (Int×Int) :=
 br (B8 (AY (AA x)) 5000) (λ_=>some (((-1),3))) λ_=>bd (loop (λs0=>br (Ah s0.2.2 (AY (AA x))) (λ_=>AS s0.2.2 λk1=>ix x k1 λx2=>bd (DV x2) λr3=>br (BP r3 0) (λ_=>br (B8 s0.2.2 0) (λ_=>AS (CE .i64 s0.2.2 1) λk4=>ix x k4 λx5=>AS s0.2.2 λk6=>ix x k6 λx7=>bd (EO (x5.1,x7.1)) λr8=>br (G5 r8 0) (λ_=>some (.dn ((0,((6,(s0.2.2,s0.2.2)),()))))) λ_=>br (A7 r3 0) (λ_=>some (.dn ((0,((r3,(s0.2.2,s0.2.2)),()))))) λ_=>some (.nx ((s0.1,(s0.2.1,AI .i64 s0.2.2 1))))) λ_=>br (A7 r3 0) (λ_=>some (.dn ((0,((r3,(s0.2.2,s0.2.2)),()))))) λ_=>some (.nx ((s0.1,(s0.2.1,AI .i64 s0.2.2 1))))) λ_=>br (A7 r3 0) (λ_=>some (.dn ((0,((r3,(s0.2.2,s0.2.2)),()))))) λ_=>some (.nx ((s0.1,(s0.2.1,AI .i64 s0.2.2 1))))) λ_=>some (.dn ((1,(s0,()))))) ((0,(0,0)))) λr9=>br (neq r9.1 0) (λ_=>some (r9.2.1.2.1,r9.2.1.1)) λ_=>some (0,0)
def FN (x:BL):Option (Int×Int) :=
 br (Ah x.1 1) (λ_=>some (((-1),7))) λ_=>br (B8 x.1 1000000) (λ_=>some (((-1),7))) λ_=>bd (Cj x.2) λr0=>some r0
def D7 (x:(BL×(Int×(List Int)))):Option Int :=
 bd (FN x.1) λr0=>br (A7 r0.2 0) (λ_=>some r0.2) λ_=>br (BP (AY (AA x.1.2)) 0) (λ_=>some 4) λ_=>br (B8 (AY (AA x.1.2)) x.2.1) (λ_=>some 3) λ_=>bd (loop (λs1=>br (Ah s1.1 (AY (AA x.2.2))) (λ_=>AS s1.1 λk2=>ix x.2.2 k2 λx3=>br (BP x3 x.1.1) (λ_=>some (.dn ((0,((s1.1,8),()))))) λ_=>some (.nx (AI .i64 s1.1 1,s1.2))) λ_=>some (.dn ((1,(s1,()))))) (0,0)) λr4=>br (neq r4.1 0) (λ_=>some r4.2.1.2) λ_=>some 0
def CU (x:AJ):Option (Int×(Int×Int)) :=
 br (Ah x.1 1) (λ_=>some ((0,(0,7)))) λ_=>br (B8 x.1 16) (λ_=>some ((0,(0,7)))) λ_=>br (B8 (AY (AA x.2)) 12) (λ_=>some ((0,(0,3)))) λ_=>bd (loop (λ(s0:(Int×((List Int)×(Int×(Int×Int)))))=>br (Ah s0.2.2.2.2 (AY (AA x.2))) (λ_=>AS s0.2.2.2.2 λk1=>ix x.2 k1 λx2=>br (B8 (AY (AA x2)) 2) (λ_=>some (.dn ((0,((0,(s0.2.1,(s0.2.2.2.2,(3,s0.2.2.2.2)))),()))))) λ_=>bd (loop (λ(s3:(Int×((List Int)×(Int×(Int×Int)))))=>br (Ah s3.2.2.2.2 (AY (AA x2))) (λ_=>AS s3.2.2.2.2 λk4=>ix x2 k4 λx5=>bd (DM (x.1,s0.2.2.2.2)) λr6=>bd (D7 ((x5,(r6,s3.2.1)))) λr7=>br (A7 r7 0) (λ_=>some (.dn ((0,((s3.2.2.2.2,(s3.2.1,(s0.2.2.2.2,(r7,s3.2.2.2.2)))),()))))) λ_=>AS s3.2.2.2.2 λk8=>ix x2 k8 λx9=>gd (BO (Ar (AA s3.2.1) (AA [x9.1])) 1048576) λ_=>some (.nx ((s3.1,(B3 s3.2.1 [x9.1],(s3.2.2.1,(s3.2.2.2.1,AI .i64 s3.2.2.2.2 1))))))) λ_=>some (.dn ((1,(s3,()))))) ((s0.1,(s0.2.1,(s0.2.2.1,(s0.2.2.2.1,0)))))) λr10=>br (neq r10.1 0) (λ_=>some (.dn ((0,((r10.2.1.1,(r10.2.1.2.1,(r10.2.1.2.2.1,(r10.2.1.2.2.2.1,s0.2.2.2.2)))),()))))) λ_=>some (.nx ((r10.2.1.1,(r10.2.1.2.1,(r10.2.1.2.2.1,(r10.2.1.2.2.2.1,AI .i64 s0.2.2.2.2 1))))))) λ_=>some (.dn ((1,(s0,()))))) ((0,([],(0,(0,0)))))) λr11=>br (neq r11.1 0) (λ_=>some ((r11.2.1.2.2.1,(r11.2.1.1,r11.2.1.2.2.2.1)))) λ_=>br (B8 (AY (AA x.2)) 0) (λ_=>AS (CE .i64 (AY (AA x.2)) 1) λk12=>ix x.2 k12 λx13=>br (BP (AY (AA x13)) 0) (λ_=>some ((CE .i64 (AY (AA x.2)) 1,(0,6)))) λ_=>some ((0,(0,0)))) λ_=>some ((0,(0,0)))
def El (x:AJ):Option ((List BL)×Int) :=
 bd (CU x) λr0=>br (A7 r0.2.2 0) (λ_=>some ([],r0.2.2)) λ_=>bd (loop (λs1=>br (Ah s1.2 (AY (AA x.2))) (λ_=>AS s1.2 λk2=>ix x.2 k2 λx3=>bd (loop (λs4=>br (G5 s4.2 0) (λ_=>AS s1.2 λk5=>ix x.2 k5 λx6=>AS s4.2 λk7=>ix x6 k7 λx8=>gd (BO (Ar (AA s4.1) (AA [x8])) 1048576) λ_=>some (.nx (B3 s4.1 [x8],CE .i64 s4.2 1))) λ_=>some (.dn ((0,(s4,()))))) ((s1.1,CE .i64 (AY (AA x3)) 1))) λr9=>some (.nx (r9.2.1.1,AI .i64 s1.2 1))) λ_=>some (.dn ((0,(s1,()))))) ([],0)) λr10=>some (r10.2.1.1,0)
def CO (x:AJ):Option Int :=
 bd (El x) λr0=>bd (loop (λs1=>br (Ah s1.2 (AY (AA r0.1))) (λ_=>AS s1.2 λk2=>ix r0.1 k2 λx3=>some (.nx (KP s1.1 x3.1,AI .i64 s1.2 1))) λ_=>some (.dn ((0,(s1,()))))) (0,0)) λr4=>some r4.2.1.1
def Bj (x:AJ):Option (List Int) :=
 bd (loop (λs0=>br (Ah s0.2 (AY (AA x.2))) (λ_=>AS s0.2 λk1=>ix x.2 k1 λx2=>br (BP (AY (AA x2)) 2) (λ_=>gd (BO (Ar (AA s0.1) (AA [s0.2])) 1048576) λ_=>some (.nx (B3 s0.1 [s0.2],AI .i64 s0.2 1))) λ_=>some (.nx (s0.1,AI .i64 s0.2 1))) λ_=>some (.dn ((0,(s0,()))))) ([],0)) λr3=>some r3.2.1.1
def Hi (x:(AJ×Int)):Option Int :=
 bd (CU x.1) λr0=>br (BP r0.2.2 0) (λ_=>br (Ah x.2 0) (λ_=>some 7) λ_=>br (G5 x.2 12) (λ_=>some 7) λ_=>some r0.2.2) λ_=>some r0.2.2
def Gt (x:(AJ×Int)):Option (Bool×Int) :=
 bd (Hi x) λr0=>br (A7 r0 0) (λ_=>some (false,r0)) λ_=>some ((B8 (AY (AA x.1.2)) (AI .i64 x.2 1),0))
def BJ (x:(AJ×Int)):Option Bool :=
 bd (Gt x) λr0=>some (Ab r0.1)
def DW (x:(List (List AD))):Option (Int×Int) :=
 br (BP (AY (AA x)) 0) (λ_=>some (((-1),6))) λ_=>br (B8 (AY (AA x)) 32) (λ_=>some (((-1),3))) λ_=>bd (loop (λs0=>br (Ah s0.2.2 (AY (AA x))) (λ_=>AS s0.2.2 λk1=>ix x k1 λx2=>bd (Cj x2) λr3=>br (A7 r3.2 0) (λ_=>some (.dn ((0,((r3.2,(s0.2.2,s0.2.2)),()))))) λ_=>some (.nx ((s0.1,(s0.2.1,AI .i64 s0.2.2 1))))) λ_=>some (.dn ((1,(s0,()))))) ((0,(0,0)))) λr4=>br (neq r4.1 0) (λ_=>some (r4.2.1.2.1,r4.2.1.1)) λ_=>some (0,0)
def FO (x:(List AM)):Option Int :=
 br (BP (AY (AA x)) 0) (λ_=>some 6) λ_=>br (B8 (AY (AA x)) 32) (λ_=>some 3) λ_=>bd (loop (λs0=>br (Ah s0.1 (AY (AA x))) (λ_=>AS s0.1 λk1=>ix x k1 λx2=>br x2.2 (λ_=>AS s0.1 λk3=>ix x k3 λx4=>br (Ab (seq x4.1 [])) (λ_=>some (.dn ((0,((s0.1,2),()))))) λ_=>some (.nx (AI .i64 s0.1 1,s0.2))) λ_=>some (.nx (AI .i64 s0.1 1,s0.2))) λ_=>some (.dn ((1,(s0,()))))) (0,0)) λr5=>br (neq r5.1 0) (λ_=>some r5.2.1.2) λ_=>some 0
def E4 (x:((List AM)×(Int×Int))):Option Bool :=
 AS x.2.1 λk0=>ix x.1 k0 λx1=>AS x.2.2 λk2=>ix x.1 k2 λx3=>br (Ab (beq x1.2 x3.2)) (λ_=>some x3.2) λ_=>br (Ab x1.2) (λ_=>br (Ab (seq x1.1 x3.1)) (λ_=>some (DC x1.1 x3.1)) λ_=>some (Ah x.2.1 x.2.2)) λ_=>some (Ah x.2.1 x.2.2)
def Av (rec:((List AM)×Int)->Option (Int×Int)) (x:((List AM)×Int)):Option (Int×Int) :=
 br (G5 x.2 (AY (AA x.1))) (λ_=>some ((CE .i64 x.2 (AY (AA x.1)),0))) λ_=>bd (rec (x.1,Mn .i64 2 x.2)) λr0=>bd (rec ((x.1,AI .i64 (Mn .i64 2 x.2) 1))) λr1=>bd (E4 ((x.1,(r0.1,r1.1)))) λr2=>br r2 (λ_=>some (r0.1,r1.1)) λ_=>some (r1.1,r0.1)
def GG:((List AM)×Int)->Option (Int×Int):=Jw Av 100
def GH (x:(List AM)):Option D6 :=
 gd (BO (AA x) 1048576) λ_=>AS (AY (AA x)) λk0=>AS (AY (AA x)) λk1=>gd (BO k1 1048576) λ_=>bd (loop (λs2=>br (Ah s2.1 (AY (AA x))) (λ_=>bd (GG (x,s2.1)) λr3=>AS s2.1 λk4=>gd (Df k4 (AA s2.2.2.1)) λ_=>ix s2.2.2.1 k4 λx5=>some (.nx ((AI .i64 s2.1 1,(s2.2.1,(lset s2.2.2.1 k4 r3.2,s2.2.2.2)))))) λ_=>some (.dn ((0,(s2,()))))) ((1,(x,(Dh k1 0,(0:Int)))))) λr6=>bd (GG (x,1)) λr7=>some ((r6.2.1.2.1,(r6.2.1.2.2.1,r7.1)))
def EQ (x:(List AM)):Option (D6×Int) :=
 bd (FO x) λr0=>br (A7 r0 0) (λ_=>some ((([],([],0)),r0))) λ_=>bd (GH x) λr1=>some (r1,0)
def Cv (x:((List (List AD))×(List Int))):Option AL :=
 gd (BO (AA x.1) 1048576) λ_=>gd (BO (AA x.2) 1048576) λ_=>bd (loop (λs0=>br (Ah s0.1 (AY (AA x.1))) (λ_=>AS s0.1 λk1=>ix x.2 k1 λx2=>AS s0.1 λk3=>ix x.1 k3 λx4=>br (Ab (BP x2 (AY (AA x4)))) (λ_=>AS s0.1 λk5=>ix x.1 k5 λx6=>AS s0.1 λk7=>ix x.2 k7 λx8=>AS x8 λk9=>ix x6 k9 λx10=>gd (BO (Ar (AA s0.2) (AA ([(x10.1,BP x2 (AY (AA x4)))]))) 1048576) λ_=>some (.nx ((AI .i64 s0.1 1,B3 s0.2 ([(x10.1,BP x2 (AY (AA x4)))]))))) λ_=>gd (BO (Ar (AA s0.2) (AA ([(([]:List UInt8),BP x2 (AY (AA x4)))]))) 1048576) λ_=>some (.nx ((AI .i64 s0.1 1,B3 s0.2 ([([],BP x2 (AY (AA x4)))]))))) λ_=>some (.dn ((0,(s0,()))))) (0,[])) λr11=>bd (EQ r11.2.1.2) λr12=>some ((x.1,(x.2,r12.1)))
def Gu (x:(List (List AD))):Option (AL×(Int×Int)) :=
 bd (DW x) λr0=>br (A7 r0.2 0) (λ_=>some ((([],([],([],([],0)))),r0))) λ_=>AS (AY (AA x)) λk1=>AS (AY (AA x)) λk2=>gd (BO k2 1048576) λ_=>bd (Cv (x,Dh k2 0)) λr3=>some ((r3,(0,0)))
def Cw (x:Bool):Option (Bool×AM) :=
 some ((false,([],x)))
def FP (x:((List (List AD))×Bool)):Option ((AL×((Bool×AM)×((List AD)×Int)))×(Int×Int)) :=
 bd (Gu x.1) λr0=>br (A7 r0.2.2 0) (λ_=>some (((([],([],([],([],0)))),((false,([],false)),([],0))),r0.2))) λ_=>bd (Cw x.2) λr1=>some (((r0.1,(r1,([],0))),(0,0)))
def Ap (x:(AJ×(Int×Bool))):Option (Int×(AL×((Bool×AM)×((List AD)×Int)))) :=
 br (G5 x.2.1 (AY (AA x.1.2))) (λ_=>none) λ_=>AS x.2.1 λk0=>ix x.1.2 k0 λx1=>ix x1 1 λx2=>ix x1 0 λx3=>bd (FP ([x2.2,x3.2],x.2.2)) λr4=>some (x.2.1,r4.1)
def GI (x:((List Int)×(List Int))):Option Bool :=
 br (A7 (AY (AA x.1)) (AY (AA x.2))) (λ_=>some false) λ_=>bd (loop (λs0=>br (Ah s0.1 (AY (AA x.1))) (λ_=>AS s0.1 λk1=>ix x.1 k1 λx2=>AS s0.1 λk3=>ix x.2 k3 λx4=>br (A7 x2 x4) (λ_=>some (.dn ((0,((s0.1,false),()))))) λ_=>some (.nx (AI .i64 s0.1 1,s0.2))) λ_=>some (.dn ((1,(s0,()))))) (0,false)) λr5=>br (neq r5.1 0) (λ_=>some r5.2.1.2) λ_=>some true
def E5 (x:(D6×D6)):Option Bool :=
 br (A7 (AY (AA x.1.1)) (AY (AA x.2.1))) (λ_=>some false) λ_=>br (A7 x.1.2.2 x.2.2.2) (λ_=>some false) λ_=>bd (GI (x.1.2.1,x.2.2.1)) λr0=>br (Ab r0) (λ_=>some false) λ_=>bd (loop (λs1=>br (Ah s1.1 (AY (AA x.1.1))) (λ_=>AS s1.1 λk2=>ix x.1.1 k2 λx3=>AS s1.1 λk4=>ix x.2.1 k4 λx5=>br (Ab (Bn (seq x3.1 x5.1) (Bn (beq x3.2 x5.2) true))) (λ_=>some (.dn ((0,((s1.1,false),()))))) λ_=>some (.nx (AI .i64 s1.1 1,s1.2))) λ_=>some (.dn ((1,(s1,()))))) (0,false)) λr6=>br (neq r6.1 0) (λ_=>some r6.2.1.2) λ_=>some true
def DY (x:((List (List AD))×(List Int))):Option Int :=
 bd (loop (λs0=>br (Ah s0.2 (AY (AA x.1))) (λ_=>AS s0.2 λk1=>ix x.2 k1 λx2=>AS s0.2 λk3=>ix x.1 k3 λx4=>br (Ah x2 (AY (AA x4))) (λ_=>br (Ah s0.1 0) (λ_=>some (.nx (s0.2,AI .i64 s0.2 1))) λ_=>AS s0.2 λk5=>ix x.1 k5 λx6=>AS s0.2 λk7=>ix x.2 k7 λx8=>AS x8 λk9=>ix x6 k9 λx10=>AS s0.1 λk11=>ix x.1 k11 λx12=>AS s0.1 λk13=>ix x.2 k13 λx14=>AS x14 λk15=>ix x12 k15 λx16=>br (DC x10.1 x16.1) (λ_=>some (.nx (s0.2,AI .i64 s0.2 1))) λ_=>some (.nx (s0.1,AI .i64 s0.2 1))) λ_=>some (.nx (s0.1,AI .i64 s0.2 1))) λ_=>some (.dn ((0,(s0,()))))) (((-1),0))) λr17=>some r17.2.1.1
def DZ (x:AL):Option (Int×Int) :=
 bd (DW x.1) λr0=>br (A7 r0.2 0) (λ_=>some r0) λ_=>br (A7 (AY (AA x.2.1)) (AY (AA x.1))) (λ_=>some (((-1),6))) λ_=>bd (loop (λs1=>br (Ah s1.2.2 (AY (AA x.2.1))) (λ_=>AS s1.2.2 λk2=>ix x.2.1 k2 λx3=>br (Ah x3 0) (λ_=>some (.dn ((0,((6,(s1.2.2,s1.2.2)),()))))) λ_=>AS s1.2.2 λk4=>ix x.2.1 k4 λx5=>AS s1.2.2 λk6=>ix x.1 k6 λx7=>br (B8 x5 (AY (AA x7))) (λ_=>some (.dn ((0,((6,(s1.2.2,s1.2.2)),()))))) λ_=>some (.nx ((s1.1,(s1.2.1,AI .i64 s1.2.2 1))))) λ_=>some (.dn ((1,(s1,()))))) ((0,(0,0)))) λr8=>br (neq r8.1 0) (λ_=>some (r8.2.1.2.1,r8.2.1.1)) λ_=>bd (Cv (x.1,x.2.1)) λr9=>bd (E5 (x.2.2,r9.2.2)) λr10=>br (Ab r10) (λ_=>some (((-1),6))) λ_=>bd (DY (x.1,x.2.1)) λr11=>bd (loop (λs12=>br (Ah s12.2.2 (AY (AA x.1))) (λ_=>br (G5 r11 0) (λ_=>AS s12.2.2 λk13=>ix x.2.1 k13 λx14=>br (BP x14 0) (λ_=>some (.nx ((s12.1,(s12.2.1,AI .i64 s12.2.2 1))))) λ_=>AS s12.2.2 λk15=>ix x.1 k15 λx16=>AS s12.2.2 λk17=>ix x.2.1 k17 λx18=>AS (CE .i64 x18 1) λk19=>ix x16 k19 λx20=>AS r11 λk21=>ix x.1 k21 λx22=>AS r11 λk23=>ix x.2.1 k23 λx24=>AS x24 λk25=>ix x22 k25 λx26=>br (DC x26.1 x20.1) (λ_=>some (.dn ((0,((6,(r11,s12.2.2)),()))))) λ_=>br (seq x20.1 x26.1) (λ_=>br (B8 s12.2.2 r11) (λ_=>some (.dn ((0,((6,(r11,s12.2.2)),()))))) λ_=>some (.nx ((s12.1,(s12.2.1,AI .i64 s12.2.2 1))))) λ_=>some (.nx ((s12.1,(s12.2.1,AI .i64 s12.2.2 1))))) λ_=>some (.dn ((1,(s12,()))))) λ_=>some (.dn ((1,(s12,()))))) ((r8.2.1.1,(r8.2.1.2.1,0)))) λr27=>br (neq r27.1 0) (λ_=>some (r27.2.1.2.1,r27.2.1.1)) λ_=>some (0,0)
def D8 (x:(AL×((Bool×AM)×((List AD)×Int)))):Option Int :=
 bd (loop (λs0=>br (Ah s0.2 (AY (AA x.1.2.1))) (λ_=>AS s0.2 λk1=>ix x.1.2.1 k1 λx2=>some (.nx (AI .i64 s0.1 x2,AI .i64 s0.2 1))) λ_=>some (.dn ((0,(s0,()))))) (0,0)) λr3=>some r3.2.1.1
def Em (x:(List (List AD))):Option ((List AD)×((List Int)×Int)) :=
 bd (DW x) λr0=>br (A7 r0.2 0) (λ_=>some (([],([],r0.2)))) λ_=>AS (AY (AA x)) λk1=>AS (AY (AA x)) λk2=>gd (BO k2 1048576) λ_=>bd (loop (λ(s3:((List Int)×((List AD)×((List AD)×(Int×((List Int)×(List Int)))))))=>bd (DY (x,s3.2.2.2.2.2)) λr4=>br (Ah r4 0) (λ_=>some (.dn ((0,((s3.2.2.2.2.1,(s3.2.1,0)),()))))) λ_=>AS r4 λk5=>ix x k5 λx6=>AS r4 λk7=>gd (Df k7 (AA s3.2.2.2.2.2)) λ_=>ix s3.2.2.2.2.2 k7 λx8=>AS x8 λk9=>ix x6 k9 λx10=>gd (BO (Ar (AA s3.2.1) (AA [x10])) 1048576) λ_=>gd (BO (Ar (AA s3.2.2.2.2.1) (AA [r4])) 1048576) λ_=>AS r4 λk11=>gd (Df k11 (AA s3.2.2.2.2.2)) λ_=>ix s3.2.2.2.2.2 k11 λx12=>AS r4 λk13=>gd (Df k13 (AA s3.2.2.2.2.2)) λ_=>ix s3.2.2.2.2.2 k13 λx14=>some (.nx ((s3.1,(B3 s3.2.1 [x10],(s3.2.2.1,(s3.2.2.2.1,(B3 s3.2.2.2.2.1 [r4],lset s3.2.2.2.2.2 k13 (AI .i64 x12 1))))))))) (([],([],([],(0,([],Dh k2 0))))))) λr15=>some ((r15.2.1.2.1,(r15.2.1.1,r15.2.1.2.2)))
def FQ (x:(Bool×AM)):Option Int :=
 br (B8 (AY (FD x.2.1)) 32) (λ_=>some 3) λ_=>br (Ab x.1) (λ_=>br (Ab (seq x.2.1 [])) (λ_=>some 6) λ_=>some 0) λ_=>some 0
def GJ (x:((Bool×AM)×AD)):Option (Bool×((Bool×AM)×Int)) :=
 bd (FQ x.1) λr0=>br (BP r0 0) (λ_=>bd (DV x.2) λr1=>br (BP r1 0) (λ_=>br x.1.1 (λ_=>br (DC x.2.1 x.1.2.1) (λ_=>some ((false,((false,([],false)),6)))) λ_=>br (A7 r1 0) (λ_=>some ((false,((false,([],false)),r1)))) λ_=>br (Ab x.1.1) (λ_=>br x.1.2.2 (λ_=>some ((Ab x.2.2.2.1,((true,(x.2.1,x.1.2.2)),0)))) λ_=>some ((true,((true,(x.2.1,x.1.2.2)),0)))) λ_=>br (Ab (seq x.2.1 x.1.2.1)) (λ_=>br x.1.2.2 (λ_=>some ((Ab x.2.2.2.1,((true,(x.2.1,x.1.2.2)),0)))) λ_=>some ((true,((true,(x.2.1,x.1.2.2)),0)))) λ_=>some ((false,((true,(x.2.1,x.1.2.2)),0)))) λ_=>br (A7 r1 0) (λ_=>some ((false,((false,([],false)),r1)))) λ_=>br (Ab x.1.1) (λ_=>br x.1.2.2 (λ_=>some ((Ab x.2.2.2.1,((true,(x.2.1,x.1.2.2)),0)))) λ_=>some ((true,((true,(x.2.1,x.1.2.2)),0)))) λ_=>br (Ab (seq x.2.1 x.1.2.1)) (λ_=>br x.1.2.2 (λ_=>some ((Ab x.2.2.2.1,((true,(x.2.1,x.1.2.2)),0)))) λ_=>some ((true,((true,(x.2.1,x.1.2.2)),0)))) λ_=>some ((false,((true,(x.2.1,x.1.2.2)),0)))) λ_=>br (A7 r1 0) (λ_=>some ((false,((false,([],false)),r1)))) λ_=>br (Ab x.1.1) (λ_=>br x.1.2.2 (λ_=>some ((Ab x.2.2.2.1,((true,(x.2.1,x.1.2.2)),0)))) λ_=>some ((true,((true,(x.2.1,x.1.2.2)),0)))) λ_=>br (Ab (seq x.2.1 x.1.2.1)) (λ_=>br x.1.2.2 (λ_=>some ((Ab x.2.2.2.1,((true,(x.2.1,x.1.2.2)),0)))) λ_=>some ((true,((true,(x.2.1,x.1.2.2)),0)))) λ_=>some ((false,((true,(x.2.1,x.1.2.2)),0)))) λ_=>br (BP r0 0) (λ_=>br x.1.1 (λ_=>br (DC x.2.1 x.1.2.1) (λ_=>some ((false,((false,([],false)),6)))) λ_=>br (A7 r0 0) (λ_=>some ((false,((false,([],false)),r0)))) λ_=>br (Ab x.1.1) (λ_=>br x.1.2.2 (λ_=>some ((Ab x.2.2.2.1,((true,(x.2.1,x.1.2.2)),0)))) λ_=>some ((true,((true,(x.2.1,x.1.2.2)),0)))) λ_=>br (Ab (seq x.2.1 x.1.2.1)) (λ_=>br x.1.2.2 (λ_=>some ((Ab x.2.2.2.1,((true,(x.2.1,x.1.2.2)),0)))) λ_=>some ((true,((true,(x.2.1,x.1.2.2)),0)))) λ_=>some ((false,((true,(x.2.1,x.1.2.2)),0)))) λ_=>br (A7 r0 0) (λ_=>some ((false,((false,([],false)),r0)))) λ_=>br (Ab x.1.1) (λ_=>br x.1.2.2 (λ_=>some ((Ab x.2.2.2.1,((true,(x.2.1,x.1.2.2)),0)))) λ_=>some ((true,((true,(x.2.1,x.1.2.2)),0)))) λ_=>br (Ab (seq x.2.1 x.1.2.1)) (λ_=>br x.1.2.2 (λ_=>some ((Ab x.2.2.2.1,((true,(x.2.1,x.1.2.2)),0)))) λ_=>some ((true,((true,(x.2.1,x.1.2.2)),0)))) λ_=>some ((false,((true,(x.2.1,x.1.2.2)),0)))) λ_=>br (A7 r0 0) (λ_=>some ((false,((false,([],false)),r0)))) λ_=>br (Ab x.1.1) (λ_=>br x.1.2.2 (λ_=>some ((Ab x.2.2.2.1,((true,(x.2.1,x.1.2.2)),0)))) λ_=>some ((true,((true,(x.2.1,x.1.2.2)),0)))) λ_=>br (Ab (seq x.2.1 x.1.2.1)) (λ_=>br x.1.2.2 (λ_=>some ((Ab x.2.2.2.1,((true,(x.2.1,x.1.2.2)),0)))) λ_=>some ((true,((true,(x.2.1,x.1.2.2)),0)))) λ_=>some ((false,((true,(x.2.1,x.1.2.2)),0)))
def En (x:((List AD)×Bool)):Option ((List AD)×(Int×Int)) :=
 br (B8 (AY (AA x.1)) 20000) (λ_=>some (([],((-1),3)))) λ_=>bd (Cw x.2) λr0=>bd (loop (λ(s1:(Int×(Int×((List AD)×((List AD)×(Int×(Bool×AM)))))))=>br (Ah s1.2.1 (AY (AA x.1))) (λ_=>AS s1.2.1 λk2=>ix x.1 k2 λx3=>bd (GJ (s1.2.2.2.2.2,x3)) λr4=>br (A7 r4.2.2 0) (λ_=>some (.dn ((0,((s1.2.1,(s1.2.1,([],(s1.2.2.2.1,(r4.2.2,s1.2.2.2.2.2))))),()))))) λ_=>br r4.1 (λ_=>AS s1.2.1 λk5=>ix x.1 k5 λx6=>gd (BO (Ar (AA s1.2.2.2.1) (AA [x6])) 1048576) λ_=>some (.nx ((s1.1,(AI .i64 s1.2.1 1,(s1.2.2.1,(B3 s1.2.2.2.1 [x6],(s1.2.2.2.2.1,r4.2.1)))))))) λ_=>some (.nx ((s1.1,(AI .i64 s1.2.1 1,(s1.2.2.1,(s1.2.2.2.1,(s1.2.2.2.2.1,r4.2.1)))))))) λ_=>some (.dn ((1,(s1,()))))) ((0,(0,([],([],(0,r0))))))) λr7=>br (neq r7.1 0) (λ_=>some ((r7.2.1.2.2.1,(r7.2.1.1,r7.2.1.2.2.2.2.1)))) λ_=>some ((r7.2.1.2.2.2.1,(0,0)))
def C4 (x:((List AD)×Bool)):Option ((List AD)×(Bool×AM)) :=
 bd (En x) λr0=>bd (Cw x.2) λr1=>br (B8 (AY (AA x.1)) 0) (λ_=>AS (CE .i64 (AY (AA x.1)) 1) λk2=>ix x.1 k2 λx3=>some ((r0.1,(true,(x3.1,r1.2.2))))) λ_=>some (r0.1,r1)
def Bx (x:((List AD)×(List AD))):Option Bool :=
 br (A7 (AY (AA x.1)) (AY (AA x.2))) (λ_=>some false) λ_=>bd (loop (λs0=>br (Ah s0.1 (AY (AA x.1))) (λ_=>AS s0.1 λk1=>ix x.1 k1 λx2=>AS s0.1 λk3=>ix x.2 k3 λx4=>br (Ab (Bn (seq x2.1 x4.1) (Bn (seq x2.2.1 x4.2.1) (Bn (beq x2.2.2.1 x4.2.2.1) (Bn (BP x2.2.2.2 x4.2.2.2) true))))) (λ_=>some (.dn ((0,((s0.1,false),()))))) λ_=>some (.nx (AI .i64 s0.1 1,s0.2))) λ_=>some (.dn ((1,(s0,()))))) (0,false)) λr5=>br (neq r5.1 0) (λ_=>some r5.2.1.2) λ_=>some true
def FS (x:(AL×((Bool×AM)×((List AD)×Int)))):Option Int :=
 bd (DZ x.1) λr0=>br (A7 r0.2 0) (λ_=>some r0.2) λ_=>bd (D8 x) λr1=>br (B8 (AY (AA x.2.2.1)) 20000) (λ_=>some 3) λ_=>br (B8 r1 20000) (λ_=>some 3) λ_=>br (A7 x.2.2.2 r1) (λ_=>some 7) λ_=>bd (Em x.1.1) λr2=>AS r1 λk3=>gd (BO k3 (AA r2.1)) λ_=>gd (BO 0 k3) λ_=>bd (C4 (ER r2.1 0 k3,x.2.1.2.2)) λr4=>bd (Bx (x.2.2.1,r4.1)) λr5=>br (Ab r5) (λ_=>some 6) λ_=>br (Ab (Bn (beq x.2.1.1 r4.2.1) (Bn (seq x.2.1.2.1 r4.2.2.1) (Bn (beq x.2.1.2.2 r4.2.2.2) true)))) (λ_=>some 6) λ_=>some 0
def GK (x:AL):Option (Int×Int) :=
 bd (DZ x) λr0=>br (A7 r0.2 0) (λ_=>some (0,r0.2)) λ_=>bd (loop (λs1=>br (Ah s1.1 (AY (AA x.1))) (λ_=>AS s1.1 λk2=>ix x.1 k2 λx3=>AS s1.1 λk4=>ix x.2.1 k4 λx5=>some (.nx ((AI .i64 s1.1 1,CE .i64 (AI .i64 s1.2 (AY (AA x3))) x5)))) λ_=>some (.dn ((0,(s1,()))))) (0,0)) λr6=>some (r6.2.1.2,0)
def BH (x:(AL×((Bool×AM)×((List AD)×Int)))):Option (Int×Int) :=
 bd (FS x) λr0=>br (A7 r0 0) (λ_=>some (0,r0)) λ_=>bd (GK x.1) λr1=>some r1
def D9 (x:AL):Option (AD×(Int×(AL×Int))) :=
 bd (DZ x) λr0=>br (A7 r0.2 0) (λ_=>some (((([],([],(false,0))):AD),(0,(([],([],([],([],0)))),r0.2))))) λ_=>bd (DY (x.1,x.2.1)) λr1=>br (Ah r1 0) (λ_=>some (((([],([],(false,0))):AD),(0,(([],([],([],([],0)))),12))))) λ_=>gd (BO (AA x.2.1) 1048576) λ_=>AS r1 λk2=>gd (Df k2 (AA x.2.1)) λ_=>ix x.2.1 k2 λx3=>AS r1 λk4=>gd (Df k4 (AA x.2.1)) λ_=>ix x.2.1 k4 λx5=>AS r1 λk6=>ix x.1 k6 λx7=>AS r1 λk8=>ix x.2.1 k8 λx9=>AS x9 λk10=>ix x7 k10 λx11=>bd (Cv ((x.1,lset x.2.1 k4 (AI .i64 x3 1)))) λr12=>some ((x11,(r1,(r12,0))))
def A5 (x:((AL×((Bool×AM)×((List AD)×Int)))×Int)):Option ((AL×((Bool×AM)×((List AD)×Int)))×(Int×Int)) :=
 bd (BH x.1) λr0=>br (BP r0.2 0) (λ_=>br (Ah x.2 0) (λ_=>some (((([],([],([],([],0)))),((false,([],false)),([],0))),(0,7)))) λ_=>br (A7 r0.2 0) (λ_=>some (((([],([],([],([],0)))),((false,([],false)),([],0))),(0,r0.2)))) λ_=>bd (D8 x.1) λr1=>br (B8 (AI .i64 r1 (Na x.2 r0.1)) 20000) (λ_=>some (((([],([],([],([],0)))),((false,([],false)),([],0))),(0,3)))) λ_=>bd (loop (λ(s2:(Int×((List (List AD))×((List Int)×((List AM)×((List Int)×(Int×(Bool×((List UInt8)×(Bool×((List AD)×Int)))))))))))=>br (Ah s2.1 (Na x.2 r0.1)) (λ_=>bd (D9 ((s2.2.1,(s2.2.2.1,(s2.2.2.2.1,(s2.2.2.2.2.1,s2.2.2.2.2.2.1)))))) λr3=>some (.nx ((AI .i64 s2.1 1,(r3.2.2.1.1,(r3.2.2.1.2.1,(r3.2.2.1.2.2.1,(r3.2.2.1.2.2.2.1,(r3.2.2.1.2.2.2.2,s2.2.2.2.2.2.2))))))))) λ_=>some (.dn ((0,(s2,()))))) ((0,(x.1.1.1,(x.1.1.2.1,(x.1.1.2.2.1,(x.1.1.2.2.2.1,(x.1.1.2.2.2.2,(x.1.2.1.1,(x.1.2.1.2.1,(x.1.2.1.2.2,x.1.2.2))))))))))) λr4=>bd (Em x.1.1.1) λr5=>AS (AI .i64 x.1.2.2.2 (Na x.2 r0.1)) λk6=>gd (BO k6 (AA r5.1)) λ_=>gd (BO 0 k6) λ_=>bd (C4 (ER r5.1 0 k6,x.1.2.1.2.2)) λr7=>some ((((r4.2.1.2.1,(r4.2.1.2.2.1,(r4.2.1.2.2.2.1,(r4.2.1.2.2.2.2.1,r4.2.1.2.2.2.2.2.1)))),(r7.2,(r7.1,AI .i64 x.1.2.2.2 (Na x.2 r0.1)))),(Na x.2 r0.1,0)))) λ_=>br (A7 r0.2 0) (λ_=>some (((([],([],([],([],0)))),((false,([],false)),([],0))),(0,r0.2)))) λ_=>bd (D8 x.1) λr8=>br (B8 (AI .i64 r8 (Na x.2 r0.1)) 20000) (λ_=>some (((([],([],([],([],0)))),((false,([],false)),([],0))),(0,3)))) λ_=>bd (loop (λ(s9:(Int×((List (List AD))×((List Int)×((List AM)×((List Int)×(Int×(Bool×((List UInt8)×(Bool×((List AD)×Int)))))))))))=>br (Ah s9.1 (Na x.2 r0.1)) (λ_=>bd (D9 ((s9.2.1,(s9.2.2.1,(s9.2.2.2.1,(s9.2.2.2.2.1,s9.2.2.2.2.2.1)))))) λr10=>some (.nx ((AI .i64 s9.1 1,(r10.2.2.1.1,(r10.2.2.1.2.1,(r10.2.2.1.2.2.1,(r10.2.2.1.2.2.2.1,(r10.2.2.1.2.2.2.2,s9.2.2.2.2.2.2))))))))) λ_=>some (.dn ((0,(s9,()))))) ((0,(x.1.1.1,(x.1.1.2.1,(x.1.1.2.2.1,(x.1.1.2.2.2.1,(x.1.1.2.2.2.2,(x.1.2.1.1,(x.1.2.1.2.1,(x.1.2.1.2.2,x.1.2.2))))))))))) λr11=>bd (Em x.1.1.1) λr12=>AS (AI .i64 x.1.2.2.2 (Na x.2 r0.1)) λk13=>gd (BO k13 (AA r12.1)) λ_=>gd (BO 0 k13) λ_=>bd (C4 (ER r12.1 0 k13,x.1.2.1.2.2)) λr14=>some ((((r11.2.1.2.1,(r11.2.1.2.2.1,(r11.2.1.2.2.2.1,(r11.2.1.2.2.2.2.1,r11.2.1.2.2.2.2.2.1)))),(r14.2,(r14.1,AI .i64 x.1.2.2.2 (Na x.2 r0.1)))),(Na x.2 r0.1,0)))
def GL (x:(AL×AL)):Option Bool :=
 br (A7 (AY (AA x.1.1)) (AY (AA x.2.1))) (λ_=>some false) λ_=>bd (GI (x.1.2.1,x.2.2.1)) λr0=>br (Ab r0) (λ_=>some false) λ_=>bd (E5 (x.1.2.2,x.2.2.2)) λr1=>br (Ab r1) (λ_=>some false) λ_=>bd (loop (λs2=>br (Ah s2.1 (AY (AA x.1.1))) (λ_=>AS s2.1 λk3=>ix x.1.1 k3 λx4=>AS s2.1 λk5=>ix x.2.1 k5 λx6=>bd (Bx (x4,x6)) λr7=>br (Ab r7) (λ_=>some (.dn ((0,((s2.1,false),()))))) λ_=>some (.nx (AI .i64 s2.1 1,s2.2))) λ_=>some (.dn ((1,(s2,()))))) (0,false)) λr8=>br (neq r8.1 0) (λ_=>some r8.2.1.2) λ_=>some true
def BS (x:((AL×((Bool×AM)×((List AD)×Int)))×(AL×((Bool×AM)×((List AD)×Int))))):Option Bool :=
 bd (GL (x.1.1,x.2.1)) λr0=>br r0 (λ_=>br (Bn (beq x.1.2.1.1 x.2.2.1.1) (Bn (seq x.1.2.1.2.1 x.2.2.1.2.1) (Bn (beq x.1.2.1.2.2 x.2.2.1.2.2) true))) (λ_=>bd (Bx (x.1.2.2.1,x.2.2.2.1)) λr1=>br r1 (λ_=>some (BP x.1.2.2.2 x.2.2.2.2)) λ_=>some false) λ_=>some false) λ_=>some false
def Db (x:(AJ×((List (Int×(AL×((Bool×AM)×((List AD)×Int)))))×Int))):Option (Int×Int) :=
 bd (CU x.1) λr0=>br (BP r0.2.2 0) (λ_=>br (Ah x.2.2 1) (λ_=>some (((-1),7))) λ_=>br (B8 x.2.2 1000001) (λ_=>some (((-1),7))) λ_=>br (BP r0.2.2 0) (λ_=>bd (CO x.1) λr1=>br (fh x.2.2 r1) (λ_=>some (((-1),6))) λ_=>br (A7 r0.2.2 0) (λ_=>some (((-1),r0.2.2))) λ_=>bd (Bj x.1) λr2=>bd (loop (λs3=>br (Ah s3.2.2 (AY (AA x.2.1))) (λ_=>AS s3.2.2 λk4=>ix x.2.1 k4 λx5=>br (G5 s3.2.2 (AY (AA r2))) (λ_=>some (.dn ((0,((6,(s3.2.2,s3.2.2)),()))))) λ_=>AS s3.2.2 λk6=>ix r2 k6 λx7=>br (A7 x5.1 x7) (λ_=>some (.dn ((0,((6,(s3.2.2,s3.2.2)),()))))) λ_=>br x5.2.2.1.2.2 (λ_=>bd (BJ (x.1,x5.1)) λr8=>br (Ab r8) (λ_=>some (.dn ((0,((6,(s3.2.2,s3.2.2)),()))))) λ_=>bd (Ap ((x.1,(x5.1,x5.2.2.1.2.2)))) λr9=>bd (BH r9.2) λr10=>br (Ah x5.2.2.2.2 0) (λ_=>some (.dn ((0,((6,(s3.2.2,s3.2.2)),()))))) λ_=>br (B8 x5.2.2.2.2 r10.1) (λ_=>some (.dn ((0,((6,(s3.2.2,s3.2.2)),()))))) λ_=>bd (A5 (r9.2,x5.2.2.2.2)) λr11=>bd (BS (r11.1,x5.2)) λr12=>br (Ab r12) (λ_=>some (.dn ((0,((6,(s3.2.2,s3.2.2)),()))))) λ_=>some (.nx ((s3.1,(s3.2.1,AI .i64 s3.2.2 1))))) λ_=>bd (Ap ((x.1,(x5.1,x5.2.2.1.2.2)))) λr13=>bd (BH r13.2) λr14=>br (Ah x5.2.2.2.2 0) (λ_=>some (.dn ((0,((6,(s3.2.2,s3.2.2)),()))))) λ_=>br (B8 x5.2.2.2.2 r14.1) (λ_=>some (.dn ((0,((6,(s3.2.2,s3.2.2)),()))))) λ_=>bd (A5 (r13.2,x5.2.2.2.2)) λr15=>bd (BS (r15.1,x5.2)) λr16=>br (Ab r16) (λ_=>some (.dn ((0,((6,(s3.2.2,s3.2.2)),()))))) λ_=>some (.nx ((s3.1,(s3.2.1,AI .i64 s3.2.2 1))))) λ_=>some (.dn ((1,(s3,()))))) ((0,(0,0)))) λr17=>br (neq r17.1 0) (λ_=>some (r17.2.1.2.1,r17.2.1.1)) λ_=>br (Ah (AY (AA x.2.1)) (AY (AA r2))) (λ_=>some (((-1),4))) λ_=>some (0,0)) λ_=>br (A7 r0.2.2 0) (λ_=>some (((-1),r0.2.2))) λ_=>bd (Bj x.1) λr18=>bd (loop (λs19=>br (Ah s19.2.2 (AY (AA x.2.1))) (λ_=>AS s19.2.2 λk20=>ix x.2.1 k20 λx21=>br (G5 s19.2.2 (AY (AA r18))) (λ_=>some (.dn ((0,((6,(s19.2.2,s19.2.2)),()))))) λ_=>AS s19.2.2 λk22=>ix r18 k22 λx23=>br (A7 x21.1 x23) (λ_=>some (.dn ((0,((6,(s19.2.2,s19.2.2)),()))))) λ_=>br x21.2.2.1.2.2 (λ_=>bd (BJ (x.1,x21.1)) λr24=>br (Ab r24) (λ_=>some (.dn ((0,((6,(s19.2.2,s19.2.2)),()))))) λ_=>bd (Ap ((x.1,(x21.1,x21.2.2.1.2.2)))) λr25=>bd (BH r25.2) λr26=>br (Ah x21.2.2.2.2 0) (λ_=>some (.dn ((0,((6,(s19.2.2,s19.2.2)),()))))) λ_=>br (B8 x21.2.2.2.2 r26.1) (λ_=>some (.dn ((0,((6,(s19.2.2,s19.2.2)),()))))) λ_=>bd (A5 (r25.2,x21.2.2.2.2)) λr27=>bd (BS (r27.1,x21.2)) λr28=>br (Ab r28) (λ_=>some (.dn ((0,((6,(s19.2.2,s19.2.2)),()))))) λ_=>some (.nx ((s19.1,(s19.2.1,AI .i64 s19.2.2 1))))) λ_=>bd (Ap ((x.1,(x21.1,x21.2.2.1.2.2)))) λr29=>bd (BH r29.2) λr30=>br (Ah x21.2.2.2.2 0) (λ_=>some (.dn ((0,((6,(s19.2.2,s19.2.2)),()))))) λ_=>br (B8 x21.2.2.2.2 r30.1) (λ_=>some (.dn ((0,((6,(s19.2.2,s19.2.2)),()))))) λ_=>bd (A5 (r29.2,x21.2.2.2.2)) λr31=>bd (BS (r31.1,x21.2)) λr32=>br (Ab r32) (λ_=>some (.dn ((0,((6,(s19.2.2,s19.2.2)),()))))) λ_=>some (.nx ((s19.1,(s19.2.1,AI .i64 s19.2.2 1))))) λ_=>some (.dn ((1,(s19,()))))) ((0,(0,0)))) λr33=>br (neq r33.1 0) (λ_=>some (r33.2.1.2.1,r33.2.1.1)) λ_=>br (Ah (AY (AA x.2.1)) (AY (AA r18))) (λ_=>some (((-1),4))) λ_=>some (0,0)) λ_=>br (BP r0.2.2 0) (λ_=>bd (CO x.1) λr34=>br (fh x.2.2 r34) (λ_=>some (((-1),6))) λ_=>br (A7 r0.2.2 0) (λ_=>some (((-1),r0.2.2))) λ_=>bd (Bj x.1) λr35=>bd (loop (λs36=>br (Ah s36.2.2 (AY (AA x.2.1))) (λ_=>AS s36.2.2 λk37=>ix x.2.1 k37 λx38=>br (G5 s36.2.2 (AY (AA r35))) (λ_=>some (.dn ((0,((6,(s36.2.2,s36.2.2)),()))))) λ_=>AS s36.2.2 λk39=>ix r35 k39 λx40=>br (A7 x38.1 x40) (λ_=>some (.dn ((0,((6,(s36.2.2,s36.2.2)),()))))) λ_=>br x38.2.2.1.2.2 (λ_=>bd (BJ (x.1,x38.1)) λr41=>br (Ab r41) (λ_=>some (.dn ((0,((6,(s36.2.2,s36.2.2)),()))))) λ_=>bd (Ap ((x.1,(x38.1,x38.2.2.1.2.2)))) λr42=>bd (BH r42.2) λr43=>br (Ah x38.2.2.2.2 0) (λ_=>some (.dn ((0,((6,(s36.2.2,s36.2.2)),()))))) λ_=>br (B8 x38.2.2.2.2 r43.1) (λ_=>some (.dn ((0,((6,(s36.2.2,s36.2.2)),()))))) λ_=>bd (A5 (r42.2,x38.2.2.2.2)) λr44=>bd (BS (r44.1,x38.2)) λr45=>br (Ab r45) (λ_=>some (.dn ((0,((6,(s36.2.2,s36.2.2)),()))))) λ_=>some (.nx ((s36.1,(s36.2.1,AI .i64 s36.2.2 1))))) λ_=>bd (Ap ((x.1,(x38.1,x38.2.2.1.2.2)))) λr46=>bd (BH r46.2) λr47=>br (Ah x38.2.2.2.2 0) (λ_=>some (.dn ((0,((6,(s36.2.2,s36.2.2)),()))))) λ_=>br (B8 x38.2.2.2.2 r47.1) (λ_=>some (.dn ((0,((6,(s36.2.2,s36.2.2)),()))))) λ_=>bd (A5 (r46.2,x38.2.2.2.2)) λr48=>bd (BS (r48.1,x38.2)) λr49=>br (Ab r49) (λ_=>some (.dn ((0,((6,(s36.2.2,s36.2.2)),()))))) λ_=>some (.nx ((s36.1,(s36.2.1,AI .i64 s36.2.2 1))))) λ_=>some (.dn ((1,(s36,()))))) ((0,(0,0)))) λr50=>br (neq r50.1 0) (λ_=>some (r50.2.1.2.1,r50.2.1.1)) λ_=>br (Ah (AY (AA x.2.1)) (AY (AA r35))) (λ_=>some (((-1),4))) λ_=>some (0,0)) λ_=>br (A7 r0.2.2 0) (λ_=>some (((-1),r0.2.2))) λ_=>bd (Bj x.1) λr51=>bd (loop (λs52=>br (Ah s52.2.2 (AY (AA x.2.1))) (λ_=>AS s52.2.2 λk53=>ix x.2.1 k53 λx54=>br (G5 s52.2.2 (AY (AA r51))) (λ_=>some (.dn ((0,((6,(s52.2.2,s52.2.2)),()))))) λ_=>AS s52.2.2 λk55=>ix r51 k55 λx56=>br (A7 x54.1 x56) (λ_=>some (.dn ((0,((6,(s52.2.2,s52.2.2)),()))))) λ_=>br x54.2.2.1.2.2 (λ_=>bd (BJ (x.1,x54.1)) λr57=>br (Ab r57) (λ_=>some (.dn ((0,((6,(s52.2.2,s52.2.2)),()))))) λ_=>bd (Ap ((x.1,(x54.1,x54.2.2.1.2.2)))) λr58=>bd (BH r58.2) λr59=>br (Ah x54.2.2.2.2 0) (λ_=>some (.dn ((0,((6,(s52.2.2,s52.2.2)),()))))) λ_=>br (B8 x54.2.2.2.2 r59.1) (λ_=>some (.dn ((0,((6,(s52.2.2,s52.2.2)),()))))) λ_=>bd (A5 (r58.2,x54.2.2.2.2)) λr60=>bd (BS (r60.1,x54.2)) λr61=>br (Ab r61) (λ_=>some (.dn ((0,((6,(s52.2.2,s52.2.2)),()))))) λ_=>some (.nx ((s52.1,(s52.2.1,AI .i64 s52.2.2 1))))) λ_=>bd (Ap ((x.1,(x54.1,x54.2.2.1.2.2)))) λr62=>bd (BH r62.2) λr63=>br (Ah x54.2.2.2.2 0) (λ_=>some (.dn ((0,((6,(s52.2.2,s52.2.2)),()))))) λ_=>br (B8 x54.2.2.2.2 r63.1) (λ_=>some (.dn ((0,((6,(s52.2.2,s52.2.2)),()))))) λ_=>bd (A5 (r62.2,x54.2.2.2.2)) λr64=>bd (BS (r64.1,x54.2)) λr65=>br (Ab r65) (λ_=>some (.dn ((0,((6,(s52.2.2,s52.2.2)),()))))) λ_=>some (.nx ((s52.1,(s52.2.1,AI .i64 s52.2.2 1))))) λ_=>some (.dn ((1,(s52,()))))) ((0,(0,0)))) λr66=>br (neq r66.1 0) (λ_=>some (r66.2.1.2.1,r66.2.1.1)) λ_=>br (Ah (AY (AA x.2.1)) (AY (AA r51))) (λ_=>some (((-1),4))) λ_=>some (0,0)
def EI (x:(AJ×((List (Int×(AL×((Bool×AM)×((List AD)×Int)))))×Int))):Option ((List Int)×Int) :=
 bd (Db x) λr0=>br (A7 r0.2 0) (λ_=>some ([],r0.2)) λ_=>bd (Bj x.1) λr1=>some (r1,0)
def Bu (x:((AJ×((List (Int×(AL×((Bool×AM)×((List AD)×Int)))))×Int))×Int)):Option (Int×Int) :=
 bd (EI x.1) λr0=>br (A7 r0.2 0) (λ_=>some (0,r0.2)) λ_=>bd (loop (λs1=>br (Ah s1.2.2 (AY (AA r0.1))) (λ_=>AS s1.2.2 λk2=>ix r0.1 k2 λx3=>br (BP x3 x.2) (λ_=>some (.dn ((0,((0,(s1.2.2,s1.2.2)),()))))) λ_=>some (.nx ((s1.1,(s1.2.1,AI .i64 s1.2.2 1))))) λ_=>some (.dn ((1,(s1,()))))) ((0,(0,0)))) λr4=>br (neq r4.1 0) (λ_=>some (r4.2.1.2.1,r4.2.1.1)) λ_=>some (0,4)
def CV (x:((AJ×((List (Int×(AL×((Bool×AM)×((List AD)×Int)))))×Int))×Int)):Option (Int×Int) :=
 bd (Bu x) λr0=>br (A7 r0.2 0) (λ_=>some (0,r0.2)) λ_=>AS r0.1 λk1=>ix x.1.2.1 k1 λx2=>bd (BH x2.2) λr3=>some r3
end Go.Proofs.YthpkjfabdccpdaaGreat.Pl
namespace Go.Proofs.YthpkjfabdccpdaaGreat.Pl
open Go Go.Proofs.YthpkjfabdccpdaaGreat.Sv
theorem MQ (x:AD):DV x=some (kE x):=by
 unfold DV kE;rw [Ao,AW,JA];by_cases h1:x.1.length>32
 ·rw [if_pos (by omega),if_pos (.inl h1)]
 rw [if_neg (by omega),Ao,AW,JA];by_cases h2:x.2.1.length>64
 ·rw [if_pos (by omega),if_pos (.inr h2)]
 rw [if_neg (by omega : ¬ (x.2.1.length:Int)>64),if_neg (by omega),FG];by_cases h3:x.2.2.1=true
 ·rw [if_pos h3,BW,Eh];by_cases h4:x.2.1=[]
  ·rw [if_pos h4,if_neg (by simp [h4]),BB,Ao];by_cases h5:x.2.2.2<1
   ·simp [h5]
   ·by_cases h6:x.2.2.2>1000000000<;>simp [h5,h6]
  ·rw [if_neg h4,if_pos ⟨h3,h4⟩]
 ·rw [if_neg h3,if_neg (by simp [h3]),BB,Ao];by_cases h5:x.2.2.2<1
  ·simp [h5]
  ·by_cases h6:x.2.2.2>1000000000<;>simp [h5,h6]
def Dc:List UInt8->List UInt8->Nat
 | x::a,y::b=>if x=y then Dc a b+1 else 0
 | _,_=>0
theorem aH (x y:UInt8):BP (Sa x) (Sa y)=decide (x=y):=by
 rw [Ej];unfold Sa;by_cases h:x=y
 ·simp [h]
 ·have : ¬ ((x.toNat:Int)=(y.toNat:Int)):=λe=>h (UInt8.toNat_inj.1 (by omega));simp [h,this]
theorem Xi (a b:List UInt8) (ha:a.length<=9223372036854775806):Ek (a,b)=some (Dc a b:Int):=by
 unfold Ek;simp only [AW,JA]
 have key : ∀ (m:List UInt8) (k n:Nat),a.drop k=m->k<=a.length->k<=b.length->m.length<n->Dk n (λs0=>br (Ah s0 (a.length:Int)) (λ_=>br (Ah s0 (b.length:Int)) (λ_=>AS s0 λk1=>ix a k1 λx2=>AS s0 λk3=>ix b k3 λx4=>br (BP (Sa x2) (Sa x4)) (λ_=>some (LR.nx (AI .i64 s0 1))) λ_=>some (.dn ((0,(s0,()))))) λ_=>some (.dn ((0,(s0,()))))) λ_=>some (.dn ((0,(s0,()))))) (k:Int)=some ((0:Nat),(((k+Dc m (b.drop k):Nat):Int),())):=by
  intro m
  induction m with
  | nil =>
   intro k n hm hk hkb hn;obtain ⟨n,rfl⟩ : ∃ j,n=j+1:=⟨n-1,by omega⟩
   have hkl:k=a.length:=by
    have:=congrArg List.length hm;simp at this;omega
   subst hkl;refine BN ?_;rw [re];simp [Al,Dc]
  | cons x m ih =>
   intro k n hm hk hkb hn;obtain ⟨n,rfl⟩ : ∃ j,n=j+1:=⟨n-1,by omega⟩
   have hx:a[k]? = some x:=by
    have:=congrArg List.head? hm;rw [List.head?_drop] at this;simpa using this
   have hk':k<a.length:=(List.getElem?_eq_some_iff.1 hx).1
   have hm2:a.drop (k+1)=m:=by
    have:=congrArg List.tail hm;rw [List.tail_drop] at this;simpa using this
   by_cases hb:k<b.length
   ·have hy:b[k]? = some b[k]:=by simp [hb]
    rw [List.drop_eq_getElem_cons hb];unfold Dc;by_cases e:x=b[k]
    ·rw [if_pos e];refine (BF (s':=((k+1:Nat):Int)) ?_).trans ?_
     ·rw [rl hk',AR,rl hb,AR,AE,AK hx,AE,AK hy,aH,Cp,if_pos e,Ac (by omega)]
     ·rw [ih (k+1) n hm2 (by omega) (by omega) (by simp at hn;omega),show k+1+Dc m (b.drop (k+1))=k+(Dc m (b.drop (k+1))+1) by omega]
    ·rw [if_neg e];refine BN ?_;rw [rl hk',AR,rl hb,AR,AE,AK hx,AE,AK hy,aH,Cp,if_neg e];simp
   ·have hb2:k=b.length:=by omega
    refine BN ?_;rw [rl hk',AR,hb2,re,Al,List.drop_length];simp [Dc]
 refine BC (CT (n:=a.length+1) (by omega) (key a 0 (a.length+1) (by simp) (by omega) (by omega) (by omega))) ?_;simp
def LX (a b:MK):Int:=if DC a b=true then -1 else if a=b then 0 else 1
theorem TJ : ∀ (a b:MK),(Dc a b<=a.length/\Dc a b<=b.length)/\(Dc a b=a.length->Dc a b=b.length->LX a b=0)/\(Dc a b=a.length->Dc a b≠b.length->LX a b = -1)/\(Dc a b≠a.length->Dc a b=b.length->LX a b=1)/\(∀ x y,a[Dc a b]? = some x->b[Dc a b]? = some y->LX a b=if x.toNat<y.toNat then -1 else 1)
 | [],[]=>by simp [Dc,LX,ML]
 | [],y::b=>by simp [Dc,LX,Rl]
 | x::a,[]=>by simp [Dc,LX,ML]
 | x::a,y::b=>by
  obtain ⟨⟨h0,h0'⟩,h1,h2,h3,h4⟩:=TJ a b;by_cases e:x=y
  ·subst e
   have ho:LX (x::a) (x::b)=LX a b:=by
    unfold LX;rw [If];simp
   have hc:Dc (x::a) (x::b)=Dc a b+1:=by simp [Dc]
   rw [ho,hc];refine ⟨⟨by simp;omega,by simp;omega⟩,λu v=>h1 (by simp at u;omega) (by simp at v;omega),λu v=>h2 (by simp at u;omega) (by simp at v;omega),λu v=>h3 (by simp at u;omega) (by simp at v;omega),λp q hp hq=>h4 p q (by simpa using hp) (by simpa using hq)⟩
  ·have hc:Dc (x::a) (y::b)=0:=by simp [Dc,e]
   rw [hc];refine ⟨⟨by omega,by omega⟩,λu=>by simp at u,λu=>by simp at u,λ_ u=>by simp at u,λp q hp hq => ?_⟩;simp at hp hq;subst hp hq;unfold LX;rw [If];have hne : ¬ (x::a=y::b):=λh=>e (by injection h);by_cases hlt:x.toNat<y.toNat
   ·have:x<y:=UInt8.lt_iff_toNat_lt.2 hlt;simp [this,hlt]
   ·have : ¬ x<y:=λh=>hlt (UInt8.lt_iff_toNat_lt.1 h);simp [this,hlt,e]
theorem aI (a b:MK) (ha:a.length<=1000000000) (hb:b.length<=1000000000):EO (a,b)=some (LX a b):=by
 obtain ⟨⟨h0,h0'⟩,h1,h2,h3,h4⟩:=TJ a b;unfold EO;simp only [AW,JA];rw [Xi a b (by omega),AB,Bc]
 have hl:(if (Dc a b:Int)<(b.length:Int) then (AS (Dc a b:Int) λk1=>ix a k1 λx2=>AS (Dc a b:Int) λk3=>ix b k3 λx4=>br (Ah (Sa x2) (Sa x4)) (λ_=>some (-1:Int)) λ_=>some 1) else some 1)=(if Dc a b=a.length then (if (Dc a b:Int)<(b.length:Int) then (AS (Dc a b:Int) λk1=>ix a k1 λx2=>AS (Dc a b:Int) λk3=>ix b k3 λx4=>br (Ah (Sa x2) (Sa x4)) (λ_=>some (-1:Int)) λ_=>some 1) else some 1) else some (LX a b)):=by
  by_cases u:Dc a b=a.length
  ·rw [if_pos u]
  ·rw [if_neg u];by_cases v:Dc a b=b.length
   ·rw [if_neg (by omega),h3 u v]
   ·rw [if_pos (by omega),AE];have hx:a[Dc a b]? = some (a[Dc a b]'(by omega)):=by simp
    have hy:b[Dc a b]? = some (b[Dc a b]'(by omega)):=by simp
    rw [AK hx,AE,AK hy,BB,h4 _ _ hx hy];unfold Sa;by_cases w:(a[Dc a b]'(by omega)).toNat<(b[Dc a b]'(by omega)).toNat
    ·rw [if_pos (by omega),if_pos w]
    ·rw [if_neg (by omega),if_neg w]
 by_cases u:Dc a b=a.length
 ·rw [if_pos (by omega),Bc];by_cases v:Dc a b=b.length
  ·rw [if_pos (by omega),h1 u v]
  ·rw [if_neg (by omega),Bc,if_pos (by omega),h2 u v]
 ·rw [if_neg (by omega),Bc,if_neg (by omega),BB,hl,if_neg u]
theorem Wh (a b:MK):LX a b>=0<->DC a b=false:=by
 unfold LX;cases h:DC a b with
 | true=>simp
 | false=>simp;split<;>omega
theorem Gl (l:List AD) (hl:l.length<=9223372036854775807):Cj l=some (FH l):=by
 unfold Cj FH;simp only [AW,AP];rw [Ao];by_cases h:l.length>5000
 ·rw [if_pos (by omega),if_pos h]
 rw [if_neg (by omega),if_neg h];obtain ⟨T,hT⟩ : ∃ T,T=Jy none 0 l:=⟨_,rfl⟩;rw [<- hT]
 obtain ⟨r,q1,q2⟩:=HF (l:=l) (σ:=Unit) (s:=((0:Int),((0:Int),(0:Int)))) (λk _=>((0:Int),((0:Int),(k:Int)))) (λm k _=>Jy (if k=0 then none else (l[k-1]?).map (·.1)) k m=T/\(∀ y,k≠0->l[k-1]? = some y->kE y=0)) (λ(r:Nat×((Int×(Int×Int))×Unit))=>(r.1=1/\T=(0,0))\/(r.1=0/\T=(r.2.1.2.1,r.2.1.1)))
  (f:=λs0=>br (Ah s0.2.2 (l.length:Int)) (λ_=>AS s0.2.2 λk1=>ix l k1 λx2=>bd (DV x2) λr3=>br (BP r3 0) (λ_=>br (B8 s0.2.2 0) (λ_=>AS (CE .i64 s0.2.2 1) λk4=>ix l k4 λx5=>AS s0.2.2 λk6=>ix l k6 λx7=>bd (EO (x5.1,x7.1)) λr8=>br (G5 r8 0) (λ_=>some (.dn ((0,((6,(s0.2.2,s0.2.2)),()))))) λ_=>br (A7 r3 0) (λ_=>some (.dn ((0,((r3,(s0.2.2,s0.2.2)),()))))) λ_=>some (.nx ((s0.1,(s0.2.1,AI .i64 s0.2.2 1))))) λ_=>br (A7 r3 0) (λ_=>some (.dn ((0,((r3,(s0.2.2,s0.2.2)),()))))) λ_=>some (.nx ((s0.1,(s0.2.1,AI .i64 s0.2.2 1))))) λ_=>br (A7 r3 0) (λ_=>some (.dn ((0,((r3,(s0.2.2,s0.2.2)),()))))) λ_=>some (.nx ((s0.1,(s0.2.1,AI .i64 s0.2.2 1))))) λ_=>some (.dn ((1,(s0,())))))
  () rfl (by omega) ⟨hT.symm,λ_ h=>absurd rfl h⟩ (λ_ h=>by
   refine ⟨_,by simp only;rw [re];rfl,.inl ⟨rfl,?_⟩⟩;rw [<- h.1];simp [Jy]) (λk x m _ hd hx hk h=>by
   simp only;obtain ⟨h,hprev⟩:=h;rw [rl hk,AR,AE,AK hx,MQ,AB,Bc];unfold Jy at h
   have next:kE x=0->(T=Jy (some x.1) (k+1) m)->Jy (if k+1=0 then none else (l[k+1-1]?).map (·.1)) (k+1) m=T/\(∀ y,k+1≠0->l[k+1-1]? = some y->kE y=0):=λh0 e=>by
    rw [if_neg (by omega),Nat.add_sub_cancel,hx,e];exact ⟨rfl,λy _ hy=>by cases hy;exact h0⟩
   by_cases h0:kE x=0
   ·rw [if_pos h0,Ao];rw [if_neg (by simp [h0])] at h;by_cases hk0:k=0
    ·rw [if_neg (by omega),AN,if_pos h0];rw [if_pos hk0] at h;exact .inl ⟨(),by rw [Au hx (by omega)],next h0 h.symm⟩
    ·have hy:l[k-1]? = some (l[k-1]'(by omega)):=by rw [List.getElem?_eq_getElem]
     rw [if_pos (by omega),show CE .i64 (k:Int) 1=((k-1:Nat):Int) by rw [CF (by omega)];omega,AE,AK hy,AE,AK hx];rw [if_neg hk0,hy] at h;simp only [Option.map_some] at h;rw [aI _ _ (by have:=O2 (hprev _ hk0 hy);omega) (by have:=O2 h0;omega),AB,Dz];by_cases hs:DC (l[k-1]'(by omega)).1 x.1=true
     ·rw [if_neg (λe=>by rw [Wh,hs] at e;cases e),AN,if_pos h0];rw [if_pos hs] at h;exact .inl ⟨(),by rw [Au hx (by omega)],next h0 h.symm⟩
     ·rw [if_pos ((Wh _ _).2 (by simpa using hs))];rw [if_neg hs] at h;exact .inr ⟨_,rfl,.inr ⟨rfl,h.symm⟩⟩
   ·rw [if_neg h0,AN,if_neg h0];rw [if_pos h0] at h
    exact .inr ⟨_,rfl,.inr ⟨rfl,h.symm⟩⟩)
 refine BC q1 ?_;rw [CX];rcases q2 with ⟨q2,q3⟩ | ⟨q2,q3⟩
 ·rw [if_neg (show ¬ r.1=0 by omega),q3]
 ·rw [if_pos q2,q3]
theorem aJ (p q:AM) (hp:EX p) (hq:EX q):E4 ([p,q],(0,1))=some (w0 p q):=by
 unfold E4 w0;refine (Ei 0 rfl (x:=p) rfl).trans ((Ei 1 rfl (x:=q) rfl).trans ?_);rw [beq_eq,Ci,Cp,BW,FG];by_cases h1:p.2=q.2
 ·rw [if_neg (show ¬ ¬ p.2=q.2 by simp [h1]),if_neg (show ¬ p.2≠q.2 by simp [h1])];by_cases h2:p.2=true
  ·rw [if_pos h2,hp h2,hq (h1 ▸ h2)];rfl
  ·rw [if_neg h2,BW,Eh];by_cases h3:p.1=q.1
   ·rw [if_pos h3,if_neg (by simp [h3])];rfl
   ·rw [if_neg h3,if_pos h3]
 ·rw [if_pos h1,if_pos h1]
theorem Ni (p q:AM) (n:Nat) (k:Int) (h:2<=k) (hk:k<=100):Jw Av (n+1) ([p,q],k)=some (k-2,0):=by
 show Av (Jw Av n) ([p,q],k)=_;unfold Av;show br (G5 k 2) (λ_=>some (CE .i64 k 2,0)) _=_;rw [Dz,if_pos h,CF (by omega)]
theorem O6 (p q:AM) (hp:EX p) (hq:EX q):GG ([p,q],1)=some (if w0 p q=true then (0,1) else (1,0)):=by
 show Av (Jw Av 99) ([p,q],1)=_;unfold Av;show br (G5 (1:Int) 2) (λ_=>some (CE .i64 (1:Int) 2,0)) (λ_=>bd (Jw Av (98+1) ([p,q],2)) λr0=>bd (Jw Av (98+1) ([p,q],3)) _)=_;rw [Dz,if_neg (by omega),Ni p q 98 2 (by omega) (by omega),AB,Ni p q 98 3 (by omega) (by omega),AB];show bd (E4 ([p,q],(0,1))) _=_;rw [aJ p q hp hq,AB,FG];cases h:w0 p q<;>rfl
theorem aK (p q:AM) (hp:EX p) (hq:EX q):GH [p,q]=some (Tt p q):=by
 unfold GH;refine Eq.trans (b:=bd (loop _ (1,([p,q],([0,0],0)))) _) rfl ?_;refine BC (x:=(0,((2,([p,q],([0,if w0 p q=true then 1 else 0],0))),()))) (CT (n:=2) (by omega) ((BF (s':=(2,([p,q],([0,if w0 p q=true then 1 else 0],0)))) ?_).trans (BN rfl))) ?_
 ·show bd (GG ([p,q],1)) _=_;rw [O6 p q hp hq,AB];refine (J2 1 rfl (x:=(0:Int)) rfl).trans ?_;cases h:w0 p q<;>rfl
 ·rw [O6 p q hp hq,AB];unfold Tt;cases h:w0 p q<;>rfl
theorem Xj {l:List AM} (h : ∀ k∈l,EX k) (h0:l≠[]) (hl:l.length<=32):FO l=some 0:=by
 unfold FO;simp only [AW,AP];rw [Bc,Ao,if_neg (by have:=List.length_pos_iff.2 h0;omega),if_neg (by omega)]
 rw [DL (l:=l) (σ:=Unit) (s:=((0:Int),(0:Int))) (λk _=>((k:Int),(0:Int))) (λ_ _ _=>True) (λ_ _ _=>(1,(((l.length:Int),0),()))) () rfl (by omega) trivial (λst _=>by
  simp only;rw [re];rfl) (λk x m st _ hx hk _=>⟨(),by
   simp only;rw [rl hk,AR,AE,AK hx,FG,Au hx (by omega)];by_cases hd:x.2=true
   ·rw [if_pos hd,AE,AK hx,BW,Eh,if_pos (h x (List.mem_of_getElem? hx) hd)]
   ·rw [if_neg hd],trivial,rfl⟩),AB]
 rfl
theorem Xk (p q:AM) (hp:EX p) (hq:EX q):EQ [p,q]=some (Tt p q,0):=by
 unfold EQ;rw [Xj (by simp [hp,hq]) (by simp) (by simp),AB,AN,if_pos rfl,aK p q hp hq,AB]
end Go.Proofs.YthpkjfabdccpdaaGreat.Pl
namespace Go.Proofs.YthpkjfabdccpdaaGreat.Pl
open Go Go.Proofs.YthpkjfabdccpdaaGreat.Sv
theorem Gv:Bx=BU:=rfl
theorem O7:GI=Ae:=rfl
theorem Uy (l m:List AM) (hb:l.length<=9223372036854775806) (hl:l.length=m.length) : ∃ r,loop (λs1=>br (Ah s1.1 (l.length:Int)) (λ_=>AS s1.1 λk2=>ix l k2 λx3=>AS s1.1 λk4=>ix m k4 λx5=>br (Ab (Bn (seq x3.1 x5.1) (Bn (Sv.beq x3.2 x5.2) true))) (λ_=>some (LR.dn ((0:Nat),((s1.1,false),())))) λ_=>some (.nx (AI .i64 s1.1 1,s1.2))) λ_=>some (.dn ((1,(s1,()))))) ((0:Int),false)=some r/\((l=m/\r.1=1)\/(l≠m/\r.1=0/\r.2.1.2=false)):=by
 refine Ik l m hl hb (λk x y hx hy => ?_) (by simp only;rw [re];rfl);have hk:=(List.getElem?_eq_some_iff.1 hx).1
 have he : ∀ {β:Type} (u v:Unit->Option β),br (Ab (Bn (seq x.1 y.1) (Bn (Sv.beq x.2 y.2) true))) u v=if x=y then v () else u ():=by
  intro β u v;rw [MP,LS,beq_eq,JD,Ci,Cp];by_cases e:x=y
  ·subst e;simp
  ·rw [if_pos (λh=>e (Prod.ext h.1 h.2)),if_neg e]
 constructor
 ·intro e;simp only;rw [rl hk,AR,AE,AK hx,AE,AK hy,he,if_pos e,Ac (by omega)]
 ·intro e;simp only;rw [rl hk,AR,AE,AK hx,AE,AK hy,he,if_neg e]
theorem O8 (s t:D6) (h1:s.1.length<=1000) (h2:s.2.1.length<=1000):E5 (s,t)=some (decide (s=t)):=by
 obtain ⟨sk,sl,sw⟩:=s;obtain ⟨tk,tl,tw⟩:=t;simp only at h1 h2;unfold E5;simp only [AW,AP];rw [AN];by_cases e1:(sk.length:Int)=(tk.length:Int);rotate_left
 ·rw [if_neg e1];have : ¬ sk=tk:=λe=>e1 (by rw [e]);simp [this]
 rw [if_pos e1,AN];by_cases e2:sw=tw;rotate_left
 ·rw [if_neg e2];simp [e2]
 rw [if_pos e2,O7,Ka _ _ (by omega),AB,Ci,Cp];by_cases e3:sl=tl;rotate_left
 ·rw [if_pos e3];simp [e3]
 rw [if_neg (show ¬ ¬ sl=tl by simp [e3])];obtain ⟨r,q1,q2⟩:=Uy sk tk (by omega) (by omega);refine BC q1 ?_;rw [CX];rcases q2 with ⟨e,q2⟩ | ⟨e,q2,q3⟩
 ·rw [if_neg (show ¬ r.1=0 by omega)];simp [e,e2,e3]
 ·rw [if_pos q2,q3];simp [e]
theorem TK (s t:AL) (h1:s.1.length<=1000) (h2 : ∀ l∈s.1,l.length<=1000000) (h3:s.2.1.length<=1000) (h4:s.2.2.1.length<=1000) (h5:s.2.2.2.1.length<=1000):GL (s,t)=some (decide (s=t)):=by
 obtain ⟨sr,sa,st⟩:=s;obtain ⟨tr,ta,tt⟩:=t;simp only at h1 h2 h3 h4 h5;unfold GL;simp only [AW,AP];rw [AN];by_cases e1:(sr.length:Int)=(tr.length:Int);rotate_left
 ·rw [if_neg e1];have : ¬ sr=tr:=λe=>e1 (by rw [e]);simp [this]
 rw [if_pos e1,O7,Ka _ _ (by omega),AB,Ci,Cp];by_cases e2:sa=ta;rotate_left
 ·rw [if_pos e2];simp [e2]
 rw [if_neg (show ¬ ¬ sa=ta by simp [e2]),O8 _ _ h4 h5,AB,Ci,Cp];by_cases e3:st=tt;rotate_left
 ·rw [if_pos e3];simp [e3]
 rw [if_neg (show ¬ ¬ st=tt by simp [e3])]
 obtain ⟨r,q1,q2⟩:=Ik sr tr (by omega) (by omega) (f:=λs2=>br (Ah s2.1 (sr.length:Int)) (λ_=>AS s2.1 λk3=>ix sr k3 λx4=>AS s2.1 λk5=>ix tr k5 λx6=>bd (Bx (x4,x6)) λr7=>br (Ab r7) (λ_=>some (.dn ((0,((s2.1,false),()))))) λ_=>some (.nx (AI .i64 s2.1 1,s2.2))) λ_=>some (.dn ((1,(s2,()))))) (λk x y hx hy=>by
   have hk:=(List.getElem?_eq_some_iff.1 hx).1;have hx1:=h2 x (List.mem_of_getElem? hx);constructor
   ·intro e;simp only;rw [rl hk,AR,AE,AK hx,AE,AK hy,Gv,GE _ _ (by omega),AB,Ci,Cp,if_neg (by simp [e]),Ac (by omega)]
   ·intro e;simp only
    rw [rl hk,AR,AE,AK hx,AE,AK hy,Gv,GE _ _ (by omega),AB,Ci,Cp,if_pos e]) (by simp only;rw [re];rfl)
 refine BC q1 ?_;rw [CX];rcases q2 with ⟨e,q2⟩ | ⟨e,q2,q3⟩
 ·rw [if_neg (show ¬ r.1=0 by omega)];simp [e,e2,e3]
 ·rw [if_pos q2,q3];simp [e]
theorem O9 (x y:H5) (h1:x.1.1.length<=1000) (h2 : ∀ l∈x.1.1,l.length<=1000000) (h3:x.1.2.1.length<=1000) (h4:x.1.2.2.1.length<=1000) (h5:x.1.2.2.2.1.length<=1000) (h6:x.2.2.1.length<=1000000):BS (x,y)=some (decide (x=y)):=by
 obtain ⟨xm,⟨xs,xt,xb⟩,xo,xn⟩:=x;obtain ⟨ym,⟨ys,yt,yb⟩,yo,yn⟩:=y;simp only at h1 h2 h3 h4 h5 h6;unfold BS;simp only [TK _ _ h1 h2 h3 h4 h5,Gv,GE _ _ (show xo.length<=9223372036854775806 by omega),AB,Cp,Ej,LS,beq_eq,MP,JD]
 repeat' split
 all_goals simp_all
section
variable {a b:List AD} (va:VL a) (vb:VL b)
include va vb
theorem LY:DW [a,b]=some (0,0):=by
 have la:=va.len;have lb:=vb.len;unfold DW;refine Eq.trans (b:=bd (loop _ (0,(0,0))) _) rfl ?_;refine BC (x:=(1,((0,(0,2)),()))) (Cb (s1:=(0,(0,1))) (s2:=(0,(0,2))) ?_ ?_ rfl) rfl
 ·refine (Nr 0 rfl rfl (x:=a) rfl).trans ?_;rw [Gl _ (by omega),Jz va,AB];rfl
 ·refine (Nr 1 rfl rfl (x:=b) rfl).trans ?_;rw [Gl _ (by omega),Jz vb,AB];rfl
theorem JE {i j:Nat} (hi:i<=a.length) (hj:j<=b.length):DY ([a,b],[(i:Int),(j:Int)])=some (if i=a.length/\j=b.length then -1 else if Hs a b i j=true then 0 else 1):=by
 have la:=va.len;have lb:=vb.len;unfold DY;simp only [AW,AP];refine BC (x:=(0,((if i=a.length/\j=b.length then -1 else if Hs a b i j=true then 0 else 1,2),()))) (Cb (s1:=(if i=a.length then -1 else 0,1)) (s2:=(if i=a.length/\j=b.length then -1 else if Hs a b i j=true then 0 else 1,2)) ?_ ?_ rfl) rfl
 ·refine (Nr 0 rfl rfl (x:=(i:Int)) rfl).trans ((Ei 0 rfl (x:=a) rfl).trans ?_);rw [BB];by_cases h:i=a.length
  ·rw [if_neg (by omega),if_pos h];rfl
  ·rw [if_pos (by omega),if_neg h];rfl
 ·refine (Nr 1 rfl rfl (x:=(j:Int)) rfl).trans ((Ei 1 rfl (x:=b) rfl).trans ?_);rw [BB];by_cases h:j=b.length
  ·rw [if_neg (by omega)];by_cases h2:i=a.length
   ·rw [if_pos h2,if_pos ⟨h2,h⟩];rfl
   ·rw [if_neg h2,if_neg (λh3=>h2 h3.1)];have hx:a[i]? = some (a[i]'(by omega)):=by simp
    rw [Wa hx (List.getElem?_eq_none (by omega))];rfl
  ·have hy:b[j]? = some (b[j]'(by omega)):=by simp
   rw [if_pos (by omega),BB,if_neg (λh3:i=a.length/\j=b.length=>h h3.2)];by_cases h2:i=a.length
   ·rw [if_pos h2,if_pos (by omega),Wb (List.getElem?_eq_none (by omega)) hy];rfl
   ·rw [if_neg h2,if_neg (by omega)];have hx:a[i]? = some (a[i]'(by omega)):=by simp
    refine (Ei 1 rfl (x:=b) rfl).trans ((Ei 1 rfl (x:=(j:Int)) rfl).trans ((Ei j rfl hy).trans ((Ei 0 rfl (x:=a) rfl).trans ((Ei 0 rfl (x:=(i:Int)) rfl).trans ((Ei i rfl hx).trans ?_)))));rw [Gh,Ox hx hy];cases hs:DC (b[j]'(by omega)).1 (a[i]'(by omega)).1<;>rfl
theorem JF {i j:Nat} (hi:i<=a.length) (hj:j<=b.length):Cv ([a,b],[(i:Int),(j:Int)])=some (Lb a b i j):=by
 have la:=va.len;have lb:=vb.len;unfold Cv;simp only [AW,AP];rw [Bl (show [a,b].length<=1048576 from (show 2<=1048576 by omega)),Bl (show [(i:Int),(j:Int)].length<=1048576 from (show 2<=1048576 by omega))];refine BC (x:=(0,((2,[kx a i,kx b j]),()))) (Cb (s1:=(1,[kx a i])) (s2:=(2,[kx a i,kx b j])) ?_ ?_ rfl) ?_
 ·refine (Nr 0 rfl rfl (x:=(i:Int)) rfl).trans ((Ei 0 rfl (x:=a) rfl).trans ?_);rw [Ej,Ci,Cp];by_cases h:i=a.length
  ·have hne:((i:Int)=(a.length:Int)):=by omega
   rw [if_neg (show ¬ ¬ ((i:Int)=(a.length:Int)) by simp [hne]),MO (List.getElem?_eq_none (by omega))];simp only [hne,decide_true];rfl
  ·have hx:a[i]? = some (a[i]'(by omega)):=by simp
   have hne : ¬ ((i:Int)=(a.length:Int)):=by omega
   rw [if_pos hne];refine (Ei 0 rfl (x:=a) rfl).trans ((Ei 0 rfl (x:=(i:Int)) rfl).trans ((Ei i rfl hx).trans ?_));rw [GC hx];simp only [hne,decide_false];rfl
 ·refine (Nr 1 rfl rfl (x:=(j:Int)) rfl).trans ((Ei 1 rfl (x:=b) rfl).trans ?_);rw [Ej,Ci,Cp];by_cases h:j=b.length
  ·have hne:((j:Int)=(b.length:Int)):=by omega
   rw [if_neg (show ¬ ¬ ((j:Int)=(b.length:Int)) by simp [hne]),MO (l:=b) (i:=j) (List.getElem?_eq_none (by omega))];simp only [hne,decide_true];rfl
  ·have hx:b[j]? = some (b[j]'(by omega)):=by simp
   have hne : ¬ ((j:Int)=(b.length:Int)):=by omega
   rw [if_pos hne];refine (Ei 1 rfl (x:=b) rfl).trans ((Ei 1 rfl (x:=(j:Int)) rfl).trans ((Ei j rfl hx).trans ?_));rw [GC (l:=b) (i:=j) hx];simp only [hne,decide_false];rfl
 ·show bd (EQ [kx a i,kx b j]) _=_;rw [Xk _ _ (Bh _ _) (Bh _ _)];rfl
theorem Wi {i:Nat} {l:List AD} (h:i≠0) (hi:i<=l.length) : ∃ x,l[i-1]? = some x:=⟨l[i-1]'(by omega),by simp⟩
theorem NL {i j:Nat} (I:Inv a b i j):DZ (Lb a b i j)=some (0,0):=by
 have la:=va.len;have lb:=vb.len;have hi:=I.ia;have hj:=I.jb;unfold DZ;rw [show (Lb a b i j).1=[a,b] from rfl,LY va vb,AB,AN,if_pos rfl];rw [show (Lb a b i j).2.1=[(i:Int),(j:Int)] from rfl,AN,if_pos (show AY (AA [(i:Int),(j:Int)])=AY (AA [a,b]) from rfl)];refine BC (x:=(1,((0,(0,2)),()))) (Cb (s1:=(0,(0,1))) (s2:=(0,(0,2))) ?_ ?_ rfl) ?_
 ·refine (Nr 0 rfl rfl (x:=(i:Int)) rfl).trans ?_;rw [BB,if_neg (by omega)];refine (Ei 0 rfl (x:=(i:Int)) rfl).trans ((Ei 0 rfl (x:=a) rfl).trans ?_);rw [Ao,if_neg (by simp only [AW,AP];omega)];rfl
 ·refine (Nr 1 rfl rfl (x:=(j:Int)) rfl).trans ?_;rw [BB,if_neg (by omega)];refine (Ei 1 rfl (x:=(j:Int)) rfl).trans ((Ei 1 rfl (x:=b) rfl).trans ?_);rw [Ao,if_neg (by simp only [AW,AP];omega)];rfl
 rw [show neq ((1:Nat),(((0:Int),((0:Int),(2:Int))),())).1 0=false from rfl,Al,JF va vb hi hj,AB,O8 (Lb a b i j).2.2 (Lb a b i j).2.2 (show 2<=1000 by omega) (show 2<=1000 by omega),AB,Ci,Cp,if_neg (show ¬ ¬ (Lb a b i j).2.2=(Lb a b i j).2.2 by simp),JE va vb hi hj,AB];by_cases hd:i=a.length/\j=b.length
 ·rw [if_pos hd];refine BC (x:=(1,((0,(0,0)),()))) (CT (n:=1) (by omega) (BN ?_)) rfl;rfl
 rw [if_neg hd];cases g:Hs a b i j with
 | true =>
  rw [if_pos rfl]
  have hil:i<a.length:=by
   refine Nat.lt_of_not_le λh' => ?_;have hb2:j<b.length:=by omega
   rw [Wb (List.getElem?_eq_none h') (show b[j]? = some (b[j]'hb2) by simp)] at g;cases g
  have hx:a[i]? = some (a[i]'hil):=by simp
  refine BC (x:=(1,((0,(0,2)),()))) (Cb (s1:=(0,(0,1))) (s2:=(0,(0,2))) ?_ ?_ rfl) rfl
  ·show br (Ah (0:Int) 2) _ _=_;rw [BB,if_pos (by omega),Dz,if_pos (by omega)];refine (Ei 0 rfl (x:=(i:Int)) rfl).trans ?_;rw [Bc];by_cases h0:i=0
   ·rw [if_pos (by omega)];rfl
   ·rw [if_neg (by omega)];obtain ⟨y,hy⟩:=Wi va vb (l:=a) h0 hi;refine (Ei 0 rfl (x:=a) rfl).trans ((Ei 0 rfl (x:=(i:Int)) rfl).trans ?_);rw [show CE .i64 (i:Int) 1=((i-1:Nat):Int) by rw [CF (by omega)];omega,AE,AK hy];refine (Ei 0 rfl (x:=a) rfl).trans ((Ei 0 rfl (x:=(i:Int)) rfl).trans ((Ei i rfl hx).trans ?_));have hlt:=va.lt hy (show a[i-1+1]? = some _ by rw [show i-1+1=i by omega];exact hx);rw [Gh,if_neg (by rw [Dr hlt];simp),Eh,if_neg (Ul hlt)];rfl
  ·show br (Ah (1:Int) 2) _ _=_;rw [BB,if_pos (by omega),Dz,if_pos (by omega)];refine (Ei 1 rfl (x:=(j:Int)) rfl).trans ?_;rw [Bc];by_cases h0:j=0
   ·rw [if_pos (by omega)];rfl
   ·rw [if_neg (by omega)];obtain ⟨y,hy⟩:=Wi va vb (l:=b) h0 hj;refine (Ei 1 rfl (x:=b) rfl).trans ((Ei 1 rfl (x:=(j:Int)) rfl).trans ?_);rw [show CE .i64 (j:Int) 1=((j-1:Nat):Int) by rw [CF (by omega)];omega,AE,AK hy];refine (Ei 0 rfl (x:=a) rfl).trans ((Ei 0 rfl (x:=(i:Int)) rfl).trans ((Ei i rfl hx).trans ?_));have hlt:=I.pb (j-1) (by omega) y _ hy hx;rw [Gh,if_neg (by rw [Dr hlt];simp),Eh,if_neg (Ul hlt)];rfl
 | false =>
  rw [if_neg (by simp)]
  have hjl:j<b.length:=by
   refine Nat.lt_of_not_le λh' => ?_;have ha2:i<a.length:=by omega
   rw [Wa (show a[i]? = some (a[i]'ha2) by simp) (List.getElem?_eq_none h')] at g;cases g
  have hx:b[j]? = some (b[j]'hjl):=by simp
  refine BC (x:=(1,((0,(0,2)),()))) (Cb (s1:=(0,(0,1))) (s2:=(0,(0,2))) ?_ ?_ rfl) rfl
  ·show br (Ah (0:Int) 2) _ _=_;rw [BB,if_pos (by omega),Dz,if_pos (by omega)];refine (Ei 0 rfl (x:=(i:Int)) rfl).trans ?_;rw [Bc];by_cases h0:i=0
   ·rw [if_pos (by omega)];rfl
   ·rw [if_neg (by omega)];obtain ⟨y,hy⟩:=Wi va vb (l:=a) h0 hi;refine (Ei 0 rfl (x:=a) rfl).trans ((Ei 0 rfl (x:=(i:Int)) rfl).trans ?_);rw [show CE .i64 (i:Int) 1=((i-1:Nat):Int) by rw [CF (by omega)];omega,AE,AK hy];refine (Ei 1 rfl (x:=b) rfl).trans ((Ei 1 rfl (x:=(j:Int)) rfl).trans ((Ei j rfl hx).trans ?_));have hle:=I.pa (i-1) (by omega) y _ hy hx;rw [Gh,if_neg (by rw [hle];simp),Eh];by_cases he:y.1=(b[j]'hjl).1
    ·rw [if_pos he];rfl
    ·rw [if_neg he];rfl
  ·show br (Ah (1:Int) 2) _ _=_;rw [BB,if_pos (by omega),Dz,if_pos (by omega)];refine (Ei 1 rfl (x:=(j:Int)) rfl).trans ?_;rw [Bc];by_cases h0:j=0
   ·rw [if_pos (by omega)];rfl
   ·rw [if_neg (by omega)];obtain ⟨y,hy⟩:=Wi va vb (l:=b) h0 hj;refine (Ei 1 rfl (x:=b) rfl).trans ((Ei 1 rfl (x:=(j:Int)) rfl).trans ?_);rw [show CE .i64 (j:Int) 1=((j-1:Nat):Int) by rw [CF (by omega)];omega,AE,AK hy];refine (Ei 1 rfl (x:=b) rfl).trans ((Ei 1 rfl (x:=(j:Int)) rfl).trans ((Ei j rfl hx).trans ?_));have hlt:=vb.lt hy (show b[j-1+1]? = some _ by rw [show j-1+1=j by omega];exact hx);rw [Gh,if_neg (by rw [Dr hlt];simp),Eh,if_neg (Ul hlt)];rfl
end
end Go.Proofs.YthpkjfabdccpdaaGreat.Pl
namespace Go.Proofs.YthpkjfabdccpdaaGreat.Pl
open Go Go.Proofs.YthpkjfabdccpdaaGreat.Sv
section
variable {a b:List AD} (va:VL a) (vb:VL b)
include va vb
theorem aL {n:Nat} {x:AD} (h:n<a.length+b.length) (hx:Nq a b n=some x):D9 (LV a b n)=some (x,((Oy a b n:Int),(LV a b (n+1),0))):=by
 obtain ⟨hI,hs⟩:=Fh va vb (n:=n) (by omega);obtain ⟨hI2,hs2⟩:=Fh va vb (n:=n+1) (by omega);have la:=va.len;have lb:=vb.len;have hia:=hI.ia;have hjb:=hI.jb;unfold D9;rw [show LV a b n=Lb a b (Am a b n).1 (Am a b n).2 from rfl,NL va vb hI,AB,AN,if_pos rfl,show (Lb a b (Am a b n).1 (Am a b n).2).1=[a,b] from rfl,show (Lb a b (Am a b n).1 (Am a b n).2).2.1=[((Am a b n).1:Int),((Am a b n).2:Int)] from rfl,JE va vb hia hjb,AB,if_neg (λhh:(Am a b n).1=a.length/\(Am a b n).2=b.length=>by omega)];unfold Nq at hx;have hpos:Am a b (n+1)=if Hs a b (Am a b n).1 (Am a b n).2=true then ((Am a b n).1+1,(Am a b n).2) else ((Am a b n).1,(Am a b n).2+1):=rfl
 unfold LV Oy;cases g:Hs a b (Am a b n).1 (Am a b n).2 with
 | true =>
  rw [g,if_pos rfl] at hpos;rw [g,if_pos rfl] at hx;have hi:=(List.getElem?_eq_some_iff.1 hx).1;rw [if_pos rfl,BB,if_neg (by omega),Bl (show AA [((Am a b n).1:Int),((Am a b n).2:Int)]<=1048576 from (show 2<=1048576 by omega))];refine (J2 0 rfl (x:=((Am a b n).1:Int)) rfl).trans ((J2 0 rfl (x:=((Am a b n).1:Int)) rfl).trans ((Ei 0 rfl (x:=a) rfl).trans ((Ei 0 rfl (x:=((Am a b n).1:Int)) rfl).trans ((Ei _ rfl hx).trans ?_))));rw [Ac (by omega),show lset [((Am a b n).1:Int),((Am a b n).2:Int)] 0 (((Am a b n).1+1:Nat):Int)=[(((Am a b n).1+1:Nat):Int),((Am a b n).2:Int)] from rfl,JF va vb (by omega) hjb,AB,hpos];rfl
 | false =>
  rw [g,if_neg (by simp)] at hpos;rw [g,if_neg (by simp)] at hx;have hi:=(List.getElem?_eq_some_iff.1 hx).1;rw [if_neg (by simp),BB,if_neg (by omega),Bl (show AA [((Am a b n).1:Int),((Am a b n).2:Int)]<=1048576 from (show 2<=1048576 by omega))];refine (J2 1 rfl (x:=((Am a b n).2:Int)) rfl).trans ((J2 1 rfl (x:=((Am a b n).2:Int)) rfl).trans ((Ei 1 rfl (x:=b) rfl).trans ((Ei 1 rfl (x:=((Am a b n).2:Int)) rfl).trans ((Ei _ rfl hx).trans ?_))));rw [Ac (by omega),show lset [((Am a b n).1:Int),((Am a b n).2:Int)] 1 (((Am a b n).2+1:Nat):Int)=[((Am a b n).1:Int),(((Am a b n).2+1:Nat):Int)] from rfl,JF va vb hia (by omega),AB,hpos];rfl
theorem aM {n:Nat} (h:n<=a.length+b.length):GK (LV a b n)=some (((a.length+b.length-n:Nat):Int),0):=by
 obtain ⟨hI,hs⟩:=Fh va vb (n:=n) h;have la:=va.len;have lb:=vb.len;have ha:=hI.ia;have hb:=hI.jb;unfold GK;rw [show LV a b n=Lb a b (Am a b n).1 (Am a b n).2 from rfl,NL va vb hI,AB,AN,if_pos rfl];refine BC (x:=(0,((2,((a.length+b.length-n:Nat):Int)),()))) (Cb (s1:=(1,(a.length:Int)-((Am a b n).1:Int))) (s2:=(2,((a.length+b.length-n:Nat):Int))) ?_ ?_ rfl) rfl
 ·refine (Nr 0 rfl rfl (x:=a) rfl).trans ((Ei 0 rfl (x:=((Am a b n).1:Int)) rfl).trans ?_);simp only [AW,AP];rw [show AI .i64 (0:Int) (a.length:Int)=(a.length:Int) by rw [D5 (by omega),Int.zero_add],CF (by omega)];rfl
 ·refine (Nr 1 rfl rfl (x:=b) rfl).trans ((Ei 1 rfl (x:=((Am a b n).2:Int)) rfl).trans ?_);simp only [AW,AP];show some (LR.nx ((2:Int),CE .i64 (AI .i64 ((a.length:Int)-((Am a b n).1:Int)) (b.length:Int)) ((Am a b n).2:Int)))=_;rw [D5 (by omega),CF (by omega),show (a.length:Int)-((Am a b n).1:Int)+(b.length:Int)-((Am a b n).2:Int)=((a.length+b.length-n:Nat):Int) by omega]
theorem Wj:Em [a,b]=some (A1 a b (a.length+b.length),(Hf a b (a.length+b.length),0)):=by
 have la:=va.len;have lb:=vb.len;unfold Em;rw [LY va vb,AB,AN,if_pos rfl];refine Eq.trans (b:=bd (loop _ ([],([],([],(0,([],[0,0])))))) _) rfl ?_
 refine BC (x:=(0,((Hf a b (a.length+b.length),(A1 a b (a.length+b.length),0)),())))
  (Ij (λk=>([],(A1 a b k,([],(0,(Hf a b k,[((Am a b k).1:Int),((Am a b k).2:Int)])))))) 0 (a.length+b.length) rfl (by omega) (by omega) (λk _ hk => ?_) ?_) rfl
 ·obtain ⟨x,hx,_⟩:=EH va vb (n:=k) hk;obtain ⟨hI,hs⟩:=Fh va vb (n:=k) (by omega);have hl1:(A1 a b k).length=k:=Ch va vb (by omega);have hl2:=NG a b k;simp only;rw [JE va vb hI.ia hI.jb,AB,if_neg (λhh:(Am a b k).1=a.length/\(Am a b k).2=b.length=>by omega)];rw [Gk va vb hx];unfold Nq at hx;rw [show Hf a b (k+1)=Hf a b k++[(Oy a b k:Int)] from rfl];unfold Oy;rw [show Am a b (k+1)=if Hs a b (Am a b k).1 (Am a b k).2=true then ((Am a b k).1+1,(Am a b k).2) else ((Am a b k).1,(Am a b k).2+1) from rfl]
  have g1 : ∀ {β:Type} (y:AD) (q:Unit->Option β),gd (BO (Ar (AA (A1 a b k)) (AA [y])) 1048576) q=q ():=λy q=>Bl (by simp only [Ar,AA,hl1,List.length_cons,List.length_nil];omega) q;have g2 : ∀ {β:Type} (y:Int) (q:Unit->Option β),gd (BO (Ar (AA (Hf a b k)) (AA [y])) 1048576) q=q ():=λy q=>Bl (by simp only [Ar,AA,hl2,List.length_cons,List.length_nil];omega) q;cases g:Hs a b (Am a b k).1 (Am a b k).2 with
  | true =>
   rw [g,if_pos rfl] at hx;have hi:=(List.getElem?_eq_some_iff.1 hx).1;simp only [if_true];rw [BB,if_neg (by omega)];refine (Ei 0 rfl (x:=a) rfl).trans ((J2 0 rfl (x:=((Am a b k).1:Int)) rfl).trans ((Ei _ rfl hx).trans ?_));rw [g1,g2];refine (J2 0 rfl (x:=((Am a b k).1:Int)) rfl).trans ((J2 0 rfl (x:=((Am a b k).1:Int)) rfl).trans ?_);rw [Ac (by omega)];rfl
  | false =>
   rw [g,if_neg (by simp)] at hx;have hi:=(List.getElem?_eq_some_iff.1 hx).1;simp only [Bool.false_eq_true,if_false];rw [BB,if_neg (by omega)];refine (Ei 1 rfl (x:=b) rfl).trans ((J2 1 rfl (x:=((Am a b k).2:Int)) rfl).trans ((Ei _ rfl hx).trans ?_));rw [g1,g2];refine (J2 1 rfl (x:=((Am a b k).2:Int)) rfl).trans ((J2 1 rfl (x:=((Am a b k).2:Int)) rfl).trans ?_);rw [Ac (by omega)];rfl
 ·obtain ⟨hI,hs⟩:=Fh va vb (n:=a.length+b.length) (Nat.le_refl _);simp only;rw [JE va vb hI.ia hI.jb,AB,if_pos (show (Am a b (a.length+b.length)).1=a.length/\(Am a b (a.length+b.length)).2=b.length by have:=hI.ia;have:=hI.jb;omega),BB,if_pos (by omega)]
end
theorem TL {s:B4} (h1:s.2.1.length<=32) (h2:s.1=false->s.2.1=[]):FQ s=some 0:=by
 unfold FQ;rw [Ao,if_neg (by simp only [AW,JA];omega),BW,FG];cases h:s.1 with
 | true=>rfl
 | false=>rw [if_neg (by simp),BW,Eh,if_pos (h2 h)]
theorem Uz {s:B4} {x:AD} (h1:s.2.1.length<=32) (h2:s.1=false->s.2.1=[]) (h3:kE x=0) (h4:s.1=true->DC x.1 s.2.1=false):GJ (s,x)=some (keep s x,((true,(x.1,s.2.2)),0)):=by
 unfold GJ keep;rw [TL h1 h2,AB,Bc,if_pos rfl,MQ,h3,AB,Bc,if_pos rfl];obtain ⟨s1,s2,s3⟩:=s;obtain ⟨x1,x2,x3,x4⟩:=x;simp only at h4 ⊢;cases s1 with
 | true =>
  have:=h4 rfl;simp only [AR,Gh,this,Bool.false_eq_true,if_false,AN,if_true,BW,Eh];by_cases he:x1=s2
  ·simp [he,Al]
  ·simp only [he,if_false,decide_false];cases s3<;>cases x3<;>rfl
 | false =>
  simp only [Al,AN,if_true,BW];cases s3<;>cases x3<;>rfl
theorem U0 {l:List AD} {bt:Bool} (hl:l.length<=20000) (hr:O1 (false,([],bt)) l):En (l,bt)=some (FM (false,([],bt)) l,(0,0)):=by
 unfold En Cw;simp only [AW,AP];rw [Ao,if_neg (by omega),AB]
 rw [DL (l:=l) (σ:=B4×List AD) (s:=(0,(0,([],([],(0,(false,([],bt)))))))) (λk st=>((0:Int),((k:Int),(([]:List AD),(st.2,((0:Int),st.1))))))
  (λm k st=>O1 st.1 m/\st.1.2.1.length<=32/\(st.1.1=false->st.1.2.1=[])/\st.2.length<=k/\k+m.length=l.length)
  (λm k st=>(1,((0,((l.length:Int),([],(st.2++FM st.1 m,(0,CP st.1 m))))),()))) ((false,([],bt)),[]) rfl (by omega) ⟨hr,by simp,λ_=>rfl,by simp,by simp⟩ ?_ ?_,AB]
 ·simp;rfl
 ·intro st _;simp only;rw [re,Al];simp [CP,FM]
 ·rintro k x m ⟨s,out⟩ hm hx hk ⟨⟨h1,h2,h3⟩,h4,h5,h6,h7⟩;simp only at h1 h2 h3 h4 h5 h6 ⊢;refine ⟨((true,(x.1,s.2.2)),out++if keep s x=true then [x] else []),?_,⟨h3,O2 h1,(λh=>by cases h),?_,by simp at h7;omega⟩,?_⟩
  ·rw [rl hk,AR,AE,AK hx,Uz h4 h5 h1 h2,AB,AN,if_pos rfl,FG,AE,AK hx];have hg : ∀ {β:Type} (k:Unit->Option β),gd (BO (Ar out.length [x].length) 1048576) k=k ():=λk=>Wf h6 (by simp at h7;omega) x k;rw [hg,Au hx (show l.length<=9223372036854775807 by omega)];cases hk2:keep s x<;>simp [B3]
  ·split<;>simp<;>omega
  ·simp only [CP,FM,List.append_assoc]
section
variable {a b:List AD} (va:VL a) (vb:VL b)
include va vb
theorem QW (bt:Bool) {n:Nat} (h:n<=a.length+b.length):C4 (A1 a b n,bt)=some (FM (s0 bt) (A1 a b n),CP (s0 bt) (A1 a b n)):=by
 have la:=va.len;have lb:=vb.len;have hml:(A1 a b n).length=n:=Ch va vb h;unfold C4;simp only [AW,AP];rw [U0 (by omega) (Hg va vb bt h),AB];unfold Cw;rw [AB,Ao,hml];cases n with
 | zero=>rw [if_neg (by omega)];rfl
 | succ m =>
  obtain ⟨x,hx,_⟩:=EH va vb (n:=m) (by omega);rw [if_pos (by omega),show CE .i64 ((m+1:Nat):Int) 1=(m:Int) by rw [CF (by omega)];omega,AE,AK (x:=x) (by rw [Ih va vb h (by omega)];exact hx),J3 va vb bt hx]
theorem TM (bt:Bool) {n:Nat} (h:n<=a.length+b.length):D8 (Dg a b bt n)=some (n:Int):=by
 obtain ⟨hI,hs⟩:=Fh va vb (n:=n) h;have la:=va.len;have lb:=vb.len;unfold D8;refine BC (x:=(0,(((n:Int),2),()))) (Cb (s1:=(((Am a b n).1:Int),1)) (s2:=((n:Int),2)) ?_ ?_ rfl) rfl
 ·refine (Nr 0 rfl rfl (x:=((Am a b n).1:Int)) rfl).trans ?_;show some (LR.nx (AI .i64 0 ((Am a b n).1:Int),(1:Int)))=_;rw [D5 (by omega),Int.zero_add]
 ·refine (Nr 1 rfl rfl (x:=((Am a b n).2:Int)) rfl).trans ?_;show some (LR.nx (AI .i64 ((Am a b n).1:Int) ((Am a b n).2:Int),(2:Int)))=_;rw [D5 (by omega),show ((Am a b n).1:Int)+((Am a b n).2:Int)=(n:Int) by omega]
theorem TN (bt:Bool) {n:Nat} (h:n<=a.length+b.length):FS (Dg a b bt n)=some 0:=by
 obtain ⟨hI,hs⟩:=Fh va vb (n:=n) h;have la:=va.len;have lb:=vb.len;have hfl:=Ii (s0 bt) (A1 a b n);have hml:(A1 a b n).length=n:=Ch va vb h;unfold FS;rw [show (Dg a b bt n).1=Lb a b (Am a b n).1 (Am a b n).2 from rfl,NL va vb hI,AB,AN,if_pos rfl,TM va vb bt h,AB];simp only [AW,AP];rw [show (Dg a b bt n).2.2.1=FM (s0 bt) (A1 a b n) from rfl,show (Dg a b bt n).2.2.2=(n:Int) from rfl,show (Dg a b bt n).2.1=CP (s0 bt) (A1 a b n) from rfl,Ao,if_neg (by omega),Ao,if_neg (by omega),AN,if_pos rfl];rw [show (Lb a b (Am a b n).1 (Am a b n).2).1=[a,b] from rfl,Wj va vb,AB,AE];rw [Bl (by rw [Ch va vb (Nat.le_refl _)];exact h),Bl (Nat.zero_le _)];rw [show ER (A1 a b (a.length+b.length)) 0 n=A1 a b n from by unfold ER;rw [List.drop_zero,Nat.sub_zero];exact HE va vb h,GD];rw [show (s0 bt).2.2=bt from rfl,QW va vb bt h,AB,Gv,GE _ _ (by omega),AB,Ci,Cp,if_neg (by simp),GD,HL,HL,JB];rfl
theorem LZ (bt:Bool) {n:Nat} (h:n<=a.length+b.length):BH (Dg a b bt n)=some (((a.length+b.length-n:Nat):Int),0):=by
 unfold BH;rw [TN va vb bt h,AB,AN,if_pos rfl,show (Dg a b bt n).1=LV a b n from rfl,aM va vb h];rfl
theorem PA (bt:Bool) {n:Nat} (h:n<=a.length+b.length) {k:Nat}:A5 (Dg a b bt n,(k:Int))=some (Dg a b bt (n+min k (a.length+b.length-n)),(((min k (a.length+b.length-n):Nat):Int),0)):=by
 have la:=va.len;have lb:=vb.len;obtain ⟨u,hu⟩ : ∃ u,u=min k (a.length+b.length-n):=⟨_,rfl⟩
 have him:Na (k:Int) ((a.length+b.length-n:Nat):Int)=(u:Int):=by
  unfold Na;split<;>omega
 rw [<- hu];unfold A5;rw [LZ va vb bt h,AB,Bc,if_pos rfl];simp only [him,AW,AP];rw [BB,if_neg (by omega),AN,if_pos rfl,TM va vb bt h,AB,D5 (by omega),Ao,if_neg (by omega)]
 refine BC (x:=(0,(((u:Int),((LV a b (n+u)).1,((LV a b (n+u)).2.1,((LV a b (n+u)).2.2.1,((LV a b (n+u)).2.2.2.1,((LV a b (n+u)).2.2.2.2,((Dg a b bt n).2.1.1,((Dg a b bt n).2.1.2.1,((Dg a b bt n).2.1.2.2,(Dg a b bt n).2.2))))))))),())))
  (Ij (λj=>((j:Int),((LV a b (n+j)).1,((LV a b (n+j)).2.1,((LV a b (n+j)).2.2.1,((LV a b (n+j)).2.2.2.1,((LV a b (n+j)).2.2.2.2,((Dg a b bt n).2.1.1,((Dg a b bt n).2.1.2.1,((Dg a b bt n).2.1.2.2,(Dg a b bt n).2.2)))))))))) 0 u rfl (by omega) (by omega) (λj _ hj => ?_) ?_) ?_
 ·obtain ⟨y,hy,_⟩:=EH va vb (n:=n+j) (by omega);show br (Ah (j:Int) (u:Int)) _ _=_;rw [BB,if_pos (by omega)];show bd (D9 (LV a b (n+j))) _=_;rw [aL va vb (by omega) hy,AB,Ac (by omega)];rfl
 ·show br (Ah (u:Int) (u:Int)) _ _=_;rw [BB,if_neg (by omega)]
 ·rw [show (Dg a b bt n).1.1=[a,b] from rfl,Wj va vb,AB,show (Dg a b bt n).2.2.2=(n:Int) from rfl,show AI .i64 (n:Int) (u:Int)=((n+u:Nat):Int) by rw [D5 (by omega)];omega,AE];rw [Bl (by rw [Ch va vb (Nat.le_refl _)];omega),Bl (Nat.zero_le _)];rw [show ER (A1 a b (a.length+b.length)) 0 (n+u)=A1 a b (n+u) from by unfold ER;rw [List.drop_zero,Nat.sub_zero];exact HE va vb (by omega),show (Dg a b bt n).2.1.2.2=bt from GD _ _,QW va vb bt (by omega),AB];rfl
end
end Go.Proofs.YthpkjfabdccpdaaGreat.Pl
namespace Go.Proofs.YthpkjfabdccpdaaGreat.Pl
open Go Go.Proofs.YthpkjfabdccpdaaGreat.Sv
theorem QX (B:Int) (i:Nat):CH B (i+1)=2*CH B i:=by
 unfold CH;rw [Int.pow_succ,<- Int.mul_assoc,Int.mul_comm]
theorem TP {B:Int} {i:Nat} (h1:1<=B) (h2:B<=16) (hi:i<=12):DM (B,(i:Int))=some (CH B i):=by
 unfold DM;refine BC (x:=(0,((CH B i,(i:Int)),()))) (Hd (λk=>(CH B k,(k:Int))) i (by simp [CH]) (by omega) (λk hk => ?_) ?_) rfl
 ·have h3:=TG h1 h2 (show k<=12 by omega);simp only;rw [BB,if_pos (by omega),gV (by omega),Ac (by omega),QX]
 ·simp only;rw [BB,if_neg (by omega)]
theorem gh (r:BL) (hl:r.2.length<=9223372036854775807):FN r=some (if r.1<1\/r.1>1000000 then (-1,7) else FH r.2):=by
 unfold FN;rw [BB,Ao,Gl _ hl,AB];by_cases h:r.1<1
 ·rw [if_pos h,if_pos (.inl h)]
 ·rw [if_neg h];by_cases h2:r.1>1000000
  ·rw [if_pos h2,if_pos (.inr h2)]
  ·rw [if_neg h2,if_neg (by omega)]
theorem aN (r:BL) (most:Int) (ids:List Int) (hl:r.2.length<=9223372036854775807) (hi:ids.length<=1048576):D7 (r,(most,ids))=some (kR ids most r):=by
 unfold D7 kR;rw [gh r (by omega),AB];simp only [AW,AP];by_cases h:r.1<1\/r.1>1000000
 ·rw [if_pos h,if_pos h];rfl
 rw [if_neg h,if_neg h,AN];by_cases h2:(FH r.2).2=0;rotate_left
 ·rw [if_neg h2,if_pos h2]
 rw [if_pos h2,if_neg (show ¬ (FH r.2).2≠0 by simp [h2]),Bc,Ao];by_cases h3:r.2.length=0
 ·rw [if_pos (by omega),if_pos h3]
 rw [if_neg (by omega),if_neg h3];by_cases h4:(r.2.length:Int)>most
 ·rw [if_pos h4,if_pos h4]
 rw [if_neg h4,if_neg h4]
 obtain ⟨q,q1,q2⟩:=HF (l:=ids) (σ:=Unit) (s:=((0:Int),(0:Int))) (λk _=>((k:Int),(0:Int))) (λm k _=>r.1∈ids<->r.1∈m) (λ(q:Nat×((Int×Int)×Unit))=>(q.1=1/\r.1 ∉ ids)\/(q.1=0/\r.1∈ids/\q.2.1.2=8))
  (f:=λs1=>br (Ah s1.1 (ids.length:Int)) (λ_=>AS s1.1 λk2=>ix ids k2 λx3=>br (BP x3 r.1) (λ_=>some (.dn ((0,((s1.1,8),()))))) λ_=>some (.nx (AI .i64 s1.1 1,s1.2))) λ_=>some (.dn ((1,(s1,())))))
  () rfl (by omega) Iff.rfl (λ_ h=>⟨_,by simp only;rw [re];rfl,.inl ⟨rfl,by simpa using h⟩⟩) (λk x m _ hd hx hk h=>by
   simp only;rw [rl hk,AR,AE,AK hx,Bc];by_cases e:x=r.1
   ·rw [if_pos e];exact .inr ⟨_,rfl,.inr ⟨rfl,by rw [h,e];simp,rfl⟩⟩
   ·rw [if_neg e];exact .inl ⟨(),by rw [Au hx (by omega)],by rw [h,List.mem_cons];exact ⟨λu=>u.elim (λe2=>absurd e2.symm e) id,.inr⟩⟩)
 refine BC q1 ?_;rw [CX];rcases q2 with ⟨q2,q3⟩ | ⟨q2,q3,q4⟩
 ·rw [if_neg (show ¬ q.1=0 by omega),if_neg q3]
 ·rw [if_pos q2,if_pos q3,q4]
theorem Rs (L:AJ) (hb:L.2.length<=1048576) (hr : ∀ rs∈L.2,rs.length<=1048576 /\ ∀ r∈rs,r.2.length<=9223372036854775807):CU L=some (EY L):=by
 unfold CU EY;simp only [AW,AP];rw [BB,Ao,Ao];by_cases hB1:L.1<1
 ·rw [if_pos hB1,if_pos (.inl hB1)]
 rw [if_neg hB1];by_cases hB2:L.1>16
 ·rw [if_pos hB2,if_pos (.inr hB2)]
 rw [if_neg hB2,if_neg (show ¬ (L.1<1\/L.1>16) by omega)];by_cases hl:(L.2.length:Int)>12
 ·rw [if_pos hl,if_pos (by omega)]
 rw [if_neg hl,if_neg (by omega)];have hl2:L.2.length<=12:=by omega
 obtain ⟨T,hT⟩ : ∃ T,T=Kf L.1 0 [] L.2:=⟨_,rfl⟩;rw [<- hT]
 have hlast:T=none->(br (B8 (L.2.length:Int) 0) (λ_=>AS (CE .i64 (L.2.length:Int) 1) λk15=>ix L.2 k15 λx16=>br (BP (x16.length:Int) 0) (λ_=>some ((CE .i64 (L.2.length:Int) 1,((0:Int),(6:Int))))) λ_=>some ((0,(0,0)))) λ_=>some ((0,(0,0))))=some (if L.2.getLast? = some [] then (((L.2.length-1:Nat):Int),(0,6)) else (0,(0,0))):=by
  intro _;rw [Ao];by_cases hn:L.2=[]
  ·rw [hn];rfl
  ·have hp:=List.length_pos_iff.2 hn;rw [if_pos (by omega),show CE .i64 (L.2.length:Int) 1=((L.2.length-1:Nat):Int) by rw [CF (by omega)];omega,AE,List.getLast?_eq_getElem?];have hx:L.2[L.2.length-1]? = some (L.2[L.2.length-1]'(by omega)):=by simp
   rw [AK hx,hx,Bc];by_cases he:L.2[L.2.length-1]'(by omega)=[]
   ·rw [he];simp
   ·rw [if_neg (by have:=List.length_pos_iff.2 he;omega),if_neg (by simp [he])]
 obtain ⟨r,q1,q2⟩:=HF (l:=L.2) (σ:=List Int) (s:=((0:Int),(([]:List Int),((0:Int),((0:Int),(0:Int)))))) (λi ids=>((0:Int),(ids,((0:Int),((0:Int),(i:Int))))))
  (λm i ids=>Kf L.1 i ids m=T/\ids.length<=2*i) (λ(r:Nat×((Int×(List Int×(Int×(Int×Int))))×Unit))=>(r.1=1/\T=none)\/(r.1=0/\Q1 T r.2.1.1 r.2.1.2.2.1 r.2.1.2.2.2.1/\T≠none))
  (f:=λ(s0:(Int×((List Int)×(Int×(Int×Int)))))=>br (Ah s0.2.2.2.2 (L.2.length:Int)) (λ_=>AS s0.2.2.2.2 λk1=>ix L.2 k1 λx2=>br (B8 (x2.length:Int) 2) (λ_=>some (.dn ((0,((0,(s0.2.1,(s0.2.2.2.2,(3,s0.2.2.2.2)))),()))))) λ_=>bd (loop (λ(s3:(Int×((List Int)×(Int×(Int×Int)))))=>br (Ah s3.2.2.2.2 (x2.length:Int)) (λ_=>AS s3.2.2.2.2 λk4=>ix x2 k4 λx5=>bd (DM (L.1,s0.2.2.2.2)) λr6=>bd (D7 ((x5,(r6,s3.2.1)))) λr7=>br (A7 r7 0) (λ_=>some (.dn ((0,((s3.2.2.2.2,(s3.2.1,(s0.2.2.2.2,(r7,s3.2.2.2.2)))),()))))) λ_=>AS s3.2.2.2.2 λk8=>ix x2 k8 λx9=>gd (BO (Ar s3.2.1.length [x9.1].length) 1048576) λ_=>some (.nx ((s3.1,(B3 s3.2.1 [x9.1],(s3.2.2.1,(s3.2.2.2.1,AI .i64 s3.2.2.2.2 1))))))) λ_=>some (.dn ((1,(s3,()))))) ((s0.1,(s0.2.1,(s0.2.2.1,(s0.2.2.2.1,0)))))) λr10=>br (neq r10.1 0) (λ_=>some (.dn ((0,((r10.2.1.1,(r10.2.1.2.1,(r10.2.1.2.2.1,(r10.2.1.2.2.2.1,s0.2.2.2.2)))),()))))) λ_=>some (.nx ((r10.2.1.1,(r10.2.1.2.1,(r10.2.1.2.2.1,(r10.2.1.2.2.2.1,AI .i64 s0.2.2.2.2 1))))))) λ_=>some (.dn ((1,(s0,())))))
  [] rfl (by omega) ⟨hT.symm,by simp⟩ (λids h=>by
   refine ⟨_,by simp only;rw [re];rfl,.inl ⟨rfl,?_⟩⟩;rw [<- h.1];rfl) (λi rs m ids hd hx hi h=>by
   obtain ⟨h,hids⟩:=h;simp only;obtain ⟨hrs1,hrs2⟩:=hr rs (List.mem_of_getElem? hx);rw [rl hi,AR,AE,AK hx,Ao];unfold Kf at h;by_cases h3:rs.length>2
   ·rw [if_pos (by omega)];rw [if_pos h3] at h;refine .inr ⟨_,rfl,.inr ⟨rfl,?_,by rw [<- h];simp⟩⟩;rw [<- h];exact ⟨rfl,rfl,rfl⟩
   rw [if_neg (by omega)];rw [if_neg h3] at h;obtain ⟨U,hU⟩ : ∃ U,U=Ke (CH L.1 i) 0 ids rs:=⟨_,rfl⟩;rw [<- hU] at h
   obtain ⟨r,q1,q2⟩:=HF (l:=rs) (σ:=Unit) (s:=((0:Int),(ids,((0:Int),((0:Int),(0:Int)))))) (λk _=>((0:Int),(ids++(rs.take k).map (·.1),((0:Int),((0:Int),(k:Int))))))
    (λm k _=>Ke (CH L.1 i) k (ids++(rs.take k).map (·.1)) m=U) (λ(r:Nat×((Int×(List Int×(Int×(Int×Int))))×Unit))=>(r.1=1/\U=none/\r.2.1=(0,(ids++rs.map (·.1),(0,(0,(rs.length:Int))))))\/(r.1=0 /\ ∃ k e,U=some (k,e)/\r.2.1.1=(k:Int)/\r.2.1.2.2.1=(i:Int)/\r.2.1.2.2.2.1=e))
    (f:=λ(s3:(Int×((List Int)×(Int×(Int×Int)))))=>br (Ah s3.2.2.2.2 (rs.length:Int)) (λ_=>AS s3.2.2.2.2 λk4=>ix rs k4 λx5=>bd (DM (L.1,(i:Int))) λr6=>bd (D7 ((x5,(r6,s3.2.1)))) λr7=>br (A7 r7 0) (λ_=>some (.dn ((0,((s3.2.2.2.2,(s3.2.1,((i:Int),(r7,s3.2.2.2.2)))),()))))) λ_=>AS s3.2.2.2.2 λk8=>ix rs k8 λx9=>gd (BO (Ar s3.2.1.length [x9.1].length) 1048576) λ_=>some (.nx ((s3.1,(B3 s3.2.1 [x9.1],(s3.2.2.1,(s3.2.2.2.1,AI .i64 s3.2.2.2.2 1))))))) λ_=>some (.dn ((1,(s3,())))))
    () (by simp) (by omega) (by simp [hU]) (λ_ h=>by
     refine ⟨_,by simp only;rw [re];rfl,.inl ⟨rfl,by rw [<- h];rfl,by simp⟩⟩) (λk r m _ hd hx hk h=>by
     simp only;have hr2:=hrs2 r (List.mem_of_getElem? hx);have htk:(rs.take (k+1)).map (·.1)=(rs.take k).map (·.1)++[r.1]:=by rw [List.take_add_one,hx];simp
     have hlen:(ids++(rs.take k).map (·.1)).length<=100:=by simp;omega
     rw [rl hk,AR,AE,AK hx,TP (by omega) (by omega) (by omega),AB,aN _ _ _ (by omega) (by omega),AB,AN];unfold Ke at h;by_cases h0:kR (ids++(rs.take k).map (·.1)) (CH L.1 i) r=0
     ·rw [if_neg (λhh:kR (ids++(rs.take k).map (·.1)) (CH L.1 i) r≠0=>hh h0)] at h;rw [if_pos h0,AE,AK hx,Bl (by simp only [Ar,List.length_cons,List.length_nil];omega)];refine .inl ⟨(),?_,?_⟩
      ·rw [Au hx (by omega),htk,<- List.append_assoc];rfl
      ·rw [htk,<- List.append_assoc];exact h
     ·rw [if_pos h0] at h;rw [if_neg h0]
      exact .inr ⟨_,rfl,.inr ⟨rfl,_,_,h.symm,rfl,rfl,rfl⟩⟩)
   rw [q1,AB,CX];rcases q2 with ⟨q2,q3,q4⟩ | ⟨q2,k,e,q3,q4,q5,q6⟩
   ·rw [if_neg (show ¬ r.1=0 by omega),q4,Au hx (by omega)];rw [q3] at h;exact .inl ⟨ids++rs.map (·.1),rfl,h,by simp;omega⟩
   ·rw [if_pos q2];rw [q3] at h;refine .inr ⟨_,rfl,.inr ⟨rfl,?_,by rw [<- h];simp⟩⟩;rw [<- h]
    exact ⟨q4,q5,q6⟩)
 refine BC q1 ?_;rw [CX];rcases q2 with ⟨q2,q3⟩ | ⟨q2,q3,q4⟩
 ·rw [if_neg (show ¬ r.1=0 by omega),q3];exact hlast q3
 ·rw [if_pos q2];cases hTc:T with
  | none=>exact absurd hTc q4
  | some t =>
   obtain ⟨i,k,e⟩:=t;rw [hTc] at q3;rw [q3.1,q3.2.1,q3.2.2]
def Ff (ls:List (List BL)):List BL:=ls.flatMap List.reverse
theorem VLev.small {L:AJ} (v:VLev L):L.2.length<=1048576 /\ ∀ rs∈L.2,rs.length<=1048576 /\ ∀ r∈rs,r.2.length<=9223372036854775807:=by
 refine ⟨by have:=v.len;omega,λrs hrs => ?_⟩;obtain ⟨i,hi⟩:=List.getElem?_of_mem hrs;obtain ⟨h1,h2⟩:=v.lev i rs hi;exact ⟨by omega,λr hr=>by have:=(h2 r hr).vl.len;omega⟩
theorem Nj : ∀ (ls:List (List BL)),(∀ rs∈ls,rs.length<=2)->(Ff ls).length<=2*ls.length
 | [],_=>by simp [Ff]
 | rs::ls,h=>by
  have h1:=Nj ls λr hr=>h r (by simp [hr]);have h2:=h rs (by simp);unfold Ff at h1 ⊢;rw [List.flatMap_cons,List.length_append,List.length_reverse,List.length_cons];omega
theorem VLev.two {L:AJ} (v:VLev L) : ∀ rs∈L.2,rs.length<=2:=λrs hrs=>by
 obtain ⟨i,hi⟩:=List.getElem?_of_mem hrs;exact (v.lev i rs hi).1
theorem U1 {L:AJ} (v:VLev L):El L=some (Ff L.2,0):=by
 obtain ⟨hb,hr⟩:=v.small;have hl:=v.len;unfold El;simp only [AW,AP];rw [Rs _ hb hr,GF v,AB,AN,if_pos rfl]
 rw [DL (l:=L.2) (σ:=List BL) (s:=(([]:List BL),(0:Int))) (λi m=>(m,(i:Int))) (λls i m=>(∀ rs∈ls,rs.length<=2)/\m.length<=2*i) (λls _ m=>(0,((m++Ff ls,(L.2.length:Int)),()))) [] rfl (by omega) ⟨v.two,by simp⟩ (λm _=>by
  simp only;rw [re,Al];simp [Ff]) (λi rs ls m hd hx hi h=>by
   refine ⟨m++rs.reverse,?_,⟨λr hr=>h.1 r (by simp [hr]),by have:=h.1 rs (by simp);simp;omega⟩,by simp [Ff]⟩;have h2:=h.1 rs (by simp);have hm:m.length<=24:=by have:=h.2;omega
   simp only;rw [rl hi,AR,AE,AK hx];have gg : ∀ {β:Type} (z:List BL) (x:BL) (k:Unit->Option β),z.length<=100->gd (BO (Ar z.length [x].length) 1048576) k=k ():=λz x k hz=>Bl (by simp only [Ar,List.length_cons,List.length_nil];omega) k
   match rs,h2,hx with
   | [],_,hx =>
    refine BC (x:=(0,((m,-1),()))) (CT (n:=1) (by omega) (BN rfl)) ?_;rw [Au hx (by omega)];simp
   | [r0],_,hx =>
    refine BC (x:=(0,((m++[r0],-1),()))) (CT (n:=2) (by omega) ((BF (s':=(m++[r0],-1)) ?_).trans (BN rfl))) ?_
    ·show br (G5 (0:Int) 0) _ _=_;rw [Dz,if_pos (by omega),AE,AK hx];refine (Ei 0 rfl (x:=r0) rfl).trans ?_;rw [gg m _ _ (by omega)];rfl
    ·rw [Au hx (by omega)];simp
   | [r0,r1],_,hx =>
    refine BC (x:=(0,((m++[r1]++[r0],-1),()))) (CT (n:=3) (by omega) ((BF (s':=(m++[r1],0)) ?_).trans ((BF (s':=(m++[r1]++[r0],-1)) ?_).trans (BN rfl)))) ?_
    ·show br (G5 (1:Int) 0) _ _=_;rw [Dz,if_pos (by omega),AE,AK hx];refine (Ei 1 rfl (x:=r1) rfl).trans ?_;rw [gg m _ _ (by omega)];rfl
    ·show br (G5 (0:Int) 0) _ _=_;rw [Dz,if_pos (by omega),AE,AK hx];refine (Ei 0 rfl (x:=r0) rfl).trans ?_;rw [gg (m++[r1]) _ _ (by simp;omega)];rfl
    ·rw [Au hx (by omega)];simp),AB]
 simp
theorem GM (a b:Int):KP a b=max a b:=by unfold KP;split<;>omega
theorem FT : ∀ (l:List BL) (m:Int),0<=m->l.foldl (λm r=>KP m r.1) m=max m (l.foldl (λm r=>KP m r.1) 0)
 | [],m,h=>by simp;omega
 | r::l,m,h=>by
  have h1:=FT l (KP m r.1) (by rw [GM];omega);have h2:=FT l (KP 0 r.1) (by rw [GM];omega);simp only [List.foldl_cons];rw [h1,h2,GM,GM];omega
theorem Pm (l:List BL) (m:Int) (h:0<=m):l.reverse.foldl (λm r=>KP m r.1) m=l.foldl (λm r=>KP m r.1) m:=by
 induction l generalizing m with
 | nil=>rfl
 | cons r l ih =>
  rw [List.reverse_cons,List.foldl_append,ih m h,List.foldl_cons];simp only [List.foldl_cons,List.foldl_nil];rw [FT l m h,FT l (KP m r.1) (by rw [GM];omega),GM,GM];omega
theorem Rt (l:List BL) (m:Int) (h:0<=m):0<=l.foldl (λm r=>KP m r.1) m:=by
 rw [FT l m h];omega
theorem JQ : ∀ (ls:List (List BL)) (m:Int),0<=m->(Ff ls).foldl (λm r=>KP m r.1) m=ls.foldl (λm rs=>rs.foldl (λm r=>KP m r.1) m) m
 | [],m,_=>rfl
 | rs::ls,m,h=>by
  have h1:=JQ ls (rs.foldl (λm r=>KP m r.1) m) (Rt _ _ h);unfold Ff at h1 ⊢;rw [List.flatMap_cons,List.foldl_append,Pm rs m h,List.foldl_cons,h1]
theorem Ru {L:AJ} (v:VLev L):CO L=some (E3 L.2):=by
 have hl:=v.len;have hn:=Nj L.2 v.two;unfold CO;simp only [AW,AP];rw [U1 v,AB]
 rw [DL (l:=Ff L.2) (σ:=Int) (s:=((0:Int),(0:Int))) (λi m=>(m,(i:Int))) (λ_ _ _=>True) (λl _ m=>(0,((l.foldl (λm r=>KP m r.1) m,((Ff L.2).length:Int)),()))) 0 rfl (by omega) trivial (λm _=>by
  simp only;rw [re,Al];rfl) (λk r l m hd hx hk _=>⟨KP m r.1,by
   simp only
   rw [rl hk,AR,AE,AK hx,Au hx (by omega)],trivial,rfl⟩),AB]
 rw [JQ _ _ (by omega)];rfl
theorem N9 {L:AJ} (hl:L.2.length<=1000):Bj L=some (Az 0 L.2):=by
 unfold Bj;simp only [AW,AP]
 rw [DL (l:=L.2) (σ:=List Int) (s:=(([]:List Int),(0:Int))) (λi m=>(m,(i:Int))) (λls i m=>m++Az i ls=Az 0 L.2) (λ_ _ _=>(0,((Az 0 L.2,(L.2.length:Int)),()))) [] rfl (by omega) rfl (λm h=>by
  simp only;rw [re,Al,<- h];simp [Az]) (λi rs ls m hd hx hi h=>by
   refine ⟨m++(if rs.length=2 then [(i:Int)] else []),?_,?_,rfl⟩
   ·simp only;rw [rl hi,AR,AE,AK hx,Bc]
    have hm:m.length<=1000:=by
     have h4:=congrArg List.length h;have h5:=Fo L.2 0;rw [List.length_append] at h4;omega
    by_cases h4:rs.length=2
    ·rw [if_pos (by omega),if_pos h4,Bl (by simp only [Ar,List.length_cons,List.length_nil];omega),Au hx (by omega)];rfl
    ·rw [if_neg (by omega),if_neg h4,List.append_nil,Au hx (by omega)]
   ·rw [List.append_assoc];exact h),AB]
theorem i6 {L:AJ} (v:VLev L) (k:Int):Hi (L,k)=some (if k<0\/k>=12 then 7 else 0):=by
 obtain ⟨hb,hr⟩:=v.small;unfold Hi;rw [Rs _ hb hr,GF v,AB,Bc,if_pos rfl,BB,Dz];by_cases h1:k<0
 ·rw [if_pos h1,if_pos (.inl h1)]
 ·rw [if_neg h1];by_cases h2:k>=12
  ·rw [if_pos h2,if_pos (.inr h2)]
  ·rw [if_neg h2,if_neg (by omega)]
theorem PB {L:AJ} (v:VLev L) {n:Nat} (hn:n<L.2.length):BJ (L,(n:Int))=some (decide ((n:Int)=(L.2.length:Int)-1)):=by
 have hl:=v.len;unfold BJ Gt;simp only [AW,AP];rw [i6 v,AB,if_neg (by omega),AN,if_pos rfl,AB,Ac (by omega)];unfold B8;rw [Ci];by_cases h:(n:Int)=(L.2.length:Int)-1
 ·simp [h]
 ·simp [h];omega
theorem U2 {a b:List AD} (va:VL a) (vb:VL b) (bt:Bool):FP ([a,b],bt)=some (Dg a b bt 0,(0,0)):=by
 unfold FP Gu Cw;rw [LY va vb,AB,AN,if_pos rfl];refine Eq.trans (b:=bd (bd (Cv ([a,b],[((0:Nat):Int),((0:Nat):Int)])) _) _) rfl ?_;rw [JF va vb (Nat.zero_le _) (Nat.zero_le _)];rfl
theorem QY {L:AJ} {n:Nat} {r0 r1:BL} (bt:Bool) (h:L.2[n]? = some [r0,r1]) (v0:VL r0.2) (v1:VL r1.2):Ap (L,((n:Int),bt))=some ((n:Int),Dg r1.2 r0.2 bt 0):=by
 have hn:=(List.getElem?_eq_some_iff.1 h).1;unfold Ap;simp only [AW,AP];rw [Dz,if_neg (by omega),AE,AK h,AK (x:=r1) rfl,AK (x:=r0) rfl,U2 v1 v0];rfl
theorem gi {L:AJ} {n:Nat} {r0 r1:BL} {j:Job} (h:L.2[n]? = some [r0,r1]) (v0:VL r0.2) (v1:VL r1.2) {β:Type} (A B:Option β) :
  (bd (Ap (L,((n:Int),j.2.2.1.2.2))) λr16=>bd (BH r16.2) λr17=>br (Ah j.2.2.2.2 0) (λ_=>A) λ_=>br (B8 j.2.2.2.2 r17.1) (λ_=>A) λ_=>bd (A5 (r16.2,j.2.2.2.2)) λr18=>bd (BS (r18.1,j.2)) λr19=>br (Ab r19) (λ_=>A) λ_=>B)
  = if j.2.2.2.2<0\/j.2.2.2.2>((r1.2.length+r0.2.length:Nat):Int) then A else if Dg r1.2 r0.2 j.2.2.1.2.2 j.2.2.2.2.toNat=j.2 then B else A:=by
 rw [QY _ h v0 v1,AB,LZ v1 v0 _ (Nat.zero_le _),AB,BB,Ao,Nat.sub_zero];by_cases h1:j.2.2.2.2<0
 ·rw [if_pos h1,if_pos (.inl h1)]
 rw [if_neg h1];by_cases h2:j.2.2.2.2>((r1.2.length+r0.2.length:Nat):Int)
 ·rw [if_pos h2,if_pos (.inr h2)]
 rw [if_neg h2,if_neg (show ¬ (j.2.2.2.2<0\/j.2.2.2.2>((r1.2.length+r0.2.length:Nat):Int)) by omega)];obtain ⟨k,hk⟩ : ∃ k:Nat,j.2.2.2.2=(k:Int):=⟨j.2.2.2.2.toNat,by omega⟩;rw [hk,PA v1 v0 _ (Nat.zero_le _),AB,Nat.sub_zero,Nat.zero_add,Nat.min_eq_left (by omega),Int.toNat_natCast];obtain ⟨s1,s2,s3,s4,s5,s6⟩:=NK v1 v0 j.2.2.1.2.2 (n:=k) (by omega);rw [O9 _ _ s1 s2 s3 s4 s5 s6,AB,Ci,Cp];by_cases he:Dg r1.2 r0.2 j.2.2.1.2.2 k=j.2
 ·rw [if_neg (by simp [he]),if_pos he]
 ·rw [if_pos he,if_neg he]
end Go.Proofs.YthpkjfabdccpdaaGreat.Pl
namespace Go.Proofs.YthpkjfabdccpdaaGreat.Pl
open Go Go.Proofs.YthpkjfabdccpdaaGreat.Sv
theorem TQ (s:AT) (hb:s.1.2.length<=1048576) (hr : ∀ rs∈s.1.2,rs.length<=1048576 /\ ∀ r∈rs,r.2.length<=9223372036854775807) (hj:s.2.1.length<=1048576):Db s=some (AV s):=by
 unfold Db AV;simp only [AW,AP];rw [Rs _ hb hr,AB,Bc];by_cases h0:(EY s.1).2.2=0;rotate_left
 ·rw [if_neg h0,if_pos h0,Bc,if_neg h0,AN,if_neg h0]
 rw [if_pos h0,if_neg (show ¬ (EY s.1).2.2≠0 by simp [h0]),BB,Ao];have v:=H7.1 h0;by_cases h1:s.2.2<1
 ·rw [if_pos h1,if_pos (.inl h1)]
 rw [if_neg h1];by_cases h2:s.2.2>1000001
 ·rw [if_pos h2,if_pos (.inr h2)]
 rw [if_neg h2,if_neg (show ¬ (s.2.2<1\/s.2.2>1000001) by omega),Bc,if_pos h0,Ru v,AB,WZ];by_cases h3:s.2.2<=E3 s.1.2
 ·rw [if_pos h3,if_pos h3]
 rw [if_neg h3,if_neg h3,AN,if_pos h0,N9 (by have:=v.len;omega),AB];obtain ⟨due,hdue⟩ : ∃ due,due=Az 0 s.1.2:=⟨_,rfl⟩;have hdl:due.length<=12:=by have:=Fo s.1.2 0;have:=v.len;rw [hdue];omega
 rw [<- hdue];obtain ⟨T,hT⟩ : ∃ T,T=Fi s.1 due 0 s.2.1:=⟨_,rfl⟩;rw [<- hT]
 obtain ⟨r,q1,q2⟩:=HF (l:=s.2.1) (σ:=Unit) (λi _=>((0:Int),((0:Int),(i:Int)))) (λjs i _=>Fi s.1 due i js=T) (λ(r:Nat×((Int×(Int×Int))×Unit))=>(T=none/\r.1=1)\/(∃ i:Nat,T=some i/\r.1=0/\r.2.1.1=6/\r.2.1.2.1=(i:Int)))
  (f:=λs6=>br (Ah s6.2.2 (s.2.1.length:Int)) (λ_=>AS s6.2.2 λk7=>ix s.2.1 k7 λx8=>br (G5 s6.2.2 (due.length:Int)) (λ_=>some (.dn ((0,((6,(s6.2.2,s6.2.2)),()))))) λ_=>AS s6.2.2 λk9=>ix due k9 λx10=>br (A7 x8.1 x10) (λ_=>some (.dn ((0,((6,(s6.2.2,s6.2.2)),()))))) λ_=>br x8.2.2.1.2.2 (λ_=>bd (BJ (s.1,x8.1)) λr11=>br (Ab r11) (λ_=>some (.dn ((0,((6,(s6.2.2,s6.2.2)),()))))) λ_=>bd (Ap ((s.1,(x8.1,x8.2.2.1.2.2)))) λr12=>bd (BH r12.2) λr13=>br (Ah x8.2.2.2.2 0) (λ_=>some (.dn ((0,((6,(s6.2.2,s6.2.2)),()))))) λ_=>br (B8 x8.2.2.2.2 r13.1) (λ_=>some (.dn ((0,((6,(s6.2.2,s6.2.2)),()))))) λ_=>bd (A5 (r12.2,x8.2.2.2.2)) λr14=>bd (BS (r14.1,x8.2)) λr15=>br (Ab r15) (λ_=>some (.dn ((0,((6,(s6.2.2,s6.2.2)),()))))) λ_=>some (.nx ((s6.1,(s6.2.1,AI .i64 s6.2.2 1))))) λ_=>bd (Ap ((s.1,(x8.1,x8.2.2.1.2.2)))) λr16=>bd (BH r16.2) λr17=>br (Ah x8.2.2.2.2 0) (λ_=>some (.dn ((0,((6,(s6.2.2,s6.2.2)),()))))) λ_=>br (B8 x8.2.2.2.2 r17.1) (λ_=>some (.dn ((0,((6,(s6.2.2,s6.2.2)),()))))) λ_=>bd (A5 (r16.2,x8.2.2.2.2)) λr18=>bd (BS (r18.1,x8.2)) λr19=>br (Ab r19) (λ_=>some (.dn ((0,((6,(s6.2.2,s6.2.2)),()))))) λ_=>some (.nx ((s6.1,(s6.2.1,AI .i64 s6.2.2 1))))) λ_=>some (.dn ((1,(s6,())))))
  (s:=(0,(0,0))) () rfl (by omega) hT.symm (λ_ h=>by
   refine ⟨_,by simp only;rw [re];rfl,.inl ⟨by rw [<- h];rfl,rfl⟩⟩) (λi j js _ hd hx hi h=>by
   simp only;rw [rl hi,AR,AE,AK hx,Dz];unfold Fi at h
   have hbad:Kg s.1 due i j=true -> ∃ r:Nat×((Int×(Int×Int))×Unit),(some (LR.dn ((0,((6,((i:Int),(i:Int))),()))):LR (Int×(Int×Int)) _))=some (.dn r)/\((T=none/\r.1=1)\/(∃ i:Nat,T=some i/\r.1=0/\r.2.1.1=6/\r.2.1.2.1=(i:Int))):=λhb=>by
    rw [if_pos hb] at h;exact ⟨_,rfl,.inr ⟨i,h.symm,rfl,rfl,rfl⟩⟩
   have hgood:Kg s.1 due i j=false -> ∃ st':Unit,(some (LR.nx ((0:Int),((0:Int),AI .i64 (i:Int) 1))):Option (LR _ (Nat×((Int×(Int×Int))×Unit))))=some (.nx ((0:Int),((0:Int),((i+1:Nat):Int))))/\Fi s.1 due (i+1) js=T:=λhg=>by
    rw [if_neg (by simp [hg])] at h;exact ⟨(),by rw [Au hx (by omega)],h⟩
   by_cases h1:(i:Int)>=(due.length:Int)
   ·rw [if_pos h1];exact .inr (hbad (by unfold Kg;rw [List.getElem?_eq_none (by omega)]))
   rw [if_neg h1,AE];have hd2:due[i]? = some (due[i]'(by omega)):=by simp
   rw [AK hd2,AN];obtain ⟨n,hn,r0,r1,hlv⟩:=HQ (ls:=s.1.2) (i:=0) (k:=i) (d:=due[i]'(by omega)) (by rw [<- hdue];exact hd2);rw [Nat.zero_add] at hn
   have hE:Kg s.1 due i j=(if j.1≠(due[i]'(by omega)) then true else if j.2.2.1.2.2=true/\j.1≠(s.1.2.length:Int)-1 then true else if j.2.2.2.2<0\/j.2.2.2.2>((r1.2.length+r0.2.length:Nat):Int) then true else decide (Dg r1.2 r0.2 j.2.2.1.2.2 j.2.2.2.2.toNat≠j.2)):=by
    unfold Kg;rw [hd2];simp only;rw [hn,Int.toNat_natCast,hlv]
   by_cases h2:j.1=(due[i]'(by omega));rotate_left
   ·rw [if_neg h2];exact .inr (hbad (by rw [hE,if_pos h2]))
   rw [if_pos h2];rw [if_neg (by simp [h2])] at hE;have hjn:j.1=(n:Int):=by rw [h2,hn]
   have hv:=(v.lev n _ hlv).2;have v0:=(hv r0 (by simp)).vl;have v1:=(hv r1 (by simp)).vl;have hnl:=(List.getElem?_eq_some_iff.1 hlv).1;rw [hjn,PB v hnl,AB,Ci,Cp,gi hlv v0 v1,FG];rw [hjn] at hE;by_cases h3:j.2.2.1.2.2=true/\(n:Int)≠(s.1.2.length:Int)-1
   ·rw [if_pos h3.1,if_pos h3.2];exact .inr (hbad (by rw [hE,if_pos h3]))
   rw [if_neg h3] at hE
   have h4 : ∀ {γ:Type} (A B:γ),(if j.2.2.1.2.2=true then if ¬(n:Int)=(s.1.2.length:Int)-1 then A else B else B)=B:=by
    intro γ A B;by_cases h5:j.2.2.1.2.2=true
    ·rw [if_pos h5,if_neg (λh6=>h3 ⟨h5,h6⟩)]
    ·rw [if_neg h5]
   rw [h4];by_cases h5:j.2.2.2.2<0\/j.2.2.2.2>((r1.2.length+r0.2.length:Nat):Int)
   ·rw [if_pos h5];exact .inr (hbad (by rw [hE,if_pos h5]))
   rw [if_neg h5];rw [if_neg h5] at hE;by_cases h6:Dg r1.2 r0.2 j.2.2.1.2.2 j.2.2.2.2.toNat=j.2
   ·rw [if_pos h6];exact .inl (hgood (by rw [hE];simp [h6]))
   ·rw [if_neg h6]
    exact .inr (hbad (by rw [hE];simp [h6])))
 refine BC q1 ?_;rw [CX];rcases q2 with ⟨q2,q3⟩ | ⟨i,q2,q3,q4,q5⟩
 ·rw [if_neg (show ¬ r.1=0 by omega),q2,BB];simp only;by_cases h7:s.2.1.length<due.length
  ·rw [if_pos (by omega),if_pos h7]
  ·rw [if_neg (by omega),if_neg h7]
 ·rw [if_pos q3,q2,q4,q5]
end Go.Proofs.YthpkjfabdccpdaaGreat.Pl
