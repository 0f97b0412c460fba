/- Functions of the program and of the specification as plain functions, and laws about them. No condition. -/
import Derived.Test.YthpkjfabdccpdaaGreatPs3
set_option linter.all false
namespace Go.Proofs.YthpkjfabdccpdaaGreat.Pl
open Go Go.Proofs.YthpkjfabdccpdaaGreat.Sv
set_option linter.unusedVariables false
abbrev AD:=((List UInt8)×((List UInt8)×(Bool×Int)))
abbrev BH:=(Int×(List AD))
abbrev AK:=(Int×(List (List BH)))
abbrev AO:=((List UInt8)×Bool)
abbrev D9:=((List AO)×((List Int)×Int))
abbrev AP:=((List (List AD))×((List Int)×D9))
abbrev Bt:=(Bool×((List UInt8)×Bool))
abbrev Hy:=(AP×(Bt×((List AD)×Int)))
abbrev Job:=(Int×Hy)
abbrev AT:=(AK×((List Job)×Int))
def Ey (x:(List UInt8)):Option Int :=
 br (CF (Aa (E8 x)) 32) (λ_=>some 3) λ_=>some 0
def CK (x:AD):Option Int :=
 bd (Ey x.1) λr0=>br (BC r0 0) (λ_=>some 3) λ_=>br (CF (Aa (E8 x.2.1)) 64) (λ_=>some 3) λ_=>br x.2.2.1 (λ_=>br (AX (seq x.2.1 [])) (λ_=>some 6) λ_=>br (Am x.2.2.2 1) (λ_=>some 7) λ_=>br (CF x.2.2.2 1000000000) (λ_=>some 7) λ_=>some 0) λ_=>br (Am x.2.2.2 1) (λ_=>some 7) λ_=>br (CF x.2.2.2 1000000000) (λ_=>some 7) λ_=>some 0
def BN (x:(List AD)):Option (Int×Int) :=
 br (CF (Aa (AA x)) 5000) (λ_=>some (((-1),3))) λ_=>bd (loop (λs0=>br (Am s0.2.2 (Aa (AA x))) (λ_=>AU s0.2.2 λk1=>ix x k1 λx2=>bd (CK x2) λr3=>br (BC r3 0) (λ_=>some (.dn ((0,((r3,(s0.2.2,s0.2.2)),()))))) λ_=>br (CF s0.2.2 0) (λ_=>AU (B9 .i64 s0.2.2 1) λk4=>ix x k4 λx5=>br (AX (CT x5.1 x2.1)) (λ_=>some (.dn ((0,((6,(s0.2.2,s0.2.2)),()))))) λ_=>some (.nx ((s0.1,(s0.2.1,AH .i64 s0.2.2 1))))) λ_=>some (.nx ((s0.1,(s0.2.1,AH .i64 s0.2.2 1))))) λ_=>some (.dn ((1,(s0,()))))) ((0,(0,0)))) λr6=>br (neq r6.1 0) (λ_=>some (r6.2.1.2.1,r6.2.1.1)) λ_=>some (0,0)
def F3 (x:BH):Option (Int×Int) :=
 br (Am x.1 1) (λ_=>some (((-1),7))) λ_=>br (CF x.1 1000000) (λ_=>some (((-1),7))) λ_=>bd (BN x.2) λr0=>some r0
def C0 (x:(BH×Int)):Option Int :=
 bd (F3 x.1) λr0=>br (BC r0.2 0) (λ_=>some r0.2) λ_=>br (Ba (Aa (AA x.1.2)) 0) (λ_=>some 4) λ_=>br (CF (Aa (AA x.1.2)) x.2) (λ_=>some 3) λ_=>some 0
def C9 (x:AK):Option (Int×(Int×Int)) :=
 br (Am x.1 1) (λ_=>some ((0,(0,7)))) λ_=>br (CF x.1 16) (λ_=>some ((0,(0,7)))) λ_=>br (CF (Aa (AA x.2)) 12) (λ_=>some ((0,(0,3)))) λ_=>bd (loop (λs0=>br (Am s0.2.2.2.1 (Aa (AA x.2))) (λ_=>AU s0.2.2.2.1 λk1=>ix x.2 k1 λx2=>br (CF (Aa (AA x2)) 2) (λ_=>some (.dn ((0,((0,(s0.2.2.2.1,(3,s0.2.2.2))),()))))) λ_=>bd (loop (λs3=>br (Am s3.2.1 (Aa (AA x2))) (λ_=>AU s3.2.1 λk4=>ix x2 k4 λx5=>gd (Hj s0.2.2.2.1 0) λ_=>bd (C0 (x5,SX .i64 x.1 s0.2.2.2.1)) λr6=>br (Ba r6 0) (λ_=>br (Pc (IN ((λa7=>(λa8=>Ba a7 a8))) s3.2.2.2 x5.1) false) (λ_=>some (.dn ((0,((s3.2.1,(s3.2.1,(8,s3.2.2.2))),()))))) λ_=>br (BC r6 0) (λ_=>some (.dn ((0,((s3.2.1,(s3.2.1,(r6,s3.2.2.2))),()))))) λ_=>some (.nx ((s3.2.1,(AH .i64 s3.2.1 1,(r6,Hg ((λa9=>(λa10=>Ba a9 a10))) s3.2.2.2 x5.1 true)))))) λ_=>br (BC r6 0) (λ_=>some (.dn ((0,((s3.2.1,(s3.2.1,(r6,s3.2.2.2))),()))))) λ_=>some (.nx ((s3.2.1,(AH .i64 s3.2.1 1,(r6,Hg ((λa11=>(λa12=>Ba a11 a12))) s3.2.2.2 x5.1 true)))))) λ_=>some (.dn ((1,(s3,()))))) ((0,(0,(s0.2.2.1,s0.2.2.2.2))))) λr13=>br (neq r13.1 0) (λ_=>some (.dn ((0,((r13.2.1.1,(s0.2.2.2.1,(r13.2.1.2.2.1,(s0.2.2.2.1,r13.2.1.2.2.2)))),()))))) λ_=>some (.nx ((r13.2.1.1,(s0.2.2.2.1,(r13.2.1.2.2.1,(AH .i64 s0.2.2.2.1 1,r13.2.1.2.2.2))))))) λ_=>some (.dn ((0,(s0,()))))) ((0,(0,(0,(0,[])))))) λr14=>br (BC r14.2.1.2.2.1 0) (λ_=>some ((r14.2.1.2.1,(r14.2.1.1,r14.2.1.2.2.1)))) λ_=>br (CF (Aa (AA x.2)) 0) (λ_=>AU (B9 .i64 (Aa (AA x.2)) 1) λk15=>ix x.2 k15 λx16=>br (Ba (Aa (AA x16)) 0) (λ_=>some ((B9 .i64 (Aa (AA x.2)) 1,(0,6)))) λ_=>some ((0,(0,0)))) λ_=>some ((0,(0,0)))
def EF (x:AK):Option Int :=
 bd (loop (λs0=>br (Am s0.2 (Aa (AA x.2))) (λ_=>AU s0.2 λk1=>ix x.2 k1 λx2=>bd (loop (λs3=>br (Am s3.1 (Aa (AA x2))) (λ_=>AU s3.1 λk4=>ix x2 k4 λx5=>some (.nx (AH .i64 s3.1 1,KN s3.2 x5.1))) λ_=>some (.dn ((0,(s3,()))))) (0,s0.1)) λr6=>some (.nx (r6.2.1.2,AH .i64 s0.2 1))) λ_=>some (.dn ((0,(s0,()))))) (0,0)) λr7=>some r7.2.1.1
def C1 (x:(AK×Int)):Option Bool :=
 some (Ba x.2 (B9 .i64 (Aa (AA x.1.2)) 1))
def DY (x:(List (List AD))):Option (Int×Int) :=
 br (Ba (Aa (AA x)) 0) (λ_=>some (((-1),6))) λ_=>br (CF (Aa (AA x)) 32) (λ_=>some (((-1),3))) λ_=>bd (loop (λs0=>br (Am s0.2.2 (Aa (AA x))) (λ_=>AU s0.2.2 λk1=>ix x k1 λx2=>bd (BN x2) λr3=>br (BC r3.2 0) (λ_=>some (.dn ((0,((r3.2,(s0.2.2,s0.2.2)),()))))) λ_=>some (.nx ((s0.1,(s0.2.1,AH .i64 s0.2.2 1))))) λ_=>some (.dn ((1,(s0,()))))) ((0,(0,0)))) λr4=>br (neq r4.1 0) (λ_=>some (r4.2.1.2.1,r4.2.1.1)) λ_=>some (0,0)
def CY (x:Bool):Option (Bool×AO) :=
 some ((false,([],x)))
def Ah (x:(List (List AD))):Option (List (List AD)) :=
 gd (BZ (AA x) 1048576) λ_=>some x
def BI (x:((List AD)×Int)):Option AO :=
 br (Ba x.2 (Aa (AA x.1))) (λ_=>some ([],true)) λ_=>AU x.2 λk0=>ix x.1 k0 λx1=>some (x1.1,false)
def DN (x:AO):Option Bool :=
 br x.2 (λ_=>some (AX (seq x.1 []))) λ_=>some false
def DZ (x:(List AO)):Option Int :=
 br (Ba (Aa (AA x)) 0) (λ_=>some 6) λ_=>br (CF (Aa (AA x)) 32) (λ_=>some 3) λ_=>bd (loop (λs0=>br (Am s0.2 (Aa (AA x))) (λ_=>AU s0.2 λk1=>ix x k1 λx2=>bd (DN x2) λr3=>br r3 (λ_=>some (.dn ((0,((s0.2,s0.2),()))))) λ_=>some (.nx (s0.1,AH .i64 s0.2 1))) λ_=>some (.dn ((1,(s0,()))))) (0,0)) λr4=>br (neq r4.1 0) (λ_=>br (Hj r4.2.1.1 0) (λ_=>some 2) λ_=>some 0) λ_=>br (Hj (-1) 0) (λ_=>some 2) λ_=>some 0
def Ai (x:(List AO)):Option (List AO) :=
 gd (BZ (AA x) 1048576) λ_=>some x
def Ez (x:(List AO)):Option D9 :=
 AU (Mn .i64 2 (Aa (AA x))) λk0=>AU (Mn .i64 2 (Aa (AA x))) λk1=>gd (BZ k1 1048576) λ_=>bd (Ai x) λr2=>AU (Aa (AA x)) λk3=>AU (Aa (AA x)) λk4=>gd (BZ k4 1048576) λ_=>bd (loop (λs5=>br (CF s5.1 0) (λ_=>br (Hj s5.1 (Aa (AA x))) (λ_=>AU s5.1 λk6=>gd (Dz k6 (AA s5.2.1)) λ_=>ix s5.2.1 k6 λx7=>some (.nx ((B9 .i64 s5.1 1,(lset s5.2.1 k6 (B9 .i64 s5.1 (Aa (AA x))),s5.2.2))))) λ_=>AU (Mn .i64 2 s5.1) λk8=>gd (Dz k8 (AA s5.2.1)) λ_=>ix s5.2.1 k8 λx9=>AU (AH .i64 (Mn .i64 2 s5.1) 1) λk10=>gd (Dz k10 (AA s5.2.1)) λ_=>ix s5.2.1 k10 λx11=>AU x9 λk12=>ix x k12 λx13=>AU x11 λk14=>ix x k14 λx15=>br (AX (beq x13.2 x15.2)) (λ_=>br (AX x15.2) (λ_=>AU s5.1 λk16=>gd (Dz k16 (AA s5.2.1)) λ_=>ix s5.2.1 k16 λx17=>AU s5.1 λk18=>gd (Dz k18 (AA s5.2.2.2.1)) λ_=>ix s5.2.2.2.1 k18 λx19=>some (.nx ((B9 .i64 s5.1 1,(lset s5.2.1 k16 x11,(s5.2.2.1,(lset s5.2.2.2.1 k18 x9,s5.2.2.2.2))))))) λ_=>AU s5.1 λk20=>gd (Dz k20 (AA s5.2.1)) λ_=>ix s5.2.1 k20 λx21=>AU s5.1 λk22=>gd (Dz k22 (AA s5.2.2.2.1)) λ_=>ix s5.2.2.2.1 k22 λx23=>some (.nx ((B9 .i64 s5.1 1,(lset s5.2.1 k20 x9,(s5.2.2.1,(lset s5.2.2.2.1 k22 x11,s5.2.2.2.2))))))) λ_=>br (AX (seq x13.1 x15.1)) (λ_=>br (AX (CT x13.1 x15.1)) (λ_=>AU s5.1 λk24=>gd (Dz k24 (AA s5.2.1)) λ_=>ix s5.2.1 k24 λx25=>AU s5.1 λk26=>gd (Dz k26 (AA s5.2.2.2.1)) λ_=>ix s5.2.2.2.1 k26 λx27=>some (.nx ((B9 .i64 s5.1 1,(lset s5.2.1 k24 x11,(s5.2.2.1,(lset s5.2.2.2.1 k26 x9,s5.2.2.2.2))))))) λ_=>AU s5.1 λk28=>gd (Dz k28 (AA s5.2.1)) λ_=>ix s5.2.1 k28 λx29=>AU s5.1 λk30=>gd (Dz k30 (AA s5.2.2.2.1)) λ_=>ix s5.2.2.2.1 k30 λx31=>some (.nx ((B9 .i64 s5.1 1,(lset s5.2.1 k28 x9,(s5.2.2.1,(lset s5.2.2.2.1 k30 x11,s5.2.2.2.2))))))) λ_=>br (AX (Am x9 x11)) (λ_=>AU s5.1 λk32=>gd (Dz k32 (AA s5.2.1)) λ_=>ix s5.2.1 k32 λx33=>AU s5.1 λk34=>gd (Dz k34 (AA s5.2.2.2.1)) λ_=>ix s5.2.2.2.1 k34 λx35=>some (.nx ((B9 .i64 s5.1 1,(lset s5.2.1 k32 x11,(s5.2.2.1,(lset s5.2.2.2.1 k34 x9,s5.2.2.2.2))))))) λ_=>AU s5.1 λk36=>gd (Dz k36 (AA s5.2.1)) λ_=>ix s5.2.1 k36 λx37=>AU s5.1 λk38=>gd (Dz k38 (AA s5.2.2.2.1)) λ_=>ix s5.2.2.2.1 k38 λx39=>some (.nx ((B9 .i64 s5.1 1,(lset s5.2.1 k36 x9,(s5.2.2.1,(lset s5.2.2.2.1 k38 x11,s5.2.2.2.2))))))) λ_=>some (.dn ((0,(s5,()))))) ((B9 .i64 (Mn .i64 2 (Aa (AA x))) 1,(Dj k1 0,(r2,(Dj k4 0,(0:Int))))))) λr40=>gd (Dz 1 (AA r40.2.1.2.1)) λ_=>ix r40.2.1.2.1 1 λx41=>some ((r40.2.1.2.2.1,(r40.2.1.2.2.2.1,x41)))
def CU (x:(List AO)):Option (D9×Int) :=
 bd (DZ x) λr0=>br (BC r0 0) (λ_=>some ((([],([],0)),r0))) λ_=>bd (Ez x) λr1=>some (r1,0)
def Ec (x:((List (List AD))×Bool)):Option ((AP×((Bool×AO)×((List AD)×Int)))×(Int×Int)) :=
 bd (DY x.1) λr0=>br (BC r0.2 0) (λ_=>br (BC r0.2 0) (λ_=>some (((([],([],([],([],0)))),((false,([],false)),([],0))),r0))) λ_=>bd (CY x.2) λr1=>some (((([],([],([],([],0)))),(r1,([],0))),(0,0)))) λ_=>AU (Aa (AA x.1)) λk2=>AU (Aa (AA x.1)) λk3=>gd (BZ k3 1048576) λ_=>bd (Ah x.1) λr4=>AU (Aa (AA x.1)) λk5=>AU (Aa (AA x.1)) λk6=>gd (BZ k6 1048576) λ_=>bd (loop (λs7=>br (Am s7.1 (Aa (AA x.1))) (λ_=>AU s7.1 λk8=>ix x.1 k8 λx9=>AU s7.1 λk10=>gd (Dz k10 (AA (Dj k3 (0:Int)))) λ_=>ix (Dj k3 0) k10 λx11=>bd (BI (x9,x11)) λr12=>AU s7.1 λk13=>gd (Dz k13 (AA s7.2)) λ_=>ix s7.2 k13 λx14=>some (.nx (AH .i64 s7.1 1,lset s7.2 k13 r12))) λ_=>some (.dn ((0,(s7,()))))) ((0,Dj k6 ([],false)))) λr15=>bd (CU r15.2.1.2) λr16=>bd (CY x.2) λr17=>some ((((r4,(Dj k3 0,r16.1)),(r17,([],0))),(0,0)))
def CV (x:(AK×(Int×Bool))):Option (Int×(AP×((Bool×AO)×((List AD)×Int)))) :=
 AU x.2.1 λk0=>ix x.1.2 k0 λx1=>ix x1 1 λx2=>ix x1 0 λx3=>bd (Ec ([x2.2,x3.2],x.2.2)) λr4=>some (x.2.1,r4.1)
def F4 (x:((List (List AD))×(List Int))):Option D9 :=
 AU (Aa (AA x.1)) λk0=>AU (Aa (AA x.1)) λk1=>gd (BZ k1 1048576) λ_=>bd (loop (λs2=>br (Am s2.1 (Aa (AA x.1))) (λ_=>AU s2.1 λk3=>ix x.1 k3 λx4=>AU s2.1 λk5=>ix x.2 k5 λx6=>bd (BI (x4,x6)) λr7=>AU s2.1 λk8=>gd (Dz k8 (AA s2.2)) λ_=>ix s2.2 k8 λx9=>some (.nx (AH .i64 s2.1 1,lset s2.2 k8 r7))) λ_=>some (.dn ((0,(s2,()))))) ((0,Dj k1 ([],false)))) λr10=>bd (CU r10.2.1.2) λr11=>some r11.1
def Aj (x:((List AO)×(List AO))):Option Bool :=
 br (BC (Aa (AA x.1)) (Aa (AA x.2))) (λ_=>some false) λ_=>bd (loop (λs0=>br (Am s0.1 (Aa (AA x.1))) (λ_=>AU s0.1 λk1=>ix x.1 k1 λx2=>AU s0.1 λk3=>ix x.2 k3 λx4=>br (AX (Bm (seq x2.1 x4.1) (Bm (beq x2.2 x4.2) true))) (λ_=>some (.dn ((0,((s0.1,false),()))))) λ_=>some (.nx (AH .i64 s0.1 1,s0.2))) λ_=>some (.dn ((1,(s0,()))))) (0,false)) λr5=>br (neq r5.1 0) (λ_=>some r5.2.1.2) λ_=>some true
def Ad (x:((List Int)×(List Int))):Option Bool :=
 br (BC (Aa (AA x.1)) (Aa (AA x.2))) (λ_=>some false) λ_=>bd (loop (λs0=>br (Am s0.1 (Aa (AA x.1))) (λ_=>AU s0.1 λk1=>ix x.1 k1 λx2=>AU s0.1 λk3=>ix x.2 k3 λx4=>br (BC x2 x4) (λ_=>some (.dn ((0,((s0.1,false),()))))) λ_=>some (.nx (AH .i64 s0.1 1,s0.2))) λ_=>some (.dn ((1,(s0,()))))) (0,false)) λr5=>br (neq r5.1 0) (λ_=>some r5.2.1.2) λ_=>some true
def EK (x:(D9×D9)):Option Bool :=
 br (Ba x.1.2.2 x.2.2.2) (λ_=>bd (Aj (x.1.1,x.2.1)) λr0=>br r0 (λ_=>bd (Ad (x.1.2.1,x.2.2.1)) λr1=>some r1) λ_=>some false) λ_=>some false
def FG (x:D9):Option (Int×Int) :=
 bd (DZ x.1) λr0=>br (BC r0 0) (λ_=>some (0,r0)) λ_=>br (BC (Aa (AA x.2.1)) (Aa (AA x.1))) (λ_=>some (0,6)) λ_=>bd (Ez x.1) λr1=>bd (loop (λs2=>br (Am s2.2.1 (Aa (AA r1.2.1))) (λ_=>AU s2.2.1 λk3=>ix r1.2.1 k3 λx4=>AU s2.2.1 λk5=>ix x.2.1 k5 λx6=>br (BC x6 x4) (λ_=>some (.dn ((0,((6,(s2.2.1,s2.2.1)),()))))) λ_=>some (.nx ((s2.1,(AH .i64 s2.2.1 1,s2.2.2))))) λ_=>some (.dn ((1,(s2,()))))) ((0,(0,0)))) λr7=>br (neq r7.1 0) (λ_=>some (r7.2.1.2.2,r7.2.1.1)) λ_=>br (BC x.2.2 r1.2.2) (λ_=>some (0,6)) λ_=>some (0,0)
def E0 (x:D9):Option Int :=
 bd (FG x) λr0=>br (BC r0.2 0) (λ_=>some r0.2) λ_=>AU x.2.2 λk1=>ix x.1 k1 λx2=>br x2.2 (λ_=>some 12) λ_=>some 0
def CZ (x:D9):Option (Int×((List UInt8)×Int)) :=
 bd (E0 x) λr0=>br (BC r0 0) (λ_=>some ((0,([],r0)))) λ_=>AU x.2.2 λk1=>ix x.1 k1 λx2=>some ((x.2.2,(x2.1,0)))
def DA (x:(List UInt8)):Option Bool :=
 some (AX (seq x x))
def Ca (x:((List UInt8)×(List UInt8))):Option Int :=
 bd (DA x.1) λr0=>bd (DA x.2) λr1=>br r0 (λ_=>br r1 (λ_=>some 0) λ_=>some (-1)) λ_=>br r1 (λ_=>some 1) λ_=>br (CT x.1 x.2) (λ_=>some (-1)) λ_=>br (CT x.2 x.1) (λ_=>some 1) λ_=>some 0
def EG (x:Int):Option Bool :=
 some (BC x x)
def CI (x:(Int×Int)):Option Int :=
 bd (EG x.1) λr0=>bd (EG x.2) λr1=>br r0 (λ_=>br r1 (λ_=>some 0) λ_=>some (-1)) λ_=>br r1 (λ_=>some 1) λ_=>br (Am x.1 x.2) (λ_=>some (-1)) λ_=>br (CF x.1 x.2) (λ_=>some 1) λ_=>some 0
def F5 (x:(List Int)):Option Int :=
 bd (loop (λs0=>br (Am s0.2 (Aa (AA x))) (λ_=>AU s0.2 λk1=>ix x k1 λx2=>br (BC x2 0) (λ_=>some (.dn ((0,((x2,s0.2),()))))) λ_=>some (.nx (s0.1,AH .i64 s0.2 1))) λ_=>some (.dn ((1,(s0,()))))) (0,0)) λr3=>br (neq r3.1 0) (λ_=>some r3.2.1.1) λ_=>some 0
def Db (x:AP):Option (Int×Int) :=
 bd (DY x.1) λr0=>br (BC r0.2 0) (λ_=>some r0) λ_=>br (BC (Aa (AA x.2.1)) (Aa (AA x.1))) (λ_=>some (((-1),6))) λ_=>bd (loop (λs1=>br (Am s1.2.2 (Aa (AA x.2.1))) (λ_=>AU s1.2.2 λk2=>ix x.2.1 k2 λx3=>br (Am x3 0) (λ_=>some (.dn ((0,((6,(s1.2.2,s1.2.2)),()))))) λ_=>AU s1.2.2 λk4=>ix x.1 k4 λx5=>br (CF x3 (Aa (AA x5))) (λ_=>some (.dn ((0,((6,(s1.2.2,s1.2.2)),()))))) λ_=>some (.nx ((s1.1,(s1.2.1,AH .i64 s1.2.2 1))))) λ_=>some (.dn ((1,(s1,()))))) ((0,(0,0)))) λr6=>br (neq r6.1 0) (λ_=>some (r6.2.1.2.1,r6.2.1.1)) λ_=>bd (F4 (x.1,x.2.1)) λr7=>bd (EK (x.2.2,r7)) λr8=>br (AX r8) (λ_=>some (((-1),6))) λ_=>bd (CZ x.2.2) λr9=>br (BC r9.2.2 0) (λ_=>some (0,0)) λ_=>bd (loop (λs10=>br (Am s10.2.2 (Aa (AA x.2.1))) (λ_=>AU s10.2.2 λk11=>ix x.2.1 k11 λx12=>br (CF x12 0) (λ_=>AU s10.2.2 λk13=>ix x.1 k13 λx14=>AU (B9 .i64 x12 1) λk15=>ix x14 k15 λx16=>bd (Ca (x16.1,r9.2.1)) λr17=>bd (CI (s10.2.2,r9.1)) λr18=>bd (F5 ([r17,r18])) λr19=>br (CF r19 0) (λ_=>some (.dn ((0,((6,(r9.1,s10.2.2)),()))))) λ_=>some (.nx ((s10.1,(s10.2.1,AH .i64 s10.2.2 1))))) λ_=>some (.nx ((s10.1,(s10.2.1,AH .i64 s10.2.2 1))))) λ_=>some (.dn ((1,(s10,()))))) ((r9.2.2,(r6.2.1.2.1,0)))) λr20=>br (neq r20.1 0) (λ_=>some (r20.2.1.2.1,r20.2.1.1)) λ_=>some (0,0)
def Aw (x:(List Int)):Option (List Int) :=
 gd (BZ (AA x) 1048576) λ_=>some x
def Bd (x:(Int×(Int×((List AO)×Unit)))):Option Bool :=
 AU x.1 λk0=>ix x.2.2.1 k0 λx1=>AU x.2.1 λk2=>ix x.2.2.1 k2 λx3=>br (AX (beq x1.2 x3.2)) (λ_=>some x3.2) λ_=>br (AX (seq x1.1 x3.1)) (λ_=>some (CT x1.1 x3.1)) λ_=>some (Am x.1 x.2.1)
def CL (x:(D9×AO)):Option (D9×(Int×Int)) :=
 bd (E0 x.1) λr0=>br (BC r0 0) (λ_=>some ((([],([],0)),(0,r0)))) λ_=>bd (DZ [x.2]) λr1=>br (BC r1 0) (λ_=>some ((([],([],0)),(0,r1)))) λ_=>br (AX x.2.2) (λ_=>AU x.1.2.2 λk2=>ix x.1.1 k2 λx3=>br (CT x.2.1 x3.1) (λ_=>some ((([],([],0)),(0,6)))) λ_=>bd (Ai x.1.1) λr4=>bd (Aw x.1.2.1) λr5=>AU x.1.2.2 λk6=>gd (Dz k6 (AA r4)) λ_=>ix r4 k6 λx7=>bd (loop (λs8=>br (Ba (Hi .i64 s8.2.1 2) 0) (λ_=>some (.dn ((0,((s8.1,(Hi .i64 s8.2.1 2,((),s8.2.2.2))),()))))) λ_=>AU (Hi .i64 s8.2.1 2) λk9=>gd (Dz k9 (AA s8.2.2.2.1)) λ_=>ix s8.2.2.2.1 k9 λx10=>bd (Bd ((x10,(s8.2.2.2.2,(lset r4 k6 x.2,()))))) λr11=>br r11 (λ_=>AU (Hi .i64 s8.2.1 2) λk12=>gd (Dz k12 (AA s8.2.2.2.1)) λ_=>ix s8.2.2.2.1 k12 λx13=>AU (Hi .i64 s8.2.1 2) λk14=>gd (Dz k14 (AA s8.2.2.2.1)) λ_=>ix s8.2.2.2.1 k14 λx15=>some (.nx ((AH .i64 s8.1 1,(Hi .i64 s8.2.1 2,((),(lset s8.2.2.2.1 k14 s8.2.2.2.2,x13))))))) λ_=>some (.nx ((AH .i64 s8.1 1,(Hi .i64 s8.2.1 2,((),s8.2.2.2)))))) ((0,(AH .i64 (Aa (AA (lset r4 k6 x.2))) x.1.2.2,((),(r5,x.1.2.2)))))) λr16=>some (((lset r4 k6 x.2,r16.2.1.2.2.2),(r16.2.1.1,0)))) λ_=>bd (Ai x.1.1) λr17=>bd (Aw x.1.2.1) λr18=>AU x.1.2.2 λk19=>gd (Dz k19 (AA r17)) λ_=>ix r17 k19 λx20=>bd (loop (λs21=>br (Ba (Hi .i64 s21.2.1 2) 0) (λ_=>some (.dn ((0,((s21.1,(Hi .i64 s21.2.1 2,((),s21.2.2.2))),()))))) λ_=>AU (Hi .i64 s21.2.1 2) λk22=>gd (Dz k22 (AA s21.2.2.2.1)) λ_=>ix s21.2.2.2.1 k22 λx23=>bd (Bd ((x23,(s21.2.2.2.2,(lset r17 k19 x.2,()))))) λr24=>br r24 (λ_=>AU (Hi .i64 s21.2.1 2) λk25=>gd (Dz k25 (AA s21.2.2.2.1)) λ_=>ix s21.2.2.2.1 k25 λx26=>AU (Hi .i64 s21.2.1 2) λk27=>gd (Dz k27 (AA s21.2.2.2.1)) λ_=>ix s21.2.2.2.1 k27 λx28=>some (.nx ((AH .i64 s21.1 1,(Hi .i64 s21.2.1 2,((),(lset s21.2.2.2.1 k27 s21.2.2.2.2,x26))))))) λ_=>some (.nx ((AH .i64 s21.1 1,(Hi .i64 s21.2.1 2,((),s21.2.2.2)))))) ((0,(AH .i64 (Aa (AA (lset r17 k19 x.2))) x.1.2.2,((),(r18,x.1.2.2)))))) λr29=>some (((lset r17 k19 x.2,r29.2.1.2.2.2),(r29.2.1.1,0)))
def Gt (x:(List (List AD))):Option ((List AD)×((List Int)×Int)) :=
 bd (DY x) λr0=>br (BC r0.2 0) (λ_=>br (BC r0.2 0) (λ_=>some (([],([],r0.2)))) λ_=>bd (loop (λs1=>bd (CZ (([],([],0)))) λr2=>br (BC r2.2.2 0) (λ_=>br (BC r2.2.2 0) (λ_=>some (.dn ((0,(s1,()))))) λ_=>gd (BZ (A2 (AA s1.1) (AA ([(([],([],(false,0))):AD)]))) 1048576) λ_=>gd (BZ (A2 (AA s1.2) (AA [0])) 1048576) λ_=>none) λ_=>AU r2.1 λk3=>none) ([],[])) λr4=>some ((r4.2.1.1,(r4.2.1.2,0)))) λ_=>AU (Aa (AA x)) λk5=>AU (Aa (AA x)) λk6=>gd (BZ k6 1048576) λ_=>bd (Ah x) λr7=>AU (Aa (AA x)) λk8=>AU (Aa (AA x)) λk9=>gd (BZ k9 1048576) λ_=>bd (loop (λs10=>br (Am s10.1 (Aa (AA x))) (λ_=>AU s10.1 λk11=>ix x k11 λx12=>AU s10.1 λk13=>gd (Dz k13 (AA (Dj k6 (0:Int)))) λ_=>ix (Dj k6 0) k13 λx14=>bd (BI (x12,x14)) λr15=>AU s10.1 λk16=>gd (Dz k16 (AA s10.2)) λ_=>ix s10.2 k16 λx17=>some (.nx (AH .i64 s10.1 1,lset s10.2 k16 r15))) λ_=>some (.dn ((0,(s10,()))))) ((0,Dj k9 ([],false)))) λr18=>bd (CU r18.2.1.2) λr19=>bd (loop (λs20=>bd (CZ s20.2.2.2.2) λr21=>br (BC r21.2.2 0) (λ_=>br (BC r21.2.2 0) (λ_=>some (.dn ((0,((s20.1,(s20.2.1,((),s20.2.2.2))),()))))) λ_=>gd (BZ (A2 (AA s20.1) (AA ([(([],([],(false,0))):AD)]))) 1048576) λ_=>gd (BZ (A2 (AA s20.2.1) (AA [0])) 1048576) λ_=>gd (Dz 0 (AA s20.2.2.2.1)) λ_=>ix s20.2.2.2.1 0 λx22=>gd (Dz 0 (AA s20.2.2.2.1)) λ_=>ix s20.2.2.2.1 0 λx23=>gd (Dz 0 (AA r7)) λ_=>ix r7 0 λx24=>gd (Dz 0 (AA (lset s20.2.2.2.1 0 (AH .i64 x22 1)))) λ_=>ix (lset s20.2.2.2.1 0 (AH .i64 x22 1)) 0 λx25=>bd (BI (x24,x25)) λr26=>bd (CL (s20.2.2.2.2,r26)) λr27=>some (.nx ((CG s20.1 ([(([],([],(false,0))):AD)]),(CG s20.2.1 [0],((),(lset s20.2.2.2.1 0 (AH .i64 x22 1),r27.1))))))) λ_=>AU r21.1 λk28=>gd (Dz k28 (AA r7)) λ_=>ix r7 k28 λx29=>AU r21.1 λk30=>gd (Dz k30 (AA s20.2.2.2.1)) λ_=>ix s20.2.2.2.1 k30 λx31=>AU x31 λk32=>ix x29 k32 λx33=>gd (BZ (A2 (AA s20.1) (AA [x33])) 1048576) λ_=>gd (BZ (A2 (AA s20.2.1) (AA [r21.1])) 1048576) λ_=>AU r21.1 λk34=>gd (Dz k34 (AA s20.2.2.2.1)) λ_=>ix s20.2.2.2.1 k34 λx35=>AU r21.1 λk36=>gd (Dz k36 (AA s20.2.2.2.1)) λ_=>ix s20.2.2.2.1 k36 λx37=>AU r21.1 λk38=>gd (Dz k38 (AA r7)) λ_=>ix r7 k38 λx39=>AU r21.1 λk40=>gd (Dz k40 (AA (lset s20.2.2.2.1 k36 (AH .i64 x35 1)))) λ_=>ix (lset s20.2.2.2.1 k36 (AH .i64 x35 1)) k40 λx41=>bd (BI (x39,x41)) λr42=>bd (CL (s20.2.2.2.2,r42)) λr43=>some (.nx ((CG s20.1 [x33],(CG s20.2.1 [r21.1],((),(lset s20.2.2.2.1 k36 (AH .i64 x35 1),r43.1))))))) (([],([],((),(Dj k6 0,r19.1)))))) λr44=>some ((r44.2.1.1,(r44.2.1.2.1,0)))
def Dr (x:(Bool×AO)):Option Int :=
 bd (Ey x.2.1) λr0=>br (BC r0 0) (λ_=>some r0) λ_=>br (AX x.1) (λ_=>br (AX (seq x.2.1 [])) (λ_=>some 6) λ_=>some 0) λ_=>some 0
def A3 (x:AD):Option AD :=
 some x
def EH (x:((List AD)×Bool)):Option ((List AD)×(Int×Int)) :=
 br (CF (Aa (AA x.1)) 20000) (λ_=>some (([],((-1),3)))) λ_=>bd (CY x.2) λr0=>bd (loop (λs1=>br (Am s1.2.1 (Aa (AA x.1))) (λ_=>AU s1.2.1 λk2=>ix x.1 k2 λx3=>bd (Dr s1.2.2.2.1) λr4=>br (BC r4 0) (λ_=>br (BC r4 0) (λ_=>some (.dn ((0,((r4,(s1.2.1,(s1.2.1,s1.2.2.2))),()))))) λ_=>some (.nx ((s1.1,(AH .i64 s1.2.1 1,(s1.2.2.1,((false,([],false)),s1.2.2.2.2))))))) λ_=>bd (CK x3) λr5=>br (BC r5 0) (λ_=>br (BC r5 0) (λ_=>some (.dn ((0,((r5,(s1.2.1,(s1.2.1,s1.2.2.2))),()))))) λ_=>some (.nx ((s1.1,(AH .i64 s1.2.1 1,(s1.2.2.1,((false,([],false)),s1.2.2.2.2))))))) λ_=>br s1.2.2.2.1.1 (λ_=>br (CT x3.1 s1.2.2.2.1.2.1) (λ_=>some (.dn ((0,((6,(s1.2.1,(s1.2.1,s1.2.2.2))),()))))) λ_=>br s1.2.2.2.1.1 (λ_=>br (seq x3.1 s1.2.2.2.1.2.1) (λ_=>some (.nx ((s1.1,(AH .i64 s1.2.1 1,(s1.2.2.1,((true,(x3.1,s1.2.2.2.1.2.2)),s1.2.2.2.2))))))) λ_=>br s1.2.2.2.1.2.2 (λ_=>br x3.2.2.1 (λ_=>some (.nx ((s1.1,(AH .i64 s1.2.1 1,(s1.2.2.1,((true,(x3.1,s1.2.2.2.1.2.2)),s1.2.2.2.2))))))) λ_=>bd (A3 x3) λr6=>gd (BZ (A2 (AA s1.2.2.2.2) (AA [r6])) 1048576) λ_=>some (.nx ((s1.1,(AH .i64 s1.2.1 1,(s1.2.2.1,((true,(x3.1,s1.2.2.2.1.2.2)),CG s1.2.2.2.2 [r6]))))))) λ_=>bd (A3 x3) λr7=>gd (BZ (A2 (AA s1.2.2.2.2) (AA [r7])) 1048576) λ_=>some (.nx ((s1.1,(AH .i64 s1.2.1 1,(s1.2.2.1,((true,(x3.1,s1.2.2.2.1.2.2)),CG s1.2.2.2.2 [r7]))))))) λ_=>br s1.2.2.2.1.2.2 (λ_=>br x3.2.2.1 (λ_=>some (.nx ((s1.1,(AH .i64 s1.2.1 1,(s1.2.2.1,((true,(x3.1,s1.2.2.2.1.2.2)),s1.2.2.2.2))))))) λ_=>bd (A3 x3) λr8=>gd (BZ (A2 (AA s1.2.2.2.2) (AA [r8])) 1048576) λ_=>some (.nx ((s1.1,(AH .i64 s1.2.1 1,(s1.2.2.1,((true,(x3.1,s1.2.2.2.1.2.2)),CG s1.2.2.2.2 [r8]))))))) λ_=>bd (A3 x3) λr9=>gd (BZ (A2 (AA s1.2.2.2.2) (AA [r9])) 1048576) λ_=>some (.nx ((s1.1,(AH .i64 s1.2.1 1,(s1.2.2.1,((true,(x3.1,s1.2.2.2.1.2.2)),CG s1.2.2.2.2 [r9]))))))) λ_=>br s1.2.2.2.1.1 (λ_=>br (seq x3.1 s1.2.2.2.1.2.1) (λ_=>some (.nx ((s1.1,(AH .i64 s1.2.1 1,(s1.2.2.1,((true,(x3.1,s1.2.2.2.1.2.2)),s1.2.2.2.2))))))) λ_=>br s1.2.2.2.1.2.2 (λ_=>br x3.2.2.1 (λ_=>some (.nx ((s1.1,(AH .i64 s1.2.1 1,(s1.2.2.1,((true,(x3.1,s1.2.2.2.1.2.2)),s1.2.2.2.2))))))) λ_=>bd (A3 x3) λr10=>gd (BZ (A2 (AA s1.2.2.2.2) (AA [r10])) 1048576) λ_=>some (.nx ((s1.1,(AH .i64 s1.2.1 1,(s1.2.2.1,((true,(x3.1,s1.2.2.2.1.2.2)),CG s1.2.2.2.2 [r10]))))))) λ_=>bd (A3 x3) λr11=>gd (BZ (A2 (AA s1.2.2.2.2) (AA [r11])) 1048576) λ_=>some (.nx ((s1.1,(AH .i64 s1.2.1 1,(s1.2.2.1,((true,(x3.1,s1.2.2.2.1.2.2)),CG s1.2.2.2.2 [r11]))))))) λ_=>br s1.2.2.2.1.2.2 (λ_=>br x3.2.2.1 (λ_=>some (.nx ((s1.1,(AH .i64 s1.2.1 1,(s1.2.2.1,((true,(x3.1,s1.2.2.2.1.2.2)),s1.2.2.2.2))))))) λ_=>bd (A3 x3) λr12=>gd (BZ (A2 (AA s1.2.2.2.2) (AA [r12])) 1048576) λ_=>some (.nx ((s1.1,(AH .i64 s1.2.1 1,(s1.2.2.1,((true,(x3.1,s1.2.2.2.1.2.2)),CG s1.2.2.2.2 [r12]))))))) λ_=>bd (A3 x3) λr13=>gd (BZ (A2 (AA s1.2.2.2.2) (AA [r13])) 1048576) λ_=>some (.nx ((s1.1,(AH .i64 s1.2.1 1,(s1.2.2.1,((true,(x3.1,s1.2.2.2.1.2.2)),CG s1.2.2.2.2 [r13]))))))) λ_=>some (.dn ((1,(s1,()))))) ((0,(0,(0,(r0,[])))))) λr14=>br (neq r14.1 0) (λ_=>br (BC r14.2.1.1 0) (λ_=>some (([],(r14.2.1.2.2.1,r14.2.1.1)))) λ_=>some ((r14.2.1.2.2.2.2,(0,0)))) λ_=>some ((r14.2.1.2.2.2.2,(0,0)))
def Du (x:((List AD)×(List AD))):Option Bool :=
 br (BC (Aa (AA x.1)) (Aa (AA x.2))) (λ_=>some false) λ_=>bd (loop (λs0=>br (Am s0.2 (Aa (AA x.1))) (λ_=>AU s0.2 λk1=>ix x.1 k1 λx2=>AU s0.2 λk3=>ix x.2 k3 λx4=>br (AX (Bm (seq x2.1 x4.1) (Bm (seq x2.2.1 x4.2.1) (Bm (beq x2.2.2.1 x4.2.2.1) (Bm (Ba x2.2.2.2 x4.2.2.2) true))))) (λ_=>some (.dn ((0,((false,s0.2),()))))) λ_=>some (.nx (s0.1,AH .i64 s0.2 1))) λ_=>some (.dn ((1,(s0,()))))) (false,0)) λr5=>br (neq r5.1 0) (λ_=>some r5.2.1.1) λ_=>some true
def Ed (x:(AP×((Bool×AO)×((List AD)×Int)))):Option Int :=
 bd (Db x.1) λr0=>br (BC r0.2 0) (λ_=>some r0.2) λ_=>bd (loop (λs1=>br (Am s1.1 (Aa (AA x.1.2.1))) (λ_=>AU s1.1 λk2=>ix x.1.2.1 k2 λx3=>some (.nx (AH .i64 s1.1 1,AH .i64 s1.2 x3))) λ_=>some (.dn ((0,(s1,()))))) (0,0)) λr4=>br (CF (Aa (AA x.2.2.1)) 20000) (λ_=>some 3) λ_=>br (CF r4.2.1.2 20000) (λ_=>some 3) λ_=>br (BC x.2.2.2 r4.2.1.2) (λ_=>some 7) λ_=>bd (Gt x.1.1) λr5=>br (BC r5.2.2 0) (λ_=>some r5.2.2) λ_=>AU r4.2.1.2 λk6=>gd (BZ k6 (AA r5.1)) λ_=>gd (BZ 0 k6) λ_=>bd (EH (Cs r5.1 0 k6,x.2.1.2.2)) λr7=>br (BC r7.2.2 0) (λ_=>some r7.2.2) λ_=>bd (CY x.2.1.2.2) λr8=>br (CF r4.2.1.2 0) (λ_=>AU (B9 .i64 r4.2.1.2 1) λk9=>ix r5.1 k9 λx10=>bd (Du (x.2.2.1,r7.1)) λr11=>br (AX r11) (λ_=>some 6) λ_=>br (AX (Bm (beq x.2.1.1 true) (Bm (seq x.2.1.2.1 x10.1) (Bm (beq x.2.1.2.2 r8.2.2) true)))) (λ_=>some 6) λ_=>some 0) λ_=>bd (Du (x.2.2.1,r7.1)) λr12=>br (AX r12) (λ_=>some 6) λ_=>br (AX (Bm (beq x.2.1.1 r8.1) (Bm (seq x.2.1.2.1 r8.2.1) (Bm (beq x.2.1.2.2 r8.2.2) true)))) (λ_=>some 6) λ_=>some 0
def F6 (x:AP):Option (Int×Int) :=
 bd (Db x) λr0=>br (BC r0.2 0) (λ_=>some (0,r0.2)) λ_=>bd (loop (λs1=>br (Am s1.1 (Aa (AA x.1))) (λ_=>AU s1.1 λk2=>ix x.1 k2 λx3=>AU s1.1 λk4=>ix x.2.1 k4 λx5=>some (.nx ((AH .i64 s1.1 1,AH .i64 s1.2 (B9 .i64 (Aa (AA x3)) x5))))) λ_=>some (.dn ((0,(s1,()))))) (0,0)) λr6=>some (r6.2.1.2,0)
def Bh (x:(AP×((Bool×AO)×((List AD)×Int)))):Option (Int×Int) :=
 bd (Ed x) λr0=>br (BC r0 0) (λ_=>some (0,r0)) λ_=>bd (F6 x.1) λr1=>some r1
def B0 (x:AP):Option (AD×(Int×(AP×Int))) :=
 bd (Db x) λr0=>br (BC r0.2 0) (λ_=>br (BC r0.2 0) (λ_=>some (((([],([],(false,0))):AD),(0,(([],([],([],([],0)))),r0.2))))) λ_=>none) λ_=>bd (Ah x.1) λr1=>bd (Aw x.2.1) λr2=>bd (CZ x.2.2) λr3=>br (BC r3.2.2 0) (λ_=>br (BC r3.2.2 0) (λ_=>some (((([],([],(false,0))):AD),(0,(([],([],([],([],0)))),r3.2.2))))) λ_=>gd (Dz 0 (AA r2)) λ_=>ix r2 0 λx4=>gd (Dz 0 (AA r2)) λ_=>ix r2 0 λx5=>gd (Dz 0 (AA r1)) λ_=>ix r1 0 λx6=>gd (Dz 0 (AA (lset r2 0 (AH .i64 x4 1)))) λ_=>ix (lset r2 0 (AH .i64 x4 1)) 0 λx7=>bd (BI (x6,x7)) λr8=>bd (CL (x.2.2,r8)) λr9=>some (((([],([],(false,0))):AD),(0,((r1,(lset r2 0 (AH .i64 x4 1),r9.1)),0))))) λ_=>AU r3.1 λk10=>gd (Dz k10 (AA r1)) λ_=>ix r1 k10 λx11=>AU r3.1 λk12=>gd (Dz k12 (AA r2)) λ_=>ix r2 k12 λx13=>AU x13 λk14=>ix x11 k14 λx15=>AU r3.1 λk16=>gd (Dz k16 (AA r2)) λ_=>ix r2 k16 λx17=>AU r3.1 λk18=>gd (Dz k18 (AA r2)) λ_=>ix r2 k18 λx19=>AU r3.1 λk20=>gd (Dz k20 (AA r1)) λ_=>ix r1 k20 λx21=>AU r3.1 λk22=>gd (Dz k22 (AA (lset r2 k18 (AH .i64 x17 1)))) λ_=>ix (lset r2 k18 (AH .i64 x17 1)) k22 λx23=>bd (BI (x21,x23)) λr24=>bd (CL (x.2.2,r24)) λr25=>some ((x15,(r3.1,((r1,(lset r2 k18 (AH .i64 x17 1),r25.1)),0))))
def CA (x:((Bool×AO)×AD)):Option (Bool×((Bool×AO)×Int)) :=
 bd (Dr x.1) λr0=>br (BC r0 0) (λ_=>some ((false,((false,([],false)),r0)))) λ_=>bd (CK x.2) λr1=>br (BC r1 0) (λ_=>some ((false,((false,([],false)),r1)))) λ_=>br x.1.1 (λ_=>br (CT x.2.1 x.1.2.1) (λ_=>some ((false,((false,([],false)),6)))) λ_=>br x.1.1 (λ_=>br (seq x.2.1 x.1.2.1) (λ_=>some ((false,((true,(x.2.1,x.1.2.2)),0)))) λ_=>br x.1.2.2 (λ_=>br x.2.2.2.1 (λ_=>some ((false,((true,(x.2.1,x.1.2.2)),0)))) λ_=>some ((true,((true,(x.2.1,x.1.2.2)),0)))) λ_=>some ((true,((true,(x.2.1,x.1.2.2)),0)))) λ_=>br x.1.2.2 (λ_=>br x.2.2.2.1 (λ_=>some ((false,((true,(x.2.1,x.1.2.2)),0)))) λ_=>some ((true,((true,(x.2.1,x.1.2.2)),0)))) λ_=>some ((true,((true,(x.2.1,x.1.2.2)),0)))) λ_=>br x.1.1 (λ_=>br (seq x.2.1 x.1.2.1) (λ_=>some ((false,((true,(x.2.1,x.1.2.2)),0)))) λ_=>br x.1.2.2 (λ_=>br x.2.2.2.1 (λ_=>some ((false,((true,(x.2.1,x.1.2.2)),0)))) λ_=>some ((true,((true,(x.2.1,x.1.2.2)),0)))) λ_=>some ((true,((true,(x.2.1,x.1.2.2)),0)))) λ_=>br x.1.2.2 (λ_=>br x.2.2.2.1 (λ_=>some ((false,((true,(x.2.1,x.1.2.2)),0)))) λ_=>some ((true,((true,(x.2.1,x.1.2.2)),0)))) λ_=>some ((true,((true,(x.2.1,x.1.2.2)),0)))
def By (x:((AP×((Bool×AO)×((List AD)×Int)))×Int)):Option ((AP×((Bool×AO)×((List AD)×Int)))×(Int×Int)) :=
 bd (Bh x.1) λr0=>br (BC r0.2 0) (λ_=>some (((([],([],([],([],0)))),((false,([],false)),([],0))),(0,r0.2)))) λ_=>br (Am x.2 0) (λ_=>some (((([],([],([],([],0)))),((false,([],false)),([],0))),(0,7)))) λ_=>br (CF (AH .i64 x.1.2.2.2 (Nf x.2 r0.1)) 20000) (λ_=>some (((([],([],([],([],0)))),((false,([],false)),([],0))),(0,3)))) λ_=>gd (BZ (AA x.1.2.2.1) 1048576) λ_=>gd (BZ (AA x.1.1.2.1) 1048576) λ_=>br (Am 0 (Nf x.2 r0.1)) (λ_=>bd (B0 x.1.1) λr1=>br (BC r1.2.2.2 0) (λ_=>br (BC r1.2.2.2 0) (λ_=>br (BC r1.2.2.2 0) (λ_=>some (((([],([],([],([],0)))),((false,([],false)),([],0))),(0,r1.2.2.2)))) λ_=>some ((x.1,(Nf x.2 r0.1,0)))) λ_=>none) λ_=>bd (CA (x.1.2.1,r1.1)) λr2=>br (BC r2.2.2 0) (λ_=>br (BC r2.2.2 0) (λ_=>br (BC r2.2.2 0) (λ_=>some (((([],([],([],([],0)))),((false,([],false)),([],0))),(0,r2.2.2)))) λ_=>some ((x.1,(Nf x.2 r0.1,0)))) λ_=>none) λ_=>br r2.1 (λ_=>gd (BZ (A2 (AA x.1.2.2.1) (AA [r1.1])) 1048576) λ_=>bd (loop (λs3=>br (Am s3.1 (Nf x.2 r0.1)) (λ_=>bd (B0 ((s3.2.2.1,(s3.2.2.2.1,(s3.2.2.2.2.1,(s3.2.2.2.2.2.1,s3.2.2.2.2.2.2.1)))))) λr4=>br (BC r4.2.2.2 0) (λ_=>br (BC r4.2.2.2 0) (λ_=>some (.dn ((0,((s3.1,(r4.2.2.2,s3.2.2)),()))))) λ_=>some (.nx (AH .i64 s3.1 1,s3.2))) λ_=>bd (CA (((s3.2.2.2.2.2.2.2.1,(s3.2.2.2.2.2.2.2.2.1,s3.2.2.2.2.2.2.2.2.2.1)),r4.1))) λr5=>br (BC r5.2.2 0) (λ_=>br (BC r5.2.2 0) (λ_=>some (.dn ((0,((s3.1,(r5.2.2,s3.2.2)),()))))) λ_=>some (.nx (AH .i64 s3.1 1,s3.2))) λ_=>br r5.1 (λ_=>gd (BZ (A2 (AA s3.2.2.2.2.2.2.2.2.2.2.1) (AA [r4.1])) 1048576) λ_=>some (.nx ((AH .i64 s3.1 1,(s3.2.1,(r4.2.2.1.1,(r4.2.2.1.2.1,(r4.2.2.1.2.2.1,(r4.2.2.1.2.2.2.1,(r4.2.2.1.2.2.2.2,(r5.2.1.1,(r5.2.1.2.1,(r5.2.1.2.2,(CG s3.2.2.2.2.2.2.2.2.2.2.1 [r4.1],AH .i64 s3.2.2.2.2.2.2.2.2.2.2.2 1)))))))))))))) λ_=>some (.nx ((AH .i64 s3.1 1,(s3.2.1,(r4.2.2.1.1,(r4.2.2.1.2.1,(r4.2.2.1.2.2.1,(r4.2.2.1.2.2.2.1,(r4.2.2.1.2.2.2.2,(r5.2.1.1,(r5.2.1.2.1,(r5.2.1.2.2,(s3.2.2.2.2.2.2.2.2.2.2.1,AH .i64 s3.2.2.2.2.2.2.2.2.2.2.2 1)))))))))))))) λ_=>some (.dn ((1,(s3,()))))) ((1,(0,(r1.2.2.1.1,(r1.2.2.1.2.1,(r1.2.2.1.2.2.1,(r1.2.2.1.2.2.2.1,(r1.2.2.1.2.2.2.2,(r2.2.1.1,(r2.2.1.2.1,(r2.2.1.2.2,(CG x.1.2.2.1 [r1.1],AH .i64 x.1.2.2.2 1))))))))))))) λr6=>br (neq r6.1 0) (λ_=>br (BC r6.2.1.2.1 0) (λ_=>some (((([],([],([],([],0)))),((false,([],false)),([],0))),(0,r6.2.1.2.1)))) λ_=>some ((((r6.2.1.2.2.1,(r6.2.1.2.2.2.1,(r6.2.1.2.2.2.2.1,(r6.2.1.2.2.2.2.2.1,r6.2.1.2.2.2.2.2.2.1)))),((r6.2.1.2.2.2.2.2.2.2.1,(r6.2.1.2.2.2.2.2.2.2.2.1,r6.2.1.2.2.2.2.2.2.2.2.2.1)),r6.2.1.2.2.2.2.2.2.2.2.2.2)),(Nf x.2 r0.1,0)))) λ_=>some ((((r6.2.1.2.2.1,(r6.2.1.2.2.2.1,(r6.2.1.2.2.2.2.1,(r6.2.1.2.2.2.2.2.1,r6.2.1.2.2.2.2.2.2.1)))),((r6.2.1.2.2.2.2.2.2.2.1,(r6.2.1.2.2.2.2.2.2.2.2.1,r6.2.1.2.2.2.2.2.2.2.2.2.1)),r6.2.1.2.2.2.2.2.2.2.2.2.2)),(Nf x.2 r0.1,0)))) λ_=>bd (loop (λs7=>br (Am s7.1 (Nf x.2 r0.1)) (λ_=>bd (B0 ((s7.2.2.1,(s7.2.2.2.1,(s7.2.2.2.2.1,(s7.2.2.2.2.2.1,s7.2.2.2.2.2.2.1)))))) λr8=>br (BC r8.2.2.2 0) (λ_=>br (BC r8.2.2.2 0) (λ_=>some (.dn ((0,((s7.1,(r8.2.2.2,s7.2.2)),()))))) λ_=>some (.nx (AH .i64 s7.1 1,s7.2))) λ_=>bd (CA (((s7.2.2.2.2.2.2.2.1,(s7.2.2.2.2.2.2.2.2.1,s7.2.2.2.2.2.2.2.2.2.1)),r8.1))) λr9=>br (BC r9.2.2 0) (λ_=>br (BC r9.2.2 0) (λ_=>some (.dn ((0,((s7.1,(r9.2.2,s7.2.2)),()))))) λ_=>some (.nx (AH .i64 s7.1 1,s7.2))) λ_=>br r9.1 (λ_=>gd (BZ (A2 (AA s7.2.2.2.2.2.2.2.2.2.2.1) (AA [r8.1])) 1048576) λ_=>some (.nx ((AH .i64 s7.1 1,(s7.2.1,(r8.2.2.1.1,(r8.2.2.1.2.1,(r8.2.2.1.2.2.1,(r8.2.2.1.2.2.2.1,(r8.2.2.1.2.2.2.2,(r9.2.1.1,(r9.2.1.2.1,(r9.2.1.2.2,(CG s7.2.2.2.2.2.2.2.2.2.2.1 [r8.1],AH .i64 s7.2.2.2.2.2.2.2.2.2.2.2 1)))))))))))))) λ_=>some (.nx ((AH .i64 s7.1 1,(s7.2.1,(r8.2.2.1.1,(r8.2.2.1.2.1,(r8.2.2.1.2.2.1,(r8.2.2.1.2.2.2.1,(r8.2.2.1.2.2.2.2,(r9.2.1.1,(r9.2.1.2.1,(r9.2.1.2.2,(s7.2.2.2.2.2.2.2.2.2.2.1,AH .i64 s7.2.2.2.2.2.2.2.2.2.2.2 1)))))))))))))) λ_=>some (.dn ((1,(s7,()))))) ((1,(0,(r1.2.2.1.1,(r1.2.2.1.2.1,(r1.2.2.1.2.2.1,(r1.2.2.1.2.2.2.1,(r1.2.2.1.2.2.2.2,(r2.2.1.1,(r2.2.1.2.1,(r2.2.1.2.2,(x.1.2.2.1,AH .i64 x.1.2.2.2 1))))))))))))) λr10=>br (neq r10.1 0) (λ_=>br (BC r10.2.1.2.1 0) (λ_=>some (((([],([],([],([],0)))),((false,([],false)),([],0))),(0,r10.2.1.2.1)))) λ_=>some ((((r10.2.1.2.2.1,(r10.2.1.2.2.2.1,(r10.2.1.2.2.2.2.1,(r10.2.1.2.2.2.2.2.1,r10.2.1.2.2.2.2.2.2.1)))),((r10.2.1.2.2.2.2.2.2.2.1,(r10.2.1.2.2.2.2.2.2.2.2.1,r10.2.1.2.2.2.2.2.2.2.2.2.1)),r10.2.1.2.2.2.2.2.2.2.2.2.2)),(Nf x.2 r0.1,0)))) λ_=>some ((((r10.2.1.2.2.1,(r10.2.1.2.2.2.1,(r10.2.1.2.2.2.2.1,(r10.2.1.2.2.2.2.2.1,r10.2.1.2.2.2.2.2.2.1)))),((r10.2.1.2.2.2.2.2.2.2.1,(r10.2.1.2.2.2.2.2.2.2.2.1,r10.2.1.2.2.2.2.2.2.2.2.2.1)),r10.2.1.2.2.2.2.2.2.2.2.2.2)),(Nf x.2 r0.1,0)))) λ_=>some ((x.1,(Nf x.2 r0.1,0)))
def BP (x:((List AD)×(List AD))):Option Bool :=
 br (BC (Aa (AA x.1)) (Aa (AA x.2))) (λ_=>some false) λ_=>bd (loop (λs0=>br (Am s0.1 (Aa (AA x.1))) (λ_=>AU s0.1 λk1=>ix x.1 k1 λx2=>AU s0.1 λk3=>ix x.2 k3 λx4=>br (AX (Bm (seq x2.1 x4.1) (Bm (seq x2.2.1 x4.2.1) (Bm (beq x2.2.2.1 x4.2.2.1) (Bm (Ba x2.2.2.2 x4.2.2.2) true))))) (λ_=>some (.dn ((0,((s0.1,false),()))))) λ_=>some (.nx (AH .i64 s0.1 1,s0.2))) λ_=>some (.dn ((1,(s0,()))))) (0,false)) λr5=>br (neq r5.1 0) (λ_=>some r5.2.1.2) λ_=>some true
def Bo (x:((List AD)×(List AD))):Option Bool :=
 bd (BP x) λr0=>some r0
def DS (x:((AP×((Bool×AO)×((List AD)×Int)))×(AP×((Bool×AO)×((List AD)×Int))))):Option Bool :=
 br (BC (Aa (AA x.1.1.1)) (Aa (AA x.2.1.1))) (λ_=>some false) λ_=>bd (loop (λs0=>br (Am s0.1 (Aa (AA x.1.1.1))) (λ_=>AU s0.1 λk1=>ix x.1.1.1 k1 λx2=>AU s0.1 λk3=>ix x.2.1.1 k3 λx4=>bd (Bo (x2,x4)) λr5=>br (AX r5) (λ_=>some (.dn ((0,((s0.1,false),()))))) λ_=>some (.nx (AH .i64 s0.1 1,s0.2))) λ_=>some (.dn ((1,(s0,()))))) (0,false)) λr6=>br (neq r6.1 0) (λ_=>br r6.2.1.2 (λ_=>bd (Ad (x.1.1.2.1,x.2.1.2.1)) λr7=>br r7 (λ_=>bd (Aj (x.1.1.2.2.1,x.2.1.2.2.1)) λr8=>br r8 (λ_=>bd (Ad (x.1.1.2.2.2.1,x.2.1.2.2.2.1)) λr9=>br r9 (λ_=>br (Ba x.1.1.2.2.2.2 x.2.1.2.2.2.2) (λ_=>br (Bm (beq x.1.2.1.1 x.2.2.1.1) (Bm (seq x.1.2.1.2.1 x.2.2.1.2.1) (Bm (beq x.1.2.1.2.2 x.2.2.1.2.2) true))) (λ_=>bd (Bo (x.1.2.2.1,x.2.2.2.1)) λr10=>br r10 (λ_=>some (Ba x.1.2.2.2 x.2.2.2.2)) λ_=>some false) λ_=>some false) λ_=>some false) λ_=>some false) λ_=>some false) λ_=>some false) λ_=>some false) λ_=>bd (Ad (x.1.1.2.1,x.2.1.2.1)) λr11=>br r11 (λ_=>bd (Aj (x.1.1.2.2.1,x.2.1.2.2.1)) λr12=>br r12 (λ_=>bd (Ad (x.1.1.2.2.2.1,x.2.1.2.2.2.1)) λr13=>br r13 (λ_=>br (Ba x.1.1.2.2.2.2 x.2.1.2.2.2.2) (λ_=>br (Bm (beq x.1.2.1.1 x.2.2.1.1) (Bm (seq x.1.2.1.2.1 x.2.2.1.2.1) (Bm (beq x.1.2.1.2.2 x.2.2.1.2.2) true))) (λ_=>bd (Bo (x.1.2.2.1,x.2.2.2.1)) λr14=>br r14 (λ_=>some (Ba x.1.2.2.2 x.2.2.2.2)) λ_=>some false) λ_=>some false) λ_=>some false) λ_=>some false) λ_=>some false) λ_=>some false
def DT (x:(AK×((List (Int×(AP×((Bool×AO)×((List AD)×Int)))))×Int))):Option (Int×Int) :=
 bd (C9 x.1) λr0=>br (BC r0.2.2 0) (λ_=>some (((-1),r0.2.2))) λ_=>br (Am x.2.2 1) (λ_=>some (((-1),7))) λ_=>br (CF x.2.2 1000001) (λ_=>some (((-1),7))) λ_=>bd (EF x.1) λr1=>br (Vz x.2.2 r1) (λ_=>some (((-1),6))) λ_=>bd (loop (λs2=>br (Am s2.1 (Aa (AA x.1.2))) (λ_=>AU s2.1 λk3=>ix x.1.2 k3 λx4=>br (Ba (Aa (AA x4)) 2) (λ_=>gd (BZ (A2 (AA s2.2) (AA [s2.1])) 1048576) λ_=>some (.nx (AH .i64 s2.1 1,CG s2.2 [s2.1]))) λ_=>some (.nx (AH .i64 s2.1 1,s2.2))) λ_=>some (.dn ((0,(s2,()))))) (0,[])) λr5=>bd (loop (λs6=>br (Am s6.2.2 (Aa (AA x.2.1))) (λ_=>AU s6.2.2 λk7=>ix x.2.1 k7 λx8=>br (Hj s6.2.2 (Aa (AA r5.2.1.2))) (λ_=>some (.dn ((0,((6,(s6.2.2,s6.2.2)),()))))) λ_=>AU s6.2.2 λk9=>gd (Dz k9 (AA r5.2.1.2)) λ_=>ix r5.2.1.2 k9 λx10=>br (BC x8.1 x10) (λ_=>some (.dn ((0,((6,(s6.2.2,s6.2.2)),()))))) λ_=>br x8.2.2.1.2.2 (λ_=>bd (C1 (x.1,x8.1)) λr11=>br (AX r11) (λ_=>some (.dn ((0,((6,(s6.2.2,s6.2.2)),()))))) λ_=>bd (CV ((x.1,(x8.1,x8.2.2.1.2.2)))) λr12=>bd (Bh r12.2) λr13=>br (Am x8.2.2.2.2 0) (λ_=>some (.dn ((0,((6,(s6.2.2,s6.2.2)),()))))) λ_=>br (CF x8.2.2.2.2 r13.1) (λ_=>some (.dn ((0,((6,(s6.2.2,s6.2.2)),()))))) λ_=>bd (By (r12.2,x8.2.2.2.2)) λr14=>bd (DS (r14.1,x8.2)) λr15=>br (AX r15) (λ_=>some (.dn ((0,((6,(s6.2.2,s6.2.2)),()))))) λ_=>some (.nx ((s6.1,(s6.2.1,AH .i64 s6.2.2 1))))) λ_=>bd (CV ((x.1,(x8.1,x8.2.2.1.2.2)))) λr16=>bd (Bh r16.2) λr17=>br (Am x8.2.2.2.2 0) (λ_=>some (.dn ((0,((6,(s6.2.2,s6.2.2)),()))))) λ_=>br (CF x8.2.2.2.2 r17.1) (λ_=>some (.dn ((0,((6,(s6.2.2,s6.2.2)),()))))) λ_=>bd (By (r16.2,x8.2.2.2.2)) λr18=>bd (DS (r18.1,x8.2)) λr19=>br (AX r19) (λ_=>some (.dn ((0,((6,(s6.2.2,s6.2.2)),()))))) λ_=>some (.nx ((s6.1,(s6.2.1,AH .i64 s6.2.2 1))))) λ_=>some (.dn ((1,(s6,()))))) ((r0.2.2,(0,0)))) λr20=>br (neq r20.1 0) (λ_=>some (r20.2.1.2.1,r20.2.1.1)) λ_=>br (Am (Aa (AA x.2.1)) (Aa (AA r5.2.1.2))) (λ_=>some (((-1),4))) λ_=>some (0,0)
end Go.Proofs.YthpkjfabdccpdaaGreat.Pl
namespace Go.Proofs.YthpkjfabdccpdaaGreat.Pl
open Go Go.Proofs.YthpkjfabdccpdaaGreat.Sv
abbrev Gu:=List UInt8
theorem MI (a:Gu):CT a []=false:=by unfold CT;cases a<;>rfl
theorem Rj (b:UInt8) (y:Gu):CT [] (b::y)=true:=rfl
theorem IW (a b:UInt8) (x y:Gu):CT (a::x) (b::y)=(decide (a<b)||(a == b&&CT x y)):=rfl
theorem GW : ∀ a:Gu,CT a a=false
 | []=>rfl
 | a::x=>by rw [IW,GW x];simp
theorem E1 : ∀ {a b c:Gu},CT a b=true->CT b c=true->CT a c=true
 | [],b,[],h1,h2=>by rw [MI] at h2;cases h2
 | [],b,c::z,_,_=>rfl
 | a::x,[],c,h1,_=>by rw [MI] at h1;cases h1
 | a::x,b::y,[],_,h2=>by rw [MI] at h2;cases h2
 | a::x,b::y,c::z,h1,h2=>by
  rw [IW] at h1 h2 ⊢;simp only [Bool.or_eq_true,decide_eq_true_eq,Bool.and_eq_true,beq_iff_eq] at h1 h2 ⊢;rcases h1 with h1 | ⟨rfl,h1⟩
  ·rcases h2 with h2 | ⟨rfl,h2⟩
   ·exact .inl (UInt8.lt_trans h1 h2)
   ·exact .inl h1
  ·rcases h2 with h2 | ⟨rfl,h2⟩
   ·exact .inl h2
   ·exact .inr ⟨rfl,E1 h1 h2⟩
theorem OA : ∀ a b:Gu,CT a b=true\/a=b\/CT b a=true
 | [],[] => .inr (.inl rfl)
 | [],_::_ => .inl rfl
 | _::_,[] => .inr (.inr rfl)
 | a::x,b::y=>by
  rw [IW,IW];simp only [Bool.or_eq_true,decide_eq_true_eq,Bool.and_eq_true,beq_iff_eq,List.cons.injEq];rcases UInt8.lt_or_lt_of_ne (a:=a) (b:=b) |> λh=>Classical.em (a=b) |>.imp id h with h | h | h
  ·subst h;rcases OA x y with h | h | h
   ·exact .inl (.inr ⟨rfl,h⟩)
   ·exact .inr (.inl ⟨rfl,h⟩)
   ·exact .inr (.inr (.inr ⟨rfl,h⟩))
  ·exact .inl (.inl h)
  ·exact .inr (.inr (.inl h))
theorem Cg {a b:Gu} (h:CT a b=true):CT b a=false:=by
 cases h2:CT b a with
 | false=>rfl
 | true=>have:=E1 h h2;rw [GW] at this;cases this
theorem Ju {a b:Gu} (h:CT a b=true):a≠b:=λe=>by subst e;rw [GW] at h;cases h
theorem LM {a b:Gu} (h:CT a b=false) (hn:a≠b):CT b a=true:=by
 rcases OA a b with h1 | h1 | h1
 ·rw [h] at h1;cases h1
 ·exact absurd h1 hn
 ·exact h1
theorem Ow {a b c:Gu} (h:CT b a=false) (h2:CT b c=true):CT a c=true:=by
 rcases OA a b with h1 | h1 | h1
 ·exact E1 h1 h2
 ·subst h1;exact h2
 ·rw [h] at h1;cases h1
theorem S7 {a b c:Gu} (h:CT a b=true) (h2:CT c b=false):CT a c=true:=by
 rcases OA b c with h1 | h1 | h1
 ·exact E1 h h1
 ·subst h1;exact h
 ·rw [h2] at h1;cases h1
theorem OB {a b:Gu}:seq a b=true<->a=b:=by unfold seq;simp
theorem LN (a b:Gu):seq a b=decide (a=b):=by
 cases h:seq a b with
 | true=>rw [OB] at h;simp [h]
 | false =>
  have : ¬ a=b:=λe=>by rw [<- OB] at e;rw [h] at e;cases e
  simp [this]
section
variable {α β σ S:Type}
theorem EO (a b:Gu) (x y:Unit->Option β):br (seq a b) x y=if a=b then x () else y ():=Ns OB x y
theorem F7 (a b:Gu) (x y:Unit->Option β):br (CT a b) x y=if CT a b=true then x () else y ():=Ns Iff.rfl x y
theorem Cn (p:Prop) [Decidable p] (x y:Unit->Option β):br (decide p) x y=if p then x () else y ():=Ns (by simp) x y
theorem AE (k:Nat) (c:Nat->Option β):AU (k:Int) c=c k:=by rw [WL (by omega)];simp
theorem ic {l:List α} {k:Nat} {x:α} (h:l[k]? = some x):Am (k:Int) (Aa (AA l))=true:=by
 have:=(List.getElem?_eq_some_iff.1 h).1;unfold Am Aa AA;simp;omega
theorem gA (l:List α):Am (l.length:Int) (Aa (AA l))=false:=by unfold Am Aa AA;simp
theorem Ab {k:Nat} (h:k+1<=9223372036854775807):AH .i64 (k:Int) 1=((k+1:Nat):Int):=by
 rw [D8 (by omega)];omega
theorem Al {l:List α} {k:Nat} {x:α} (h:l[k]? = some x) (hl:l.length<=9223372036854775807):AH .i64 (k:Int) 1=((k+1:Nat):Int):=by
 have:=(List.getElem?_eq_some_iff.1 h).1;exact Ab (by omega)
def Ox (step:Nat->α->σ->Option (LR σ β)) (fin:σ->Option β):List α->Nat->σ->Option β
 | [],_,s=>fin s
 | x::l,k,s=>match step k x s with
  | none=>none
  | some (.nx s')=>Ox step fin l (k+1) s'
  | some (.dn b)=>some b
def oB (mk:σ->S):Option (LR σ β)->Option (LR S β)
 | none=>none
 | some (.nx s)=>some (.nx (mk s))
 | some (.dn b)=>some (.dn b)
def jR:Option β->Option (LR S β)
 | none=>none
 | some b=>some (.dn b)
theorem Uo {l:List α} {mk:Nat->σ->S} {f:S->Option (LR S β)} {step:Nat->α->σ->Option (LR σ β)} {fin:σ->Option β}
  (hs : ∀ k x st,l[k]? = some x->f (mk k st)=oB (mk (k+1)) (step k x st)) (he : ∀ st,f (mk l.length st)=jR (fin st)) :
  ∀ (d n k:Nat) (st:σ),l.length-k=d->k<=l.length->d<n->D2 n f (mk k st)=Ox step fin (l.drop k) k st:=by
 intro d
 induction d with
 | zero =>
  intro n k st h1 h2 h3;have hk:k=l.length:=by omega
  obtain ⟨m,rfl⟩ : ∃ m,n=m+1:=⟨n-1,by omega⟩;subst hk;unfold D2;rw [he,List.drop_length];unfold jR Ox;cases fin st<;>rfl
 | succ d ih =>
  intro n k st h1 h2 h3;obtain ⟨m,rfl⟩ : ∃ m,n=m+1:=⟨n-1,by omega⟩;have hk:k<l.length:=by omega
  have hx:l[k]? = some l[k]:=by simp [hk]
  unfold D2;rw [hs k _ st hx,List.drop_eq_getElem_cons hk]
  show _=match step k l[k] st with
   | none=>none
   | some (.nx s')=>Ox step fin (l.drop (k+1)) (k+1) s'
   | some (.dn b)=>some b
  cases step k l[k] st with
  | none=>rfl
  | some r=>cases r with
   | nx s'=>exact ih m (k+1) s' (by omega) (by omega) (by omega)
   | dn b=>rfl
theorem XS {l:List α} (mk:Nat->σ->S) (step:Nat->α->σ->Option (LR σ β)) (fin:σ->Option β) {f:S->Option (LR S β)} {s:S} (st:σ) (h0:s=mk 0 st) (hl:l.length<=9223372036854775807)
  (hs : ∀ k x st,l[k]? = some x->f (mk k st)=oB (mk (k+1)) (step k x st)) (he : ∀ st,f (mk l.length st)=jR (fin st)) :
  loop f s=Ox step fin l 0 st:=by
 subst h0;have:=Uo hs he l.length 18446744073709551616 0 st (by omega) (by omega) (by omega);rw [List.drop_zero] at this;exact this
theorem S8 {f:α->Option (LR α β)} {x:β} : ∀ {n m:Nat} {s:α},n<=m->D2 n f s=some x->D2 m f s=some x
 | 0,_,_,_,h=>by cases h
 | n+1,0,_,hl,_=>by omega
 | n+1,m+1,s,hl,h=>by
  unfold D2 at h ⊢;split at h
  ·cases h
  ·rename_i s' e;exact S8 (by omega) h
  ·exact h
theorem Ch {f:α->Option (LR α β)} {x:β} {n:Nat} {s:α} (hn:n<=18446744073709551616) (h:D2 n f s=some x):loop f s=some x:=S8 hn h
theorem BG {f:α->Option (LR α β)} {n:Nat} {s s':α} (h:f s=some (.nx s')):D2 (n+1) f s=D2 n f s':=by
 show (match f s with
  | none=>none
  | some (.nx s)=>D2 n f s
  | some (.dn x)=>some x)=_
 rw [h]
theorem BV {f:α->Option (LR α β)} {n:Nat} {s:α} {x:β} (h:f s=some (.dn x)):D2 (n+1) f s=some x:=by
 show (match f s with
  | none=>none
  | some (.nx s)=>D2 n f s
  | some (.dn x)=>some x)=_
 rw [h]
theorem Oy {f : S -> Option (LR S β)} {r : β} (mk : Nat -> S) (n : Nat) {s : S} (h0 : s = mk 0) (hn : n < 18446744073709551616) (hs : ∀ k, k < n -> f (mk k) = some (.nx (mk (k + 1)))) (he : f (mk n) = some (.dn r)) : loop f s = some r := by
  subst h0
  have : ∀ d k, k + d = n -> D2 (d + 1) f (mk k) = some r := by
    intro d
    induction d with
    | zero => intro k hk; have : k = n := by omega
              subst this; exact BV he
    | succ d ih => intro k hk; rw [BG (hs k (by omega))]; exact ih (k + 1) (by omega)
  exact Ch (n := n + 1) (by omega) (this n 0 (by omega))
end
end Go.Proofs.YthpkjfabdccpdaaGreat.Pl
namespace Go.Proofs.YthpkjfabdccpdaaGreat.Pl
open Go Go.Proofs.YthpkjfabdccpdaaGreat.Sv
def kE (x:AD):Int:=if x.1.length>32\/x.2.1.length>64 then 3 else if x.2.2.1=true/\x.2.1≠[] then 6 else if x.2.2.2<1\/x.2.2.2>1000000000 then 7 else 0
def Jv:Option Gu->Nat->List AD->Int×Int
 | _,_,[]=>(0,0)
 | p,k,x::l=>if kE x≠0 then ((k:Int),kE x) else match p with
  | some q=>if CT q x.1=true then Jv (some x.1) (k+1) l else ((k:Int),6)
  | none=>Jv (some x.1) (k+1) l
def FA (l:List AD):Int×Int:=if l.length>5000 then (-1,3) else Jv none 0 l
def Asc:Option Gu->List AD->Prop
 | _,[]=>True
 | p,x::l=>(∀ q,p=some q->CT q x.1=true)/\Asc (some x.1) l
theorem Rk : ∀ {p k l},(Jv p k l).2=0<->(∀ x∈l,kE x=0)/\Asc p l
 | p,k,[]=>by simp [Jv,Asc]
 | p,k,x::l=>by
  unfold Jv;by_cases h:kE x=0
  ·rw [if_neg (by simp [h])];cases p with
   | none =>
    simp only [Rk (p:=some x.1) (l:=l),Asc,List.mem_cons,forall_eq_or_imp];constructor
    ·rintro ⟨h1,h2⟩;exact ⟨⟨h,h1⟩,(λq hq=>by cases hq),h2⟩
    ·rintro ⟨⟨_,h1⟩,_,h2⟩;exact ⟨h1,h2⟩
   | some q =>
    simp only;by_cases hq:CT q x.1=true
    ·rw [if_pos hq];simp only [Rk (p:=some x.1) (l:=l),Asc,List.mem_cons,forall_eq_or_imp];constructor
     ·rintro ⟨h1,h2⟩;exact ⟨⟨h,h1⟩,(λq' hq'=>by cases hq';exact hq),h2⟩
     ·rintro ⟨⟨_,h1⟩,_,h2⟩;exact ⟨h1,h2⟩
    ·rw [if_neg hq];constructor
     ·intro h;cases h
     ·rintro ⟨_,h2⟩;exact absurd (h2.1 q rfl) hq
  ·rw [if_pos h];constructor
   ·intro h';exact absurd h' h
   ·rintro ⟨h1,_⟩;exact absurd (h1 x (by simp)) h
theorem NC : ∀ {p k l},(Jv p k l).2=0->Jv p k l=(0,0)
 | p,k,[],_=>rfl
 | p,k,x::l,h=>by
  unfold Jv at h ⊢;by_cases hx:kE x=0
  ·rw [if_neg (by simp [hx])] at h ⊢;cases p with
   | none=>exact NC h
   | some q =>
    simp only at h ⊢;by_cases hq:CT q x.1=true
    ·rw [if_pos hq] at h ⊢;exact NC h
    ·rw [if_neg hq] at h;cases h
  ·rw [if_pos hx] at h;exact absurd h hx
structure VL (l:List AD):Prop where
 len:l.length<=5000
 ok : ∀ x∈l,kE x=0
 asc:Asc none l
theorem ND {l:List AD}:(FA l).2=0<->VL l:=by
 unfold FA;by_cases h:l.length>5000
 ·rw [if_pos h];constructor
  ·intro h;cases h
  ·intro h';have:=h'.len;omega
 ·rw [if_neg h];rw [Rk];exact ⟨λ⟨a,b⟩=>⟨by omega,a,b⟩,λh=>⟨h.ok,h.asc⟩⟩
theorem Jw {l:List AD} (h:VL l):FA l=(0,0):=by
 have h2:=ND.2 h;unfold FA at h2 ⊢;rw [if_neg (by have:=h.len;omega)] at h2 ⊢;exact NC h2
theorem Asc.lt : ∀ {p:Option Gu} {l:List AD},Asc p l -> ∀ {i:Nat} {x y:AD},l[i]? = some x->l[i+1]? = some y->CT x.1 y.1=true
 | p,x::[],_,0,_,_,_,h2=>by simp at h2
 | p,a::b::l,h,0,x,y,h1,h2=>by
  simp at h1 h2;subst h1;subst h2;exact h.2.1 _ rfl
 | p,a::l,h,i+1,x,y,h1,h2=>by
  simp at h1 h2;exact Asc.lt h.2 h1 h2
theorem VL.lt {l:List AD} (h:VL l) {i:Nat} {x y:AD} (h1:l[i]? = some x) (h2:l[i+1]? = some y):CT x.1 y.1=true:=h.asc.lt h1 h2
def kx (l:List AD) (i:Nat):AO:=match l[i]? with
 | some x=>(x.1,false)
 | none=>([],true)
def w0 (p q:AO):Bool:=if p.2≠q.2 then q.2 else if p.1≠q.1 then CT p.1 q.1 else true
def HK (a b:List AD) (i j:Nat):Bool:=w0 (kx a i) (kx b j)
def Ag (a b:List AD):Nat->Nat×Nat
 | 0=>(0,0)
 | n+1=>if HK a b (Ag a b n).1 (Ag a b n).2=true then ((Ag a b n).1+1,(Ag a b n).2) else ((Ag a b n).1,(Ag a b n).2+1)
def Nm (a b:List AD) (n:Nat):Option AD:=if HK a b (Ag a b n).1 (Ag a b n).2=true then a[(Ag a b n).1]? else b[(Ag a b n).2]?
structure Inv (a b:List AD) (i j:Nat):Prop where
 ia:i<=a.length
 jb:j<=b.length
 pa : ∀ i',i=i'+1 -> ∀ x y,a[i']? = some x->b[j]? = some y->CT y.1 x.1=false
 pb : ∀ j',j=j'+1 -> ∀ x y,b[j']? = some x->a[i]? = some y->CT x.1 y.1=true
theorem Oz {a b:List AD} {i j:Nat} {x y:AD} (h1:a[i]? = some x) (h2:b[j]? = some y):HK a b i j = !CT y.1 x.1:=by
 unfold HK w0 kx;rw [h1,h2];simp only [ne_eq,not_true,if_false];by_cases h:x.1=y.1
 ·rw [if_neg (by simp [h]),h,GW];rfl
 ·rw [if_pos h];cases hs:CT x.1 y.1 with
  | true=>rw [Cg hs];rfl
  | false=>rw [LM hs h];rfl
theorem WM {a b:List AD} {i j:Nat} {x:AD} (h1:a[i]? = some x) (h2:b[j]? = none):HK a b i j=true:=by
 unfold HK w0 kx;rw [h1,h2];rfl
theorem WN {a b:List AD} {i j:Nat} {y:AD} (h1:a[i]? = none) (h2:b[j]? = some y):HK a b i j=false:=by
 unfold HK w0 kx;rw [h1,h2];rfl
theorem S9 {a b:List AD} {i j:Nat} (h1:a[i]? = none) (h2:b[j]? = none):HK a b i j=true:=by
 unfold HK w0 kx;rw [h1,h2];rfl
theorem Inv.zero (a b:List AD):Inv a b 0 0:=⟨by omega,by omega,λ_ h=>by omega,λ_ h=>by omega⟩
theorem Inv.stepA {a b:List AD} (va:VL a) {i j:Nat} (h:Inv a b i j) {x:AD} (hx:a[i]? = some x) (g:HK a b i j=true):Inv a b (i+1) j:=by
 have hi:=(List.getElem?_eq_some_iff.1 hx).1;refine ⟨by omega,h.jb,λi' e x' y h1 h2 => ?_,λj' e x' y h1 h2 => ?_⟩
 ·have:i'=i:=by omega
  subst this;rw [hx] at h1;cases h1;rw [Oz hx h2] at g;simpa using g
 ·exact E1 (h.pb j' e x' x h1 hx) (va.lt hx h2)
theorem Inv.stepB {a b:List AD} (vb:VL b) {i j:Nat} (h:Inv a b i j) {y:AD} (hy:b[j]? = some y) (g:HK a b i j=false):Inv a b i (j+1):=by
 have hj:=(List.getElem?_eq_some_iff.1 hy).1;refine ⟨h.ia,by omega,λi' e x' y' h1 h2 => ?_,λj' e x' y' h1 h2 => ?_⟩
 ·have h3:=h.pa i' e x' y h1 hy;exact Cg (Ow h3 (vb.lt hy h2))
 ·have:j'=j:=by omega
  subst this;rw [hy] at h1;cases h1;rw [Oz h2 hy] at g;simpa using g
theorem Ee {a b:List AD} (va:VL a) (vb:VL b) : ∀ {n:Nat},n<=a.length+b.length->Inv a b (Ag a b n).1 (Ag a b n).2/\(Ag a b n).1+(Ag a b n).2=n
 | 0,_=>⟨Inv.zero a b,rfl⟩
 | n+1,h=>by
  obtain ⟨hI,hs⟩:=Ee va vb (n:=n) (by omega);rw [show Ag a b (n+1)=if HK a b (Ag a b n).1 (Ag a b n).2=true then ((Ag a b n).1+1,(Ag a b n).2) else ((Ag a b n).1,(Ag a b n).2+1) from rfl]
  revert hI hs;generalize (Ag a b n).1=i;generalize (Ag a b n).2=j;intro hI hs;cases g:HK a b i j with
  | true =>
   have hi:i<a.length:=by
    refine Nat.lt_of_not_le λh' => ?_;have h1:a[i]? = none:=List.getElem?_eq_none h';have h2:j<b.length:=by have:=hI.ia;omega
    rw [WN h1 (by simp [h2]:b[j]? = some b[j])] at g;cases g
   have:=hI.stepA va (by simp [hi]:a[i]? = some a[i]) g;rw [if_pos rfl];exact ⟨this,by omega⟩
  | false =>
   have hj:j<b.length:=by
    refine Nat.lt_of_not_le λh' => ?_;have h1:b[j]? = none:=List.getElem?_eq_none h';cases h2:a[i]? with
    | none=>rw [S9 h2 h1] at g;cases g
    | some x=>rw [WM h2 h1] at g;cases g
   have:=hI.stepB vb (by simp [hj]:b[j]? = some b[j]) g;rw [if_neg (by simp)];exact ⟨this,by omega⟩
end Go.Proofs.YthpkjfabdccpdaaGreat.Pl
namespace Go.Proofs.YthpkjfabdccpdaaGreat.Pl
open Go Go.Proofs.YthpkjfabdccpdaaGreat.Sv
def Tt (p q:AO):D9:=([p,q],([0,if w0 p q=true then 1 else 0],if w0 p q=true then 0 else 1))
def La (a b:List AD) (i j:Nat):AP:=([a,b],([(i:Int),(j:Int)],Tt (kx a i) (kx b j)))
def gx (a b:List AD) (n:Nat):Gu:=match Nm a b n with
 | some x=>x.1
 | none=>[]
def fresh (a b:List AD) (n:Nat) (x:AD):Bool:=decide (n=0)||decide (gx a b (n-1)≠x.1)
def gB (a b:List AD) (bt:Bool):Nat->List AD
 | 0=>[]
 | n+1=>match Nm a b n with
  | some x=>if (fresh a b n x && !(bt&&x.2.2.1))=true then gB a b bt n++[x] else gB a b bt n
  | none=>gB a b bt n
def oF (a b:List AD) (bt:Bool) (n:Nat):Bt:=(decide (n≠0),(if n=0 then [] else gx a b (n-1),bt))
def oG (a b:List AD) (bt:Bool) (n:Nat):Hy:=(La a b (Ag a b n).1 (Ag a b n).2,(oF a b bt n,(gB a b bt n,(n:Int))))
def Ar (a b:List AD):Nat->List AD
 | 0=>[]
 | n+1=>match Nm a b n with
  | some x=>Ar a b n++[x]
  | none=>Ar a b n
section
variable {a b:List AD} (va:VL a) (vb:VL b)
include va vb
theorem Dv {n:Nat} (h:n<a.length+b.length) : ∃ x,Nm a b n=some x/\(x∈a\/x∈b):=by
 obtain ⟨hI,hs⟩:=Ee va vb (n:=n) (by omega);unfold Nm;revert hI hs;generalize (Ag a b n).1=i;generalize (Ag a b n).2=j;intro hI hs;cases g:HK a b i j with
 | true =>
  have hi:i<a.length:=by
   refine Nat.lt_of_not_le λh' => ?_;have h1:a[i]? = none:=List.getElem?_eq_none h';have h2:j<b.length:=by have:=hI.ia;omega
   rw [WN h1 (by simp [h2]:b[j]? = some b[j])] at g;cases g
  exact ⟨a[i],by simp [hi],.inl (List.getElem_mem hi)⟩
 | false =>
  have hj:j<b.length:=by
   refine Nat.lt_of_not_le λh' => ?_;have h1:b[j]? = none:=List.getElem?_eq_none h';cases h2:a[i]? with
   | none=>rw [S9 h2 h1] at g;cases g
   | some x=>rw [WM h2 h1] at g;cases g
  exact ⟨b[j],by simp [hj],.inr (List.getElem_mem hj)⟩
theorem Zk {n:Nat} {x:AD} (h:Nm a b n=some x):kE x=0:=by
 have:x∈a\/x∈b:=by
  unfold Nm at h;split at h
  ·exact .inl (List.mem_of_getElem? h)
  ·exact .inr (List.mem_of_getElem? h)
 rcases this with h | h
 ·exact va.ok x h
 ·exact vb.ok x h
theorem WO {n:Nat} (hn:n+1<a.length+b.length) {x y:AD} (h1:Nm a b n=some x) (h2:Nm a b (n+1)=some y):CT y.1 x.1=false:=by
 obtain ⟨hI,hs⟩:=Ee va vb (n:=n) (by omega);unfold Nm at h1 h2;rw [show Ag a b (n+1)=if HK a b (Ag a b n).1 (Ag a b n).2=true then ((Ag a b n).1+1,(Ag a b n).2) else ((Ag a b n).1,(Ag a b n).2+1) from rfl] at h2
 revert hI hs h1 h2;generalize (Ag a b n).1=i;generalize (Ag a b n).2=j;intro h1 h2 hI hs;cases g:HK a b i j with
 | true =>
  rw [if_pos g] at h1;simp only [g,if_true] at h2;have hI':=hI.stepA va h1 g;cases g2:HK a b (i+1) j with
  | true=>rw [if_pos g2] at h2;exact Cg (va.lt h1 h2)
  | false=>rw [if_neg (by simp [g2])] at h2;exact hI'.pa i rfl x y h1 h2
 | false =>
  rw [if_neg (by simp [g])] at h1;simp only [g,if_false,Bool.false_eq_true] at h2;have hI':=hI.stepB vb h1 g;cases g2:HK a b i (j+1) with
  | true=>rw [if_pos g2] at h2;exact Cg (hI'.pb j rfl x y h1 h2)
  | false=>rw [if_neg (by simp [g2])] at h2;exact Cg (vb.lt h1 h2)
theorem Ci : ∀ {n:Nat},n<=a.length+b.length->(Ar a b n).length=n
 | 0,_=>rfl
 | n+1,h=>by
  obtain ⟨x,hx,_⟩:=Dv va vb (n:=n) (by omega);unfold Ar;rw [hx];simp [Ci (n:=n) (by omega)]
theorem IX : ∀ {n k:Nat},n<=a.length+b.length->k<n->(Ar a b n)[k]? = Nm a b k
 | n+1,k,h,hk=>by
  obtain ⟨x,hx,_⟩:=Dv va vb (n:=n) (by omega);unfold Ar;rw [hx];show (Ar a b n++[x])[k]? = _;have hl:=Ci va vb (n:=n) (by omega);by_cases hkn:k<n
  ·rw [List.getElem?_append_left (by omega)];exact IX (by omega) hkn
  ·have:k=n:=by omega
   subst this;rw [List.getElem?_append_right (by omega),hl];simp [hx]
theorem Uq {n m:Nat} (hm:m<=a.length+b.length) (h:n<=m):(Ar a b m).take n=Ar a b n:=by
 apply List.ext_getElem?;intro k;rw [List.getElem?_take];by_cases hk:k<n
 ·rw [if_pos hk,IX va vb hm (by omega),IX va vb (by omega) hk]
 ·rw [if_neg hk,List.getElem?_eq_none];rw [Ci va vb (by omega)];omega
end
end Go.Proofs.YthpkjfabdccpdaaGreat.Pl
namespace Go.Proofs.YthpkjfabdccpdaaGreat.Pl
open Go Go.Proofs.YthpkjfabdccpdaaGreat.Sv
theorem AV (n:Nat):Aa n=(n:Int):=rfl
theorem AQ {α:Type} (l:List α):AA l=l.length:=rfl
theorem I5 (l:List UInt8):E8 l=l.length:=rfl
theorem NE:AX true=false:=rfl
theorem Zl:AX false=true:=rfl
theorem Bf {β:Type} (c:Bool) (x y:Unit->Option β):br (AX c) x y=br c y x:=iY c x y
theorem Bj {β:Type} {a b:Nat} (h:a<=b) (k:Unit->Option β):gd (BZ a b) k=k ():=by rw [Un,if_pos h]
theorem Km (k:Gu):Ey k=some (if k.length>32 then 3 else 0):=by
 unfold Ey;rw [Aq,AV,I5];by_cases h:k.length>32
 ·rw [if_pos (by omega),if_pos h]
 ·rw [if_neg (by omega),if_neg h]
theorem GX (x:AD):CK x=some (kE x):=by
 unfold CK kE;rw [Km,AB,AS];by_cases h1:x.1.length>32
 ·simp [h1]
 rw [if_neg h1,if_pos rfl,Aq,AV,I5];by_cases h2:x.2.1.length>64
 ·rw [if_pos (by omega),if_pos (.inr h2)]
 rw [if_neg (by omega : ¬ (x.2.1.length:Int)>64),if_neg (by omega),Fo];by_cases h3:x.2.2.1=true
 ·rw [if_pos h3,Bf,EO];by_cases h4:x.2.1=[]
  ·rw [if_pos h4,if_neg (by simp [h4]),BE,Aq];by_cases h5:x.2.2.2<1
   ·simp [h5]
   ·by_cases h6:x.2.2.2>1000000000<;>simp [h5,h6]
  ·rw [if_neg h4,if_pos ⟨h3,h4⟩]
 ·rw [if_neg h3,if_neg (by simp [h3]),BE,Aq];by_cases h5:x.2.2.2<1
  ·simp [h5]
  ·by_cases h6:x.2.2.2>1000000000<;>simp [h5,h6]
theorem Gv (l:List AD) (hl:l.length<=9223372036854775807):BN l=some (FA l):=by
 unfold BN FA;rw [Aq,AV,AQ];by_cases h:l.length>5000
 ·rw [if_pos (by omega),if_pos h]
 rw [if_neg (by omega),if_neg h]
 have key:=XS (β:=Nat×(Int×Int×Int)×Unit) (l:=l) (λk (_:Int)=>((0:Int),((0:Int),(k:Int))))
  (λk x _=>if kE x≠0 then some (.dn (0,((kE x,((k:Int),(k:Int))),()))) else if k>0 then
    (match l[k-1]? with
    | some y=>if CT y.1 x.1=true then some (.nx 0) else some (.dn (0,(((6:Int),((k:Int),(k:Int))),())))
    | none=>none) else some (.nx 0))
  (λ_=>some (1,((0,(0,(l.length:Int))),()))) (s:=(0,(0,0))) (0:Int) rfl hl (f:=(λs0=>br (Am s0.2.2 (Aa (AA l))) (λ_=>AU s0.2.2 λk1=>ix l k1 λx2=>bd (CK x2) λr3=>br (BC r3 0) (λ_=>some (.dn ((0,((r3,(s0.2.2,s0.2.2)),()))))) λ_=>br (CF s0.2.2 0) (λ_=>AU (B9 .i64 s0.2.2 1) λk4=>ix l k4 λx5=>br (AX (CT x5.1 x2.1)) (λ_=>some (.dn ((0,((6,(s0.2.2,s0.2.2)),()))))) λ_=>some (.nx ((s0.1,(s0.2.1,AH .i64 s0.2.2 1))))) λ_=>some (.nx ((s0.1,(s0.2.1,AH .i64 s0.2.2 1))))) λ_=>some (.dn ((1,(s0,()))))))
  (λk x st hx=>by
   simp only;rw [ic hx,AM,AE,AJ hx,GX,AB,AS];by_cases h1:kE x=0
   ·have hk:k<l.length:=(List.getElem?_eq_some_iff.1 hx).1;simp only [h1,if_true,ne_eq,not_true,if_false];rw [Aq];by_cases h2:k>0
    ·rw [if_pos (by omega:(k:Int)>0),if_pos h2,B7 (by omega),show ((k:Int)-1)=((k-1:Nat):Int) by omega,AE];have hy:l[k-1]? = some l[k-1]:=by rw [List.getElem?_eq_getElem (by omega)]
     rw [AJ hy,hy,Bf,F7];simp only;by_cases h3:CT l[k-1].1 x.1=true
     ·rw [if_pos h3,if_pos h3,Al hx hl];rfl
     ·rw [if_neg h3,if_neg h3];rfl
    ·rw [if_neg (by omega : ¬ (k:Int)>0),if_neg h2,Al hx hl];rfl
   ·simp only [h1,if_false,ne_eq,not_false_iff,if_true];rfl)
  (λst=>by
   simp only
   rw [gA,Ap];rfl)
 simp only [AV,AQ] at key;rw [key]
 have main : ∀ (m:List AD) (k:Nat) (p:Option Gu),l.drop k=m->(p=if k=0 then none else (l[k-1]?).map (·.1)) -> ∀ st,bd (Ox (β:=Nat×(Int×Int×Int)×Unit) (λk x (_:Int)=>if kE x≠0 then some (.dn (0,((kE x,((k:Int),(k:Int))),()))) else if k>0 then
    (match l[k-1]? with
    | some y=>if CT y.1 x.1=true then some (.nx 0) else some (.dn (0,(((6:Int),((k:Int),(k:Int))),())))
    | none=>none) else some (.nx (0:Int))) (λ_=>some (1,((0,(0,(l.length:Int))),()))) m k st) (λr6=>br (neq r6.1 0) (λ_=>some (r6.2.1.2.1,r6.2.1.1)) λ_=>some ((0:Int),(0:Int)))=some (Jv p k m):=by
  intro m
  induction m with
  | nil=>intro k p _ _ st;rfl
  | cons x m ih =>
   intro k p hm hp st
   have hx:l[k]? = some x:=by
    have:=congrArg List.head? hm;rw [List.head?_drop] at this;simpa using this
   have hk:k<l.length:=(List.getElem?_eq_some_iff.1 hx).1
   have hm2:l.drop (k+1)=m:=by
    have:=congrArg List.tail hm;rw [List.tail_drop] at this;simpa using this
   unfold Ox Jv;by_cases h1:kE x=0
   ·simp only [h1,ne_eq,not_true,if_false];by_cases h2:k>0
    ·have hy:l[k-1]? = some l[k-1]:=by rw [List.getElem?_eq_getElem (by omega)]
     rw [if_pos h2,hy];rw [if_neg (by omega : ¬ k=0),hy] at hp;subst hp;simp only [Option.map_some];by_cases h3:CT l[k-1].1 x.1=true
     ·rw [if_pos h3,if_pos h3];exact ih (k+1) (some x.1) hm2 (by rw [if_neg (by omega)];simp [hx]) 0
     ·rw [if_neg h3,if_neg h3];rfl
    ·have hk0:k=0:=by omega
     subst hk0;rw [if_neg h2];simp only [if_true] at hp;subst hp;exact ih 1 (some x.1) hm2 (by simp [hx]) 0
   ·simp only [h1,ne_eq,not_false_iff,if_true];rfl
 exact main l 0 none (by simp) (by simp) 0
theorem MJ {α β σ S:Type} {l:List α} (mk:Nat->σ->S) (F:List α->Nat->σ->Option β) {f:S->Option (LR S β)} {s:S} (st:σ) (h0:s=mk 0 st) (hl:l.length<=9223372036854775807)
  (hn : ∀ st,f (mk l.length st)=jR (F [] l.length st))
  (hc : ∀ k x m st,l.drop k=x::m->l[k]? = some x->k<l.length->(∃ st',f (mk k st)=some (.nx (mk (k+1) st'))/\F (x::m) k st=F m (k+1) st')\/f (mk k st)=jR (F (x::m) k st)):loop f s=F l 0 st:=by
 subst h0
 have main : ∀ (m:List α) (k n:Nat) (st:σ),l.drop k=m->k<=l.length->m.length<n->D2 n f (mk k st)=F m k st:=by
  intro m
  induction m with
  | nil =>
   intro k n st hm hk hn';obtain ⟨n,rfl⟩ : ∃ j,n=j+1:=⟨n-1,by omega⟩
   have hkl:k=l.length:=by
    have:=congrArg List.length hm;simp at this;omega
   subst hkl;unfold D2;rw [hn];cases F [] l.length st<;>rfl
  | cons x m ih =>
   intro k n st hm hk hn';obtain ⟨n,rfl⟩ : ∃ j,n=j+1:=⟨n-1,by omega⟩
   have hx:l[k]? = some x:=by
    have:=congrArg List.head? hm;rw [List.head?_drop] at this;simpa using this
   have hk':k<l.length:=(List.getElem?_eq_some_iff.1 hx).1
   have hm2:l.drop (k+1)=m:=by
    have:=congrArg List.tail hm;rw [List.tail_drop] at this;simpa using this
   rcases hc k x m st hm hx hk' with ⟨st',h1,h2⟩ | h1
   ·rw [BG h1,h2];exact ih (k+1) n st' hm2 (by omega) (by simp at hn';omega)
   ·unfold D2;rw [h1];cases F (x::m) k st<;>rfl
 exact main l 0 _ st (by simp) (by omega) (by omega)
theorem rl {α:Type} {l:List α} {k:Nat} (h:k<l.length):Am (k:Int) (l.length:Int)=true:=by unfold Am;simp;omega
theorem re {α:Type} (l:List α):Am (l.length:Int) (l.length:Int)=false:=by unfold Am;simp
theorem BF {α β:Type} {m:Option α} {x:α} {k:α->Option β} {r:Option β} (h:m=some x) (e:k x=r):bd m k=r:=by subst h;exact e
theorem NF (k:AO):DN k=some (k.2&&decide (k.1≠[])):=by
 unfold DN;rw [Fo];cases h:k.2 with
 | true=>rw [if_pos rfl,LN];simp [AX]
 | false=>rw [if_neg (by simp)];rfl
def EU (k:AO):Prop:=k.2=true->k.1=[]
theorem gC {k:AO} (h:EU k):DN k=some false:=by
 rw [NF];cases h2:k.2 with
 | true=>simp [h h2]
 | false=>rfl
theorem Bg (l:List AD) (i:Nat):EU (kx l i):=by
 unfold kx EU;split<;>simp
theorem GY {l:List AO} (h : ∀ k∈l,EU k) (h0:l≠[]) (hl:l.length<=32):DZ l=some 0:=by
 unfold DZ;simp only [AV,AQ];rw [B3,Aq,if_neg (by have:=List.length_pos_iff.2 h0;omega),if_neg (by omega)]
 rw [MJ (l:=l) (σ:=Unit) (s:=(0,0)) (λk _=>((0:Int),(k:Int))) (λ_ _ _=>some (1,((0,(l.length:Int)),()))) () rfl (by omega) (λst=>by
  simp only;rw [re];rfl) (λk x m st _ hx hk => .inl ⟨(),by
   simp only;rw [rl hk,AM,AE,AJ hx,gC (h x (List.mem_of_getElem? hx)),AB,Ap,Al hx (by omega)],rfl⟩),AB]
 rfl
theorem Jx {α:Type} {l:List α} (h:l.length<=1048576):(gd (BZ (AA l) 1048576) λ_=>some l)=some l:=Bj h _
theorem TA (p q:AO):Ez [p,q]=some (Tt p q):=by
 have hw:w0 p q=(if p.2≠q.2 then q.2 else if p.1≠q.1 then CT p.1 q.1 else true):=rfl
 unfold Ez;simp only [AV,AQ,List.length_cons,List.length_nil];rw [show Mn .i64 2 ((0+1+1:Nat):Int)=4 from rfl,show B9 .i64 4 1=3 from rfl];unfold Ai;rw [show AU 4=λk=>k 4 from rfl];simp only [Bj (show 4<=1048576 by omega),Jx (show [p,q].length<=1048576 by simp),AB];rw [show AU ((0+1+1:Nat):Int)=λk=>k 2 from rfl];simp only [Bj (show 2<=1048576 by omega)];have fin : ∀ {w l:Int} {x:Nat×((Int×(List Int×(List AO×(List Int×Int))))×Unit)},x=(0,((0,([0,w,0,1],([p,q],([0,l],0)))),()))->(gd (Dz 1 (AA x.2.1.2.1)) λ_=>ix x.2.1.2.1 1 λx41=>some ((x.2.1.2.2.1,(x.2.1.2.2.2.1,x41))))=some ([p,q],([0,l],w)):=λe=>by subst e;rfl
 have go : ∀ {f:(Int×(List Int×(List AO×(List Int×Int))))->Option (LR (Int×(List Int×(List AO×(List Int×Int)))) (Nat×((Int×(List Int×(List AO×(List Int×Int))))×Unit)))} {w l:Int},f (3,([0,0,0,0],([p,q],([0,0],0))))=some (.nx (2,([0,0,0,1],([p,q],([0,0],0)))))->f (2,([0,0,0,1],([p,q],([0,0],0))))=some (.nx (1,([0,0,0,1],([p,q],([0,0],0))))) ->
   f (1,([0,0,0,1],([p,q],([0,0],0))))=some (.nx (0,([0,w,0,1],([p,q],([0,l],0)))))->f (0,([0,w,0,1],([p,q],([0,l],0))))=some (.dn (0,((0,([0,w,0,1],([p,q],([0,l],0)))),()))) ->
   loop f (3,([0,0,0,0],([p,q],([0,0],0))))=some (0,((0,([0,w,0,1],([p,q],([0,l],0)))),())):=λh1 h2 h3 h4 =>
  Ch (n:=4) (by omega) ((BG h1).trans ((BG h2).trans ((BG h3).trans (BV h4))))
 have st : ∀ {β:Type} (A B:Option β),w0 p q=true->br (AX (beq p.2 q.2)) (λ_=>br (AX q.2) (λ_=>B) λ_=>A) (λ_=>br (AX (seq p.1 q.1)) (λ_=>br (AX (CT p.1 q.1)) (λ_=>B) λ_=>A) λ_=>A)=A:=fun {β} A B h=>by
  rw [hw] at h;rw [Bf (beq p.2 q.2),Fo (beq p.2 q.2),Bf q.2,Fo q.2,Bf (seq p.1 q.1),EO,Bf (CT p.1 q.1),F7];by_cases h1:p.2=q.2
  ·rw [if_neg (by simp [h1])] at h;rw [if_pos (by simp [Sv.beq,h1])];by_cases h2:p.1=q.1
   ·rw [if_pos h2]
   ·rw [if_neg h2];rw [if_pos h2] at h;rw [if_pos h]
  ·rw [if_pos h1] at h;rw [if_neg (by simp [Sv.beq,h1]),if_pos h]
 have st2 : ∀ {β:Type} (A B:Option β),w0 p q≠true->br (AX (beq p.2 q.2)) (λ_=>br (AX q.2) (λ_=>B) λ_=>A) (λ_=>br (AX (seq p.1 q.1)) (λ_=>br (AX (CT p.1 q.1)) (λ_=>B) λ_=>A) λ_=>A)=B:=fun {β} A B h=>by
  rw [hw] at h;rw [Bf (beq p.2 q.2),Fo (beq p.2 q.2),Bf q.2,Fo q.2,Bf (seq p.1 q.1),EO,Bf (CT p.1 q.1),F7];by_cases h1:p.2=q.2
  ·rw [if_neg (by simp [h1])] at h;rw [if_pos (by simp [Sv.beq,h1])];by_cases h2:p.1=q.1
   ·rw [if_neg (by simp [h2])] at h;exact absurd rfl h
   ·rw [if_neg h2];rw [if_pos h2] at h;rw [if_neg h]
  ·rw [if_pos h1] at h;rw [if_neg (by simp [Sv.beq,h1]),if_neg h]
 rw [show Dj 4 (0:Int)=[0,0,0,0] from rfl,show Dj 2 (0:Int)=[0,0] from rfl];by_cases h:w0 p q=true
 ·refine BF (x:=(0,((0,([0,0,0,1],([p,q],([0,1],0)))),()))) ?_ ?_;refine Ch (n:=4) (by omega) ?_;refine (BG (s':=(2,([0,0,0,1],([p,q],([0,0],0))))) ?_).trans ((BG (s':=(1,([0,0,0,1],([p,q],([0,0],0))))) ?_).trans ((BG (s':=(0,([0,0,0,1],([p,q],([0,1],0))))) ?_).trans (BV ?_)))
  ·rfl
  ·rfl
  ·exact st _ _ h
  ·rfl
  ·show some ([p,q],([0,1],0))=_;unfold Tt;simp [h]
 ·refine BF (x:=(0,((0,([0,1,0,1],([p,q],([0,0],0)))),()))) ?_ ?_;refine Ch (n:=4) (by omega) ?_;refine (BG (s':=(2,([0,0,0,1],([p,q],([0,0],0))))) ?_).trans ((BG (s':=(1,([0,0,0,1],([p,q],([0,0],0))))) ?_).trans ((BG (s':=(0,([0,1,0,1],([p,q],([0,0],0))))) ?_).trans (BV ?_)))
  ·rfl
  ·rfl
  ·exact st2 _ _ h
  ·rfl
  ·show some ([p,q],([0,0],1))=_;unfold Tt;simp [h]
theorem NG {p q:AO} (hp:EU p) (hq:EU q):CU [p,q]=some (Tt p q,0):=by
 unfold CU;rw [GY (by simp [hp,hq]) (by simp) (by simp),AB,AS,if_pos rfl,TA,AB]
theorem Ur {p q:AO} (hp:EU p) (hq:EU q):FG (Tt p q)=some (0,0):=by
 unfold FG;rw [show (Tt p q).1=[p,q] from rfl,GY (by simp [hp,hq]) (by simp) (by simp),AB,AS,if_pos rfl,AS,if_pos (show Aa (AA (Tt p q).2.1)=Aa (AA [p,q]) from rfl),TA,AB];simp only [AV,AQ]
 rw [MJ (l:=(Tt p q).2.1) (σ:=Unit) (s:=(0,(0,0))) (λk _=>((0:Int),((k:Int),(0:Int)))) (λ_ _ _=>some (1,((0,(((Tt p q).2.1.length:Int),0)),()))) () rfl (show 2<=9223372036854775807 by omega) (λst=>by
  simp only;rw [re];rfl) (λk x m st _ hx hk => .inl ⟨(),by
   simp only;rw [rl hk,AM,AE,AJ hx,AE,AJ hx,AS,if_pos rfl,Al hx (show 2<=9223372036854775807 by omega)],rfl⟩),AB]
 rw [show neq 1 0=false from rfl,Ap,AS,if_pos rfl]
def wn (p q:AO):Nat:=if w0 p q=true then 0 else 1
def wk (p q:AO):AO:=if w0 p q=true then p else q
theorem Us (p q:AO):(Tt p q).2.2=(wn p q:Int):=by unfold Tt wn;split<;>rfl
theorem Ut (p q:AO):(Tt p q).1[wn p q]? = some (wk p q):=by unfold Tt wn wk;split<;>rfl
theorem TB {p q:AO} (hp:EU p) (hq:EU q):E0 (Tt p q)=some (if (wk p q).2=true then 12 else 0):=by
 unfold E0;rw [Ur hp hq,AB,AS,if_pos rfl,Us,AE,AJ (Ut p q),Fo];split<;>rfl
theorem HX {p q:AO} (hp:EU p) (hq:EU q):CZ (Tt p q)=some (if (wk p q).2=true then (0,([],12)) else ((wn p q:Int),((wk p q).1,0))):=by
 unfold CZ;rw [TB hp hq,AB,AS,Us,AE,AJ (Ut p q)];by_cases h:(wk p q).2=true<;>simp [h]
def rk (p q k:AO):AO×AO:=if w0 p q=true then (k,q) else (p,k)
theorem Zm (p q:AO):Bd (0,(1,([p,q],())))=some (w0 p q):=by
 unfold Bd w0;show br (AX (beq p.2 q.2)) (λ_=>some q.2) (λ_=>br (AX (seq p.1 q.1)) (λ_=>some (CT p.1 q.1)) λ_=>some (Am 0 1))=_;rw [Bf (beq p.2 q.2),Fo (beq p.2 q.2),Bf (seq p.1 q.1),EO];by_cases h1:p.2=q.2
 ·rw [if_pos (show Sv.beq p.2 q.2=true by simp [Sv.beq,h1]),if_neg (show ¬ p.2≠q.2 by simp [h1])];by_cases h2:p.1=q.1
  ·rw [if_pos h2,if_neg (show ¬ p.1≠q.1 by simp [h2])];rfl
  ·rw [if_neg h2,if_pos h2]
 ·rw [if_neg (show ¬ Sv.beq p.2 q.2=true by simp [Sv.beq,h1]),if_pos h1]
theorem Zn (p q:AO):Bd (1,(0,([p,q],())))=some (!w0 p q):=by
 unfold Bd w0;show br (AX (beq q.2 p.2)) (λ_=>some p.2) (λ_=>br (AX (seq q.1 p.1)) (λ_=>some (CT q.1 p.1)) λ_=>some (Am 1 0))=_;rw [Bf (beq q.2 p.2),Fo (beq q.2 p.2),Bf (seq q.1 p.1),EO];by_cases h1:p.2=q.2
 ·rw [if_pos (show Sv.beq q.2 p.2=true by simp [Sv.beq,h1]),if_neg (show ¬ p.2≠q.2 by simp [h1])];by_cases h2:p.1=q.1
  ·rw [if_pos h2.symm,if_neg (show ¬ p.1≠q.1 by simp [h2])];rfl
  ·rw [if_neg (show ¬ q.1=p.1 from λe=>h2 e.symm),if_pos h2];cases hs:CT p.1 q.1 with
   | true=>rw [Cg hs];rfl
   | false=>rw [LM hs h2];rfl
 ·rw [if_neg (show ¬ Sv.beq q.2 p.2=true by simp [Sv.beq,Ne.symm h1]),if_pos h1];cases hp:p.2<;>cases hq:q.2<;>simp_all
theorem Hz {p q k:AO} (hp:EU p) (hq:EU q) (hk:EU k) (hw:(wk p q).2=false) (hle:k.2=true\/CT k.1 (wk p q).1=false) :
  ∃ n,CL (Tt p q,k)=some (Tt (rk p q k).1 (rk p q k).2,(n,0)):=by
 have hlen:(Tt p q).1.length<=1048576:=by show 2<=_;omega
 have hlen2:(Tt p q).2.1.length<=1048576:=by show 2<=_;omega
 have hset:lset (Tt p q).1 (wn p q) k=[(rk p q k).1,(rk p q k).2]:=by unfold Tt wn rk;split<;>rfl
 have hlose:(Tt p q).2.1=[0,(1-(wn p q:Int))]:=by unfold Tt wn;split<;>rfl
 have hwn:wn p q=0\/wn p q=1:=by unfold wn;split<;>simp
 have up : ∀ {f:(Int×(Int×(Unit×(List Int×Int))))->Option (LR (Int×(Int×(Unit×(List Int×Int)))) (Nat×((Int×(Int×(Unit×(List Int×Int))))×Unit)))},
   (f=λs8=>br (Ba (Hi .i64 s8.2.1 2) 0) (λ_=>some (.dn ((0,((s8.1,(Hi .i64 s8.2.1 2,((),s8.2.2.2))),()))))) λ_=>AU (Hi .i64 s8.2.1 2) λk9=>gd (Dz k9 (AA s8.2.2.2.1)) λ_=>ix s8.2.2.2.1 k9 λx10=>bd (Bd ((x10,(s8.2.2.2.2,([(rk p q k).1,(rk p q k).2],()))))) λr11=>br r11 (λ_=>AU (Hi .i64 s8.2.1 2) λk12=>gd (Dz k12 (AA s8.2.2.2.1)) λ_=>ix s8.2.2.2.1 k12 λx13=>AU (Hi .i64 s8.2.1 2) λk14=>gd (Dz k14 (AA s8.2.2.2.1)) λ_=>ix s8.2.2.2.1 k14 λx15=>some (.nx ((AH .i64 s8.1 1,(Hi .i64 s8.2.1 2,((),(lset s8.2.2.2.1 k14 s8.2.2.2.2,x13))))))) λ_=>some (.nx ((AH .i64 s8.1 1,(Hi .i64 s8.2.1 2,((),s8.2.2.2))))))
   -> loop f (0,((2:Int)+wn p q,((),([0,(1-(wn p q:Int))],(wn p q:Int)))))=some (0,((1,(0,((),(Tt (rk p q k).1 (rk p q k).2).2))),())):=by
  intro f hf;subst hf;refine Ch (n:=2) (by omega) ((BG (s':=(1,(1,((),(Tt (rk p q k).1 (rk p q k).2).2)))) ?_).trans (BV rfl));rcases hwn with h | h
  ·rw [h]
   have hw0:w0 p q=true:=by
    unfold wn at h;by_cases hh:w0 p q=true
    ·exact hh
    ·rw [if_neg hh] at h;cases h
   show bd (Bd (1,(0,([(rk p q k).1,(rk p q k).2],())))) _=_;rw [Zn,AB];unfold Tt;cases hz:w0 (rk p q k).1 (rk p q k).2<;>rfl
  ·rw [h];show bd (Bd (0,(1,([(rk p q k).1,(rk p q k).2],())))) _=_;rw [Zm,AB];unfold Tt;cases hz:w0 (rk p q k).1 (rk p q k).2<;>rfl
 unfold CL;simp only [TB hp hq,hw,AB,AS,if_true,if_false,Bool.false_eq_true];rw [GY (by simp [hk]) (by simp) (by simp),AB];simp only [if_true,Bf];rw [Fo];unfold Ai Aw;simp only [Us,AE,AJ (Ut p q),Bj hlen,Bj hlen2,AB,F7,LL,AQ,AV,hset];have hlt:wn p q<(Tt p q).1.length:=by show wn p q<2;omega
 have hi:AH .i64 (([(rk p q k).1,(rk p q k).2].length:Nat):Int) (wn p q:Int)=(2:Int)+wn p q:=by
  rw [D8 (by simp;omega)];rfl
 rw [hi,hlose];simp only [AQ,LL] at up;have key:=up rfl;rw [if_pos hlt];by_cases hk2:k.2=true
 ·rw [if_pos hk2,key,AB];exact ⟨_,rfl⟩
 ·rw [if_neg hk2,if_neg (by rcases hle with h | h;exact absurd h hk2;rw [h];simp),key,AB]
  exact ⟨_,rfl⟩
end Go.Proofs.YthpkjfabdccpdaaGreat.Pl
namespace Go.Proofs.YthpkjfabdccpdaaGreat.Pl
open Go Go.Proofs.YthpkjfabdccpdaaGreat.Sv
theorem Cb {S β:Type} {f:S->Option (LR S β)} {s0 s1 s2:S} {r:β} (h0:f s0=some (.nx s1)) (h1:f s1=some (.nx s2)) (h2:f s2=some (.dn r)):loop f s0=some r :=
 Ch (n:=3) (by omega) ((BG h0).trans ((BG h1).trans (BV h2)))
theorem Nt {α β:Type} {c:Bool} {n:Int} {l:List α} {K:Nat->α->Option β} {E:Unit->Option β} (k:Nat) {x:α} (hc:c=true) (hn:n=(k:Int)) (hx:l[k]? = some x):br c (λ_=>AU n λk1=>ix l k1 λx2=>K k1 x2) E=K k x:=by
 subst hc;subst hn;rw [AM,AE,AJ hx]
theorem Ef {α β:Type} {n:Int} {l:List α} {K:Nat->α->Option β} (k:Nat) {x:α} (hn:n=(k:Int)) (hx:l[k]? = some x):AU n (λk1=>ix l k1 λx2=>K k1 x2)=K k x:=by
 subst hn;rw [AE,AJ hx]
theorem Gk {l:List AD} {i:Nat} (h:i<=l.length):BI (l,(i:Int))=some (kx l i):=by
 unfold BI kx;simp only [AV,AQ];rw [B3];by_cases hi:i=l.length
 ·rw [if_pos (by omega),List.getElem?_eq_none (by omega)]
 ·have hx:l[i]? = some l[i]:=by rw [List.getElem?_eq_getElem (by omega)]
  rw [if_neg (by omega),AE,AJ hx,hx]
section
variable {a b:List AD} (va:VL a) (vb:VL b)
theorem Zo {i j:Nat} (hi:i<=a.length) (hj:j<=b.length):F4 ([a,b],[(i:Int),(j:Int)])=some (Tt (kx a i) (kx b j)):=by
 unfold F4;refine BF (x:=(0,((2,[kx a i,kx b j]),()))) (Cb (s1:=(1,[kx a i,([],false)])) (s2:=(2,[kx a i,kx b j])) ?_ ?_ rfl) ?_
 ·show bd (BI (a,(i:Int))) _=_;rw [Gk hi];rfl
 ·show bd (BI (b,(j:Int))) _=_;rw [Gk hj];rfl
 ·show bd (CU [kx a i,kx b j]) _=_;rw [NG (Bg _ _) (Bg _ _)];rfl
include va vb
theorem MK:BN a=some (0,0):=by
 rw [Gv _ (by have:=va.len;omega),Jw va]
theorem LO:DY [a,b]=some (0,0):=by
 unfold DY;refine BF (x:=(1,((0,(0,2)),()))) (Cb (s1:=(0,(0,1))) (s2:=(0,(0,2))) ?_ ?_ rfl) rfl
 ·show bd (BN a) _=_;rw [MK va va];rfl
 ·show bd (BN b) _=_;rw [MK vb vb];rfl
theorem XT (bt:Bool):Ec ([a,b],bt)=some (oG a b bt 0,(0,0)):=by
 unfold Ec;rw [LO va vb,AB,AS,if_pos rfl];refine BF (x:=(0,((2,[kx a 0,kx b 0]),()))) (Cb (s1:=(1,[kx a 0,([],false)])) (s2:=(2,[kx a 0,kx b 0])) ?_ ?_ rfl) ?_
 ·show bd (BI (a,((0:Nat):Int))) _=_;rw [Gk (by omega)];rfl
 ·show bd (BI (b,((0:Nat):Int))) _=_;rw [Gk (by omega)];rfl
 ·show bd (CU [kx a 0,kx b 0]) _=_;rw [NG (Bg _ _) (Bg _ _)];rfl
end
theorem HD (x:Bool):Sv.beq x x=true:=by cases x<;>rfl
theorem I6 (x:Gu):seq x x=true:=by rw [OB]
theorem Uu (l:List AO) (h:l.length<=1000):Aj (l,l)=some true:=by
 unfold Aj;simp only [AV,AQ]
 rw [AS,if_pos rfl,MJ (l:=l) (σ:=Unit) (s:=(0,false)) (λk _=>((k:Int),false)) (λ_ _ _=>some (1,(((l.length:Int),false),()))) () rfl (by omega) (λst=>by
  simp only;rw [re];rfl) (λk x m st _ hx hk => .inl ⟨(),by
   simp only;rw [rl hk,AM,AE,AJ hx,AE,AJ hx,I6,HD,show AX (Bm true (Bm true true))=false from rfl,Ap,Al hx (by omega)],rfl⟩),AB]
 rfl
theorem Uv (l:List Int) (h:l.length<=1000):Ad (l,l)=some true:=by
 unfold Ad;simp only [AV,AQ]
 rw [AS,if_pos rfl,MJ (l:=l) (σ:=Unit) (s:=(0,false)) (λk _=>((k:Int),false)) (λ_ _ _=>some (1,(((l.length:Int),false),()))) () rfl (by omega) (λst=>by
  simp only;rw [re];rfl) (λk x m st _ hx hk => .inl ⟨(),by
   simp only;rw [rl hk,AM,AE,AJ hx,AE,AJ hx,AS,if_pos rfl,Al hx (by omega)],rfl⟩),AB]
 rfl
theorem XU (t:D9) (h1:t.1.length<=1000) (h2:t.2.1.length<=1000):EK (t,t)=some true:=by
 unfold EK;rw [B3,if_pos rfl,Uu _ h1,AB,AM,Uv _ h2];rfl
theorem XV (p q:AO):EK (Tt p q,Tt p q)=some true:=XU _ (show 2<=1000 by omega) (show 2<=1000 by omega)
theorem XW {a b:List AD} {i j:Nat} (h:HK a b i j=true):wk (kx a i) (kx b j)=kx a i/\wn (kx a i) (kx b j)=0:=by
 unfold HK at h;unfold wk wn;rw [if_pos h,if_pos h];exact ⟨rfl,rfl⟩
theorem XX {a b:List AD} {i j:Nat} (h:HK a b i j=false):wk (kx a i) (kx b j)=kx b j/\wn (kx a i) (kx b j)=1:=by
 unfold HK at h;unfold wk wn;rw [if_neg (by simp [h]),if_neg (by simp [h])];exact ⟨rfl,rfl⟩
theorem WP (x y:Gu):Ca (x,y)=some (if CT x y=true then -1 else if CT y x=true then 1 else 0):=by
 unfold Ca DA;simp only [I6,NE,AB,Ap];rw [F7,F7];split
 ·rfl
 ·split<;>rfl
theorem WQ (x y:Int):CI (x,y)=some (if x<y then -1 else if x>y then 1 else 0):=by
 unfold CI EG;simp only [AB,AS,if_true,BE,Aq];split
 ·rfl
 ·split<;>rfl
theorem Zp (x y:Int):F5 [x,y]=some (if x≠0 then x else y):=by
 unfold F5;by_cases h:x=0
 ·rw [if_neg (by simp [h])];by_cases h2:y=0
  ·refine BF (x:=(1,((0,2),()))) (Cb (s1:=(0,1)) (s2:=(0,2)) ?_ ?_ rfl) (by rw [h2];rfl)
   ·refine (Nt 0 rfl rfl rfl).trans ?_;rw [AS,if_pos h];rfl
   ·refine (Nt 1 rfl rfl rfl).trans ?_;rw [AS,if_pos h2];rfl
  ·refine BF (x:=(0,((y,1),()))) (Ch (n:=2) (by omega) ((BG (s':=(0,1)) ?_).trans (BV ?_))) rfl
   ·refine (Nt 0 rfl rfl rfl).trans ?_;rw [AS,if_pos h];rfl
   ·refine (Nt 1 rfl rfl rfl).trans ?_;rw [AS,if_neg h2]
 ·rw [if_pos h];refine BF (x:=(0,((x,0),()))) (Ch (n:=1) (by omega) (BV ?_)) rfl;refine (Nt 0 rfl rfl rfl).trans ?_;rw [AS,if_neg h]
section
variable {a b:List AD} (va:VL a) (vb:VL b)
include va vb
theorem KX {i j:Nat} (I:Inv a b i j):Db (La a b i j)=some (0,0):=by
 unfold Db;rw [show (La a b i j).1=[a,b] from rfl,LO va vb,AB,AS,if_pos rfl];rw [show (La a b i j).2.1=[(i:Int),(j:Int)] from rfl,AS,if_pos (show Aa (AA [(i:Int),(j:Int)])=Aa (AA [a,b]) from rfl)];refine BF (x:=(1,((0,(0,2)),()))) (Cb (s1:=(0,(0,1))) (s2:=(0,(0,2))) ?_ ?_ rfl) ?_
 ·refine (Nt 0 rfl rfl rfl).trans ?_;rw [BE,if_neg (by omega),show AU (((0:Int),((0:Int),(0:Int))).2.2)=λ(k:Nat->Option (LR (Int×(Int×Int)) (Nat×((Int×(Int×Int))×Unit))))=>k 0 from rfl];simp only;rw [AJ (x:=a) rfl,Aq,if_neg (by have:=I.ia;simp only [AV,AQ];omega)];rfl
 ·refine (Nt 1 rfl rfl rfl).trans ?_;rw [BE,if_neg (by omega),show AU (((0:Int),((0:Int),(1:Int))).2.2)=λ(k:Nat->Option (LR (Int×(Int×Int)) (Nat×((Int×(Int×Int))×Unit))))=>k 1 from rfl];simp only;rw [AJ (x:=b) rfl,Aq,if_neg (by have:=I.jb;simp only [AV,AQ];omega)];rfl
 rw [show neq ((1:Nat),(((0:Int),((0:Int),(2:Int))),())).1 0=false from rfl,Ap,Zo I.ia I.jb,AB,show (La a b i j).2.2=Tt (kx a i) (kx b j) from rfl,XV,AB,show AX true=false from rfl,Ap,HX (Bg _ _) (Bg _ _),AB];by_cases hd:(wk (kx a i) (kx b j)).2=true
 ·rw [if_pos hd];rfl
 rw [if_neg hd,AS,if_pos rfl]
 have la : ∀ {x:AD} {i':Nat},i=i'+1->a[i']? = some x -> ¬ (if (if CT x.1 (wk (kx a i) (kx b j)).1=true then (-1:Int) else if CT (wk (kx a i) (kx b j)).1 x.1=true then 1 else 0)≠0 then (if CT x.1 (wk (kx a i) (kx b j)).1=true then (-1:Int) else if CT (wk (kx a i) (kx b j)).1 x.1=true then 1 else 0) else (if (0:Int)<(wn (kx a i) (kx b j):Int) then -1 else if (0:Int)>(wn (kx a i) (kx b j):Int) then 1 else 0))>0:=by
  intro x i' hi hx
  have hle:CT (wk (kx a i) (kx b j)).1 x.1=false:=by
   cases g:HK a b i j with
   | true =>
    rw [(XW g).1] at hd ⊢;unfold kx at hd ⊢;cases hy:a[i]? with
    | none=>rw [hy] at hd;exact absurd rfl hd
    | some y=>rw [hi] at hy;exact Cg (va.lt hx hy)
   | false =>
    rw [(XX g).1] at hd ⊢;unfold kx at hd ⊢;cases hy:b[j]? with
    | none=>rw [hy] at hd;exact absurd rfl hd
    | some y=>exact I.pa i' hi x y hx hy
  rw [hle];have : ¬ (0:Int)>(wn (kx a i) (kx b j):Int):=by omega
  by_cases hs:CT x.1 (wk (kx a i) (kx b j)).1=true
  ·simp [hs]
  ·simp only [hs,Bool.false_eq_true,if_false,ne_eq,not_true,this];split<;>omega
 have lb : ∀ {y:AD} {j':Nat},j=j'+1->b[j']? = some y -> ¬ (if (if CT y.1 (wk (kx a i) (kx b j)).1=true then (-1:Int) else if CT (wk (kx a i) (kx b j)).1 y.1=true then 1 else 0)≠0 then (if CT y.1 (wk (kx a i) (kx b j)).1=true then (-1:Int) else if CT (wk (kx a i) (kx b j)).1 y.1=true then 1 else 0) else (if (1:Int)<(wn (kx a i) (kx b j):Int) then -1 else if (1:Int)>(wn (kx a i) (kx b j):Int) then 1 else 0))>0:=by
  intro y j' hj hy
  have hlt:CT y.1 (wk (kx a i) (kx b j)).1=true:=by
   cases g:HK a b i j with
   | true =>
    rw [(XW g).1] at hd ⊢;unfold kx at hd ⊢;cases hx:a[i]? with
    | none=>rw [hx] at hd;exact absurd rfl hd
    | some x=>exact I.pb j' hj y x hy hx
   | false =>
    rw [(XX g).1] at hd ⊢;unfold kx at hd ⊢;cases hx:b[j]? with
    | none=>rw [hx] at hd;exact absurd rfl hd
    | some x=>rw [hj] at hx;exact vb.lt hy hx
  rw [hlt];simp
 refine BF (x:=(1,((0,(0,2)),()))) (Cb (s1:=(0,(0,1))) (s2:=(0,(0,2))) ?_ ?_ rfl) rfl
 ·refine (Nt 0 rfl rfl rfl).trans ?_;rw [Aq];by_cases h0:(i:Int)>0
  ·rw [if_pos h0];obtain ⟨i',hi'⟩ : ∃ i',i=i'+1:=⟨i-1,by omega⟩;have hi2:i'<a.length:=by have:=I.ia;omega
   have hx:a[i']? = some a[i']:=by simp [hi2]
   refine (Ef 0 rfl (x:=a) rfl).trans ((Ef i' ?_ hx).trans ?_)
   ·rw [B7 (by have:=va.len;have:=I.ia;omega)];omega
   rw [WP,AB];show bd (CI (0,(wn (kx a i) (kx b j):Int))) _=_;rw [WQ,AB,Zp,AB,Aq,if_neg (la hi' hx)];rfl
  ·rw [if_neg h0];rfl
 ·refine (Nt 1 rfl rfl rfl).trans ?_;rw [Aq];by_cases h0:(j:Int)>0
  ·rw [if_pos h0];obtain ⟨j',hj'⟩ : ∃ j',j=j'+1:=⟨j-1,by omega⟩;have hj2:j'<b.length:=by have:=I.jb;omega
   have hy:b[j']? = some b[j']:=by simp [hj2]
   refine (Ef 1 rfl (x:=b) rfl).trans ((Ef j' ?_ hy).trans ?_)
   ·rw [B7 (by have:=vb.len;have:=I.jb;omega)];omega
   rw [WP,AB];show bd (CI (1,(wn (kx a i) (kx b j):Int))) _=_;rw [WQ,AB,Zp,AB,Aq,if_neg (lb hj' hy)];rfl
  ·rw [if_neg h0];rfl
end
end Go.Proofs.YthpkjfabdccpdaaGreat.Pl
namespace Go.Proofs.YthpkjfabdccpdaaGreat.Pl
open Go Go.Proofs.YthpkjfabdccpdaaGreat.Sv
theorem F8 {l:List AD} {i:Nat} {x:AD} (h:l[i]? = some x):kx l i=(x.1,false):=by unfold kx;rw [h]
theorem ML {l:List AD} {i:Nat} (h:l[i]? = none):kx l i=([],true):=by unfold kx;rw [h]
theorem OC {l:List AD} (v:VL l) {i:Nat} {x:AD} (h:l[i]? = some x):(kx l (i+1)).2=true\/CT (kx l (i+1)).1 x.1=false:=by
 cases hy:l[i+1]? with
 | none=>rw [ML hy];exact .inl rfl
 | some y=>rw [F8 hy];exact .inr (Cg (v.lt h hy))
theorem Jy {α β:Type} {n:Int} {l:List α} {K:Nat->α->Option β} (k:Nat) {x:α} (hn:n=(k:Int)) (hx:l[k]? = some x):AU n (λk1=>gd (Dz k1 (AA l)) λ_=>ix l k1 λx2=>K k1 x2)=K k x:=by
 subst hn;rw [AE,LL,if_pos (show k<AA l from (List.getElem?_eq_some_iff.1 hx).1),AJ hx]
section
variable {a b:List AD} (va:VL a) (vb:VL b)
include va vb
theorem gD {i j:Nat} (I:Inv a b i j) {x:AD} (hx:a[i]? = some x) (g:HK a b i j=true):B0 (La a b i j)=some (x,(0,(La a b (i+1) j,0))):=by
 obtain ⟨hk,hn⟩:=XW g;have hi:=(List.getElem?_eq_some_iff.1 hx).1;have hl:=va.len;have hd:(wk (kx a i) (kx b j)).2=false:=by rw [hk,F8 hx]
 obtain ⟨m,hr⟩:=Hz (p:=kx a i) (q:=kx b j) (k:=kx a (i+1)) (Bg _ _) (Bg _ _) (Bg _ _) hd (by rw [hk,F8 hx];exact OC va hx)
 have hrk:rk (kx a i) (kx b j) (kx a (i+1))=(kx a (i+1),kx b j):=by
  unfold rk;unfold HK at g;rw [if_pos g]
 rw [hrk] at hr;unfold B0;rw [KX va vb I,AB,AS,if_pos rfl];unfold Ah Aw;refine BF (Jx (show 2<=1048576 by omega)) (BF (Jx (show 2<=1048576 by omega)) ?_);rw [show (La a b i j).2.2=Tt (kx a i) (kx b j) from rfl,HX (Bg _ _) (Bg _ _),if_neg (by simp [hd]),AB,AS,if_pos rfl,hn];refine (Jy 0 rfl (x:=a) rfl).trans ((Jy 0 rfl (x:=(i:Int)) rfl).trans ((Ef i rfl hx).trans ((Jy 0 rfl (x:=(i:Int)) rfl).trans ((Jy 0 rfl (x:=(i:Int)) rfl).trans ((Jy 0 rfl (x:=a) rfl).trans ((Jy 0 rfl (x:=AH .i64 (i:Int) 1) rfl).trans ?_))))));rw [Ab (by omega),Gk (show i+1<=a.length by omega),AB,hr,AB];rfl
theorem gE {i j:Nat} (I:Inv a b i j) {y:AD} (hy:b[j]? = some y) (g:HK a b i j=false):B0 (La a b i j)=some (y,(1,(La a b i (j+1),0))):=by
 obtain ⟨hk,hn⟩:=XX g;have hi:=(List.getElem?_eq_some_iff.1 hy).1;have hl:=vb.len;have hd:(wk (kx a i) (kx b j)).2=false:=by rw [hk,F8 hy]
 obtain ⟨m,hr⟩:=Hz (p:=kx a i) (q:=kx b j) (k:=kx b (j+1)) (Bg _ _) (Bg _ _) (Bg _ _) hd (by rw [hk,F8 hy];exact OC vb hy)
 have hrk:rk (kx a i) (kx b j) (kx b (j+1))=(kx a i,kx b (j+1)):=by
  unfold rk;unfold HK at g;rw [if_neg (by simp [g])]
 rw [hrk] at hr;unfold B0;rw [KX va vb I,AB,AS,if_pos rfl];unfold Ah Aw;refine BF (Jx (show 2<=1048576 by omega)) (BF (Jx (show 2<=1048576 by omega)) ?_);rw [show (La a b i j).2.2=Tt (kx a i) (kx b j) from rfl,HX (Bg _ _) (Bg _ _),if_neg (by simp [hd]),AB,AS,if_pos rfl,hn];refine (Jy 1 rfl (x:=b) rfl).trans ((Jy 1 rfl (x:=(j:Int)) rfl).trans ((Ef j rfl hy).trans ((Jy 1 rfl (x:=(j:Int)) rfl).trans ((Jy 1 rfl (x:=(j:Int)) rfl).trans ((Jy 1 rfl (x:=b) rfl).trans ((Jy 1 rfl (x:=AH .i64 (j:Int) 1) rfl).trans ?_))))));rw [Ab (by omega),Gk (show j+1<=b.length by omega),AB,hr,AB];rfl
def LP (a b:List AD) (n:Nat):AP:=La a b (Ag a b n).1 (Ag a b n).2
def O0 (a b:List AD) (n:Nat):Nat:=if HK a b (Ag a b n).1 (Ag a b n).2=true then 0 else 1
theorem O1 {n:Nat} {x:AD} (h:n<a.length+b.length) (hx:Nm a b n=some x):B0 (LP a b n)=some (x,((O0 a b n:Int),(LP a b (n+1),0))):=by
 obtain ⟨hI,hs⟩:=Ee va vb (n:=n) (by omega);unfold LP O0;rw [show Ag a b (n+1)=if HK a b (Ag a b n).1 (Ag a b n).2=true then ((Ag a b n).1+1,(Ag a b n).2) else ((Ag a b n).1,(Ag a b n).2+1) from rfl]
 unfold Nm at hx;cases g:HK a b (Ag a b n).1 (Ag a b n).2 with
 | true=>rw [if_pos g] at hx;rw [gD va vb hI hx g];simp
 | false=>rw [if_neg (by simp [g])] at hx;rw [gE va vb hI hx g];simp
end
theorem O2 {s:Bt} (h1:s.2.1.length<=32) (h2:s.1=false->s.2.1=[]):Dr s=some 0:=by
 unfold Dr;rw [Km,AB,if_neg (by omega),AS,if_pos rfl,Bf,Fo];cases h:s.1 with
 | true=>rfl
 | false=>rw [if_neg (by simp),Bf,EO,if_pos (h2 h)]
def keep (s:Bt) (x:AD):Bool := !(s.1&&decide (x.1=s.2.1)) && !(s.2.2&&x.2.2.1)
theorem XY {s:Bt} {x:AD} (h1:s.2.1.length<=32) (h2:s.1=false->s.2.1=[]) (h3:kE x=0) (h4:s.1=true->CT x.1 s.2.1=false):CA (s,x)=some (keep s x,((true,(x.1,s.2.2)),0)):=by
 unfold CA keep;rw [O2 h1 h2,AB,AS,if_pos rfl,GX,h3,AB,AS,if_pos rfl];obtain ⟨s1,s2,s3⟩:=s;obtain ⟨x1,x2,x3,x4⟩:=x;simp only at h4 ⊢;cases s1 with
 | true =>
  have:=h4 rfl;simp only [AM,Ap,F7,EO,this,Bool.false_eq_true,if_false];by_cases he:x1=s2
  ·simp [he]
  ·simp only [he,if_false,decide_false];cases s3<;>cases x3<;>rfl
 | false =>
  simp only [AM,Ap];cases s3<;>cases x3<;>rfl
def EV:Bt->List AD->List AD
 | _,[]=>[]
 | s,x::l=>(if keep s x=true then [x] else [])++EV (true,(x.1,s.2.2)) l
theorem IY : ∀ (s:Bt) (l:List AD),(EV s l).length<=l.length
 | _,[]=>Nat.le_refl _
 | s,x::l=>by
  have:=IY (true,(x.1,s.2.2)) l;unfold EV;by_cases h:keep s x=true
  ·rw [if_pos h];simp;omega
  ·rw [if_neg h];simp;omega
def NH:Bt->List AD->Prop
 | _,[]=>True
 | s,x::l=>kE x=0/\(s.1=true->CT x.1 s.2.1=false)/\NH (true,(x.1,s.2.2)) l
theorem O3 {x:AD} (h:kE x=0):x.1.length<=32:=by
 unfold kE at h;by_cases hh:x.1.length>32\/x.2.1.length>64
 ·rw [if_pos hh] at h;cases h
 ·omega
theorem DB {α β σ S:Type} {l:List α} (mk:Nat->σ->S) (Inv:List α->Nat->σ->Prop) (F:List α->Nat->σ->β) {f:S->Option (LR S β)} {s:S} (st:σ) (h0:s=mk 0 st) (hl:l.length<=9223372036854775807) (hi:Inv l 0 st)
  (hn : ∀ st,Inv [] l.length st->f (mk l.length st)=some (.dn (F [] l.length st)))
  (hc : ∀ k x m st,l.drop k=x::m->l[k]? = some x->k<l.length->Inv (x::m) k st -> ∃ st',f (mk k st)=some (.nx (mk (k+1) st'))/\Inv m (k+1) st'/\F (x::m) k st=F m (k+1) st'):loop f s=some (F l 0 st):=by
 subst h0
 have main : ∀ (m:List α) (k n:Nat) (st:σ),l.drop k=m->k<=l.length->m.length<n->Inv m k st->D2 n f (mk k st)=some (F m k st):=by
  intro m
  induction m with
  | nil =>
   intro k n st hm hk hn' hi;obtain ⟨n,rfl⟩ : ∃ j,n=j+1:=⟨n-1,by omega⟩
   have hkl:k=l.length:=by
    have:=congrArg List.length hm;simp at this;omega
   subst hkl;exact BV (hn st hi)
  | cons x m ih =>
   intro k n st hm hk hn' hi;obtain ⟨n,rfl⟩ : ∃ j,n=j+1:=⟨n-1,by omega⟩
   have hx:l[k]? = some x:=by
    have:=congrArg List.head? hm;rw [List.head?_drop] at this;simpa using this
   have hk':k<l.length:=(List.getElem?_eq_some_iff.1 hx).1
   have hm2:l.drop (k+1)=m:=by
    have:=congrArg List.tail hm;rw [List.tail_drop] at this;simpa using this
   obtain ⟨st',h1,h2,h3⟩:=hc k x m st hm hx hk' hi;rw [BG h1,h3];exact ih (k+1) n st' hm2 (by omega) (by simp at hn';omega) h2
 exact main l 0 _ st (by simp) (by omega) (by omega) hi
def CQ:Bt->List AD->Bt
 | s,[]=>s
 | s,x::l=>CQ (true,(x.1,s.2.2)) l
theorem Rl {β:Type} {out:List AD} {n:Nat} (h:out.length<=n) (hn:n<=20000) (x:AD) (k:Unit->Option β):gd (BZ (A2 (AA out) (AA [x])) 1048576) k=k ():=Bj (by simp only [A2,AA,List.length_cons,List.length_nil];omega) k
theorem XZ {l:List AD} {bt:Bool} (hl:l.length<=20000) (hr:NH (false,([],bt)) l):EH (l,bt)=some (EV (false,([],bt)) l,(0,0)):=by
 unfold EH CY;simp only [AV,AQ];rw [Aq,if_neg (by omega),AB]
 rw [DB (l:=l) (σ:=Bt×List AD) (s:=(0,(0,(0,((false,([],bt)),[]))))) (λk st=>((0:Int),((k:Int),((0:Int),st))))
  (λm k st=>NH st.1 m/\st.1.2.1.length<=32/\(st.1.1=false->st.1.2.1=[])/\st.2.length<=k/\k+m.length=l.length)
  (λm k st=>(1,((0,((l.length:Int),(0,(CQ st.1 m,st.2++EV st.1 m)))),()))) ((false,([],bt)),[]) rfl (by omega) ⟨hr,by simp,λ_=>rfl,by simp,by simp⟩ ?_ ?_,AB]
 ·simp;rfl
 ·intro st _;simp only;rw [re,Ap];simp [CQ,EV]
 ·rintro k x m ⟨s,out⟩ hm hx hk ⟨⟨h1,h2,h3⟩,h4,h5,h6,h7⟩;simp only at h1 h2 h3 h4 h5 h6 ⊢;refine ⟨((true,(x.1,s.2.2)),out++if keep s x=true then [x] else []),?_,⟨h3,O3 h1,(λh=>by cases h),?_,by simp at h7;omega⟩,?_⟩
  ·rw [rl hk,AM,AE,AJ hx,O2 h4 h5,AB,AS,if_pos rfl,GX,h1,AB,AS,if_pos rfl];unfold keep A3;obtain ⟨s1,s2,s3⟩:=s;obtain ⟨x1,x2,x3,x4⟩:=x;simp only [AB,Al hx (show l.length<=9223372036854775807 by omega)] at h2 ⊢;have hg : ∀ {β:Type} (k:Unit->Option β),gd (BZ (A2 out.length [(x1,(x2,(x3,x4)))].length) 1048576) k=k ():=λk=>Rl h6 (by simp at h7;omega) (x1,(x2,(x3,x4))) k;cases s1 with
   | true =>
    have h8:=h2 rfl;simp only [AM,Ap,EO,h8,hg];by_cases he:x1=s2
    ·simp [he]
    ·simp only [he,if_false,decide_false];cases s3<;>cases x3<;>simp [AM,Ap,CG]
   | false =>
    simp only [AM,Ap,hg];cases s3<;>cases x3<;>simp [AM,Ap,CG]
  ·split<;>simp<;>omega
  ·simp only [CQ,EV,List.append_assoc]
end Go.Proofs.YthpkjfabdccpdaaGreat.Pl
namespace Go.Proofs.YthpkjfabdccpdaaGreat.Pl
open Go Go.Proofs.YthpkjfabdccpdaaGreat.Sv
theorem TC : ∀ (l:List AD) (s:Bt) (x:AD),EV s (l++[x])=EV s l++(if keep (CQ s l) x=true then [x] else [])
 | [],s,x=>by
  show (if keep s x=true then [x] else [])++[]=[]++(if keep s x=true then [x] else [])
  rw [List.append_nil,List.nil_append]
 | y::l,s,x=>by
  show (if keep s y=true then [y] else [])++EV _ (l++[x])=((if keep s y=true then [y] else [])++EV _ l)++_
  rw [TC l,List.append_assoc];rfl
theorem KY : ∀ (l:List AD) (s:Bt) (x:AD),CQ s (l++[x])=(true,(x.1,(CQ s l).2.2))
 | [],s,x=>rfl
 | y::l,s,x=>by simp only [List.cons_append,CQ,KY l]
theorem F9 : ∀ (l:List AD) (s:Bt),(CQ s l).2.2=s.2.2
 | [],s=>rfl
 | y::l,s=>by rw [CQ,F9 l]
theorem TD : ∀ (l:List AD) (s:Bt) (x:AD),NH s l->kE x=0->((CQ s l).1=true->CT x.1 (CQ s l).2.1=false)->NH s (l++[x])
 | [],s,x,_,h1,h2=>⟨h1,h2,trivial⟩
 | y::l,s,x,⟨h1,h2,h3⟩,h4,h5=>⟨h1,h2,TD l _ x h3 h4 h5⟩
theorem QS : ∀ (l:List AD) (s:Bt),NH s l->s.2.1.length<=32->(s.1=false->s.2.1=[])->(CQ s l).2.1.length<=32/\((CQ s l).1=false->(CQ s l).2.1=[])
 | [],s,_,h1,h2=>⟨h1,h2⟩
 | y::l,s,⟨h3,_,h4⟩,_,_=>QS l _ h4 (O3 h3) (λh=>by cases h)
abbrev s0 (bt:Bool):Bt:=(false,([],bt))
def Dk (a b:List AD) (bt:Bool) (n:Nat):Hy:=(LP a b n,(CQ (s0 bt) (Ar a b n),(EV (s0 bt) (Ar a b n),(n:Int))))
def HY (a b:List AD):Nat->List Int
 | 0=>[]
 | n+1=>HY a b n++[(O0 a b n:Int)]
theorem NI (a b:List AD) : ∀ n,(HY a b n).length=n
 | 0=>rfl
 | n+1=>by simp [HY,NI a b n]
theorem IZ {S β:Type} {f:S->Option (LR S β)} {r:β} (mk:Nat->S) (k0 n:Nat) {s:S} (h0:s=mk k0) (hk:k0<=n) (hn:n<18446744073709551616) (hs : ∀ k,k0<=k->k<n->f (mk k)=some (.nx (mk (k+1)))) (he:f (mk n)=some (.dn r)):loop f s=some r:=by
 have h:=Oy (f:=f) (r:=r) (λk=>mk (k0+k)) (n-k0) (s:=s) h0 (by omega) (λk hk=>hs (k0+k) (by omega) (by omega)) (by show f (mk (k0+(n-k0)))=_;rw [show k0+(n-k0)=n by omega];exact he);exact h
theorem O4 (l:List AD) (h:l.length<=100000):Du (l,l)=some true:=by
 unfold Du;simp only [AV,AQ]
 rw [AS,if_pos rfl,MJ (l:=l) (σ:=Unit) (s:=(false,0)) (λk _=>(false,(k:Int))) (λ_ _ _=>some (1,((false,(l.length:Int)),()))) () rfl (by omega) (λst=>by
  simp only;rw [re];rfl) (λk x m st _ hx hk => .inl ⟨(),by
   simp only;rw [rl hk,AM,AE,AJ hx,AE,AJ hx,I6,I6,HD,show Ba x.2.2.2 x.2.2.2=true by unfold Ba;simp,show AX (Bm true (Bm true (Bm true (Bm true true))))=false from rfl,Ap,Al hx (by omega)],rfl⟩),AB]
 rfl
section
variable {a b:List AD} (va:VL a) (vb:VL b)
include va vb
theorem FY {n:Nat} {x:AD} (hx:Nm a b n=some x):Ar a b (n+1)=Ar a b n++[x]:=by
 show (match Nm a b n with
  | some x=>Ar a b n++[x]
  | none=>Ar a b n)=_
 rw [hx]
theorem GZ (bt:Bool) : ∀ {n:Nat},n<=a.length+b.length->NH (s0 bt) (Ar a b n)
 | 0,_=>trivial
 | n+1,h=>by
  obtain ⟨x,hx,_⟩:=Dv va vb (n:=n) (by omega);rw [FY va vb hx];refine TD _ _ _ (GZ bt (by omega)) (Zk va vb hx) λ_ => ?_;cases n with
  | zero=>rename_i h1;cases h1
  | succ m =>
   obtain ⟨y,hy,_⟩:=Dv va vb (n:=m) (by omega);rw [FY va vb hy,KY];exact WO va vb (by omega) hy hx
theorem Uw (bt:Bool) {n:Nat} (h:n<=a.length+b.length):(CQ (s0 bt) (Ar a b n)).2.1.length<=32/\((CQ (s0 bt) (Ar a b n)).1=false->(CQ (s0 bt) (Ar a b n)).2.1=[]) :=
 QS _ _ (GZ va vb bt h) (by simp) (λ_=>rfl)
theorem gF {n:Nat} (h:n=a.length+b.length):(wk (kx a (Ag a b n).1) (kx b (Ag a b n).2)).2=true:=by
 obtain ⟨hI,hs⟩:=Ee va vb (n:=n) (by omega);have h1:=hI.ia;have h2:=hI.jb;rw [ML (List.getElem?_eq_none (by omega)),ML (List.getElem?_eq_none (by omega))];rfl
theorem gG {n:Nat} {x:AD} (hx:Nm a b n=some x):(wk (kx a (Ag a b n).1) (kx b (Ag a b n).2)).2=false/\wn (kx a (Ag a b n).1) (kx b (Ag a b n).2)=O0 a b n:=by
 unfold Nm at hx;unfold O0;cases g:HK a b (Ag a b n).1 (Ag a b n).2 with
 | true=>rw [if_pos g] at hx;rw [(XW g).1,(XW g).2,F8 hx];exact ⟨rfl,rfl⟩
 | false=>rw [if_neg (by simp [g])] at hx;rw [(XX g).1,(XX g).2,F8 hx];exact ⟨rfl,rfl⟩
theorem gH:Gt [a,b]=some (Ar a b (a.length+b.length),(HY a b (a.length+b.length),0)):=by
 have la:=va.len;have lb:=vb.len;unfold Gt;rw [LO va vb,AB,AS,if_pos rfl];refine Eq.trans (b:=bd (loop _ (0,[([],false),([],false)])) _) rfl ?_;refine BF (x:=(0,((2,[kx a 0,kx b 0]),()))) (Cb (s1:=(1,[kx a 0,([],false)])) (s2:=(2,[kx a 0,kx b 0])) ?_ ?_ rfl) ?_
 ·show bd (BI (a,((0:Nat):Int))) _=_;rw [Gk (by omega)];rfl
 ·show bd (BI (b,((0:Nat):Int))) _=_;rw [Gk (by omega)];rfl
 rw [show ((0:Nat),(((2:Int),[kx a 0,kx b 0]),())).2.1.2=[kx a 0,kx b 0] from rfl,NG (Bg _ _) (Bg _ _),AB]
 refine BF (x:=(0,((Ar a b (a.length+b.length),(HY a b (a.length+b.length),((),([((Ag a b (a.length+b.length)).1:Int),((Ag a b (a.length+b.length)).2:Int)],Tt (kx a (Ag a b (a.length+b.length)).1) (kx b (Ag a b (a.length+b.length)).2))))),())))
  (IZ (λk=>(Ar a b k,(HY a b k,((),([((Ag a b k).1:Int),((Ag a b k).2:Int)],Tt (kx a (Ag a b k).1) (kx b (Ag a b k).2)))))) 0 (a.length+b.length) rfl (by omega) (by omega) (λk _ hk => ?_) ?_) rfl
 ·obtain ⟨x,hx,_⟩:=Dv va vb (n:=k) hk;obtain ⟨w1,w2⟩:=gG va vb hx;obtain ⟨hI,hs⟩:=Ee va vb (n:=k) (by omega);have hl1:(Ar a b k).length=k:=Ci va vb (by omega);have hl2:=NI a b k;simp only;rw [HX (Bg _ _) (Bg _ _),if_neg (by simp [w1]),AB,AS,if_pos rfl,w2];rw [FY va vb hx];unfold Nm at hx;rw [show HY a b (k+1)=HY a b k++[(O0 a b k:Int)] from rfl];unfold O0;rw [show Ag a b (k+1)=if HK a b (Ag a b k).1 (Ag a b k).2=true then ((Ag a b k).1+1,(Ag a b k).2) else ((Ag a b k).1,(Ag a b k).2+1) from rfl]
  have g1 : ∀ {β:Type} (y:AD) (q:Unit->Option β),gd (BZ (A2 (AA (Ar a b k)) (AA [y])) 1048576) q=q ():=λy q=>Bj (by simp only [A2,AA,hl1,List.length_cons,List.length_nil];omega) q;have g2 : ∀ {β:Type} (y:Int) (q:Unit->Option β),gd (BZ (A2 (AA (HY a b k)) (AA [y])) 1048576) q=q ():=λy q=>Bj (by simp only [A2,AA,hl2,List.length_cons,List.length_nil];omega) q;cases g:HK a b (Ag a b k).1 (Ag a b k).2 with
  | true =>
   rw [if_pos g] at hx;obtain ⟨hkk,_⟩:=XW g;obtain ⟨m,hr⟩:=Hz (p:=kx a (Ag a b k).1) (q:=kx b (Ag a b k).2) (k:=kx a ((Ag a b k).1+1)) (Bg _ _) (Bg _ _) (Bg _ _) w1 (by rw [hkk,F8 hx];exact OC va hx)
   have hrk:rk (kx a (Ag a b k).1) (kx b (Ag a b k).2) (kx a ((Ag a b k).1+1))=(kx a ((Ag a b k).1+1),kx b (Ag a b k).2):=by
    unfold rk;unfold HK at g;rw [if_pos g]
   rw [hrk] at hr;have hi:=(List.getElem?_eq_some_iff.1 hx).1;simp only [if_true];refine (Jy 0 rfl (x:=a) rfl).trans ((Jy 0 rfl (x:=((Ag a b k).1:Int)) rfl).trans ((Ef _ rfl hx).trans ?_));rw [g1,g2];refine (Jy 0 rfl (x:=((Ag a b k).1:Int)) rfl).trans ((Jy 0 rfl (x:=((Ag a b k).1:Int)) rfl).trans ((Jy 0 rfl (x:=a) rfl).trans ((Jy 0 rfl (x:=AH .i64 ((Ag a b k).1:Int) 1) rfl).trans ?_)));rw [Ab (by omega),Gk (by omega),AB,hr,AB];rfl
  | false =>
   rw [if_neg (by simp [g])] at hx;obtain ⟨hkk,_⟩:=XX g;obtain ⟨m,hr⟩:=Hz (p:=kx a (Ag a b k).1) (q:=kx b (Ag a b k).2) (k:=kx b ((Ag a b k).2+1)) (Bg _ _) (Bg _ _) (Bg _ _) w1 (by rw [hkk,F8 hx];exact OC vb hx)
   have hrk:rk (kx a (Ag a b k).1) (kx b (Ag a b k).2) (kx b ((Ag a b k).2+1))=(kx a (Ag a b k).1,kx b ((Ag a b k).2+1)):=by
    unfold rk;unfold HK at g;rw [if_neg (by simp [g])]
   rw [hrk] at hr;have hi:=(List.getElem?_eq_some_iff.1 hx).1;simp only [Bool.false_eq_true,if_false];refine (Jy 1 rfl (x:=b) rfl).trans ((Jy 1 rfl (x:=((Ag a b k).2:Int)) rfl).trans ((Ef _ rfl hx).trans ?_));rw [g1,g2];refine (Jy 1 rfl (x:=((Ag a b k).2:Int)) rfl).trans ((Jy 1 rfl (x:=((Ag a b k).2:Int)) rfl).trans ((Jy 1 rfl (x:=b) rfl).trans ((Jy 1 rfl (x:=AH .i64 ((Ag a b k).2:Int) 1) rfl).trans ?_)));rw [Ab (by omega),Gk (by omega),AB,hr,AB];rfl
 ·simp only;rw [HX (Bg _ _) (Bg _ _),if_pos (gF va vb rfl),AB,AS,if_neg (by decide),AS,if_neg (by decide)]
end
end Go.Proofs.YthpkjfabdccpdaaGreat.Pl
namespace Go.Proofs.YthpkjfabdccpdaaGreat.Pl
open Go Go.Proofs.YthpkjfabdccpdaaGreat.Sv
theorem WR {β:Type} {out:List AD} {n:Nat} (h:out.length<=n) (hn:n<=20000) (x:AD) (k:Unit->Option β):gd (BZ (A2 out.length [x].length) 1048576) k=k ():=Rl h hn x k
section
variable {a b:List AD} (va:VL a) (vb:VL b)
include va vb
theorem G6 {n:Nat} (h:n<=a.length+b.length):(Ar a b (a.length+b.length)).take n=Ar a b n:=Uq va vb (Nat.le_refl _) h
theorem Jz {n:Nat} {x:AD} (bt:Bool) (hx:Nm a b n=some x):CQ (s0 bt) (Ar a b (n+1))=(true,(x.1,bt)):=by
 rw [FY va vb hx,KY,F9]
theorem Ux (bt:Bool) {n:Nat} (h:n<=a.length+b.length):Ed (Dk a b bt n)=some 0:=by
 obtain ⟨hI,hs⟩:=Ee va vb (n:=n) h;have la:=va.len;have lb:=vb.len;have hfl:=IY (s0 bt) (Ar a b n);have hml:(Ar a b n).length=n:=Ci va vb h;unfold Ed;rw [show (Dk a b bt n).1=La a b (Ag a b n).1 (Ag a b n).2 from rfl,KX va vb hI,AB,AS,if_pos rfl];refine BF (x:=(0,((2,(n:Int)),()))) (Cb (s1:=(1,((Ag a b n).1:Int))) (s2:=(2,(n:Int))) ?_ ?_ rfl) ?_
 ·refine (Nt 0 rfl rfl (x:=((Ag a b n).1:Int)) rfl).trans ?_;show some (LR.nx ((1:Int),AH .i64 0 ((Ag a b n).1:Int)))=_;rw [D8 (by omega),Int.zero_add]
 ·refine (Nt 1 rfl rfl (x:=((Ag a b n).2:Int)) rfl).trans ?_;show some (LR.nx ((2:Int),AH .i64 ((Ag a b n).1:Int) ((Ag a b n).2:Int)))=_;rw [D8 (by omega),show ((Ag a b n).1:Int)+((Ag a b n).2:Int)=(n:Int) by omega]
 simp only [AV,AQ];rw [show (Dk a b bt n).2.2.1=EV (s0 bt) (Ar a b n) from rfl,show (Dk a b bt n).2.2.2=(n:Int) from rfl,show (Dk a b bt n).2.1=CQ (s0 bt) (Ar a b n) from rfl,Aq,if_neg (by omega),Aq,if_neg (by omega),AS,if_pos rfl];rw [show (La a b (Ag a b n).1 (Ag a b n).2).1=[a,b] from rfl,gH va vb,AB,AS,if_pos rfl,AE];rw [Bj (by rw [Ci va vb (Nat.le_refl _)];exact h),Bj (Nat.zero_le _)];rw [show Cs (Ar a b (a.length+b.length)) 0 n=Ar a b n from by unfold Cs;rw [List.drop_zero,Nat.sub_zero];exact G6 va vb h,F9];rw [show (s0 bt).2.2=bt from rfl,XZ (by omega) (GZ va vb bt h),AB,AS,if_pos rfl];unfold CY;rw [AB,Aq];cases n with
 | zero =>
  rw [if_neg (by omega),O4 _ (by omega),AB,NE,Ap];show br (AX (Bm (Sv.beq false false) (Bm (seq [] []) (Bm (Sv.beq bt bt) true)))) _ _=_;rw [HD,HD,I6];rfl
 | succ m =>
  obtain ⟨x,hx,_⟩:=Dv va vb (n:=m) (by omega);rw [if_pos (by omega),show B9 .i64 ((m+1:Nat):Int) 1=(m:Int) by rw [B7 (by omega)];omega,AE];rw [AJ (x:=x) (by rw [IX va vb (Nat.le_refl _) (by omega)];exact hx),O4 _ (by omega),AB,NE,Ap,Jz va vb bt hx];rw [HD,HD,I6];rfl
theorem Zq {n:Nat} (h:n<=a.length+b.length):F6 (LP a b n)=some (((a.length+b.length-n:Nat):Int),0):=by
 obtain ⟨hI,hs⟩:=Ee va vb (n:=n) h;have la:=va.len;have lb:=vb.len;have ha:=hI.ia;have hb:=hI.jb;unfold F6;rw [show LP a b n=La a b (Ag a b n).1 (Ag a b n).2 from rfl,KX va vb hI,AB,AS,if_pos rfl];refine BF (x:=(0,((2,((a.length+b.length-n:Nat):Int)),()))) (Cb (s1:=(1,(a.length:Int)-((Ag a b n).1:Int))) (s2:=(2,((a.length+b.length-n:Nat):Int))) ?_ ?_ rfl) rfl
 ·refine (Nt 0 rfl rfl (x:=a) rfl).trans ((Ef 0 rfl (x:=((Ag a b n).1:Int)) rfl).trans ?_);simp only [AV,AQ];rw [B7 (by omega)];show some (LR.nx ((1:Int),AH .i64 0 ((a.length:Int)-((Ag a b n).1:Int))))=_;rw [D8 (by omega),Int.zero_add]
 ·refine (Nt 1 rfl rfl (x:=b) rfl).trans ((Ef 1 rfl (x:=((Ag a b n).2:Int)) rfl).trans ?_);simp only [AV,AQ];rw [B7 (by omega)];show some (LR.nx ((2:Int),AH .i64 ((a.length:Int)-((Ag a b n).1:Int)) ((b.length:Int)-((Ag a b n).2:Int))))=_;rw [D8 (by omega),show (a.length:Int)-((Ag a b n).1:Int)+((b.length:Int)-((Ag a b n).2:Int))=((a.length+b.length-n:Nat):Int) by omega]
theorem NJ (bt:Bool) {n:Nat} (h:n<=a.length+b.length):Bh (Dk a b bt n)=some (((a.length+b.length-n:Nat):Int),0):=by
 unfold Bh;rw [Ux va vb bt h,AB,AS,if_pos rfl,show (Dk a b bt n).1=LP a b n from rfl,Zq va vb h];rfl
theorem O5 (bt:Bool) {n:Nat} {x:AD} (hx:Nm a b n=some x):Dk a b bt (n+1)=(LP a b (n+1),((true,(x.1,bt)),(EV (s0 bt) (Ar a b n)++(if keep (CQ (s0 bt) (Ar a b n)) x=true then [x] else []),((n+1:Nat):Int)))):=by
 unfold Dk;rw [FY va vb hx,KY,F9,TC]
theorem I7 (bt:Bool) {n:Nat} {x:AD} (hn:n<a.length+b.length) (hx:Nm a b n=some x):CA (CQ (s0 bt) (Ar a b n),x)=some (keep (CQ (s0 bt) (Ar a b n)) x,((true,(x.1,bt)),0)):=by
 have hlm:=Uw va vb bt (n:=n) (by omega);rw [XY hlm.1 hlm.2 (Zk va vb hx),F9];intro h1;cases n with
 | zero=>cases h1
 | succ m =>
  obtain ⟨y,hy,_⟩:=Dv va vb (n:=m) (by omega);rw [Jz va vb bt hy];exact WO va vb (by omega) hy hx
def gy (k:Int) (s:Hy):Int×(Int×(List (List AD)×(List Int×(List AO×(List Int×(Int×(Bool×(Gu×(Bool×(List AD×Int)))))))))) :=
 (k,(0,(s.1.1,(s.1.2.1,(s.1.2.2.1,(s.1.2.2.2.1,(s.1.2.2.2.2,(s.2.1.1,(s.2.1.2.1,(s.2.1.2.2,(s.2.2.1,s.2.2.2)))))))))))
theorem QT (bt:Bool) {n:Nat} (h:n<=a.length+b.length) {k:Nat}:By (Dk a b bt n,(k:Int))=some (Dk a b bt (n+min k (a.length+b.length-n)),(((min k (a.length+b.length-n):Nat):Int),0)):=by
 have la:=va.len;have lb:=vb.len;have hml : ∀ m,m<=a.length+b.length->(EV (s0 bt) (Ar a b m)).length<=m:=λm hm=>by have:=IY (s0 bt) (Ar a b m);have:=Ci va vb hm;omega
 obtain ⟨u,hu⟩ : ∃ u,u=min k (a.length+b.length-n):=⟨_,rfl⟩
 have him:Nf (k:Int) ((a.length+b.length-n:Nat):Int)=(u:Int):=by
  unfold Nf;split<;>omega
 rw [<- hu];unfold By;rw [NJ va vb bt h,AB,AS,if_pos rfl];simp only [him,AV,AQ];rw [BE,if_neg (by omega),show (Dk a b bt n).2.2.2=(n:Int) from rfl,D8 (by omega),Aq,if_neg (by omega)];rw [show (Dk a b bt n).2.2.1=EV (s0 bt) (Ar a b n) from rfl,show (Dk a b bt n).1=LP a b n from rfl,Bj (by have:=hml n h;omega),Bj (show (LP a b n).2.1.length<=1048576 from (show 2<=1048576 by omega)),BE];by_cases h0:u=0
 ·rw [h0,if_neg (by omega)];rfl
 rw [if_pos (by omega)];obtain ⟨x,hx,_⟩:=Dv va vb (n:=n) (by omega);rw [O1 va vb (by omega) hx,AB,AS,if_pos rfl,show (Dk a b bt n).2.1=CQ (s0 bt) (Ar a b n) from rfl,I7 va vb bt (by omega) hx,AB,AS,if_pos rfl]
 have hl : ∀ j,1<=j->j<u -> ∃ y,Nm a b (n+j)=some y:=λj h1 h2=>by
  obtain ⟨y,hy,_⟩:=Dv va vb (n:=n+j) (by omega);exact ⟨y,hy⟩
 rw [Fo];have hS:=O5 va vb bt hx;cases hk:keep (CQ (s0 bt) (Ar a b n)) x with
 | true =>
  rw [hk] at hS;rw [if_pos rfl,WR (hml n h) (by omega)];refine BF (x:=(1,(gy u (Dk a b bt (n+u)),()))) (IZ (λj=>gy j (Dk a b bt (n+j))) 1 u ?_ (by omega) (by omega) (λj h1 h2 => ?_) ?_) ?_
  ·rw [hS,show AH .i64 (n:Int) 1=((n+1:Nat):Int) from Ab (by omega)];rfl
  ·obtain ⟨y,hy⟩:=hl j h1 h2;show br (Am (j:Int) (u:Int)) _ _=_;rw [BE,if_pos (by omega)];show bd (B0 (LP a b (n+j))) _=_;rw [O1 va vb (by omega) hy,AB,AS,if_pos rfl];show bd (CA (CQ (s0 bt) (Ar a b (n+j)),y)) _=_;rw [I7 va vb bt (by omega) hy,AB,AS,if_pos rfl,Fo,show n+(j+1)=n+j+1 by omega,O5 va vb bt hy];cases hk2:keep (CQ (s0 bt) (Ar a b (n+j))) y with
   | true =>
    rw [if_pos rfl,if_pos rfl];show gd (BZ (A2 (AA (EV (s0 bt) (Ar a b (n+j)))) (AA [y])) 1048576) _=_;rw [Rl (hml _ (by omega)) (by omega)];show some (LR.nx (AH .i64 (j:Int) 1,_))=_;unfold gy;simp only [Ab (show j+1<=9223372036854775807 by omega),CG];rw [show AH .i64 (Dk a b bt (n+j)).2.2.2 1=((n+j+1:Nat):Int) from Ab (by omega)];rfl
   | false =>
    rw [if_neg (by simp),if_neg (by simp)];show some (LR.nx (AH .i64 (j:Int) 1,_))=_;unfold gy;simp only [Ab (show j+1<=9223372036854775807 by omega)];rw [show AH .i64 (Dk a b bt (n+j)).2.2.2 1=((n+j+1:Nat):Int) from Ab (by omega),List.append_nil];rfl
  ·show br (Am (u:Int) (u:Int)) _ _=_;rw [BE,if_neg (by omega)]
  ·rfl
 | false =>
  rw [hk] at hS;rw [if_neg (by simp)];refine BF (x:=(1,(gy u (Dk a b bt (n+u)),()))) (IZ (λj=>gy j (Dk a b bt (n+j))) 1 u ?_ (by omega) (by omega) (λj h1 h2 => ?_) ?_) ?_
  ·rw [hS,show AH .i64 (n:Int) 1=((n+1:Nat):Int) from Ab (by omega),if_neg (by simp),List.append_nil];rfl
  ·obtain ⟨y,hy⟩:=hl j h1 h2;show br (Am (j:Int) (u:Int)) _ _=_;rw [BE,if_pos (by omega)];show bd (B0 (LP a b (n+j))) _=_;rw [O1 va vb (by omega) hy,AB,AS,if_pos rfl];show bd (CA (CQ (s0 bt) (Ar a b (n+j)),y)) _=_;rw [I7 va vb bt (by omega) hy,AB,AS,if_pos rfl,Fo,show n+(j+1)=n+j+1 by omega,O5 va vb bt hy];cases hk2:keep (CQ (s0 bt) (Ar a b (n+j))) y with
   | true =>
    rw [if_pos rfl,if_pos rfl];show gd (BZ (A2 (AA (EV (s0 bt) (Ar a b (n+j)))) (AA [y])) 1048576) _=_;rw [Rl (hml _ (by omega)) (by omega)];show some (LR.nx (AH .i64 (j:Int) 1,_))=_;unfold gy;simp only [Ab (show j+1<=9223372036854775807 by omega),CG];rw [show AH .i64 (Dk a b bt (n+j)).2.2.2 1=((n+j+1:Nat):Int) from Ab (by omega)];rfl
   | false =>
    rw [if_neg (by simp),if_neg (by simp)];show some (LR.nx (AH .i64 (j:Int) 1,_))=_;unfold gy;simp only [Ab (show j+1<=9223372036854775807 by omega)];rw [show AH .i64 (Dk a b bt (n+j)).2.2.2 1=((n+j+1:Nat):Int) from Ab (by omega),List.append_nil];rfl
  ·show br (Am (u:Int) (u:Int)) _ _=_;rw [BE,if_neg (by omega)]
  ·rfl
end
end Go.Proofs.YthpkjfabdccpdaaGreat.Pl
namespace Go.Proofs.YthpkjfabdccpdaaGreat.Pl
open Go Go.Proofs.YthpkjfabdccpdaaGreat.Sv
theorem FB {α β σ S:Type} {l:List α} (mk:Nat->σ->S) (I:List α->Nat->σ->Prop) (Q:β->Prop) {f:S->Option (LR S β)} {s:S} (st:σ) (h0:s=mk 0 st) (hl:l.length<=9223372036854775807) (hi:I l 0 st)
  (hn : ∀ st,I [] l.length st -> ∃ r,f (mk l.length st)=some (.dn r)/\Q r)
  (hc : ∀ k x m st,l.drop k=x::m->l[k]? = some x->k<l.length->I (x::m) k st->(∃ st',f (mk k st)=some (.nx (mk (k+1) st'))/\I m (k+1) st') \/ ∃ r,f (mk k st)=some (.dn r)/\Q r) : ∃ r,loop f s=some r/\Q r:=by
 subst h0
 have main : ∀ (m:List α) (k n:Nat) (st:σ),l.drop k=m->k<=l.length->m.length<n->I m k st -> ∃ r,D2 n f (mk k st)=some r/\Q r:=by
  intro m
  induction m with
  | nil =>
   intro k n st hm hk hn' hi;obtain ⟨n,rfl⟩ : ∃ j,n=j+1:=⟨n-1,by omega⟩
   have hkl:k=l.length:=by
    have:=congrArg List.length hm;simp at this;omega
   subst hkl;obtain ⟨r,h1,h2⟩:=hn st hi;exact ⟨r,BV h1,h2⟩
  | cons x m ih =>
   intro k n st hm hk hn' hi;obtain ⟨n,rfl⟩ : ∃ j,n=j+1:=⟨n-1,by omega⟩
   have hx:l[k]? = some x:=by
    have:=congrArg List.head? hm;rw [List.head?_drop] at this;simpa using this
   have hk':k<l.length:=(List.getElem?_eq_some_iff.1 hx).1
   have hm2:l.drop (k+1)=m:=by
    have:=congrArg List.tail hm;rw [List.tail_drop] at this;simpa using this
   rcases hc k x m st hm hx hk' hi with ⟨st',h1,h2⟩ | ⟨r,h1,h2⟩
   ·rw [BG h1];exact ih (k+1) n st' hm2 (by omega) (by simp at hn';omega) h2
   ·exact ⟨r,BV h1,h2⟩
 exact main l 0 _ st (by simp) (by omega) (by omega) hi
theorem Ia {α:Type} (l m:List α) (hl:l.length=m.length) (hb:l.length<=9223372036854775806) {f:(Int×Bool)->Option (LR (Int×Bool) (Nat×((Int×Bool)×Unit)))}
  (hs : ∀ (k:Nat) x y,l[k]? = some x->m[k]? = some y->(x=y->f ((k:Int),false)=some (.nx (((k+1:Nat):Int),false)))/\(x≠y->f ((k:Int),false)=some (.dn (0,(((k:Int),false),())))))
  (he:f ((l.length:Int),false)=some (.dn (1,(((l.length:Int),false),())))) :
  ∃ r,loop f (0,false)=some r/\((l=m/\r.1=1)\/(l≠m/\r.1=0/\r.2.1.2=false)):=by
 refine FB (l:=l) (σ:=Unit) (λk _=>((k:Int),false)) (λt k _=>t=l.drop k/\l.take k=m.take k) _ () rfl (by omega) ⟨by simp,by simp⟩ (λst h => ?_) (λk x t st hd hx hk h => ?_)
 ·refine ⟨_,he,.inl ⟨?_,rfl⟩⟩;have:=h.2;rw [List.take_length,hl,List.take_length] at this;exact this
 ·have hk2:k<m.length:=by omega
  have hy:m[k]? = some m[k]:=by simp [hk2]
  by_cases e:x=m[k]
  ·refine .inl ⟨(),(hs k x m[k] hx hy).1 e,?_,?_⟩
   ·have:=congrArg List.tail hd;rw [List.tail_drop] at this;simp at this;exact this.symm
   ·rw [List.take_add_one,List.take_add_one,h.2,hx,hy,e]
  ·refine .inr ⟨_,(hs k x m[k] hx hy).2 e,.inr ⟨?_,rfl,rfl⟩⟩;intro e2;subst e2;rw [hx] at hy;exact e (Option.some.inj hy)
theorem beq_eq (a b:Bool):Sv.beq a b=decide (a=b):=by cases a<;>cases b<;>rfl
theorem Eg (a b:Int):Ba a b=decide (a=b):=by
 unfold Ba;by_cases h:a=b<;>simp [h]
theorem I8 (p q:Prop) [Decidable p] [Decidable q]:Bm (decide p) (decide q)=decide (p/\q):=by unfold Bm;simp
theorem CW (p:Prop) [Decidable p]:AX (decide p)=decide (¬ p):=by unfold AX;simp
theorem MM (a:Bool):Bm a true=a:=by cases a<;>rfl
theorem Xa (l m:List AO) (hb:l.length<=9223372036854775806):Aj (l,m)=some (decide (l=m)):=by
 unfold Aj;simp only [AV,AQ];rw [AS];by_cases hl:(l.length:Int)=(m.length:Int)
 ·rw [if_pos hl];have hl2:l.length=m.length:=by omega
  obtain ⟨r,h1,h2⟩:=Ia l m hl2 hb (f:=λs0=>br (Am s0.1 (l.length:Int)) (λ_=>AU s0.1 λk1=>ix l k1 λx2=>AU s0.1 λk3=>ix m k3 λx4=>br (AX (Bm (seq x2.1 x4.1) (Bm (Sv.beq x2.2 x4.2) true))) (λ_=>some (.dn ((0,((s0.1,false),()))))) λ_=>some (.nx (AH .i64 s0.1 1,s0.2))) λ_=>some (.dn ((1,(s0,()))))) (λk x y hx hy=>by
    have hk:=(List.getElem?_eq_some_iff.1 hx).1
    have he : ∀ {β:Type} (u v:Unit->Option β),br (AX (Bm (seq x.1 y.1) (Bm (Sv.beq x.2 y.2) true))) u v=if x=y then v () else u ():=by
     intro β u v;rw [MM,LN,beq_eq,I8,CW,Cn];by_cases e:x=y
     ·subst e;simp
     ·rw [if_pos (λh=>e (Prod.ext h.1 h.2)),if_neg e]
    constructor
    ·intro e;simp only;rw [rl hk,AM,AE,AJ hx,AE,AJ hy,he,if_pos e,Ab (by omega)]
    ·intro e;simp only
     rw [rl hk,AM,AE,AJ hx,AE,AJ hy,he,if_neg e]) (by simp only;rw [re];rfl)
  refine BF h1 ?_;rcases h2 with ⟨e,h2⟩ | ⟨e,h2,h3⟩
  ·rw [CH,h2];simp [e]
  ·rw [CH,h2];simp [e,h3]
 ·rw [if_neg hl];have : ¬ l=m:=λe=>hl (by rw [e]);simp [this]
theorem KZ (l m:List Int) (hb:l.length<=9223372036854775806):Ad (l,m)=some (decide (l=m)):=by
 unfold Ad;simp only [AV,AQ];rw [AS];by_cases hl:(l.length:Int)=(m.length:Int)
 ·rw [if_pos hl];have hl2:l.length=m.length:=by omega
  obtain ⟨r,h1,h2⟩:=Ia l m hl2 hb (f:=λs0=>br (Am s0.1 (l.length:Int)) (λ_=>AU s0.1 λk1=>ix l k1 λx2=>AU s0.1 λk3=>ix m k3 λx4=>br (BC x2 x4) (λ_=>some (.dn ((0,((s0.1,false),()))))) λ_=>some (.nx (AH .i64 s0.1 1,s0.2))) λ_=>some (.dn ((1,(s0,()))))) (λk x y hx hy=>by
    have hk:=(List.getElem?_eq_some_iff.1 hx).1;constructor
    ·intro e;simp only;rw [rl hk,AM,AE,AJ hx,AE,AJ hy,AS,if_pos e,Ab (by omega)]
    ·intro e;simp only
     rw [rl hk,AM,AE,AJ hx,AE,AJ hy,AS,if_neg e]) (by simp only;rw [re];rfl)
  refine BF h1 ?_;rcases h2 with ⟨e,h2⟩ | ⟨e,h2,h3⟩
  ·rw [CH,h2];simp [e]
  ·rw [CH,h2];simp [e,h3]
 ·rw [if_neg hl];have : ¬ l=m:=λe=>hl (by rw [e]);simp [this]
theorem O6 {β:Type} (x y:AD) (u v:Unit->Option β):br (AX (Bm (seq x.1 y.1) (Bm (seq x.2.1 y.2.1) (Bm (Sv.beq x.2.2.1 y.2.2.1) (Bm (Ba x.2.2.2 y.2.2.2) true))))) u v=if x=y then v () else u ():=by
 rw [MM,LN,LN,beq_eq,Eg,I8,I8,I8,CW,Cn];by_cases e:x=y
 ·subst e;simp
 ·rw [if_pos (λh=>e (Prod.ext h.1 (Prod.ext h.2.1 (Prod.ext h.2.2.1 h.2.2.2)))),if_neg e]
theorem GA (l m:List AD) (hb:l.length<=9223372036854775806):BP (l,m)=some (decide (l=m)):=by
 unfold BP;simp only [AV,AQ];rw [AS];by_cases hl:(l.length:Int)=(m.length:Int)
 ·rw [if_pos hl];have hl2:l.length=m.length:=by omega
  obtain ⟨r,h1,h2⟩:=Ia l m hl2 hb (f:=λs0=>br (Am s0.1 (l.length:Int)) (λ_=>AU s0.1 λk1=>ix l k1 λx2=>AU s0.1 λk3=>ix m k3 λx4=>br (AX (Bm (seq x2.1 x4.1) (Bm (seq x2.2.1 x4.2.1) (Bm (Sv.beq x2.2.2.1 x4.2.2.1) (Bm (Ba x2.2.2.2 x4.2.2.2) true))))) (λ_=>some (.dn ((0,((s0.1,false),()))))) λ_=>some (.nx (AH .i64 s0.1 1,s0.2))) λ_=>some (.dn ((1,(s0,()))))) (λk x y hx hy=>by
    have hk:=(List.getElem?_eq_some_iff.1 hx).1;constructor
    ·intro e;simp only;rw [rl hk,AM,AE,AJ hx,AE,AJ hy,O6,if_pos e,Ab (by omega)]
    ·intro e;simp only
     rw [rl hk,AM,AE,AJ hx,AE,AJ hy,O6,if_neg e]) (by simp only;rw [re];rfl)
  refine BF h1 ?_;rcases h2 with ⟨e,h2⟩ | ⟨e,h2,h3⟩
  ·rw [CH,h2];simp [e]
  ·rw [CH,h2];simp [e,h3]
 ·rw [if_neg hl];have : ¬ l=m:=λe=>hl (by rw [e]);simp [this]
theorem HZ (l m:List AD) (hb:l.length<=9223372036854775806):Bo (l,m)=some (decide (l=m)):=by
 unfold Bo;rw [GA l m hb];rfl
instance:DecidableEq AD:=inferInstance
instance:DecidableEq (List AD):=inferInstance
instance:DecidableEq (List (List AD)):=inferInstance
instance:DecidableEq AO:=inferInstance
instance:DecidableEq D9:=inferInstance
instance:DecidableEq AP:=inferInstance
instance:DecidableEq Bt:=inferInstance
instance:DecidableEq Hy:=inferInstance
theorem TE (x y:Hy) (h1:x.1.1.length<=1000) (h2 : ∀ l∈x.1.1,l.length<=1000000) (h3:x.1.2.1.length<=1000) (h4:x.1.2.2.1.length<=1000) (h5:x.1.2.2.2.1.length<=1000) (h6:x.2.2.1.length<=1000000):DS (x,y)=some (decide (x=y)):=by
 obtain ⟨⟨xr,xa,xk,xl,xw⟩,⟨xs,xt,xb⟩,xo,xn⟩:=x;obtain ⟨⟨yr,ya,yk,yl,yw⟩,⟨ys,yt,yb⟩,yo,yn⟩:=y;simp only at h1 h2 h3 h4 h5 h6;unfold DS;simp only [AV,AQ];rw [AS];by_cases hl:(xr.length:Int)=(yr.length:Int)
 ·rw [if_pos hl];have hl2:xr.length=yr.length:=by omega
  obtain ⟨r,q1,q2⟩:=Ia xr yr hl2 (by omega) (f:=λs0=>br (Am s0.1 (xr.length:Int)) (λ_=>AU s0.1 λk1=>ix xr k1 λx2=>AU s0.1 λk3=>ix yr k3 λx4=>bd (Bo (x2,x4)) λr5=>br (AX r5) (λ_=>some (.dn ((0,((s0.1,false),()))))) λ_=>some (.nx (AH .i64 s0.1 1,s0.2))) λ_=>some (.dn ((1,(s0,()))))) (λk x y hx hy=>by
    have hk:=(List.getElem?_eq_some_iff.1 hx).1;have hx1:=h2 x (List.mem_of_getElem? hx);constructor
    ·intro e;simp only;rw [rl hk,AM,AE,AJ hx,AE,AJ hy,HZ _ _ (by omega),AB,CW,Cn,if_neg (by simp [e]),Ab (by omega)]
    ·intro e;simp only
     rw [rl hk,AM,AE,AJ hx,AE,AJ hy,HZ _ _ (by omega),AB,CW,Cn,if_pos e]) (by simp only;rw [re];rfl)
  refine BF q1 ?_;simp only [KZ _ _ (show xa.length<=9223372036854775806 by omega),KZ _ _ (show xl.length<=9223372036854775806 by omega),Xa _ _ (show xk.length<=9223372036854775806 by omega),HZ _ _ (show xo.length<=9223372036854775806 by omega),AB,Cn,Eg,LN,beq_eq,MM,I8,CH];rw [Fo];rcases q2 with ⟨e,q2⟩ | ⟨e,q2,q3⟩
  ·rw [if_neg (show ¬ r.1=0 by omega)]
   repeat' split
   all_goals simp_all
  ·rw [if_pos q2,if_neg (show ¬ r.2.1.2=true by simp [q3])];simp [e]
 ·rw [if_neg hl];have : ¬ xr=yr:=λe=>hl (by rw [e]);simp [this]
end Go.Proofs.YthpkjfabdccpdaaGreat.Pl
namespace Go.Proofs.YthpkjfabdccpdaaGreat.Pl
open Go Go.Proofs.YthpkjfabdccpdaaGreat.Sv
def kR (ids:List Int) (most:Int) (r:BH):Int :=
 if r.1<1\/r.1>1000000 then 7 else if (FA r.2).2≠0 then (FA r.2).2 else if r.2.length=0 then 4 else if (r.2.length:Int)>most then 3 else if r.1∈ids then 8 else 0
def I9 (most:Int):Nat->List Int->List BH->Option (Nat×Int)
 | _,_,[]=>none
 | k,ids,r::rs=>if kR ids most r≠0 then some (k,kR ids most r) else I9 most (k+1) (ids++[r.1]) rs
def B4 (B:Int) (i:Nat):Int:=B*2 ^ i
def JA (B:Int):Nat->List Int->List (List BH)->Option (Nat×(Nat×Int))
 | _,_,[]=>none
 | i,ids,rs::ls=>if rs.length>2 then some (i,(0,3)) else match I9 (B4 B i) 0 ids rs with
  | some (k,e)=>some (i,(k,e))
  | none=>JA B (i+1) (ids++rs.map (·.1)) ls
def DI (L:AK):Int×(Int×Int) :=
 if L.1<1\/L.1>16 then (0,(0,7)) else if L.2.length>12 then (0,(0,3)) else match JA L.1 0 [] L.2 with
  | some (i,(k,e))=>((i:Int),((k:Int),e))
  | none=>if L.2.getLast? = some [] then (((L.2.length-1:Nat):Int),(0,6)) else (0,(0,0))
theorem WS {most:Int} : ∀ {rs:List BH} {k:Nat} {ids:List Int} {k':Nat} {e:Int},I9 most k ids rs=some (k',e)->e≠0
 | [],_,_,_,_,h=>by cases h
 | r::rs,k,ids,k',e,h=>by
  unfold I9 at h;by_cases hk:kR ids most r≠0
  ·rw [if_pos hk] at h;cases h;exact hk
  ·rw [if_neg hk] at h;exact WS h
theorem Rm {B:Int} : ∀ {ls:List (List BH)} {i:Nat} {ids:List Int} {i' k':Nat} {e:Int},JA B i ids ls=some (i',(k',e))->e≠0
 | [],_,_,_,_,_,h=>by cases h
 | rs::ls,i,ids,i',k',e,h=>by
  unfold JA at h;by_cases hk:rs.length>2
  ·rw [if_pos hk] at h;cases h;decide
  ·rw [if_neg hk] at h;cases hr:I9 (B4 B i) 0 ids rs with
   | none=>rw [hr] at h;exact Rm h
   | some x=>rw [hr] at h;cases h;exact WS hr
def Pj (ids:List Int):List (Int×Bool):=ids.map λi=>(i,true)
theorem Zr (ids:List Int) (i:Int):Pc (IN (λa b=>Ba a b) (Pj ids) i) false=decide (i∈ids):=by
 induction ids with
 | nil=>rfl
 | cons j ids ih =>
  show Pc (bif Ba i j then some true else IN (λa b=>Ba a b) (Pj ids) i) false=_
  rw [Eg];by_cases h:i=j
  ·simp [h,Pc]
  ·simp only [h,decide_false,cond_false,List.mem_cons,false_or];exact ih
theorem Zs {ids:List Int} {i:Int} (h:i ∉ ids):Hg (λa b=>Ba a b) (Pj ids) i true=Pj (ids++[i]):=by
 induction ids with
 | nil=>rfl
 | cons j ids ih =>
  show (bif Ba i j then (i,true)::Pj ids else (j,true)::Hg (λa b=>Ba a b) (Pj ids) i true)=_
  rw [Eg];have h1 : ¬ i=j:=λe=>h (by simp [e]);rw [ih (λe=>h (by simp [e]))];simp only [h1,decide_false,cond_false];rfl
theorem Rn (r:BH) (hl:r.2.length<=9223372036854775807):F3 r=some (if r.1<1\/r.1>1000000 then (-1,7) else FA r.2):=by
 unfold F3;rw [BE,Aq,Gv _ hl,AB];by_cases h:r.1<1
 ·rw [if_pos h,if_pos (.inl h)]
 ·rw [if_neg h];by_cases h2:r.1>1000000
  ·rw [if_pos h2,if_pos (.inr h2)]
  ·rw [if_neg h2,if_neg (by omega)]
theorem QU (r:BH) (most:Int) (hl:r.2.length<=9223372036854775807):C0 (r,most)=some (kR [] most r):=by
 unfold C0 kR;rw [Rn r hl,AB];simp only [AV,AQ];by_cases h:r.1<1\/r.1>1000000
 ·rw [if_pos h,if_pos h];rfl
 ·rw [if_neg h,if_neg h,AS];by_cases h2:(FA r.2).2=0
  ·rw [if_pos h2,if_neg (by simp [h2]),B3,Aq]
   repeat' split
   all_goals first | rfl | (exfalso;omega) | simp_all
  ·rw [if_neg h2,if_pos h2]
theorem ie (ids:List Int) (most:Int) (r:BH):kR ids most r=if kR [] most r=0 then (if r.1∈ids then 8 else 0) else kR [] most r:=by
 unfold kR
 repeat' split
 all_goals simp_all
theorem ig (i:Nat) (h:i<=12):(2:Int) ^ i<=4096/\1<=(2:Int) ^ i:=by
 have h1:(2:Nat) ^ i<=2 ^ 12:=Nat.pow_le_pow_right (by omega) h;have h2:1<=(2:Nat) ^ i:=Nat.one_le_two_pow;have h3:((2 ^ i:Nat):Int)=(2:Int) ^ i:=by simp
 omega
theorem TF {B:Int} {i:Nat} (h1:1<=B) (h2:B<=16) (hi:i<=12):1<=B4 B i/\B4 B i<=65536:=by
 obtain ⟨h3,h4⟩:=ig i hi;unfold B4;constructor
 ·have:=Int.mul_le_mul h1 h4 (by omega) (by omega);omega
 ·have:=Int.mul_le_mul h2 h3 (by omega) (by omega);omega
theorem NK {B:Int} {i:Nat} (h1:1<=B) (h2:B<=16) (hi:i<=12):SX .i64 B (i:Int)=B4 B i:=by
 have h3:=TF h1 h2 hi;unfold SX;rw [show min ((i:Int).toNat) IntKind.i64.bits=i by rw [Int.toNat_natCast];exact Nat.min_eq_left (Nat.le_trans hi (by decide))];unfold B4 at h3 ⊢;exact IntWalk.i64_in _ (by omega)
def Q1:Option (Nat×(Nat×Int))->Int->Int->Int->Prop
 | some (i,(k,e)),a,b,c=>a=(k:Int)/\b=(i:Int)/\c=e
 | none,_,_,c=>c=0
def Q2 (m:List (Int×Bool)):Option (Nat×Int)->Nat->Int->Int->List (Int×Bool)->Prop
 | some (k,e),r,a,c,_=>r=0/\a=(k:Int)/\c=e
 | none,r,_,c,m'=>r=1/\c=0/\m'=m
theorem LQ (L:AK) (hb:L.2.length<=1048576) (hr : ∀ rs∈L.2,rs.length<=1048576 /\ ∀ r∈rs,r.2.length<=9223372036854775807):C9 L=some (DI L):=by
 unfold C9 DI;simp only [AV,AQ];rw [BE,Aq,Aq];by_cases hB1:L.1<1
 ·rw [if_pos hB1,if_pos (.inl hB1)]
 rw [if_neg hB1];by_cases hB2:L.1>16
 ·rw [if_pos hB2,if_pos (.inr hB2)]
 rw [if_neg hB2,if_neg (show ¬ (L.1<1\/L.1>16) by omega)];by_cases hl:(L.2.length:Int)>12
 ·rw [if_pos hl,if_pos (by omega)]
 rw [if_neg hl,if_neg (by omega)];have hl2:L.2.length<=12:=by omega
 obtain ⟨T,hT⟩ : ∃ T,T=JA L.1 0 [] L.2:=⟨_,rfl⟩;rw [<- hT]
 have hlast : ∀ r2:Int,r2=0->T=none->(br (BC r2 0) (λ_=>(none:Option (Int×(Int×Int)))) λ_=>br (CF (L.2.length:Int) 0) (λ_=>AU (B9 .i64 (L.2.length:Int) 1) λk15=>ix L.2 k15 λx16=>br (Ba (x16.length:Int) 0) (λ_=>some ((B9 .i64 (L.2.length:Int) 1,(0,6)))) λ_=>some ((0,(0,0)))) λ_=>some ((0,(0,0))))=some (if L.2.getLast? = some [] then (((L.2.length-1:Nat):Int),(0,6)) else (0,(0,0))):=by
  intro r2 h0 _;rw [AS,if_pos h0,Aq];by_cases hn:L.2=[]
  ·rw [hn];rfl
  ·have hp:=List.length_pos_iff.2 hn;rw [if_pos (by omega),show B9 .i64 (L.2.length:Int) 1=((L.2.length-1:Nat):Int) by rw [B7 (by omega)];omega,AE,List.getLast?_eq_getElem?];have hx:L.2[L.2.length-1]? = some (L.2[L.2.length-1]'(by omega)):=by simp
   rw [AJ hx,hx,B3];by_cases he:L.2[L.2.length-1]'(by omega)=[]
   ·rw [he];simp
   ·rw [if_neg (by have:=List.length_pos_iff.2 he;omega),if_neg (by simp [he])]
 obtain ⟨r,q1,q2⟩:=FB (l:=L.2) (σ:=Int×(Int×List Int)) (λi st=>(st.1,(st.2.1,((0:Int),((i:Int),Pj st.2.2)))))
  (λm i st=>JA L.1 i st.2.2 m=T) (λ(r:Nat×((Int×(Int×(Int×(Int×List (Int×Bool)))))×Unit))=>Q1 T r.2.1.1 r.2.1.2.1 r.2.1.2.2.1)
  (f:=λs0=>br (Am s0.2.2.2.1 (L.2.length:Int)) (λ_=>AU s0.2.2.2.1 λk1=>ix L.2 k1 λx2=>br (CF (x2.length:Int) 2) (λ_=>some (.dn ((0,((0,(s0.2.2.2.1,(3,s0.2.2.2))),()))))) λ_=>bd (loop (λs3=>br (Am s3.2.1 (x2.length:Int)) (λ_=>AU s3.2.1 λk4=>ix x2 k4 λx5=>gd (Hj s0.2.2.2.1 0) λ_=>bd (C0 (x5,SX .i64 L.1 s0.2.2.2.1)) λr6=>br (Ba r6 0) (λ_=>br (Pc (IN ((λa7=>(λa8=>Ba a7 a8))) s3.2.2.2 x5.1) false) (λ_=>some (.dn ((0,((s3.2.1,(s3.2.1,(8,s3.2.2.2))),()))))) λ_=>br (BC r6 0) (λ_=>some (.dn ((0,((s3.2.1,(s3.2.1,(r6,s3.2.2.2))),()))))) λ_=>some (.nx ((s3.2.1,(AH .i64 s3.2.1 1,(r6,Hg ((λa9=>(λa10=>Ba a9 a10))) s3.2.2.2 x5.1 true)))))) λ_=>br (BC r6 0) (λ_=>some (.dn ((0,((s3.2.1,(s3.2.1,(r6,s3.2.2.2))),()))))) λ_=>some (.nx ((s3.2.1,(AH .i64 s3.2.1 1,(r6,Hg ((λa11=>(λa12=>Ba a11 a12))) s3.2.2.2 x5.1 true)))))) λ_=>some (.dn ((1,(s3,()))))) ((0,(0,(s0.2.2.1,s0.2.2.2.2))))) λr13=>br (neq r13.1 0) (λ_=>some (.dn ((0,((r13.2.1.1,(s0.2.2.2.1,(r13.2.1.2.2.1,(s0.2.2.2.1,r13.2.1.2.2.2)))),()))))) λ_=>some (.nx ((r13.2.1.1,(s0.2.2.2.1,(r13.2.1.2.2.1,(AH .i64 s0.2.2.2.1 1,r13.2.1.2.2.2))))))) λ_=>some (.dn ((0,(s0,())))))
  (s:=(0,(0,(0,(0,[]))))) (0,(0,[])) rfl (by omega) hT.symm (λst h=>by
   refine ⟨_,by simp only;rw [re];rfl,?_⟩;simp only at h ⊢;rw [<- h];exact rfl) (λi rs m st hd hx hi h=>by
   obtain ⟨s1,s2,ids⟩:=st;simp only at h ⊢;obtain ⟨hrs1,hrs2⟩:=hr rs (List.mem_of_getElem? hx);rw [rl hi,AM,AE,AJ hx,Aq];unfold JA at h;by_cases h3:rs.length>2
   ·rw [if_pos (by omega)];rw [if_pos h3] at h;refine .inr ⟨_,rfl,?_⟩;rw [<- h];exact ⟨rfl,rfl,rfl⟩
   rw [if_neg (by omega)];rw [if_neg h3] at h;obtain ⟨U,hU⟩ : ∃ U,U=I9 (B4 L.1 i) 0 ids rs:=⟨_,rfl⟩;rw [<- hU] at h
   obtain ⟨r,q1,q2⟩:=FB (l:=rs) (σ:=Int) (λk st=>(st,((k:Int),((0:Int),Pj (ids++(rs.take k).map (·.1))))))
    (λm k _=>I9 (B4 L.1 i) k (ids++(rs.take k).map (·.1)) m=U) (λ(r:Nat×((Int×(Int×(Int×List (Int×Bool))))×Unit))=>Q2 (Pj (ids++rs.map (·.1))) U r.1 r.2.1.1 r.2.1.2.2.1 r.2.1.2.2.2)
    (f:=λs3=>br (Am s3.2.1 (rs.length:Int)) (λ_=>AU s3.2.1 λk4=>ix rs k4 λx5=>gd (Hj (i:Int) 0) λ_=>bd (C0 (x5,SX .i64 L.1 (i:Int))) λr6=>br (Ba r6 0) (λ_=>br (Pc (IN ((λa7=>(λa8=>Ba a7 a8))) s3.2.2.2 x5.1) false) (λ_=>some (.dn ((0,((s3.2.1,(s3.2.1,(8,s3.2.2.2))),()))))) λ_=>br (BC r6 0) (λ_=>some (.dn ((0,((s3.2.1,(s3.2.1,(r6,s3.2.2.2))),()))))) λ_=>some (.nx ((s3.2.1,(AH .i64 s3.2.1 1,(r6,Hg ((λa9=>(λa10=>Ba a9 a10))) s3.2.2.2 x5.1 true)))))) λ_=>br (BC r6 0) (λ_=>some (.dn ((0,((s3.2.1,(s3.2.1,(r6,s3.2.2.2))),()))))) λ_=>some (.nx ((s3.2.1,(AH .i64 s3.2.1 1,(r6,Hg ((λa11=>(λa12=>Ba a11 a12))) s3.2.2.2 x5.1 true)))))) λ_=>some (.dn ((1,(s3,())))))
    (s:=(0,(0,(0,Pj ids)))) 0 (by simp) (by omega) (by simp [hU]) (λst h=>by
     refine ⟨_,by simp only;rw [re];rfl,?_⟩;rw [<- h];exact ⟨rfl,rfl,by simp⟩) (λk r m st hd hx hk h=>by
     simp only at h ⊢;have hr2:=hrs2 r (List.mem_of_getElem? hx);have htk:(rs.take (k+1)).map (·.1)=(rs.take k).map (·.1)++[r.1]:=by rw [List.take_add_one,hx];simp
     rw [rl hk,AM,AE,AJ hx,show gd (Hj (i:Int) 0)=λ(q:Unit->Option (LR (Int×(Int×(Int×List (Int×Bool)))) (Nat×((Int×(Int×(Int×List (Int×Bool))))×Unit))))=>q () from by unfold Hj;simp [gd];rfl,NK (by omega) (by omega) (by omega)];simp only;rw [QU _ _ (by omega),AB,B3,Zr,AS];unfold I9 at h;rw [ie] at h;by_cases h0:kR [] (B4 L.1 i) r=0
     ·rw [if_pos h0] at h;rw [if_pos h0,if_pos h0,Cn];by_cases hm:r.1∈ids++(rs.take k).map (·.1)
      ·rw [if_pos hm];rw [if_pos hm,if_pos (by decide)] at h;refine .inr ⟨_,rfl,?_⟩;rw [<- h];exact ⟨rfl,rfl,rfl⟩
      ·rw [if_neg hm];rw [if_neg hm,if_neg (by decide)] at h;refine .inl ⟨(k:Int),?_,?_⟩
       ·rw [Zs hm,h0,Al hx (by omega),htk,List.append_assoc]
       ·rw [htk,<- List.append_assoc];exact h
     ·rw [if_neg h0,if_pos h0] at h;rw [if_neg h0,if_neg h0];refine .inr ⟨_,rfl,?_⟩;rw [<- h]
      exact ⟨rfl,rfl,rfl⟩)
   rw [q1,AB,CH];cases hUc:U with
   | some u =>
    obtain ⟨k,e⟩:=u;rw [hUc] at q2 h;rw [if_pos q2.1];refine .inr ⟨_,rfl,?_⟩;rw [<- h];exact ⟨q2.2.1,rfl,q2.2.2⟩
   | none =>
    rw [hUc] at q2 h;rw [if_neg (show ¬ r.1=0 by have:=q2.1;omega)];refine .inl ⟨(r.2.1.1,((i:Int),ids++rs.map (·.1))),?_,h⟩
    rw [q2.2.1,q2.2.2,Al hx (by omega)])
 refine BF q1 ?_;cases hTc:T with
 | some t =>
  obtain ⟨i,k,e⟩:=t;rw [hTc] at q2 hT;rw [AS,if_neg (by rw [q2.2.2];exact Rm hT.symm),q2.1,q2.2.1,q2.2.2]
 | none =>
  rw [hTc] at q2;have h:=hlast _ q2 hTc;have q3:r.2.1.2.2.1=0:=q2;rw [AS,if_pos q3] at h ⊢;exact h
end Go.Proofs.YthpkjfabdccpdaaGreat.Pl
namespace Go.Proofs.YthpkjfabdccpdaaGreat.Pl
open Go Go.Proofs.YthpkjfabdccpdaaGreat.Sv
structure VR (most:Int) (r:BH):Prop where
 id1:1<=r.1
 id2:r.1<=1000000
 vl:VL r.2
 ne:r.2≠[]
 le:(r.2.length:Int)<=most
theorem Zt {ids:List Int} {most:Int} {r:BH}:kR ids most r=0<->VR most r/\r.1 ∉ ids:=by
 unfold kR;constructor
 ·intro h;by_cases h1:r.1<1\/r.1>1000000
  ·rw [if_pos h1] at h;cases h
  rw [if_neg h1] at h;by_cases h2:(FA r.2).2≠0
  ·rw [if_pos h2] at h;exact absurd h h2
  rw [if_neg h2] at h;by_cases h3:r.2.length=0
  ·rw [if_pos h3] at h;cases h
  rw [if_neg h3] at h;by_cases h4:(r.2.length:Int)>most
  ·rw [if_pos h4] at h;cases h
  rw [if_neg h4] at h;by_cases h5:r.1∈ids
  ·rw [if_pos h5] at h;cases h
  exact ⟨⟨by omega,by omega,ND.1 (by simpa using h2),by intro e;rw [e] at h3;exact h3 rfl,by omega⟩,h5⟩
 ·rintro ⟨h,h5⟩;rw [if_neg (by have:=h.id1;have:=h.id2;omega),if_neg (by simp [ND.2 h.vl]),if_neg (by have:=List.length_pos_iff.2 h.ne;omega),if_neg (by have:=h.le;omega),if_neg h5]
def gz (r:BH):Int:=r.1
theorem NL {most:Int} : ∀ {rs:List BH} {k:Nat} {ids:List Int},I9 most k ids rs=none<->(∀ r∈rs,VR most r/\r.1 ∉ ids)/\(rs.map gz).Nodup
 | [],k,ids=>by simp [I9]
 | r::rs,k,ids=>by
  unfold I9;by_cases h:kR ids most r=0
  ·rw [if_neg (by simp [h]),NL (rs:=rs)];have h1:=Zt.1 h;simp only [List.mem_cons,forall_eq_or_imp,List.map_cons,List.nodup_cons,List.mem_append,List.not_mem_nil,or_false,List.mem_map,not_exists,not_and,not_or];constructor
   ·rintro ⟨h2,h3⟩;exact ⟨⟨h1,λx hx=>⟨(h2 x hx).1,(h2 x hx).2.1⟩⟩,λx hx e=>(h2 x hx).2.2 e,h3⟩
   ·rintro ⟨⟨_,h2⟩,h3,h4⟩;exact ⟨λx hx=>⟨(h2 x hx).1,(h2 x hx).2,h3 x hx⟩,h4⟩
  ·rw [if_pos h];simp only [reduceCtorEq,false_iff,not_and];intro h2;exact absurd (Zt.2 (h2 r (by simp))) h
theorem Ka {B:Int} : ∀ {ls:List (List BH)} {i:Nat} {ids:List Int},JA B i ids ls=none<->(∀ k rs,ls[k]? = some rs->rs.length<=2 /\ ∀ r∈rs,VR (B4 B (i+k)) r/\r.1 ∉ ids)/\(ls.flatten.map gz).Nodup
 | [],i,ids=>by simp [JA]
 | rs::ls,i,ids=>by
  unfold JA;by_cases h:rs.length>2
  ·rw [if_pos h];simp only [reduceCtorEq,false_iff,not_and];intro h2;have:=(h2 0 rs rfl).1;omega
  ·rw [if_neg h];cases hr:I9 (B4 B i) 0 ids rs with
   | some x =>
    simp only [reduceCtorEq,false_iff,not_and];intro h2 h3
    have h4:I9 (B4 B i) 0 ids rs=none:=NL.2 ⟨(h2 0 rs rfl).2,by
     simp only [List.flatten_cons,List.map_append] at h3
     exact (List.nodup_append.1 h3).1⟩
    rw [hr] at h4;cases h4
   | none =>
    have h1:=NL.1 hr;simp only;rw [Ka (ls:=ls)];simp only [List.flatten_cons,List.map_append,List.mem_append,not_or,List.mem_map];constructor
    ·rintro ⟨h2,h3⟩;refine ⟨λk rs' hk => ?_,?_⟩
     ·cases k with
      | zero=>cases hk;exact ⟨by omega,h1.1⟩
      | succ k =>
       have h4:=h2 k rs' hk
       exact ⟨h4.1,λr hr=>by
        have:=h4.2 r hr;rw [show i+(k+1)=i+1+k by omega]
        exact ⟨this.1,this.2.1⟩⟩
     ·rw [List.nodup_append];refine ⟨h1.2,h3,?_⟩;intro a ha b hb e;subst e;obtain ⟨r,hr,e1⟩:=List.mem_map.1 ha;obtain ⟨r',hr',e2⟩:=List.mem_map.1 hb;obtain ⟨rs',hrs,hr'⟩:=List.mem_flatten.1 hr';obtain ⟨k,hk⟩:=List.getElem?_of_mem hrs;exact ((h2 k rs' hk).2 r' hr').2.2 ⟨r,hr,by unfold gz at e1 e2;omega⟩
    ·rintro ⟨h2,h3⟩;rw [List.nodup_append] at h3;refine ⟨λk rs' hk => ?_,h3.2.1⟩;have h4:=h2 (k+1) rs' hk;refine ⟨h4.1,λr hr => ?_⟩;have:=h4.2 r hr;rw [show i+(k+1)=i+1+k by omega] at this;refine ⟨this.1,this.2,?_⟩;rintro ⟨r',hr',e⟩;exact h3.2.2 (gz r') (List.mem_map_of_mem hr') (gz r) (List.mem_map_of_mem (List.mem_flatten.2 ⟨rs',List.mem_of_getElem? hk,hr⟩)) e
structure VLev (L:AK):Prop where
 B1:1<=L.1
 B2:L.1<=16
 len:L.2.length<=12
 lev : ∀ i rs,L.2[i]? = some rs->rs.length<=2 /\ ∀ r∈rs,VR (B4 L.1 i) r
 ids:(L.2.flatten.map gz).Nodup
 last:L.2.getLast? ≠ some []
theorem Ff {L:AK}:(DI L).2.2=0<->VLev L:=by
 unfold DI;constructor
 ·intro h;by_cases h1:L.1<1\/L.1>16
  ·rw [if_pos h1] at h;cases h
  rw [if_neg h1] at h;by_cases h2:L.2.length>12
  ·rw [if_pos h2] at h;cases h
  rw [if_neg h2] at h;cases hg:JA L.1 0 [] L.2 with
  | some x =>
   obtain ⟨i,k,e⟩:=x;rw [hg] at h;exact absurd h (Rm hg)
  | none =>
   rw [hg] at h;simp only at h;by_cases h3:L.2.getLast? = some []
   ·rw [if_pos h3] at h;cases h
   ·have h4:=Ka.1 hg
    exact ⟨by omega,by omega,by omega,λi rs hi=>by
     have:=h4.1 i rs hi;rw [Nat.zero_add] at this
     exact ⟨this.1,λr hr=>(this.2 r hr).1⟩,h4.2,h3⟩
 ·intro h
  have hg:JA L.1 0 [] L.2=none:=Ka.2 ⟨λk rs hk=>by
   have:=h.lev k rs hk;rw [Nat.zero_add]
   exact ⟨this.1,λr hr=>⟨this.2 r hr,by simp⟩⟩,h.ids⟩
  rw [if_neg (by have:=h.B1;have:=h.B2;omega),if_neg (by have:=h.len;omega),hg];simp only;rw [if_neg h.last]
theorem HE {L:AK} (h:VLev L):DI L=(0,(0,0)):=by
 have hg:JA L.1 0 [] L.2=none:=Ka.2 ⟨λk rs hk=>by
  have:=h.lev k rs hk;rw [Nat.zero_add]
  exact ⟨this.1,λr hr=>⟨this.2 r hr,by simp⟩⟩,h.ids⟩
 unfold DI;rw [if_neg (by have:=h.B1;have:=h.B2;omega),if_neg (by have:=h.len;omega),hg];simp only;rw [if_neg h.last]
def EL (l:List (List BH)):Int:=l.foldl (λm rs=>rs.foldl (λm r=>KN m r.1) m) 0
def A5:Nat->List (List BH)->List Int
 | _,[]=>[]
 | i,rs::ls=>(if rs.length=2 then [(i:Int)] else [])++A5 (i+1) ls
theorem TG (L:AK) (hb:L.2.length<=1048576) (hr : ∀ rs∈L.2,rs.length<=1048576):EF L=some (EL L.2):=by
 unfold EF;simp only [AV,AQ]
 rw [DB (l:=L.2) (σ:=Int) (s:=((0:Int),(0:Int))) (λi m=>(m,(i:Int))) (λ_ _ _=>True) (λls _ m=>(0,((ls.foldl (λm rs=>rs.foldl (λm r=>KN m r.1) m) m,(L.2.length:Int)),()))) 0 rfl (by omega) trivial (λm _=>by
  simp only;rw [re];rfl) (λi rs ls m hd hx hi _=>by
   refine ⟨rs.foldl (λm r=>KN m r.1) m,?_,trivial,rfl⟩;have h1:=hr rs (List.mem_of_getElem? hx);simp only
   rw [rl hi,AM,AE,AJ hx,DB (l:=rs) (σ:=Int) (s:=((0:Int),m)) (λi m=>((i:Int),m)) (λ_ _ _=>True) (λl _ m=>(0,(((rs.length:Int),l.foldl (λm r=>KN m r.1) m),()))) m rfl (by omega) trivial (λm _=>by
    simp only;rw [re];rfl) (λk r l m hd hx hk _=>by
     refine ⟨KN m r.1,?_,trivial,rfl⟩;simp only
     rw [rl hk,AM,AE,AJ hx,Al hx (by omega)]),AB,Al hx (by omega)]),AB]
 rfl
def IC (L:AK) (due:List Int) (i:Nat) (j:Job):Bool:=match due[i]? with
 | none=>true
 | some d=>if j.1≠d then true else if j.2.2.1.2.2=true/\j.1≠(L.2.length:Int)-1 then true else match L.2[d.toNat]? with
  | some [r0,r1]=>if j.2.2.2.2<0\/j.2.2.2.2>((r1.2.length+r0.2.length:Nat):Int) then true else decide (Dk r1.2 r0.2 j.2.2.1.2.2 j.2.2.2.2.toNat≠j.2)
  | _=>true
def Dw (L:AK) (due:List Int):Nat->List Job->Option Nat
 | _,[]=>none
 | i,j::js=>if IC L due i j=true then some i else Dw L due (i+1) js
def BB (s:AT):Int×Int :=
 if (DI s.1).2.2≠0 then (-1,(DI s.1).2.2) else if s.2.2<1\/s.2.2>1000001 then (-1,7) else if s.2.2<=EL s.1.2 then (-1,6) else match Dw s.1 (A5 0 s.1.2) 0 s.2.1 with
  | some i=>((i:Int),6)
  | none=>if s.2.1.length<(A5 0 s.1.2).length then (-1,4) else (0,0)
theorem Ga : ∀ {ls:List (List BH)} {i k:Nat} {d:Int},(A5 i ls)[k]? = some d -> ∃ n:Nat,d=((i+n:Nat):Int) /\ ∃ r0 r1,ls[n]? = some [r0,r1]
 | [],i,k,d,h=>by cases h
 | rs::ls,i,k,d,h=>by
  unfold A5 at h;by_cases h2:rs.length=2
  ·rw [if_pos h2] at h;cases k with
   | zero =>
    simp at h;refine ⟨0,by simp [<- h],?_⟩
    match rs,h2 with
    | [r0,r1],_=>exact ⟨r0,r1,rfl⟩
   | succ k =>
    simp at h;obtain ⟨n,h3,h4⟩:=Ga h;exact ⟨n+1,by rw [h3];congr 1;omega,h4⟩
  ·rw [if_neg h2] at h;simp at h;obtain ⟨n,h3,h4⟩:=Ga h;exact ⟨n+1,by rw [h3];congr 1;omega,h4⟩
theorem Fg : ∀ (ls:List (List BH)) (i:Nat),(A5 i ls).length<=ls.length
 | [],i=>Nat.le_refl _
 | rs::ls,i=>by
  have:=Fg ls (i+1);unfold A5;split<;>simp<;>omega
theorem TH {L:AK} {n:Nat} {r0 r1:BH} (bt:Bool) (h:L.2[n]? = some [r0,r1]) (v0:VL r0.2) (v1:VL r1.2):CV (L,((n:Int),bt))=some ((n:Int),Dk r1.2 r0.2 bt 0):=by
 unfold CV;simp only;rw [AE,AJ h,AJ (x:=r1) rfl,AJ (x:=r0) rfl,XT v1 v0];rfl
theorem QV {a b:List AD} (va:VL a) (vb:VL b) (bt:Bool) {n:Nat} (h:n<=a.length+b.length):(Dk a b bt n).1.1.length<=1000/\(∀ l∈(Dk a b bt n).1.1,l.length<=1000000)/\(Dk a b bt n).1.2.1.length<=1000/\(Dk a b bt n).1.2.2.1.length<=1000/\(Dk a b bt n).1.2.2.2.1.length<=1000/\(Dk a b bt n).2.2.1.length<=1000000:=by
 have la:=va.len;have lb:=vb.len;refine ⟨show 2<=1000 by omega,λl hl => ?_,show 2<=1000 by omega,show 2<=1000 by omega,show 2<=1000 by omega,?_⟩
 ·have:l=a\/l=b:=by simpa [Dk,LP,La] using hl
  rcases this with e | e<;>subst e<;>omega
 ·have h1:=IY (s0 bt) (Ar a b n);have h2:=Ci va vb h;show (EV (s0 bt) (Ar a b n)).length<=_;omega
theorem ii {L:AK} {n:Nat} {r0 r1:BH} {j:Job} (h:L.2[n]? = some [r0,r1]) (v0:VL r0.2) (v1:VL r1.2) {β:Type} (A B:Option β) :
  (bd (CV (L,((n:Int),j.2.2.1.2.2))) λr16=>bd (Bh r16.2) λr17=>br (Am j.2.2.2.2 0) (λ_=>A) λ_=>br (CF j.2.2.2.2 r17.1) (λ_=>A) λ_=>bd (By (r16.2,j.2.2.2.2)) λr18=>bd (DS (r18.1,j.2)) λr19=>br (AX r19) (λ_=>A) λ_=>B)
  = if j.2.2.2.2<0\/j.2.2.2.2>((r1.2.length+r0.2.length:Nat):Int) then A else if Dk r1.2 r0.2 j.2.2.1.2.2 j.2.2.2.2.toNat=j.2 then B else A:=by
 rw [TH _ h v0 v1,AB,NJ v1 v0 _ (Nat.zero_le _),AB,BE,Aq,Nat.sub_zero];by_cases h1:j.2.2.2.2<0
 ·rw [if_pos h1,if_pos (.inl h1)]
 rw [if_neg h1];by_cases h2:j.2.2.2.2>((r1.2.length+r0.2.length:Nat):Int)
 ·rw [if_pos h2,if_pos (.inr h2)]
 rw [if_neg h2,if_neg (show ¬ (j.2.2.2.2<0\/j.2.2.2.2>((r1.2.length+r0.2.length:Nat):Int)) by omega)];obtain ⟨k,hk⟩ : ∃ k:Nat,j.2.2.2.2=(k:Int):=⟨j.2.2.2.2.toNat,by omega⟩;rw [hk,QT v1 v0 _ (Nat.zero_le _),AB,Nat.sub_zero,Nat.zero_add,Nat.min_eq_left (by omega),Int.toNat_natCast];obtain ⟨s1,s2,s3,s4,s5,s6⟩:=QV v1 v0 j.2.2.1.2.2 (n:=k) (by omega);rw [TE _ _ s1 s2 s3 s4 s5 s6,AB,CW,Cn];by_cases he:Dk r1.2 r0.2 j.2.2.1.2.2 k=j.2
 ·rw [if_neg (by simp [he]),if_pos he]
 ·rw [if_pos he,if_neg he]
theorem Uy (s:AT) (hb:s.1.2.length<=1048576) (hr : ∀ rs∈s.1.2,rs.length<=1048576 /\ ∀ r∈rs,r.2.length<=9223372036854775807) (hj:s.2.1.length<=1048576):DT s=some (BB s):=by
 unfold DT BB;simp only [AV,AQ];rw [LQ _ hb hr,AB,AS];by_cases h0:(DI s.1).2.2=0;rotate_left
 ·rw [if_neg h0,if_pos h0]
 rw [if_pos h0,if_neg (by simp [h0]),BE,Aq,TG _ hb (λrs h=>(hr rs h).1),AB];have v:=Ff.1 h0;by_cases h1:s.2.2<1
 ·rw [if_pos h1,if_pos (.inl h1)]
 rw [if_neg h1];by_cases h2:s.2.2>1000001
 ·rw [if_pos h2,if_pos (.inr h2)]
 rw [if_neg h2,if_neg (show ¬ (s.2.2<1\/s.2.2>1000001) by omega),Zj];by_cases h3:s.2.2<=EL s.1.2
 ·rw [if_pos h3,if_pos h3]
 rw [if_neg h3,if_neg h3]
 rw [DB (l:=s.1.2) (σ:=List Int) (s:=((0:Int),([]:List Int))) (λi m=>((i:Int),m)) (λls i m=>m++A5 i ls=A5 0 s.1.2) (λ_ _ _=>(0,(((s.1.2.length:Int),A5 0 s.1.2),()))) [] rfl (by omega) rfl (λm h=>by
  simp only;rw [re,Ap,<- h];simp [A5]) (λi rs ls m hd hx hi h=>by
   refine ⟨m++(if rs.length=2 then [(i:Int)] else []),?_,?_,rfl⟩
   ·simp only;rw [rl hi,AM,AE,AJ hx,B3]
    have hm:m.length<=1048575:=by
     have h4:=congrArg List.length h;have h5:=Fg s.1.2 0;have h6:=v.len;rw [List.length_append] at h4;omega
    by_cases h4:rs.length=2
    ·rw [if_pos (by omega),if_pos h4,Bj (by simp only [A2,AA,List.length_cons,List.length_nil];omega),Al hx (by omega)];rfl
    ·rw [if_neg (by omega),if_neg h4,List.append_nil,Al hx (by omega)]
   ·rw [List.append_assoc];exact h),AB]
 simp only;obtain ⟨due,hdue⟩ : ∃ due,due=A5 0 s.1.2:=⟨_,rfl⟩;have hdl:due.length<=12:=by have:=Fg s.1.2 0;have:=v.len;rw [hdue];omega
 rw [<- hdue];obtain ⟨T,hT⟩ : ∃ T,T=Dw s.1 due 0 s.2.1:=⟨_,rfl⟩;rw [<- hT]
 obtain ⟨r,q1,q2⟩:=FB (l:=s.2.1) (σ:=Unit) (λi _=>((0:Int),((0:Int),(i:Int)))) (λjs i _=>Dw s.1 due i js=T) (λ(r:Nat×((Int×(Int×Int))×Unit))=>(T=none/\r.1=1)\/(∃ i:Nat,T=some i/\r.1=0/\r.2.1.1=6/\r.2.1.2.1=(i:Int)))
  (f:=λs6=>br (Am s6.2.2 (s.2.1.length:Int)) (λ_=>AU s6.2.2 λk7=>ix s.2.1 k7 λx8=>br (Hj s6.2.2 (due.length:Int)) (λ_=>some (.dn ((0,((6,(s6.2.2,s6.2.2)),()))))) λ_=>AU s6.2.2 λk9=>gd (Dz k9 due.length) λ_=>ix due k9 λx10=>br (BC x8.1 x10) (λ_=>some (.dn ((0,((6,(s6.2.2,s6.2.2)),()))))) λ_=>br x8.2.2.1.2.2 (λ_=>bd (C1 (s.1,x8.1)) λr11=>br (AX r11) (λ_=>some (.dn ((0,((6,(s6.2.2,s6.2.2)),()))))) λ_=>bd (CV ((s.1,(x8.1,x8.2.2.1.2.2)))) λr12=>bd (Bh r12.2) λr13=>br (Am x8.2.2.2.2 0) (λ_=>some (.dn ((0,((6,(s6.2.2,s6.2.2)),()))))) λ_=>br (CF x8.2.2.2.2 r13.1) (λ_=>some (.dn ((0,((6,(s6.2.2,s6.2.2)),()))))) λ_=>bd (By (r12.2,x8.2.2.2.2)) λr14=>bd (DS (r14.1,x8.2)) λr15=>br (AX r15) (λ_=>some (.dn ((0,((6,(s6.2.2,s6.2.2)),()))))) λ_=>some (.nx ((s6.1,(s6.2.1,AH .i64 s6.2.2 1))))) λ_=>bd (CV ((s.1,(x8.1,x8.2.2.1.2.2)))) λr16=>bd (Bh r16.2) λr17=>br (Am x8.2.2.2.2 0) (λ_=>some (.dn ((0,((6,(s6.2.2,s6.2.2)),()))))) λ_=>br (CF x8.2.2.2.2 r17.1) (λ_=>some (.dn ((0,((6,(s6.2.2,s6.2.2)),()))))) λ_=>bd (By (r16.2,x8.2.2.2.2)) λr18=>bd (DS (r18.1,x8.2)) λr19=>br (AX r19) (λ_=>some (.dn ((0,((6,(s6.2.2,s6.2.2)),()))))) λ_=>some (.nx ((s6.1,(s6.2.1,AH .i64 s6.2.2 1))))) λ_=>some (.dn ((1,(s6,())))))
  (s:=(0,(0,0))) () rfl (by omega) hT.symm (λ_ h=>by
   refine ⟨_,by simp only;rw [re];rfl,.inl ⟨by rw [<- h];rfl,rfl⟩⟩) (λi j js _ hd hx hi h=>by
   simp only;rw [rl hi,AM,AE,AJ hx,Fe];unfold Dw at h
   have hbad:IC s.1 due i j=true -> ∃ r:Nat×((Int×(Int×Int))×Unit),(some (LR.dn ((0,((6,((i:Int),(i:Int))),()))):LR (Int×(Int×Int)) _))=some (.dn r)/\((T=none/\r.1=1)\/(∃ i:Nat,T=some i/\r.1=0/\r.2.1.1=6/\r.2.1.2.1=(i:Int))):=λhb=>by
    rw [if_pos hb] at h;exact ⟨_,rfl,.inr ⟨i,h.symm,rfl,rfl,rfl⟩⟩
   have hgood:IC s.1 due i j=false -> ∃ st':Unit,(some (LR.nx ((0:Int),((0:Int),AH .i64 (i:Int) 1))):Option (LR _ (Nat×((Int×(Int×Int))×Unit))))=some (.nx ((0:Int),((0:Int),((i+1:Nat):Int))))/\Dw s.1 due (i+1) js=T:=λhg=>by
    rw [if_neg (by simp [hg])] at h;exact ⟨(),by rw [Al hx (by omega)],h⟩
   by_cases h1:(i:Int)>=(due.length:Int)
   ·rw [if_pos h1];exact .inr (hbad (by unfold IC;rw [List.getElem?_eq_none (by omega)]))
   rw [if_neg h1,AE,LL,if_pos (by omega)];have hd2:due[i]? = some (due[i]'(by omega)):=by simp
   rw [AJ hd2,AS];obtain ⟨n,hn,r0,r1,hlv⟩:=Ga (ls:=s.1.2) (i:=0) (k:=i) (d:=due[i]'(by omega)) (by rw [<- hdue];exact hd2);rw [Nat.zero_add] at hn
   have hE:IC s.1 due i j=(if j.1≠(due[i]'(by omega)) then true else if j.2.2.1.2.2=true/\j.1≠(s.1.2.length:Int)-1 then true else if j.2.2.2.2<0\/j.2.2.2.2>((r1.2.length+r0.2.length:Nat):Int) then true else decide (Dk r1.2 r0.2 j.2.2.1.2.2 j.2.2.2.2.toNat≠j.2)):=by
    unfold IC;rw [hd2];simp only;rw [hn,Int.toNat_natCast,hlv]
   by_cases h2:j.1=(due[i]'(by omega));rotate_left
   ·rw [if_neg h2];exact .inr (hbad (by rw [hE,if_pos h2]))
   rw [if_pos h2];rw [if_neg (by simp [h2])] at hE;have hjn:j.1=(n:Int):=by rw [h2,hn]
   have hv:=(v.lev n _ hlv).2;have v0:=(hv r0 (by simp)).vl;have v1:=(hv r1 (by simp)).vl;have hlow:B9 .i64 (s.1.2.length:Int) 1=(s.1.2.length:Int)-1:=B7 (by omega);unfold C1;simp only [AV,AQ];rw [AB,hlow,Eg,CW,Cn,hjn,ii hlv v0 v1,Fo];rw [hjn] at hE;by_cases h3:j.2.2.1.2.2=true/\(n:Int)≠(s.1.2.length:Int)-1
   ·rw [if_pos h3.1,if_pos h3.2];exact .inr (hbad (by rw [hE,if_pos h3]))
   rw [if_neg h3] at hE
   have h4 : ∀ {γ:Type} (A B:γ),(if j.2.2.1.2.2=true then if ¬(n:Int)=(s.1.2.length:Int)-1 then A else B else B)=B:=by
    intro γ A B;by_cases h5:j.2.2.1.2.2=true
    ·rw [if_pos h5,if_neg (λh6=>h3 ⟨h5,h6⟩)]
    ·rw [if_neg h5]
   rw [h4];by_cases h5:j.2.2.2.2<0\/j.2.2.2.2>((r1.2.length+r0.2.length:Nat):Int)
   ·rw [if_pos h5];exact .inr (hbad (by rw [hE,if_pos h5]))
   rw [if_neg h5];rw [if_neg h5] at hE;by_cases h6:Dk r1.2 r0.2 j.2.2.1.2.2 j.2.2.2.2.toNat=j.2
   ·rw [if_pos h6];exact .inl (hgood (by rw [hE];simp [h6]))
   ·rw [if_neg h6]
    exact .inr (hbad (by rw [hE];simp [h6])))
 rw [h0];refine BF q1 ?_;rw [CH];rcases q2 with ⟨q2,q3⟩ | ⟨i,q2,q3,q4,q5⟩
 ·rw [if_neg (show ¬ r.1=0 by omega),q2,BE];simp only;by_cases h7:s.2.1.length<due.length
  ·rw [if_pos (by omega),if_pos h7]
  ·rw [if_neg (by omega),if_neg h7]
 ·rw [if_pos q3,q2,q4,q5]
end Go.Proofs.YthpkjfabdccpdaaGreat.Pl
