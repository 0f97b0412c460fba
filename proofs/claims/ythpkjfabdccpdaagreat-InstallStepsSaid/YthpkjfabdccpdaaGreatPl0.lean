/- Functions of the program and of the specification as plain functions, and laws about them. No condition. -/
import Derived.Test.YthpkjfabdccpdaaGreatPs3
set_option linter.all false
namespace Go.Proofs.YthpkjfabdccpdaaGreat.Pl
open Go Go.Proofs.YthpkjfabdccpdaaGreat.Sv
set_option linter.unusedVariables false
abbrev AD:=((List UInt8)×((List UInt8)×(Bool×Int)))
abbrev BL:=(Int×(List AD))
abbrev AJ:=(Int×(List (List BL)))
abbrev AM:=((List UInt8)×Bool)
abbrev D6:=((List AM)×((List Int)×Int))
abbrev AL:=((List (List AD))×((List Int)×D6))
abbrev B4:=(Bool×((List UInt8)×Bool))
abbrev H5:=(AL×(B4×((List AD)×Int)))
abbrev Job:=(Int×H5)
abbrev AT:=(AJ×((List Job)×Int))
def E0 (x:(List UInt8)):Option Int :=
 br (B8 (AY (FD x)) 32) (λ_=>some 3) λ_=>some 0
def CJ (x:AD):Option Int :=
 bd (E0 x.1) λr0=>br (A7 r0 0) (λ_=>some 3) λ_=>br (B8 (AY (FD x.2.1)) 64) (λ_=>some 3) λ_=>br x.2.2.1 (λ_=>br (Ab (seq x.2.1 [])) (λ_=>some 6) λ_=>br (Ah x.2.2.2 1) (λ_=>some 7) λ_=>br (B8 x.2.2.2 1000000000) (λ_=>some 7) λ_=>some 0) λ_=>br (Ah x.2.2.2 1) (λ_=>some 7) λ_=>br (B8 x.2.2.2 1000000000) (λ_=>some 7) λ_=>some 0
def BQ (x:(List AD)):Option (Int×Int) :=
 br (B8 (AY (AA x)) 5000) (λ_=>some (((-1),3))) λ_=>bd (loop (λs0=>br (Ah s0.2.2 (AY (AA x))) (λ_=>AS s0.2.2 λk1=>ix x k1 λx2=>bd (CJ x2) λr3=>br (A7 r3 0) (λ_=>some (.dn ((0,((r3,(s0.2.2,s0.2.2)),()))))) λ_=>br (B8 s0.2.2 0) (λ_=>AS (CE .i64 s0.2.2 1) λk4=>ix x k4 λx5=>br (Ab (DC x5.1 x2.1)) (λ_=>some (.dn ((0,((6,(s0.2.2,s0.2.2)),()))))) λ_=>some (.nx ((s0.1,(s0.2.1,AI .i64 s0.2.2 1))))) λ_=>some (.nx ((s0.1,(s0.2.1,AI .i64 s0.2.2 1))))) λ_=>some (.dn ((1,(s0,()))))) ((0,(0,0)))) λr6=>br (neq r6.1 0) (λ_=>some (r6.2.1.2.1,r6.2.1.1)) λ_=>some (0,0)
def F8 (x:BL):Option (Int×Int) :=
 br (Ah x.1 1) (λ_=>some (((-1),7))) λ_=>br (B8 x.1 1000000) (λ_=>some (((-1),7))) λ_=>bd (BQ x.2) λr0=>some r0
def Ct (x:(BL×Int)):Option Int :=
 bd (F8 x.1) λr0=>br (A7 r0.2 0) (λ_=>some r0.2) λ_=>br (BP (AY (AA x.1.2)) 0) (λ_=>some 4) λ_=>br (B8 (AY (AA x.1.2)) x.2) (λ_=>some 3) λ_=>some 0
def C2 (x:AJ):Option (Int×(Int×Int)) :=
 br (Ah x.1 1) (λ_=>some ((0,(0,7)))) λ_=>br (B8 x.1 16) (λ_=>some ((0,(0,7)))) λ_=>br (B8 (AY (AA x.2)) 12) (λ_=>some ((0,(0,3)))) λ_=>bd (loop (λs0=>br (Ah s0.2.2.2.1 (AY (AA x.2))) (λ_=>AS s0.2.2.2.1 λk1=>ix x.2 k1 λx2=>br (B8 (AY (AA x2)) 2) (λ_=>some (.dn ((0,((0,(s0.2.2.2.1,(3,s0.2.2.2))),()))))) λ_=>bd (loop (λs3=>br (Ah s3.2.1 (AY (AA x2))) (λ_=>AS s3.2.1 λk4=>ix x2 k4 λx5=>gd (G5 s0.2.2.2.1 0) λ_=>bd (Ct (x5,SZ .i64 x.1 s0.2.2.2.1)) λr6=>br (BP r6 0) (λ_=>br (Pe (IV ((λa7=>(λa8=>BP a7 a8))) s3.2.2.2 x5.1) false) (λ_=>some (.dn ((0,((s3.2.1,(s3.2.1,(8,s3.2.2.2))),()))))) λ_=>br (A7 r6 0) (λ_=>some (.dn ((0,((s3.2.1,(s3.2.1,(r6,s3.2.2.2))),()))))) λ_=>some (.nx ((s3.2.1,(AI .i64 s3.2.1 1,(r6,Hn ((λa9=>(λa10=>BP a9 a10))) s3.2.2.2 x5.1 true)))))) λ_=>br (A7 r6 0) (λ_=>some (.dn ((0,((s3.2.1,(s3.2.1,(r6,s3.2.2.2))),()))))) λ_=>some (.nx ((s3.2.1,(AI .i64 s3.2.1 1,(r6,Hn ((λa11=>(λa12=>BP a11 a12))) s3.2.2.2 x5.1 true)))))) λ_=>some (.dn ((1,(s3,()))))) ((0,(0,(s0.2.2.1,s0.2.2.2.2))))) λr13=>br (neq r13.1 0) (λ_=>some (.dn ((0,((r13.2.1.1,(s0.2.2.2.1,(r13.2.1.2.2.1,(s0.2.2.2.1,r13.2.1.2.2.2)))),()))))) λ_=>some (.nx ((r13.2.1.1,(s0.2.2.2.1,(r13.2.1.2.2.1,(AI .i64 s0.2.2.2.1 1,r13.2.1.2.2.2))))))) λ_=>some (.dn ((0,(s0,()))))) ((0,(0,(0,(0,[])))))) λr14=>br (A7 r14.2.1.2.2.1 0) (λ_=>some ((r14.2.1.2.1,(r14.2.1.1,r14.2.1.2.2.1)))) λ_=>br (B8 (AY (AA x.2)) 0) (λ_=>AS (CE .i64 (AY (AA x.2)) 1) λk15=>ix x.2 k15 λx16=>br (BP (AY (AA x16)) 0) (λ_=>some ((CE .i64 (AY (AA x.2)) 1,(0,6)))) λ_=>some ((0,(0,0)))) λ_=>some ((0,(0,0)))
def EE (x:AJ):Option Int :=
 bd (loop (λs0=>br (Ah s0.2 (AY (AA x.2))) (λ_=>AS s0.2 λk1=>ix x.2 k1 λx2=>bd (loop (λs3=>br (Ah s3.1 (AY (AA x2))) (λ_=>AS s3.1 λk4=>ix x2 k4 λx5=>some (.nx (AI .i64 s3.1 1,KP s3.2 x5.1))) λ_=>some (.dn ((0,(s3,()))))) (0,s0.1)) λr6=>some (.nx (r6.2.1.2,AI .i64 s0.2 1))) λ_=>some (.dn ((0,(s0,()))))) (0,0)) λr7=>some r7.2.1.1
def Cu (x:(AJ×Int)):Option Bool :=
 some (BP x.2 (CE .i64 (AY (AA x.1.2)) 1))
def DS (x:(List (List AD))):Option (Int×Int) :=
 br (BP (AY (AA x)) 0) (λ_=>some (((-1),6))) λ_=>br (B8 (AY (AA x)) 32) (λ_=>some (((-1),3))) λ_=>bd (loop (λs0=>br (Ah s0.2.2 (AY (AA x))) (λ_=>AS s0.2.2 λk1=>ix x k1 λx2=>bd (BQ x2) λr3=>br (A7 r3.2 0) (λ_=>some (.dn ((0,((r3.2,(s0.2.2,s0.2.2)),()))))) λ_=>some (.nx ((s0.1,(s0.2.1,AI .i64 s0.2.2 1))))) λ_=>some (.dn ((1,(s0,()))))) ((0,(0,0)))) λr4=>br (neq r4.1 0) (λ_=>some (r4.2.1.2.1,r4.2.1.1)) λ_=>some (0,0)
def CY (x:Bool):Option (Bool×AM) :=
 some ((false,([],x)))
def Ai (x:(List (List AD))):Option (List (List AD)) :=
 gd (BO (AA x) 1048576) λ_=>some x
def BI (x:((List AD)×Int)):Option AM :=
 br (BP x.2 (AY (AA x.1))) (λ_=>some ([],true)) λ_=>AS x.2 λk0=>ix x.1 k0 λx1=>some (x1.1,false)
def DG (x:AM):Option Bool :=
 br x.2 (λ_=>some (Ab (seq x.1 []))) λ_=>some false
def DT (x:(List AM)):Option Int :=
 br (BP (AY (AA x)) 0) (λ_=>some 6) λ_=>br (B8 (AY (AA x)) 32) (λ_=>some 3) λ_=>bd (loop (λs0=>br (Ah s0.2 (AY (AA x))) (λ_=>AS s0.2 λk1=>ix x k1 λx2=>bd (DG x2) λr3=>br r3 (λ_=>some (.dn ((0,((s0.2,s0.2),()))))) λ_=>some (.nx (s0.1,AI .i64 s0.2 1))) λ_=>some (.dn ((1,(s0,()))))) (0,0)) λr4=>br (neq r4.1 0) (λ_=>br (G5 r4.2.1.1 0) (λ_=>some 2) λ_=>some 0) λ_=>br (G5 (-1) 0) (λ_=>some 2) λ_=>some 0
def Aj (x:(List AM)):Option (List AM) :=
 gd (BO (AA x) 1048576) λ_=>some x
def E1 (x:(List AM)):Option D6 :=
 AS (Mn .i64 2 (AY (AA x))) λk0=>AS (Mn .i64 2 (AY (AA x))) λk1=>gd (BO k1 1048576) λ_=>bd (Aj x) λr2=>AS (AY (AA x)) λk3=>AS (AY (AA x)) λk4=>gd (BO k4 1048576) λ_=>bd (loop (λs5=>br (B8 s5.1 0) (λ_=>br (G5 s5.1 (AY (AA x))) (λ_=>AS s5.1 λk6=>gd (Df k6 (AA s5.2.1)) λ_=>ix s5.2.1 k6 λx7=>some (.nx ((CE .i64 s5.1 1,(lset s5.2.1 k6 (CE .i64 s5.1 (AY (AA x))),s5.2.2))))) λ_=>AS (Mn .i64 2 s5.1) λk8=>gd (Df k8 (AA s5.2.1)) λ_=>ix s5.2.1 k8 λx9=>AS (AI .i64 (Mn .i64 2 s5.1) 1) λk10=>gd (Df k10 (AA s5.2.1)) λ_=>ix s5.2.1 k10 λx11=>AS x9 λk12=>ix x k12 λx13=>AS x11 λk14=>ix x k14 λx15=>br (Ab (beq x13.2 x15.2)) (λ_=>br (Ab x15.2) (λ_=>AS s5.1 λk16=>gd (Df k16 (AA s5.2.1)) λ_=>ix s5.2.1 k16 λx17=>AS s5.1 λk18=>gd (Df k18 (AA s5.2.2.2.1)) λ_=>ix s5.2.2.2.1 k18 λx19=>some (.nx ((CE .i64 s5.1 1,(lset s5.2.1 k16 x11,(s5.2.2.1,(lset s5.2.2.2.1 k18 x9,s5.2.2.2.2))))))) λ_=>AS s5.1 λk20=>gd (Df k20 (AA s5.2.1)) λ_=>ix s5.2.1 k20 λx21=>AS s5.1 λk22=>gd (Df k22 (AA s5.2.2.2.1)) λ_=>ix s5.2.2.2.1 k22 λx23=>some (.nx ((CE .i64 s5.1 1,(lset s5.2.1 k20 x9,(s5.2.2.1,(lset s5.2.2.2.1 k22 x11,s5.2.2.2.2))))))) λ_=>br (Ab (seq x13.1 x15.1)) (λ_=>br (Ab (DC x13.1 x15.1)) (λ_=>AS s5.1 λk24=>gd (Df k24 (AA s5.2.1)) λ_=>ix s5.2.1 k24 λx25=>AS s5.1 λk26=>gd (Df k26 (AA s5.2.2.2.1)) λ_=>ix s5.2.2.2.1 k26 λx27=>some (.nx ((CE .i64 s5.1 1,(lset s5.2.1 k24 x11,(s5.2.2.1,(lset s5.2.2.2.1 k26 x9,s5.2.2.2.2))))))) λ_=>AS s5.1 λk28=>gd (Df k28 (AA s5.2.1)) λ_=>ix s5.2.1 k28 λx29=>AS s5.1 λk30=>gd (Df k30 (AA s5.2.2.2.1)) λ_=>ix s5.2.2.2.1 k30 λx31=>some (.nx ((CE .i64 s5.1 1,(lset s5.2.1 k28 x9,(s5.2.2.1,(lset s5.2.2.2.1 k30 x11,s5.2.2.2.2))))))) λ_=>br (Ab (Ah x9 x11)) (λ_=>AS s5.1 λk32=>gd (Df k32 (AA s5.2.1)) λ_=>ix s5.2.1 k32 λx33=>AS s5.1 λk34=>gd (Df k34 (AA s5.2.2.2.1)) λ_=>ix s5.2.2.2.1 k34 λx35=>some (.nx ((CE .i64 s5.1 1,(lset s5.2.1 k32 x11,(s5.2.2.1,(lset s5.2.2.2.1 k34 x9,s5.2.2.2.2))))))) λ_=>AS s5.1 λk36=>gd (Df k36 (AA s5.2.1)) λ_=>ix s5.2.1 k36 λx37=>AS s5.1 λk38=>gd (Df k38 (AA s5.2.2.2.1)) λ_=>ix s5.2.2.2.1 k38 λx39=>some (.nx ((CE .i64 s5.1 1,(lset s5.2.1 k36 x9,(s5.2.2.1,(lset s5.2.2.2.1 k38 x11,s5.2.2.2.2))))))) λ_=>some (.dn ((0,(s5,()))))) ((CE .i64 (Mn .i64 2 (AY (AA x))) 1,(Dh k1 0,(r2,(Dh k4 0,(0:Int))))))) λr40=>gd (Df 1 (AA r40.2.1.2.1)) λ_=>ix r40.2.1.2.1 1 λx41=>some ((r40.2.1.2.2.1,(r40.2.1.2.2.2.1,x41)))
def CR (x:(List AM)):Option (D6×Int) :=
 bd (DT x) λr0=>br (A7 r0 0) (λ_=>some ((([],([],0)),r0))) λ_=>bd (E1 x) λr1=>some (r1,0)
def Ef (x:((List (List AD))×Bool)):Option ((AL×((Bool×AM)×((List AD)×Int)))×(Int×Int)) :=
 bd (DS x.1) λr0=>br (A7 r0.2 0) (λ_=>br (A7 r0.2 0) (λ_=>some (((([],([],([],([],0)))),((false,([],false)),([],0))),r0))) λ_=>bd (CY x.2) λr1=>some (((([],([],([],([],0)))),(r1,([],0))),(0,0)))) λ_=>AS (AY (AA x.1)) λk2=>AS (AY (AA x.1)) λk3=>gd (BO k3 1048576) λ_=>bd (Ai x.1) λr4=>AS (AY (AA x.1)) λk5=>AS (AY (AA x.1)) λk6=>gd (BO k6 1048576) λ_=>bd (loop (λs7=>br (Ah s7.1 (AY (AA x.1))) (λ_=>AS s7.1 λk8=>ix x.1 k8 λx9=>AS s7.1 λk10=>gd (Df k10 (AA (Dh k3 (0:Int)))) λ_=>ix (Dh k3 0) k10 λx11=>bd (BI (x9,x11)) λr12=>AS s7.1 λk13=>gd (Df k13 (AA s7.2)) λ_=>ix s7.2 k13 λx14=>some (.nx (AI .i64 s7.1 1,lset s7.2 k13 r12))) λ_=>some (.dn ((0,(s7,()))))) ((0,Dh k6 ([],false)))) λr15=>bd (CR r15.2.1.2) λr16=>bd (CY x.2) λr17=>some ((((r4,(Dh k3 0,r16.1)),(r17,([],0))),(0,0)))
def CS (x:(AJ×(Int×Bool))):Option (Int×(AL×((Bool×AM)×((List AD)×Int)))) :=
 AS x.2.1 λk0=>ix x.1.2 k0 λx1=>ix x1 1 λx2=>ix x1 0 λx3=>bd (Ef ([x2.2,x3.2],x.2.2)) λr4=>some (x.2.1,r4.1)
def F9 (x:((List (List AD))×(List Int))):Option D6 :=
 AS (AY (AA x.1)) λk0=>AS (AY (AA x.1)) λk1=>gd (BO k1 1048576) λ_=>bd (loop (λs2=>br (Ah s2.1 (AY (AA x.1))) (λ_=>AS s2.1 λk3=>ix x.1 k3 λx4=>AS s2.1 λk5=>ix x.2 k5 λx6=>bd (BI (x4,x6)) λr7=>AS s2.1 λk8=>gd (Df k8 (AA s2.2)) λ_=>ix s2.2 k8 λx9=>some (.nx (AI .i64 s2.1 1,lset s2.2 k8 r7))) λ_=>some (.dn ((0,(s2,()))))) ((0,Dh k1 ([],false)))) λr10=>bd (CR r10.2.1.2) λr11=>some r11.1
def Ak (x:((List AM)×(List AM))):Option Bool :=
 br (A7 (AY (AA x.1)) (AY (AA x.2))) (λ_=>some false) λ_=>bd (loop (λs0=>br (Ah s0.1 (AY (AA x.1))) (λ_=>AS s0.1 λk1=>ix x.1 k1 λx2=>AS s0.1 λk3=>ix x.2 k3 λx4=>br (Ab (Bn (seq x2.1 x4.1) (Bn (beq x2.2 x4.2) true))) (λ_=>some (.dn ((0,((s0.1,false),()))))) λ_=>some (.nx (AI .i64 s0.1 1,s0.2))) λ_=>some (.dn ((1,(s0,()))))) (0,false)) λr5=>br (neq r5.1 0) (λ_=>some r5.2.1.2) λ_=>some true
def Ae (x:((List Int)×(List Int))):Option Bool :=
 br (A7 (AY (AA x.1)) (AY (AA x.2))) (λ_=>some false) λ_=>bd (loop (λs0=>br (Ah s0.1 (AY (AA x.1))) (λ_=>AS s0.1 λk1=>ix x.1 k1 λx2=>AS s0.1 λk3=>ix x.2 k3 λx4=>br (A7 x2 x4) (λ_=>some (.dn ((0,((s0.1,false),()))))) λ_=>some (.nx (AI .i64 s0.1 1,s0.2))) λ_=>some (.dn ((1,(s0,()))))) (0,false)) λr5=>br (neq r5.1 0) (λ_=>some r5.2.1.2) λ_=>some true
def EN (x:(D6×D6)):Option Bool :=
 br (BP x.1.2.2 x.2.2.2) (λ_=>bd (Ak (x.1.1,x.2.1)) λr0=>br r0 (λ_=>bd (Ae (x.1.2.1,x.2.2.1)) λr1=>some r1) λ_=>some false) λ_=>some false
def FL (x:D6):Option (Int×Int) :=
 bd (DT x.1) λr0=>br (A7 r0 0) (λ_=>some (0,r0)) λ_=>br (A7 (AY (AA x.2.1)) (AY (AA x.1))) (λ_=>some (0,6)) λ_=>bd (E1 x.1) λr1=>bd (loop (λs2=>br (Ah s2.2.1 (AY (AA r1.2.1))) (λ_=>AS s2.2.1 λk3=>ix r1.2.1 k3 λx4=>AS s2.2.1 λk5=>ix x.2.1 k5 λx6=>br (A7 x6 x4) (λ_=>some (.dn ((0,((6,(s2.2.1,s2.2.1)),()))))) λ_=>some (.nx ((s2.1,(AI .i64 s2.2.1 1,s2.2.2))))) λ_=>some (.dn ((1,(s2,()))))) ((0,(0,0)))) λr7=>br (neq r7.1 0) (λ_=>some (r7.2.1.2.2,r7.2.1.1)) λ_=>br (A7 x.2.2 r1.2.2) (λ_=>some (0,6)) λ_=>some (0,0)
def E2 (x:D6):Option Int :=
 bd (FL x) λr0=>br (A7 r0.2 0) (λ_=>some r0.2) λ_=>AS x.2.2 λk1=>ix x.1 k1 λx2=>br x2.2 (λ_=>some 12) λ_=>some 0
def CZ (x:D6):Option (Int×((List UInt8)×Int)) :=
 bd (E2 x) λr0=>br (A7 r0 0) (λ_=>some ((0,([],r0)))) λ_=>AS x.2.2 λk1=>ix x.1 k1 λx2=>some ((x.2.2,(x2.1,0)))
def C3 (x:(List UInt8)):Option Bool :=
 some (Ab (seq x x))
def Ca (x:((List UInt8)×(List UInt8))):Option Int :=
 bd (C3 x.1) λr0=>bd (C3 x.2) λr1=>br r0 (λ_=>br r1 (λ_=>some 0) λ_=>some (-1)) λ_=>br r1 (λ_=>some 1) λ_=>br (DC x.1 x.2) (λ_=>some (-1)) λ_=>br (DC x.2 x.1) (λ_=>some 1) λ_=>some 0
def EF (x:Int):Option Bool :=
 some (A7 x x)
def CG (x:(Int×Int)):Option Int :=
 bd (EF x.1) λr0=>bd (EF x.2) λr1=>br r0 (λ_=>br r1 (λ_=>some 0) λ_=>some (-1)) λ_=>br r1 (λ_=>some 1) λ_=>br (Ah x.1 x.2) (λ_=>some (-1)) λ_=>br (B8 x.1 x.2) (λ_=>some 1) λ_=>some 0
def GA (x:(List Int)):Option Int :=
 bd (loop (λs0=>br (Ah s0.2 (AY (AA x))) (λ_=>AS s0.2 λk1=>ix x k1 λx2=>br (A7 x2 0) (λ_=>some (.dn ((0,((x2,s0.2),()))))) λ_=>some (.nx (s0.1,AI .i64 s0.2 1))) λ_=>some (.dn ((1,(s0,()))))) (0,0)) λr3=>br (neq r3.1 0) (λ_=>some r3.2.1.1) λ_=>some 0
def DU (x:AL):Option (Int×Int) :=
 bd (DS x.1) λr0=>br (A7 r0.2 0) (λ_=>some r0) λ_=>br (A7 (AY (AA x.2.1)) (AY (AA x.1))) (λ_=>some (((-1),6))) λ_=>bd (loop (λs1=>br (Ah s1.2.2 (AY (AA x.2.1))) (λ_=>AS s1.2.2 λk2=>ix x.2.1 k2 λx3=>br (Ah x3 0) (λ_=>some (.dn ((0,((6,(s1.2.2,s1.2.2)),()))))) λ_=>AS s1.2.2 λk4=>ix x.1 k4 λx5=>br (B8 x3 (AY (AA x5))) (λ_=>some (.dn ((0,((6,(s1.2.2,s1.2.2)),()))))) λ_=>some (.nx ((s1.1,(s1.2.1,AI .i64 s1.2.2 1))))) λ_=>some (.dn ((1,(s1,()))))) ((0,(0,0)))) λr6=>br (neq r6.1 0) (λ_=>some (r6.2.1.2.1,r6.2.1.1)) λ_=>bd (F9 (x.1,x.2.1)) λr7=>bd (EN (x.2.2,r7)) λr8=>br (Ab r8) (λ_=>some (((-1),6))) λ_=>bd (CZ x.2.2) λr9=>br (A7 r9.2.2 0) (λ_=>some (0,0)) λ_=>bd (loop (λs10=>br (Ah s10.2.2 (AY (AA x.2.1))) (λ_=>AS s10.2.2 λk11=>ix x.2.1 k11 λx12=>br (B8 x12 0) (λ_=>AS s10.2.2 λk13=>ix x.1 k13 λx14=>AS (CE .i64 x12 1) λk15=>ix x14 k15 λx16=>bd (Ca (x16.1,r9.2.1)) λr17=>bd (CG (s10.2.2,r9.1)) λr18=>bd (GA ([r17,r18])) λr19=>br (B8 r19 0) (λ_=>some (.dn ((0,((6,(r9.1,s10.2.2)),()))))) λ_=>some (.nx ((s10.1,(s10.2.1,AI .i64 s10.2.2 1))))) λ_=>some (.nx ((s10.1,(s10.2.1,AI .i64 s10.2.2 1))))) λ_=>some (.dn ((1,(s10,()))))) ((r9.2.2,(r6.2.1.2.1,0)))) λr20=>br (neq r20.1 0) (λ_=>some (r20.2.1.2.1,r20.2.1.1)) λ_=>some (0,0)
def Ay (x:(List Int)):Option (List Int) :=
 gd (BO (AA x) 1048576) λ_=>some x
def Bf (x:(Int×(Int×((List AM)×Unit)))):Option Bool :=
 AS x.1 λk0=>ix x.2.2.1 k0 λx1=>AS x.2.1 λk2=>ix x.2.2.1 k2 λx3=>br (Ab (beq x1.2 x3.2)) (λ_=>some x3.2) λ_=>br (Ab (seq x1.1 x3.1)) (λ_=>some (DC x1.1 x3.1)) λ_=>some (Ah x.1 x.2.1)
def CK (x:(D6×AM)):Option (D6×(Int×Int)) :=
 bd (E2 x.1) λr0=>br (A7 r0 0) (λ_=>some ((([],([],0)),(0,r0)))) λ_=>bd (DT [x.2]) λr1=>br (A7 r1 0) (λ_=>some ((([],([],0)),(0,r1)))) λ_=>br (Ab x.2.2) (λ_=>AS x.1.2.2 λk2=>ix x.1.1 k2 λx3=>br (DC x.2.1 x3.1) (λ_=>some ((([],([],0)),(0,6)))) λ_=>bd (Aj x.1.1) λr4=>bd (Ay x.1.2.1) λr5=>AS x.1.2.2 λk6=>gd (Df k6 (AA r4)) λ_=>ix r4 k6 λx7=>bd (loop (λs8=>br (BP (Hq .i64 s8.2.1 2) 0) (λ_=>some (.dn ((0,((s8.1,(Hq .i64 s8.2.1 2,((),s8.2.2.2))),()))))) λ_=>AS (Hq .i64 s8.2.1 2) λk9=>gd (Df k9 (AA s8.2.2.2.1)) λ_=>ix s8.2.2.2.1 k9 λx10=>bd (Bf ((x10,(s8.2.2.2.2,(lset r4 k6 x.2,()))))) λr11=>br r11 (λ_=>AS (Hq .i64 s8.2.1 2) λk12=>gd (Df k12 (AA s8.2.2.2.1)) λ_=>ix s8.2.2.2.1 k12 λx13=>AS (Hq .i64 s8.2.1 2) λk14=>gd (Df k14 (AA s8.2.2.2.1)) λ_=>ix s8.2.2.2.1 k14 λx15=>some (.nx ((AI .i64 s8.1 1,(Hq .i64 s8.2.1 2,((),(lset s8.2.2.2.1 k14 s8.2.2.2.2,x13))))))) λ_=>some (.nx ((AI .i64 s8.1 1,(Hq .i64 s8.2.1 2,((),s8.2.2.2)))))) ((0,(AI .i64 (AY (AA (lset r4 k6 x.2))) x.1.2.2,((),(r5,x.1.2.2)))))) λr16=>some (((lset r4 k6 x.2,r16.2.1.2.2.2),(r16.2.1.1,0)))) λ_=>bd (Aj x.1.1) λr17=>bd (Ay x.1.2.1) λr18=>AS x.1.2.2 λk19=>gd (Df k19 (AA r17)) λ_=>ix r17 k19 λx20=>bd (loop (λs21=>br (BP (Hq .i64 s21.2.1 2) 0) (λ_=>some (.dn ((0,((s21.1,(Hq .i64 s21.2.1 2,((),s21.2.2.2))),()))))) λ_=>AS (Hq .i64 s21.2.1 2) λk22=>gd (Df k22 (AA s21.2.2.2.1)) λ_=>ix s21.2.2.2.1 k22 λx23=>bd (Bf ((x23,(s21.2.2.2.2,(lset r17 k19 x.2,()))))) λr24=>br r24 (λ_=>AS (Hq .i64 s21.2.1 2) λk25=>gd (Df k25 (AA s21.2.2.2.1)) λ_=>ix s21.2.2.2.1 k25 λx26=>AS (Hq .i64 s21.2.1 2) λk27=>gd (Df k27 (AA s21.2.2.2.1)) λ_=>ix s21.2.2.2.1 k27 λx28=>some (.nx ((AI .i64 s21.1 1,(Hq .i64 s21.2.1 2,((),(lset s21.2.2.2.1 k27 s21.2.2.2.2,x26))))))) λ_=>some (.nx ((AI .i64 s21.1 1,(Hq .i64 s21.2.1 2,((),s21.2.2.2)))))) ((0,(AI .i64 (AY (AA (lset r17 k19 x.2))) x.1.2.2,((),(r18,x.1.2.2)))))) λr29=>some (((lset r17 k19 x.2,r29.2.1.2.2.2),(r29.2.1.1,0)))
def G1 (x:(List (List AD))):Option ((List AD)×((List Int)×Int)) :=
 bd (DS x) λr0=>br (A7 r0.2 0) (λ_=>br (A7 r0.2 0) (λ_=>some (([],([],r0.2)))) λ_=>bd (loop (λs1=>bd (CZ (([],([],0)))) λr2=>br (A7 r2.2.2 0) (λ_=>br (A7 r2.2.2 0) (λ_=>some (.dn ((0,(s1,()))))) λ_=>gd (BO (Ar (AA s1.1) (AA ([(([],([],(false,0))):AD)]))) 1048576) λ_=>gd (BO (Ar (AA s1.2) (AA [0])) 1048576) λ_=>none) λ_=>AS r2.1 λk3=>none) ([],[])) λr4=>some ((r4.2.1.1,(r4.2.1.2,0)))) λ_=>AS (AY (AA x)) λk5=>AS (AY (AA x)) λk6=>gd (BO k6 1048576) λ_=>bd (Ai x) λr7=>AS (AY (AA x)) λk8=>AS (AY (AA x)) λk9=>gd (BO k9 1048576) λ_=>bd (loop (λs10=>br (Ah s10.1 (AY (AA x))) (λ_=>AS s10.1 λk11=>ix x k11 λx12=>AS s10.1 λk13=>gd (Df k13 (AA (Dh k6 (0:Int)))) λ_=>ix (Dh k6 0) k13 λx14=>bd (BI (x12,x14)) λr15=>AS s10.1 λk16=>gd (Df k16 (AA s10.2)) λ_=>ix s10.2 k16 λx17=>some (.nx (AI .i64 s10.1 1,lset s10.2 k16 r15))) λ_=>some (.dn ((0,(s10,()))))) ((0,Dh k9 ([],false)))) λr18=>bd (CR r18.2.1.2) λr19=>bd (loop (λs20=>bd (CZ s20.2.2.2.2) λr21=>br (A7 r21.2.2 0) (λ_=>br (A7 r21.2.2 0) (λ_=>some (.dn ((0,((s20.1,(s20.2.1,((),s20.2.2.2))),()))))) λ_=>gd (BO (Ar (AA s20.1) (AA ([(([],([],(false,0))):AD)]))) 1048576) λ_=>gd (BO (Ar (AA s20.2.1) (AA [0])) 1048576) λ_=>gd (Df 0 (AA s20.2.2.2.1)) λ_=>ix s20.2.2.2.1 0 λx22=>gd (Df 0 (AA s20.2.2.2.1)) λ_=>ix s20.2.2.2.1 0 λx23=>gd (Df 0 (AA r7)) λ_=>ix r7 0 λx24=>gd (Df 0 (AA (lset s20.2.2.2.1 0 (AI .i64 x22 1)))) λ_=>ix (lset s20.2.2.2.1 0 (AI .i64 x22 1)) 0 λx25=>bd (BI (x24,x25)) λr26=>bd (CK (s20.2.2.2.2,r26)) λr27=>some (.nx ((B3 s20.1 ([(([],([],(false,0))):AD)]),(B3 s20.2.1 [0],((),(lset s20.2.2.2.1 0 (AI .i64 x22 1),r27.1))))))) λ_=>AS r21.1 λk28=>gd (Df k28 (AA r7)) λ_=>ix r7 k28 λx29=>AS r21.1 λk30=>gd (Df k30 (AA s20.2.2.2.1)) λ_=>ix s20.2.2.2.1 k30 λx31=>AS x31 λk32=>ix x29 k32 λx33=>gd (BO (Ar (AA s20.1) (AA [x33])) 1048576) λ_=>gd (BO (Ar (AA s20.2.1) (AA [r21.1])) 1048576) λ_=>AS r21.1 λk34=>gd (Df k34 (AA s20.2.2.2.1)) λ_=>ix s20.2.2.2.1 k34 λx35=>AS r21.1 λk36=>gd (Df k36 (AA s20.2.2.2.1)) λ_=>ix s20.2.2.2.1 k36 λx37=>AS r21.1 λk38=>gd (Df k38 (AA r7)) λ_=>ix r7 k38 λx39=>AS r21.1 λk40=>gd (Df k40 (AA (lset s20.2.2.2.1 k36 (AI .i64 x35 1)))) λ_=>ix (lset s20.2.2.2.1 k36 (AI .i64 x35 1)) k40 λx41=>bd (BI (x39,x41)) λr42=>bd (CK (s20.2.2.2.2,r42)) λr43=>some (.nx ((B3 s20.1 [x33],(B3 s20.2.1 [r21.1],((),(lset s20.2.2.2.1 k36 (AI .i64 x35 1),r43.1))))))) (([],([],((),(Dh k6 0,r19.1)))))) λr44=>some ((r44.2.1.1,(r44.2.1.2.1,0)))
def Dp (x:(Bool×AM)):Option Int :=
 bd (E0 x.2.1) λr0=>br (A7 r0 0) (λ_=>some r0) λ_=>br (Ab x.1) (λ_=>br (Ab (seq x.2.1 [])) (λ_=>some 6) λ_=>some 0) λ_=>some 0
def A8 (x:AD):Option AD :=
 some x
def EG (x:((List AD)×Bool)):Option ((List AD)×(Int×Int)) :=
 br (B8 (AY (AA x.1)) 20000) (λ_=>some (([],((-1),3)))) λ_=>bd (CY x.2) λr0=>bd (loop (λs1=>br (Ah s1.2.1 (AY (AA x.1))) (λ_=>AS s1.2.1 λk2=>ix x.1 k2 λx3=>bd (Dp s1.2.2.2.1) λr4=>br (A7 r4 0) (λ_=>br (A7 r4 0) (λ_=>some (.dn ((0,((r4,(s1.2.1,(s1.2.1,s1.2.2.2))),()))))) λ_=>some (.nx ((s1.1,(AI .i64 s1.2.1 1,(s1.2.2.1,((false,([],false)),s1.2.2.2.2))))))) λ_=>bd (CJ x3) λr5=>br (A7 r5 0) (λ_=>br (A7 r5 0) (λ_=>some (.dn ((0,((r5,(s1.2.1,(s1.2.1,s1.2.2.2))),()))))) λ_=>some (.nx ((s1.1,(AI .i64 s1.2.1 1,(s1.2.2.1,((false,([],false)),s1.2.2.2.2))))))) λ_=>br s1.2.2.2.1.1 (λ_=>br (DC x3.1 s1.2.2.2.1.2.1) (λ_=>some (.dn ((0,((6,(s1.2.1,(s1.2.1,s1.2.2.2))),()))))) λ_=>br s1.2.2.2.1.1 (λ_=>br (seq x3.1 s1.2.2.2.1.2.1) (λ_=>some (.nx ((s1.1,(AI .i64 s1.2.1 1,(s1.2.2.1,((true,(x3.1,s1.2.2.2.1.2.2)),s1.2.2.2.2))))))) λ_=>br s1.2.2.2.1.2.2 (λ_=>br x3.2.2.1 (λ_=>some (.nx ((s1.1,(AI .i64 s1.2.1 1,(s1.2.2.1,((true,(x3.1,s1.2.2.2.1.2.2)),s1.2.2.2.2))))))) λ_=>bd (A8 x3) λr6=>gd (BO (Ar (AA s1.2.2.2.2) (AA [r6])) 1048576) λ_=>some (.nx ((s1.1,(AI .i64 s1.2.1 1,(s1.2.2.1,((true,(x3.1,s1.2.2.2.1.2.2)),B3 s1.2.2.2.2 [r6]))))))) λ_=>bd (A8 x3) λr7=>gd (BO (Ar (AA s1.2.2.2.2) (AA [r7])) 1048576) λ_=>some (.nx ((s1.1,(AI .i64 s1.2.1 1,(s1.2.2.1,((true,(x3.1,s1.2.2.2.1.2.2)),B3 s1.2.2.2.2 [r7]))))))) λ_=>br s1.2.2.2.1.2.2 (λ_=>br x3.2.2.1 (λ_=>some (.nx ((s1.1,(AI .i64 s1.2.1 1,(s1.2.2.1,((true,(x3.1,s1.2.2.2.1.2.2)),s1.2.2.2.2))))))) λ_=>bd (A8 x3) λr8=>gd (BO (Ar (AA s1.2.2.2.2) (AA [r8])) 1048576) λ_=>some (.nx ((s1.1,(AI .i64 s1.2.1 1,(s1.2.2.1,((true,(x3.1,s1.2.2.2.1.2.2)),B3 s1.2.2.2.2 [r8]))))))) λ_=>bd (A8 x3) λr9=>gd (BO (Ar (AA s1.2.2.2.2) (AA [r9])) 1048576) λ_=>some (.nx ((s1.1,(AI .i64 s1.2.1 1,(s1.2.2.1,((true,(x3.1,s1.2.2.2.1.2.2)),B3 s1.2.2.2.2 [r9]))))))) λ_=>br s1.2.2.2.1.1 (λ_=>br (seq x3.1 s1.2.2.2.1.2.1) (λ_=>some (.nx ((s1.1,(AI .i64 s1.2.1 1,(s1.2.2.1,((true,(x3.1,s1.2.2.2.1.2.2)),s1.2.2.2.2))))))) λ_=>br s1.2.2.2.1.2.2 (λ_=>br x3.2.2.1 (λ_=>some (.nx ((s1.1,(AI .i64 s1.2.1 1,(s1.2.2.1,((true,(x3.1,s1.2.2.2.1.2.2)),s1.2.2.2.2))))))) λ_=>bd (A8 x3) λr10=>gd (BO (Ar (AA s1.2.2.2.2) (AA [r10])) 1048576) λ_=>some (.nx ((s1.1,(AI .i64 s1.2.1 1,(s1.2.2.1,((true,(x3.1,s1.2.2.2.1.2.2)),B3 s1.2.2.2.2 [r10]))))))) λ_=>bd (A8 x3) λr11=>gd (BO (Ar (AA s1.2.2.2.2) (AA [r11])) 1048576) λ_=>some (.nx ((s1.1,(AI .i64 s1.2.1 1,(s1.2.2.1,((true,(x3.1,s1.2.2.2.1.2.2)),B3 s1.2.2.2.2 [r11]))))))) λ_=>br s1.2.2.2.1.2.2 (λ_=>br x3.2.2.1 (λ_=>some (.nx ((s1.1,(AI .i64 s1.2.1 1,(s1.2.2.1,((true,(x3.1,s1.2.2.2.1.2.2)),s1.2.2.2.2))))))) λ_=>bd (A8 x3) λr12=>gd (BO (Ar (AA s1.2.2.2.2) (AA [r12])) 1048576) λ_=>some (.nx ((s1.1,(AI .i64 s1.2.1 1,(s1.2.2.1,((true,(x3.1,s1.2.2.2.1.2.2)),B3 s1.2.2.2.2 [r12]))))))) λ_=>bd (A8 x3) λr13=>gd (BO (Ar (AA s1.2.2.2.2) (AA [r13])) 1048576) λ_=>some (.nx ((s1.1,(AI .i64 s1.2.1 1,(s1.2.2.1,((true,(x3.1,s1.2.2.2.1.2.2)),B3 s1.2.2.2.2 [r13]))))))) λ_=>some (.dn ((1,(s1,()))))) ((0,(0,(0,(r0,[])))))) λr14=>br (neq r14.1 0) (λ_=>br (A7 r14.2.1.1 0) (λ_=>some (([],(r14.2.1.2.2.1,r14.2.1.1)))) λ_=>some ((r14.2.1.2.2.2.2,(0,0)))) λ_=>some ((r14.2.1.2.2.2.2,(0,0)))
def Dq (x:((List AD)×(List AD))):Option Bool :=
 br (A7 (AY (AA x.1)) (AY (AA x.2))) (λ_=>some false) λ_=>bd (loop (λs0=>br (Ah s0.2 (AY (AA x.1))) (λ_=>AS s0.2 λk1=>ix x.1 k1 λx2=>AS s0.2 λk3=>ix x.2 k3 λx4=>br (Ab (Bn (seq x2.1 x4.1) (Bn (seq x2.2.1 x4.2.1) (Bn (beq x2.2.2.1 x4.2.2.1) (Bn (BP x2.2.2.2 x4.2.2.2) true))))) (λ_=>some (.dn ((0,((false,s0.2),()))))) λ_=>some (.nx (s0.1,AI .i64 s0.2 1))) λ_=>some (.dn ((1,(s0,()))))) (false,0)) λr5=>br (neq r5.1 0) (λ_=>some r5.2.1.1) λ_=>some true
def Eg (x:(AL×((Bool×AM)×((List AD)×Int)))):Option Int :=
 bd (DU x.1) λr0=>br (A7 r0.2 0) (λ_=>some r0.2) λ_=>bd (loop (λs1=>br (Ah s1.1 (AY (AA x.1.2.1))) (λ_=>AS s1.1 λk2=>ix x.1.2.1 k2 λx3=>some (.nx (AI .i64 s1.1 1,AI .i64 s1.2 x3))) λ_=>some (.dn ((0,(s1,()))))) (0,0)) λr4=>br (B8 (AY (AA x.2.2.1)) 20000) (λ_=>some 3) λ_=>br (B8 r4.2.1.2 20000) (λ_=>some 3) λ_=>br (A7 x.2.2.2 r4.2.1.2) (λ_=>some 7) λ_=>bd (G1 x.1.1) λr5=>br (A7 r5.2.2 0) (λ_=>some r5.2.2) λ_=>AS r4.2.1.2 λk6=>gd (BO k6 (AA r5.1)) λ_=>gd (BO 0 k6) λ_=>bd (EG (ER r5.1 0 k6,x.2.1.2.2)) λr7=>br (A7 r7.2.2 0) (λ_=>some r7.2.2) λ_=>bd (CY x.2.1.2.2) λr8=>br (B8 r4.2.1.2 0) (λ_=>AS (CE .i64 r4.2.1.2 1) λk9=>ix r5.1 k9 λx10=>bd (Dq (x.2.2.1,r7.1)) λr11=>br (Ab r11) (λ_=>some 6) λ_=>br (Ab (Bn (beq x.2.1.1 true) (Bn (seq x.2.1.2.1 x10.1) (Bn (beq x.2.1.2.2 r8.2.2) true)))) (λ_=>some 6) λ_=>some 0) λ_=>bd (Dq (x.2.2.1,r7.1)) λr12=>br (Ab r12) (λ_=>some 6) λ_=>br (Ab (Bn (beq x.2.1.1 r8.1) (Bn (seq x.2.1.2.1 r8.2.1) (Bn (beq x.2.1.2.2 r8.2.2) true)))) (λ_=>some 6) λ_=>some 0
def GB (x:AL):Option (Int×Int) :=
 bd (DU x) λr0=>br (A7 r0.2 0) (λ_=>some (0,r0.2)) λ_=>bd (loop (λs1=>br (Ah s1.1 (AY (AA x.1))) (λ_=>AS s1.1 λk2=>ix x.1 k2 λx3=>AS s1.1 λk4=>ix x.2.1 k4 λx5=>some (.nx ((AI .i64 s1.1 1,AI .i64 s1.2 (CE .i64 (AY (AA x3)) x5))))) λ_=>some (.dn ((0,(s1,()))))) (0,0)) λr6=>some (r6.2.1.2,0)
def Bi (x:(AL×((Bool×AM)×((List AD)×Int)))):Option (Int×Int) :=
 bd (Eg x) λr0=>br (A7 r0 0) (λ_=>some (0,r0)) λ_=>bd (GB x.1) λr1=>some r1
def B5 (x:AL):Option (AD×(Int×(AL×Int))) :=
 bd (DU x) λr0=>br (A7 r0.2 0) (λ_=>br (A7 r0.2 0) (λ_=>some (((([],([],(false,0))):AD),(0,(([],([],([],([],0)))),r0.2))))) λ_=>none) λ_=>bd (Ai x.1) λr1=>bd (Ay x.2.1) λr2=>bd (CZ x.2.2) λr3=>br (A7 r3.2.2 0) (λ_=>br (A7 r3.2.2 0) (λ_=>some (((([],([],(false,0))):AD),(0,(([],([],([],([],0)))),r3.2.2))))) λ_=>gd (Df 0 (AA r2)) λ_=>ix r2 0 λx4=>gd (Df 0 (AA r2)) λ_=>ix r2 0 λx5=>gd (Df 0 (AA r1)) λ_=>ix r1 0 λx6=>gd (Df 0 (AA (lset r2 0 (AI .i64 x4 1)))) λ_=>ix (lset r2 0 (AI .i64 x4 1)) 0 λx7=>bd (BI (x6,x7)) λr8=>bd (CK (x.2.2,r8)) λr9=>some (((([],([],(false,0))):AD),(0,((r1,(lset r2 0 (AI .i64 x4 1),r9.1)),0))))) λ_=>AS r3.1 λk10=>gd (Df k10 (AA r1)) λ_=>ix r1 k10 λx11=>AS r3.1 λk12=>gd (Df k12 (AA r2)) λ_=>ix r2 k12 λx13=>AS x13 λk14=>ix x11 k14 λx15=>AS r3.1 λk16=>gd (Df k16 (AA r2)) λ_=>ix r2 k16 λx17=>AS r3.1 λk18=>gd (Df k18 (AA r2)) λ_=>ix r2 k18 λx19=>AS r3.1 λk20=>gd (Df k20 (AA r1)) λ_=>ix r1 k20 λx21=>AS r3.1 λk22=>gd (Df k22 (AA (lset r2 k18 (AI .i64 x17 1)))) λ_=>ix (lset r2 k18 (AI .i64 x17 1)) k22 λx23=>bd (BI (x21,x23)) λr24=>bd (CK (x.2.2,r24)) λr25=>some ((x15,(r3.1,((r1,(lset r2 k18 (AI .i64 x17 1),r25.1)),0))))
def CA (x:((Bool×AM)×AD)):Option (Bool×((Bool×AM)×Int)) :=
 bd (Dp x.1) λr0=>br (A7 r0 0) (λ_=>some ((false,((false,([],false)),r0)))) λ_=>bd (CJ x.2) λr1=>br (A7 r1 0) (λ_=>some ((false,((false,([],false)),r1)))) λ_=>br x.1.1 (λ_=>br (DC x.2.1 x.1.2.1) (λ_=>some ((false,((false,([],false)),6)))) λ_=>br x.1.1 (λ_=>br (seq x.2.1 x.1.2.1) (λ_=>some ((false,((true,(x.2.1,x.1.2.2)),0)))) λ_=>br x.1.2.2 (λ_=>br x.2.2.2.1 (λ_=>some ((false,((true,(x.2.1,x.1.2.2)),0)))) λ_=>some ((true,((true,(x.2.1,x.1.2.2)),0)))) λ_=>some ((true,((true,(x.2.1,x.1.2.2)),0)))) λ_=>br x.1.2.2 (λ_=>br x.2.2.2.1 (λ_=>some ((false,((true,(x.2.1,x.1.2.2)),0)))) λ_=>some ((true,((true,(x.2.1,x.1.2.2)),0)))) λ_=>some ((true,((true,(x.2.1,x.1.2.2)),0)))) λ_=>br x.1.1 (λ_=>br (seq x.2.1 x.1.2.1) (λ_=>some ((false,((true,(x.2.1,x.1.2.2)),0)))) λ_=>br x.1.2.2 (λ_=>br x.2.2.2.1 (λ_=>some ((false,((true,(x.2.1,x.1.2.2)),0)))) λ_=>some ((true,((true,(x.2.1,x.1.2.2)),0)))) λ_=>some ((true,((true,(x.2.1,x.1.2.2)),0)))) λ_=>br x.1.2.2 (λ_=>br x.2.2.2.1 (λ_=>some ((false,((true,(x.2.1,x.1.2.2)),0)))) λ_=>some ((true,((true,(x.2.1,x.1.2.2)),0)))) λ_=>some ((true,((true,(x.2.1,x.1.2.2)),0)))
def Bz (x:((AL×((Bool×AM)×((List AD)×Int)))×Int)):Option ((AL×((Bool×AM)×((List AD)×Int)))×(Int×Int)) :=
 bd (Bi x.1) λr0=>br (A7 r0.2 0) (λ_=>some (((([],([],([],([],0)))),((false,([],false)),([],0))),(0,r0.2)))) λ_=>br (Ah x.2 0) (λ_=>some (((([],([],([],([],0)))),((false,([],false)),([],0))),(0,7)))) λ_=>br (B8 (AI .i64 x.1.2.2.2 (Na x.2 r0.1)) 20000) (λ_=>some (((([],([],([],([],0)))),((false,([],false)),([],0))),(0,3)))) λ_=>gd (BO (AA x.1.2.2.1) 1048576) λ_=>gd (BO (AA x.1.1.2.1) 1048576) λ_=>br (Ah 0 (Na x.2 r0.1)) (λ_=>bd (B5 x.1.1) λr1=>br (A7 r1.2.2.2 0) (λ_=>br (A7 r1.2.2.2 0) (λ_=>br (A7 r1.2.2.2 0) (λ_=>some (((([],([],([],([],0)))),((false,([],false)),([],0))),(0,r1.2.2.2)))) λ_=>some ((x.1,(Na x.2 r0.1,0)))) λ_=>none) λ_=>bd (CA (x.1.2.1,r1.1)) λr2=>br (A7 r2.2.2 0) (λ_=>br (A7 r2.2.2 0) (λ_=>br (A7 r2.2.2 0) (λ_=>some (((([],([],([],([],0)))),((false,([],false)),([],0))),(0,r2.2.2)))) λ_=>some ((x.1,(Na x.2 r0.1,0)))) λ_=>none) λ_=>br r2.1 (λ_=>gd (BO (Ar (AA x.1.2.2.1) (AA [r1.1])) 1048576) λ_=>bd (loop (λs3=>br (Ah s3.1 (Na x.2 r0.1)) (λ_=>bd (B5 ((s3.2.2.1,(s3.2.2.2.1,(s3.2.2.2.2.1,(s3.2.2.2.2.2.1,s3.2.2.2.2.2.2.1)))))) λr4=>br (A7 r4.2.2.2 0) (λ_=>br (A7 r4.2.2.2 0) (λ_=>some (.dn ((0,((s3.1,(r4.2.2.2,s3.2.2)),()))))) λ_=>some (.nx (AI .i64 s3.1 1,s3.2))) λ_=>bd (CA (((s3.2.2.2.2.2.2.2.1,(s3.2.2.2.2.2.2.2.2.1,s3.2.2.2.2.2.2.2.2.2.1)),r4.1))) λr5=>br (A7 r5.2.2 0) (λ_=>br (A7 r5.2.2 0) (λ_=>some (.dn ((0,((s3.1,(r5.2.2,s3.2.2)),()))))) λ_=>some (.nx (AI .i64 s3.1 1,s3.2))) λ_=>br r5.1 (λ_=>gd (BO (Ar (AA s3.2.2.2.2.2.2.2.2.2.2.1) (AA [r4.1])) 1048576) λ_=>some (.nx ((AI .i64 s3.1 1,(s3.2.1,(r4.2.2.1.1,(r4.2.2.1.2.1,(r4.2.2.1.2.2.1,(r4.2.2.1.2.2.2.1,(r4.2.2.1.2.2.2.2,(r5.2.1.1,(r5.2.1.2.1,(r5.2.1.2.2,(B3 s3.2.2.2.2.2.2.2.2.2.2.1 [r4.1],AI .i64 s3.2.2.2.2.2.2.2.2.2.2.2 1)))))))))))))) λ_=>some (.nx ((AI .i64 s3.1 1,(s3.2.1,(r4.2.2.1.1,(r4.2.2.1.2.1,(r4.2.2.1.2.2.1,(r4.2.2.1.2.2.2.1,(r4.2.2.1.2.2.2.2,(r5.2.1.1,(r5.2.1.2.1,(r5.2.1.2.2,(s3.2.2.2.2.2.2.2.2.2.2.1,AI .i64 s3.2.2.2.2.2.2.2.2.2.2.2 1)))))))))))))) λ_=>some (.dn ((1,(s3,()))))) ((1,(0,(r1.2.2.1.1,(r1.2.2.1.2.1,(r1.2.2.1.2.2.1,(r1.2.2.1.2.2.2.1,(r1.2.2.1.2.2.2.2,(r2.2.1.1,(r2.2.1.2.1,(r2.2.1.2.2,(B3 x.1.2.2.1 [r1.1],AI .i64 x.1.2.2.2 1))))))))))))) λr6=>br (neq r6.1 0) (λ_=>br (A7 r6.2.1.2.1 0) (λ_=>some (((([],([],([],([],0)))),((false,([],false)),([],0))),(0,r6.2.1.2.1)))) λ_=>some ((((r6.2.1.2.2.1,(r6.2.1.2.2.2.1,(r6.2.1.2.2.2.2.1,(r6.2.1.2.2.2.2.2.1,r6.2.1.2.2.2.2.2.2.1)))),((r6.2.1.2.2.2.2.2.2.2.1,(r6.2.1.2.2.2.2.2.2.2.2.1,r6.2.1.2.2.2.2.2.2.2.2.2.1)),r6.2.1.2.2.2.2.2.2.2.2.2.2)),(Na x.2 r0.1,0)))) λ_=>some ((((r6.2.1.2.2.1,(r6.2.1.2.2.2.1,(r6.2.1.2.2.2.2.1,(r6.2.1.2.2.2.2.2.1,r6.2.1.2.2.2.2.2.2.1)))),((r6.2.1.2.2.2.2.2.2.2.1,(r6.2.1.2.2.2.2.2.2.2.2.1,r6.2.1.2.2.2.2.2.2.2.2.2.1)),r6.2.1.2.2.2.2.2.2.2.2.2.2)),(Na x.2 r0.1,0)))) λ_=>bd (loop (λs7=>br (Ah s7.1 (Na x.2 r0.1)) (λ_=>bd (B5 ((s7.2.2.1,(s7.2.2.2.1,(s7.2.2.2.2.1,(s7.2.2.2.2.2.1,s7.2.2.2.2.2.2.1)))))) λr8=>br (A7 r8.2.2.2 0) (λ_=>br (A7 r8.2.2.2 0) (λ_=>some (.dn ((0,((s7.1,(r8.2.2.2,s7.2.2)),()))))) λ_=>some (.nx (AI .i64 s7.1 1,s7.2))) λ_=>bd (CA (((s7.2.2.2.2.2.2.2.1,(s7.2.2.2.2.2.2.2.2.1,s7.2.2.2.2.2.2.2.2.2.1)),r8.1))) λr9=>br (A7 r9.2.2 0) (λ_=>br (A7 r9.2.2 0) (λ_=>some (.dn ((0,((s7.1,(r9.2.2,s7.2.2)),()))))) λ_=>some (.nx (AI .i64 s7.1 1,s7.2))) λ_=>br r9.1 (λ_=>gd (BO (Ar (AA s7.2.2.2.2.2.2.2.2.2.2.1) (AA [r8.1])) 1048576) λ_=>some (.nx ((AI .i64 s7.1 1,(s7.2.1,(r8.2.2.1.1,(r8.2.2.1.2.1,(r8.2.2.1.2.2.1,(r8.2.2.1.2.2.2.1,(r8.2.2.1.2.2.2.2,(r9.2.1.1,(r9.2.1.2.1,(r9.2.1.2.2,(B3 s7.2.2.2.2.2.2.2.2.2.2.1 [r8.1],AI .i64 s7.2.2.2.2.2.2.2.2.2.2.2 1)))))))))))))) λ_=>some (.nx ((AI .i64 s7.1 1,(s7.2.1,(r8.2.2.1.1,(r8.2.2.1.2.1,(r8.2.2.1.2.2.1,(r8.2.2.1.2.2.2.1,(r8.2.2.1.2.2.2.2,(r9.2.1.1,(r9.2.1.2.1,(r9.2.1.2.2,(s7.2.2.2.2.2.2.2.2.2.2.1,AI .i64 s7.2.2.2.2.2.2.2.2.2.2.2 1)))))))))))))) λ_=>some (.dn ((1,(s7,()))))) ((1,(0,(r1.2.2.1.1,(r1.2.2.1.2.1,(r1.2.2.1.2.2.1,(r1.2.2.1.2.2.2.1,(r1.2.2.1.2.2.2.2,(r2.2.1.1,(r2.2.1.2.1,(r2.2.1.2.2,(x.1.2.2.1,AI .i64 x.1.2.2.2 1))))))))))))) λr10=>br (neq r10.1 0) (λ_=>br (A7 r10.2.1.2.1 0) (λ_=>some (((([],([],([],([],0)))),((false,([],false)),([],0))),(0,r10.2.1.2.1)))) λ_=>some ((((r10.2.1.2.2.1,(r10.2.1.2.2.2.1,(r10.2.1.2.2.2.2.1,(r10.2.1.2.2.2.2.2.1,r10.2.1.2.2.2.2.2.2.1)))),((r10.2.1.2.2.2.2.2.2.2.1,(r10.2.1.2.2.2.2.2.2.2.2.1,r10.2.1.2.2.2.2.2.2.2.2.2.1)),r10.2.1.2.2.2.2.2.2.2.2.2.2)),(Na x.2 r0.1,0)))) λ_=>some ((((r10.2.1.2.2.1,(r10.2.1.2.2.2.1,(r10.2.1.2.2.2.2.1,(r10.2.1.2.2.2.2.2.1,r10.2.1.2.2.2.2.2.2.1)))),((r10.2.1.2.2.2.2.2.2.2.1,(r10.2.1.2.2.2.2.2.2.2.2.1,r10.2.1.2.2.2.2.2.2.2.2.2.1)),r10.2.1.2.2.2.2.2.2.2.2.2.2)),(Na x.2 r0.1,0)))) λ_=>some ((x.1,(Na x.2 r0.1,0)))
def BU (x:((List AD)×(List AD))):Option Bool :=
 br (A7 (AY (AA x.1)) (AY (AA x.2))) (λ_=>some false) λ_=>bd (loop (λs0=>br (Ah s0.1 (AY (AA x.1))) (λ_=>AS s0.1 λk1=>ix x.1 k1 λx2=>AS s0.1 λk3=>ix x.2 k3 λx4=>br (Ab (Bn (seq x2.1 x4.1) (Bn (seq x2.2.1 x4.2.1) (Bn (beq x2.2.2.1 x4.2.2.1) (Bn (BP x2.2.2.2 x4.2.2.2) true))))) (λ_=>some (.dn ((0,((s0.1,false),()))))) λ_=>some (.nx (AI .i64 s0.1 1,s0.2))) λ_=>some (.dn ((1,(s0,()))))) (0,false)) λr5=>br (neq r5.1 0) (λ_=>some r5.2.1.2) λ_=>some true
def Bp (x:((List AD)×(List AD))):Option Bool :=
 bd (BU x) λr0=>some r0
def DJ (x:((AL×((Bool×AM)×((List AD)×Int)))×(AL×((Bool×AM)×((List AD)×Int))))):Option Bool :=
 br (A7 (AY (AA x.1.1.1)) (AY (AA x.2.1.1))) (λ_=>some false) λ_=>bd (loop (λs0=>br (Ah s0.1 (AY (AA x.1.1.1))) (λ_=>AS s0.1 λk1=>ix x.1.1.1 k1 λx2=>AS s0.1 λk3=>ix x.2.1.1 k3 λx4=>bd (Bp (x2,x4)) λr5=>br (Ab r5) (λ_=>some (.dn ((0,((s0.1,false),()))))) λ_=>some (.nx (AI .i64 s0.1 1,s0.2))) λ_=>some (.dn ((1,(s0,()))))) (0,false)) λr6=>br (neq r6.1 0) (λ_=>br r6.2.1.2 (λ_=>bd (Ae (x.1.1.2.1,x.2.1.2.1)) λr7=>br r7 (λ_=>bd (Ak (x.1.1.2.2.1,x.2.1.2.2.1)) λr8=>br r8 (λ_=>bd (Ae (x.1.1.2.2.2.1,x.2.1.2.2.2.1)) λr9=>br r9 (λ_=>br (BP x.1.1.2.2.2.2 x.2.1.2.2.2.2) (λ_=>br (Bn (beq x.1.2.1.1 x.2.2.1.1) (Bn (seq x.1.2.1.2.1 x.2.2.1.2.1) (Bn (beq x.1.2.1.2.2 x.2.2.1.2.2) true))) (λ_=>bd (Bp (x.1.2.2.1,x.2.2.2.1)) λr10=>br r10 (λ_=>some (BP x.1.2.2.2 x.2.2.2.2)) λ_=>some false) λ_=>some false) λ_=>some false) λ_=>some false) λ_=>some false) λ_=>some false) λ_=>some false) λ_=>bd (Ae (x.1.1.2.1,x.2.1.2.1)) λr11=>br r11 (λ_=>bd (Ak (x.1.1.2.2.1,x.2.1.2.2.1)) λr12=>br r12 (λ_=>bd (Ae (x.1.1.2.2.2.1,x.2.1.2.2.2.1)) λr13=>br r13 (λ_=>br (BP x.1.1.2.2.2.2 x.2.1.2.2.2.2) (λ_=>br (Bn (beq x.1.2.1.1 x.2.2.1.1) (Bn (seq x.1.2.1.2.1 x.2.2.1.2.1) (Bn (beq x.1.2.1.2.2 x.2.2.1.2.2) true))) (λ_=>bd (Bp (x.1.2.2.1,x.2.2.2.1)) λr14=>br r14 (λ_=>some (BP x.1.2.2.2 x.2.2.2.2)) λ_=>some false) λ_=>some false) λ_=>some false) λ_=>some false) λ_=>some false) λ_=>some false
def DK (x:(AJ×((List (Int×(AL×((Bool×AM)×((List AD)×Int)))))×Int))):Option (Int×Int) :=
 bd (C2 x.1) λr0=>br (A7 r0.2.2 0) (λ_=>some (((-1),r0.2.2))) λ_=>br (Ah x.2.2 1) (λ_=>some (((-1),7))) λ_=>br (B8 x.2.2 1000001) (λ_=>some (((-1),7))) λ_=>bd (EE x.1) λr1=>br (fh x.2.2 r1) (λ_=>some (((-1),6))) λ_=>bd (loop (λs2=>br (Ah s2.1 (AY (AA x.1.2))) (λ_=>AS s2.1 λk3=>ix x.1.2 k3 λx4=>br (BP (AY (AA x4)) 2) (λ_=>gd (BO (Ar (AA s2.2) (AA [s2.1])) 1048576) λ_=>some (.nx (AI .i64 s2.1 1,B3 s2.2 [s2.1]))) λ_=>some (.nx (AI .i64 s2.1 1,s2.2))) λ_=>some (.dn ((0,(s2,()))))) (0,[])) λr5=>bd (loop (λs6=>br (Ah s6.2.2 (AY (AA x.2.1))) (λ_=>AS s6.2.2 λk7=>ix x.2.1 k7 λx8=>br (G5 s6.2.2 (AY (AA r5.2.1.2))) (λ_=>some (.dn ((0,((6,(s6.2.2,s6.2.2)),()))))) λ_=>AS s6.2.2 λk9=>gd (Df k9 (AA r5.2.1.2)) λ_=>ix r5.2.1.2 k9 λx10=>br (A7 x8.1 x10) (λ_=>some (.dn ((0,((6,(s6.2.2,s6.2.2)),()))))) λ_=>br x8.2.2.1.2.2 (λ_=>bd (Cu (x.1,x8.1)) λr11=>br (Ab r11) (λ_=>some (.dn ((0,((6,(s6.2.2,s6.2.2)),()))))) λ_=>bd (CS ((x.1,(x8.1,x8.2.2.1.2.2)))) λr12=>bd (Bi r12.2) λr13=>br (Ah x8.2.2.2.2 0) (λ_=>some (.dn ((0,((6,(s6.2.2,s6.2.2)),()))))) λ_=>br (B8 x8.2.2.2.2 r13.1) (λ_=>some (.dn ((0,((6,(s6.2.2,s6.2.2)),()))))) λ_=>bd (Bz (r12.2,x8.2.2.2.2)) λr14=>bd (DJ (r14.1,x8.2)) λr15=>br (Ab r15) (λ_=>some (.dn ((0,((6,(s6.2.2,s6.2.2)),()))))) λ_=>some (.nx ((s6.1,(s6.2.1,AI .i64 s6.2.2 1))))) λ_=>bd (CS ((x.1,(x8.1,x8.2.2.1.2.2)))) λr16=>bd (Bi r16.2) λr17=>br (Ah x8.2.2.2.2 0) (λ_=>some (.dn ((0,((6,(s6.2.2,s6.2.2)),()))))) λ_=>br (B8 x8.2.2.2.2 r17.1) (λ_=>some (.dn ((0,((6,(s6.2.2,s6.2.2)),()))))) λ_=>bd (Bz (r16.2,x8.2.2.2.2)) λr18=>bd (DJ (r18.1,x8.2)) λr19=>br (Ab r19) (λ_=>some (.dn ((0,((6,(s6.2.2,s6.2.2)),()))))) λ_=>some (.nx ((s6.1,(s6.2.1,AI .i64 s6.2.2 1))))) λ_=>some (.dn ((1,(s6,()))))) ((r0.2.2,(0,0)))) λr20=>br (neq r20.1 0) (λ_=>some (r20.2.1.2.1,r20.2.1.1)) λ_=>br (Ah (AY (AA x.2.1)) (AY (AA r5.2.1.2))) (λ_=>some (((-1),4))) λ_=>some (0,0)
end Go.Proofs.YthpkjfabdccpdaaGreat.Pl
namespace Go.Proofs.YthpkjfabdccpdaaGreat.Pl
open Go Go.Proofs.YthpkjfabdccpdaaGreat.Sv
abbrev MK:=List UInt8
theorem ML (a:MK):DC a []=false:=by unfold DC;cases a<;>rfl
theorem Rl (b:UInt8) (y:MK):DC [] (b::y)=true:=rfl
theorem If (a b:UInt8) (x y:MK):DC (a::x) (b::y)=(decide (a<b)||(a == b&&DC x y)):=rfl
theorem I9 : ∀ a:MK,DC a a=false
 | []=>rfl
 | a::x=>by rw [If,I9 x];simp
theorem Ig : ∀ {a b c:MK},DC a b=true->DC b c=true->DC a c=true
 | [],b,[],h1,h2=>by rw [ML] at h2;cases h2
 | [],b,c::z,_,_=>rfl
 | a::x,[],c,h1,_=>by rw [ML] at h1;cases h1
 | a::x,b::y,[],_,h2=>by rw [ML] at h2;cases h2
 | a::x,b::y,c::z,h1,h2=>by
  rw [If] at h1 h2 ⊢;simp only [Bool.or_eq_true,decide_eq_true_eq,Bool.and_eq_true,beq_iff_eq] at h1 h2 ⊢;rcases h1 with h1 | ⟨rfl,h1⟩
  ·rcases h2 with h2 | ⟨rfl,h2⟩
   ·exact .inl (UInt8.lt_trans h1 h2)
   ·exact .inl h1
  ·rcases h2 with h2 | ⟨rfl,h2⟩
   ·exact .inl h2
   ·exact .inr ⟨rfl,Ig h1 h2⟩
theorem Rm : ∀ a b:MK,DC a b=true\/a=b\/DC b a=true
 | [],[] => .inr (.inl rfl)
 | [],_::_ => .inl rfl
 | _::_,[] => .inr (.inr rfl)
 | a::x,b::y=>by
  rw [If,If];simp only [Bool.or_eq_true,decide_eq_true_eq,Bool.and_eq_true,beq_iff_eq,List.cons.injEq];rcases UInt8.lt_or_lt_of_ne (a:=a) (b:=b) |> λh=>Classical.em (a=b) |>.imp id h with h | h | h
  ·subst h;rcases Rm x y with h | h | h
   ·exact .inl (.inr ⟨rfl,h⟩)
   ·exact .inr (.inl ⟨rfl,h⟩)
   ·exact .inr (.inr (.inr ⟨rfl,h⟩))
  ·exact .inl (.inl h)
  ·exact .inr (.inr (.inl h))
theorem Dr {a b:MK} (h:DC a b=true):DC b a=false:=by
 cases h2:DC b a with
 | false=>rfl
 | true=>have:=Ig h h2;rw [I9] at this;cases this
theorem Ul {a b:MK} (h:DC a b=true):a≠b:=λe=>by subst e;rw [I9] at h;cases h
theorem Rn {a b:MK} (h:DC a b=false) (hn:a≠b):DC b a=true:=by
 rcases Rm a b with h1 | h1 | h1
 ·rw [h] at h1;cases h1
 ·exact absurd h1 hn
 ·exact h1
theorem Um {a b c:MK} (h:DC b a=false) (h2:DC b c=true):DC a c=true:=by
 rcases Rm a b with h1 | h1 | h1
 ·exact Ig h1 h2
 ·subst h1;exact h2
 ·rw [h] at h1;cases h1
theorem N7 {a b:MK}:seq a b=true<->a=b:=by unfold seq;simp
theorem LS (a b:MK):seq a b=decide (a=b):=by
 cases h:seq a b with
 | true=>rw [N7] at h;simp [h]
 | false =>
  have : ¬ a=b:=λe=>by rw [<- N7] at e;rw [h] at e;cases e
  simp [this]
section
variable {α β σ S:Type}
theorem Eh (a b:MK) (x y:Unit->Option β):br (seq a b) x y=if a=b then x () else y ():=Np N7 x y
theorem Gh (a b:MK) (x y:Unit->Option β):br (DC a b) x y=if DC a b=true then x () else y ():=Np Iff.rfl x y
theorem Cp (p:Prop) [Decidable p] (x y:Unit->Option β):br (decide p) x y=if p then x () else y ():=Np (by simp) x y
theorem AE (k:Nat) (c:Nat->Option β):AS (k:Int) c=c k:=by rw [gU (by omega)];simp
theorem i0 {l:List α} {k:Nat} {x:α} (h:l[k]? = some x):Ah (k:Int) (AY (AA l))=true:=by
 have:=(List.getElem?_eq_some_iff.1 h).1;unfold Ah AY AA;simp;omega
theorem gW (l:List α):Ah (l.length:Int) (AY (AA l))=false:=by unfold Ah AY AA;simp
theorem Ac {k:Nat} (h:k+1<=9223372036854775807):AI .i64 (k:Int) 1=((k+1:Nat):Int):=by
 rw [D5 (by omega)];omega
theorem Au {l:List α} {k:Nat} {x:α} (h:l[k]? = some x) (hl:l.length<=9223372036854775807):AI .i64 (k:Int) 1=((k+1:Nat):Int):=by
 have:=(List.getElem?_eq_some_iff.1 h).1;exact Ac (by omega)
def Ow (step:Nat->α->σ->Option (LR σ β)) (fin:σ->Option β):List α->Nat->σ->Option β
 | [],_,s=>fin s
 | x::l,k,s=>match step k x s with
  | none=>none
  | some (.nx s')=>Ow step fin l (k+1) s'
  | some (.dn b)=>some b
def oq (mk:σ->S):Option (LR σ β)->Option (LR S β)
 | none=>none
 | some (.nx s)=>some (.nx (mk s))
 | some (.dn b)=>some (.dn b)
def ji:Option β->Option (LR S β)
 | none=>none
 | some b=>some (.dn b)
theorem Un {l:List α} {mk:Nat->σ->S} {f:S->Option (LR S β)} {step:Nat->α->σ->Option (LR σ β)} {fin:σ->Option β}
  (hs : ∀ k x st,l[k]? = some x->f (mk k st)=oq (mk (k+1)) (step k x st)) (he : ∀ st,f (mk l.length st)=ji (fin st)) :
  ∀ (d n k:Nat) (st:σ),l.length-k=d->k<=l.length->d<n->Dk n f (mk k st)=Ow step fin (l.drop k) k st:=by
 intro d
 induction d with
 | zero =>
  intro n k st h1 h2 h3;have hk:k=l.length:=by omega
  obtain ⟨m,rfl⟩ : ∃ m,n=m+1:=⟨n-1,by omega⟩;subst hk;unfold Dk;rw [he,List.drop_length];unfold ji Ow;cases fin st<;>rfl
 | succ d ih =>
  intro n k st h1 h2 h3;obtain ⟨m,rfl⟩ : ∃ m,n=m+1:=⟨n-1,by omega⟩;have hk:k<l.length:=by omega
  have hx:l[k]? = some l[k]:=by simp [hk]
  unfold Dk;rw [hs k _ st hx,List.drop_eq_getElem_cons hk]
  show _=match step k l[k] st with
   | none=>none
   | some (.nx s')=>Ow step fin (l.drop (k+1)) (k+1) s'
   | some (.dn b)=>some b
  cases step k l[k] st with
  | none=>rfl
  | some r=>cases r with
   | nx s'=>exact ih m (k+1) s' (by omega) (by omega) (by omega)
   | dn b=>rfl
theorem XZ {l:List α} (mk:Nat->σ->S) (step:Nat->α->σ->Option (LR σ β)) (fin:σ->Option β) {f:S->Option (LR S β)} {s:S} (st:σ) (h0:s=mk 0 st) (hl:l.length<=9223372036854775807)
  (hs : ∀ k x st,l[k]? = some x->f (mk k st)=oq (mk (k+1)) (step k x st)) (he : ∀ st,f (mk l.length st)=ji (fin st)) :
  loop f s=Ow step fin l 0 st:=by
 subst h0;have:=Un hs he l.length 18446744073709551616 0 st (by omega) (by omega) (by omega);rw [List.drop_zero] at this;exact this
theorem S9 {f:α->Option (LR α β)} {x:β} : ∀ {n m:Nat} {s:α},n<=m->Dk n f s=some x->Dk m f s=some x
 | 0,_,_,_,h=>by cases h
 | n+1,0,_,hl,_=>by omega
 | n+1,m+1,s,hl,h=>by
  unfold Dk at h ⊢;split at h
  ·cases h
  ·rename_i s' e;exact S9 (by omega) h
  ·exact h
theorem CT {f:α->Option (LR α β)} {x:β} {n:Nat} {s:α} (hn:n<=18446744073709551616) (h:Dk n f s=some x):loop f s=some x:=S9 hn h
theorem BF {f:α->Option (LR α β)} {n:Nat} {s s':α} (h:f s=some (.nx s')):Dk (n+1) f s=Dk n f s':=by
 show (match f s with
  | none=>none
  | some (.nx s)=>Dk n f s
  | some (.dn x)=>some x)=_
 rw [h]
theorem BN {f:α->Option (LR α β)} {n:Nat} {s:α} {x:β} (h:f s=some (.dn x)):Dk (n+1) f s=some x:=by
 show (match f s with
  | none=>none
  | some (.nx s)=>Dk n f s
  | some (.dn x)=>some x)=_
 rw [h]
theorem Hd {f : S -> Option (LR S β)} {r : β} (mk : Nat -> S) (n : Nat) {s : S} (h0 : s = mk 0) (hn : n < 18446744073709551616) (hs : ∀ k, k < n -> f (mk k) = some (.nx (mk (k + 1)))) (he : f (mk n) = some (.dn r)) : loop f s = some r := by
  subst h0
  have : ∀ d k, k + d = n -> Dk (d + 1) f (mk k) = some r := by
    intro d
    induction d with
    | zero => intro k hk; have : k = n := by omega
              subst this; exact BN he
    | succ d ih => intro k hk; rw [BF (hs k (by omega))]; exact ih (k + 1) (by omega)
  exact CT (n := n + 1) (by omega) (this n 0 (by omega))
end
end Go.Proofs.YthpkjfabdccpdaaGreat.Pl
namespace Go.Proofs.YthpkjfabdccpdaaGreat.Pl
open Go Go.Proofs.YthpkjfabdccpdaaGreat.Sv
def kE (x:AD):Int:=if x.1.length>32\/x.2.1.length>64 then 3 else if x.2.2.1=true/\x.2.1≠[] then 6 else if x.2.2.2<1\/x.2.2.2>1000000000 then 7 else 0
def Jy:Option MK->Nat->List AD->Int×Int
 | _,_,[]=>(0,0)
 | p,k,x::l=>if kE x≠0 then ((k:Int),kE x) else match p with
  | some q=>if DC q x.1=true then Jy (some x.1) (k+1) l else ((k:Int),6)
  | none=>Jy (some x.1) (k+1) l
def FH (l:List AD):Int×Int:=if l.length>5000 then (-1,3) else Jy none 0 l
def Asc:Option MK->List AD->Prop
 | _,[]=>True
 | p,x::l=>(∀ q,p=some q->DC q x.1=true)/\Asc (some x.1) l
theorem Ro : ∀ {p k l},(Jy p k l).2=0<->(∀ x∈l,kE x=0)/\Asc p l
 | p,k,[]=>by simp [Jy,Asc]
 | p,k,x::l=>by
  unfold Jy;by_cases h:kE x=0
  ·rw [if_neg (by simp [h])];cases p with
   | none =>
    simp only [Ro (p:=some x.1) (l:=l),Asc,List.mem_cons,forall_eq_or_imp];constructor
    ·rintro ⟨h1,h2⟩;exact ⟨⟨h,h1⟩,(λq hq=>by cases hq),h2⟩
    ·rintro ⟨⟨_,h1⟩,_,h2⟩;exact ⟨h1,h2⟩
   | some q =>
    simp only;by_cases hq:DC q x.1=true
    ·rw [if_pos hq];simp only [Ro (p:=some x.1) (l:=l),Asc,List.mem_cons,forall_eq_or_imp];constructor
     ·rintro ⟨h1,h2⟩;exact ⟨⟨h,h1⟩,(λq' hq'=>by cases hq';exact hq),h2⟩
     ·rintro ⟨⟨_,h1⟩,_,h2⟩;exact ⟨h1,h2⟩
    ·rw [if_neg hq];constructor
     ·intro h;cases h
     ·rintro ⟨_,h2⟩;exact absurd (h2.1 q rfl) hq
  ·rw [if_pos h];constructor
   ·intro h';exact absurd h' h
   ·rintro ⟨h1,_⟩;exact absurd (h1 x (by simp)) h
theorem NC : ∀ {p k l},(Jy p k l).2=0->Jy p k l=(0,0)
 | p,k,[],_=>rfl
 | p,k,x::l,h=>by
  unfold Jy at h ⊢;by_cases hx:kE x=0
  ·rw [if_neg (by simp [hx])] at h ⊢;cases p with
   | none=>exact NC h
   | some q =>
    simp only at h ⊢;by_cases hq:DC q x.1=true
    ·rw [if_pos hq] at h ⊢;exact NC h
    ·rw [if_neg hq] at h;cases h
  ·rw [if_pos hx] at h;exact absurd h hx
structure VL (l:List AD):Prop where
 len:l.length<=5000
 ok : ∀ x∈l,kE x=0
 asc:Asc none l
theorem ND {l:List AD}:(FH l).2=0<->VL l:=by
 unfold FH;by_cases h:l.length>5000
 ·rw [if_pos h];constructor
  ·intro h;cases h
  ·intro h';have:=h'.len;omega
 ·rw [if_neg h];rw [Ro];exact ⟨λ⟨a,b⟩=>⟨by omega,a,b⟩,λh=>⟨h.ok,h.asc⟩⟩
theorem Jz {l:List AD} (h:VL l):FH l=(0,0):=by
 have h2:=ND.2 h;unfold FH at h2 ⊢;rw [if_neg (by have:=h.len;omega)] at h2 ⊢;exact NC h2
theorem Asc.lt : ∀ {p:Option MK} {l:List AD},Asc p l -> ∀ {i:Nat} {x y:AD},l[i]? = some x->l[i+1]? = some y->DC x.1 y.1=true
 | p,x::[],_,0,_,_,_,h2=>by simp at h2
 | p,a::b::l,h,0,x,y,h1,h2=>by
  simp at h1 h2;subst h1;subst h2;exact h.2.1 _ rfl
 | p,a::l,h,i+1,x,y,h1,h2=>by
  simp at h1 h2;exact Asc.lt h.2 h1 h2
theorem VL.lt {l:List AD} (h:VL l) {i:Nat} {x y:AD} (h1:l[i]? = some x) (h2:l[i+1]? = some y):DC x.1 y.1=true:=h.asc.lt h1 h2
def kx (l:List AD) (i:Nat):AM:=match l[i]? with
 | some x=>(x.1,false)
 | none=>([],true)
def w0 (p q:AM):Bool:=if p.2≠q.2 then q.2 else if p.1≠q.1 then DC p.1 q.1 else true
def Hs (a b:List AD) (i j:Nat):Bool:=w0 (kx a i) (kx b j)
def Am (a b:List AD):Nat->Nat×Nat
 | 0=>(0,0)
 | n+1=>if Hs a b (Am a b n).1 (Am a b n).2=true then ((Am a b n).1+1,(Am a b n).2) else ((Am a b n).1,(Am a b n).2+1)
def Nq (a b:List AD) (n:Nat):Option AD:=if Hs a b (Am a b n).1 (Am a b n).2=true then a[(Am a b n).1]? else b[(Am a b n).2]?
structure Inv (a b:List AD) (i j:Nat):Prop where
 ia:i<=a.length
 jb:j<=b.length
 pa : ∀ i',i=i'+1 -> ∀ x y,a[i']? = some x->b[j]? = some y->DC y.1 x.1=false
 pb : ∀ j',j=j'+1 -> ∀ x y,b[j']? = some x->a[i]? = some y->DC x.1 y.1=true
theorem Ox {a b:List AD} {i j:Nat} {x y:AD} (h1:a[i]? = some x) (h2:b[j]? = some y):Hs a b i j = !DC y.1 x.1:=by
 unfold Hs w0 kx;rw [h1,h2];simp only [ne_eq,not_true,if_false];by_cases h:x.1=y.1
 ·rw [if_neg (by simp [h]),h,I9];rfl
 ·rw [if_pos h];cases hs:DC x.1 y.1 with
  | true=>rw [Dr hs];rfl
  | false=>rw [Rn hs h];rfl
theorem Wa {a b:List AD} {i j:Nat} {x:AD} (h1:a[i]? = some x) (h2:b[j]? = none):Hs a b i j=true:=by
 unfold Hs w0 kx;rw [h1,h2];rfl
theorem Wb {a b:List AD} {i j:Nat} {y:AD} (h1:a[i]? = none) (h2:b[j]? = some y):Hs a b i j=false:=by
 unfold Hs w0 kx;rw [h1,h2];rfl
theorem TA {a b:List AD} {i j:Nat} (h1:a[i]? = none) (h2:b[j]? = none):Hs a b i j=true:=by
 unfold Hs w0 kx;rw [h1,h2];rfl
theorem Inv.zero (a b:List AD):Inv a b 0 0:=⟨by omega,by omega,λ_ h=>by omega,λ_ h=>by omega⟩
theorem Inv.stepA {a b:List AD} (va:VL a) {i j:Nat} (h:Inv a b i j) {x:AD} (hx:a[i]? = some x) (g:Hs a b i j=true):Inv a b (i+1) j:=by
 have hi:=(List.getElem?_eq_some_iff.1 hx).1;refine ⟨by omega,h.jb,λi' e x' y h1 h2 => ?_,λj' e x' y h1 h2 => ?_⟩
 ·have:i'=i:=by omega
  subst this;rw [hx] at h1;cases h1;rw [Ox hx h2] at g;simpa using g
 ·exact Ig (h.pb j' e x' x h1 hx) (va.lt hx h2)
theorem Inv.stepB {a b:List AD} (vb:VL b) {i j:Nat} (h:Inv a b i j) {y:AD} (hy:b[j]? = some y) (g:Hs a b i j=false):Inv a b i (j+1):=by
 have hj:=(List.getElem?_eq_some_iff.1 hy).1;refine ⟨h.ia,by omega,λi' e x' y' h1 h2 => ?_,λj' e x' y' h1 h2 => ?_⟩
 ·have h3:=h.pa i' e x' y h1 hy;exact Dr (Um h3 (vb.lt hy h2))
 ·have:j'=j:=by omega
  subst this;rw [hy] at h1;cases h1;rw [Ox h2 hy] at g;simpa using g
theorem Fh {a b:List AD} (va:VL a) (vb:VL b) : ∀ {n:Nat},n<=a.length+b.length->Inv a b (Am a b n).1 (Am a b n).2/\(Am a b n).1+(Am a b n).2=n
 | 0,_=>⟨Inv.zero a b,rfl⟩
 | n+1,h=>by
  obtain ⟨hI,hs⟩:=Fh va vb (n:=n) (by omega);rw [show Am a b (n+1)=if Hs a b (Am a b n).1 (Am a b n).2=true then ((Am a b n).1+1,(Am a b n).2) else ((Am a b n).1,(Am a b n).2+1) from rfl]
  revert hI hs;generalize (Am a b n).1=i;generalize (Am a b n).2=j;intro hI hs;cases g:Hs a b i j with
  | true =>
   have hi:i<a.length:=by
    refine Nat.lt_of_not_le λh' => ?_;have h1:a[i]? = none:=List.getElem?_eq_none h';have h2:j<b.length:=by have:=hI.ia;omega
    rw [Wb h1 (by simp [h2]:b[j]? = some b[j])] at g;cases g
   have:=hI.stepA va (by simp [hi]:a[i]? = some a[i]) g;rw [if_pos rfl];exact ⟨this,by omega⟩
  | false =>
   have hj:j<b.length:=by
    refine Nat.lt_of_not_le λh' => ?_;have h1:b[j]? = none:=List.getElem?_eq_none h';cases h2:a[i]? with
    | none=>rw [TA h2 h1] at g;cases g
    | some x=>rw [Wa h2 h1] at g;cases g
   have:=hI.stepB vb (by simp [hj]:b[j]? = some b[j]) g;rw [if_neg (by simp)];exact ⟨this,by omega⟩
end Go.Proofs.YthpkjfabdccpdaaGreat.Pl
namespace Go.Proofs.YthpkjfabdccpdaaGreat.Pl
open Go Go.Proofs.YthpkjfabdccpdaaGreat.Sv
def Tt (p q:AM):D6:=([p,q],([0,if w0 p q=true then 1 else 0],if w0 p q=true then 0 else 1))
def Lb (a b:List AD) (i j:Nat):AL:=([a,b],([(i:Int),(j:Int)],Tt (kx a i) (kx b j)))
def iK (a b:List AD) (n:Nat):MK:=match Nq a b n with
 | some x=>x.1
 | none=>[]
def fresh (a b:List AD) (n:Nat) (x:AD):Bool:=decide (n=0)||decide (iK a b (n-1)≠x.1)
def gX (a b:List AD) (bt:Bool):Nat->List AD
 | 0=>[]
 | n+1=>match Nq a b n with
  | some x=>if (fresh a b n x && !(bt&&x.2.2.1))=true then gX a b bt n++[x] else gX a b bt n
  | none=>gX a b bt n
def oz (a b:List AD) (bt:Bool) (n:Nat):B4:=(decide (n≠0),(if n=0 then [] else iK a b (n-1),bt))
def o0 (a b:List AD) (bt:Bool) (n:Nat):H5:=(Lb a b (Am a b n).1 (Am a b n).2,(oz a b bt n,(gX a b bt n,(n:Int))))
def A1 (a b:List AD):Nat->List AD
 | 0=>[]
 | n+1=>match Nq a b n with
  | some x=>A1 a b n++[x]
  | none=>A1 a b n
section
variable {a b:List AD} (va:VL a) (vb:VL b)
include va vb
theorem EH {n:Nat} (h:n<a.length+b.length) : ∃ x,Nq a b n=some x/\(x∈a\/x∈b):=by
 obtain ⟨hI,hs⟩:=Fh va vb (n:=n) (by omega);unfold Nq;revert hI hs;generalize (Am a b n).1=i;generalize (Am a b n).2=j;intro hI hs;cases g:Hs a b i j with
 | true =>
  have hi:i<a.length:=by
   refine Nat.lt_of_not_le λh' => ?_;have h1:a[i]? = none:=List.getElem?_eq_none h';have h2:j<b.length:=by have:=hI.ia;omega
   rw [Wb h1 (by simp [h2]:b[j]? = some b[j])] at g;cases g
  exact ⟨a[i],by simp [hi],.inl (List.getElem_mem hi)⟩
 | false =>
  have hj:j<b.length:=by
   refine Nat.lt_of_not_le λh' => ?_;have h1:b[j]? = none:=List.getElem?_eq_none h';cases h2:a[i]? with
   | none=>rw [TA h2 h1] at g;cases g
   | some x=>rw [Wa h2 h1] at g;cases g
  exact ⟨b[j],by simp [hj],.inr (List.getElem_mem hj)⟩
theorem Z8 {n:Nat} {x:AD} (h:Nq a b n=some x):kE x=0:=by
 have:x∈a\/x∈b:=by
  unfold Nq at h;split at h
  ·exact .inl (List.mem_of_getElem? h)
  ·exact .inr (List.mem_of_getElem? h)
 rcases this with h | h
 ·exact va.ok x h
 ·exact vb.ok x h
theorem Wc {n:Nat} (hn:n+1<a.length+b.length) {x y:AD} (h1:Nq a b n=some x) (h2:Nq a b (n+1)=some y):DC y.1 x.1=false:=by
 obtain ⟨hI,hs⟩:=Fh va vb (n:=n) (by omega);unfold Nq at h1 h2;rw [show Am a b (n+1)=if Hs a b (Am a b n).1 (Am a b n).2=true then ((Am a b n).1+1,(Am a b n).2) else ((Am a b n).1,(Am a b n).2+1) from rfl] at h2
 revert hI hs h1 h2;generalize (Am a b n).1=i;generalize (Am a b n).2=j;intro h1 h2 hI hs;cases g:Hs a b i j with
 | true =>
  rw [if_pos g] at h1;simp only [g,if_true] at h2;have hI':=hI.stepA va h1 g;cases g2:Hs a b (i+1) j with
  | true=>rw [if_pos g2] at h2;exact Dr (va.lt h1 h2)
  | false=>rw [if_neg (by simp [g2])] at h2;exact hI'.pa i rfl x y h1 h2
 | false =>
  rw [if_neg (by simp [g])] at h1;simp only [g,if_false,Bool.false_eq_true] at h2;have hI':=hI.stepB vb h1 g;cases g2:Hs a b i (j+1) with
  | true=>rw [if_pos g2] at h2;exact Dr (hI'.pb j rfl x y h1 h2)
  | false=>rw [if_neg (by simp [g2])] at h2;exact Dr (vb.lt h1 h2)
theorem Ch : ∀ {n:Nat},n<=a.length+b.length->(A1 a b n).length=n
 | 0,_=>rfl
 | n+1,h=>by
  obtain ⟨x,hx,_⟩:=EH va vb (n:=n) (by omega);unfold A1;rw [hx];simp [Ch (n:=n) (by omega)]
theorem Ih : ∀ {n k:Nat},n<=a.length+b.length->k<n->(A1 a b n)[k]? = Nq a b k
 | n+1,k,h,hk=>by
  obtain ⟨x,hx,_⟩:=EH va vb (n:=n) (by omega);unfold A1;rw [hx];show (A1 a b n++[x])[k]? = _;have hl:=Ch va vb (n:=n) (by omega);by_cases hkn:k<n
  ·rw [List.getElem?_append_left (by omega)];exact Ih (by omega) hkn
  ·have:k=n:=by omega
   subst this;rw [List.getElem?_append_right (by omega),hl];simp [hx]
theorem Uo {n m:Nat} (hm:m<=a.length+b.length) (h:n<=m):(A1 a b m).take n=A1 a b n:=by
 apply List.ext_getElem?;intro k;rw [List.getElem?_take];by_cases hk:k<n
 ·rw [if_pos hk,Ih va vb hm (by omega),Ih va vb (by omega) hk]
 ·rw [if_neg hk,List.getElem?_eq_none];rw [Ch va vb (by omega)];omega
end
end Go.Proofs.YthpkjfabdccpdaaGreat.Pl
namespace Go.Proofs.YthpkjfabdccpdaaGreat.Pl
open Go Go.Proofs.YthpkjfabdccpdaaGreat.Sv
theorem AW (n:Nat):AY n=(n:Int):=rfl
theorem AP {α:Type} (l:List α):AA l=l.length:=rfl
theorem JA (l:List UInt8):FD l=l.length:=rfl
theorem J0:Ab true=false:=rfl
theorem BW {β:Type} (c:Bool) (x y:Unit->Option β):br (Ab c) x y=br c y x:=iv c x y
theorem Bl {β:Type} {a b:Nat} (h:a<=b) (k:Unit->Option β):gd (BO a b) k=k ():=by rw [Uk,if_pos h]
theorem Ku (k:MK):E0 k=some (if k.length>32 then 3 else 0):=by
 unfold E0;rw [Ao,AW,JA];by_cases h:k.length>32
 ·rw [if_pos (by omega),if_pos h]
 ·rw [if_neg (by omega),if_neg h]
theorem Gi (x:AD):CJ x=some (kE x):=by
 unfold CJ kE;rw [Ku,AB,AN];by_cases h1:x.1.length>32
 ·simp [h1]
 rw [if_neg h1,if_pos rfl,Ao,AW,JA];by_cases h2:x.2.1.length>64
 ·rw [if_pos (by omega),if_pos (.inr h2)]
 rw [if_neg (by omega : ¬ (x.2.1.length:Int)>64),if_neg (by omega),FG];by_cases h3:x.2.2.1=true
 ·rw [if_pos h3,BW,Eh];by_cases h4:x.2.1=[]
  ·rw [if_pos h4,if_neg (by simp [h4]),BB,Ao];by_cases h5:x.2.2.2<1
   ·simp [h5]
   ·by_cases h6:x.2.2.2>1000000000<;>simp [h5,h6]
  ·rw [if_neg h4,if_pos ⟨h3,h4⟩]
 ·rw [if_neg h3,if_neg (by simp [h3]),BB,Ao];by_cases h5:x.2.2.2<1
  ·simp [h5]
  ·by_cases h6:x.2.2.2>1000000000<;>simp [h5,h6]
theorem G2 (l:List AD) (hl:l.length<=9223372036854775807):BQ l=some (FH l):=by
 unfold BQ FH;rw [Ao,AW,AP];by_cases h:l.length>5000
 ·rw [if_pos (by omega),if_pos h]
 rw [if_neg (by omega),if_neg h]
 have key:=XZ (β:=Nat×(Int×Int×Int)×Unit) (l:=l) (λk (_:Int)=>((0:Int),((0:Int),(k:Int))))
  (λk x _=>if kE x≠0 then some (.dn (0,((kE x,((k:Int),(k:Int))),()))) else if k>0 then
    (match l[k-1]? with
    | some y=>if DC y.1 x.1=true then some (.nx 0) else some (.dn (0,(((6:Int),((k:Int),(k:Int))),())))
    | none=>none) else some (.nx 0))
  (λ_=>some (1,((0,(0,(l.length:Int))),()))) (s:=(0,(0,0))) (0:Int) rfl hl (f:=(λs0=>br (Ah s0.2.2 (AY (AA l))) (λ_=>AS s0.2.2 λk1=>ix l k1 λx2=>bd (CJ x2) λr3=>br (A7 r3 0) (λ_=>some (.dn ((0,((r3,(s0.2.2,s0.2.2)),()))))) λ_=>br (B8 s0.2.2 0) (λ_=>AS (CE .i64 s0.2.2 1) λk4=>ix l k4 λx5=>br (Ab (DC x5.1 x2.1)) (λ_=>some (.dn ((0,((6,(s0.2.2,s0.2.2)),()))))) λ_=>some (.nx ((s0.1,(s0.2.1,AI .i64 s0.2.2 1))))) λ_=>some (.nx ((s0.1,(s0.2.1,AI .i64 s0.2.2 1))))) λ_=>some (.dn ((1,(s0,()))))))
  (λk x st hx=>by
   simp only;rw [i0 hx,AR,AE,AK hx,Gi,AB,AN];by_cases h1:kE x=0
   ·have hk:k<l.length:=(List.getElem?_eq_some_iff.1 hx).1;simp only [h1,if_true,ne_eq,not_true,if_false];rw [Ao];by_cases h2:k>0
    ·rw [if_pos (by omega:(k:Int)>0),if_pos h2,CF (by omega),show ((k:Int)-1)=((k-1:Nat):Int) by omega,AE];have hy:l[k-1]? = some l[k-1]:=by rw [List.getElem?_eq_getElem (by omega)]
     rw [AK hy,hy,BW,Gh];simp only;by_cases h3:DC l[k-1].1 x.1=true
     ·rw [if_pos h3,if_pos h3,Au hx hl];rfl
     ·rw [if_neg h3,if_neg h3];rfl
    ·rw [if_neg (by omega : ¬ (k:Int)>0),if_neg h2,Au hx hl];rfl
   ·simp only [h1,if_false,ne_eq,not_false_iff,if_true];rfl)
  (λst=>by
   simp only
   rw [gW,Al];rfl)
 simp only [AW,AP] at key;rw [key]
 have main : ∀ (m:List AD) (k:Nat) (p:Option MK),l.drop k=m->(p=if k=0 then none else (l[k-1]?).map (·.1)) -> ∀ st,bd (Ow (β:=Nat×(Int×Int×Int)×Unit) (λk x (_:Int)=>if kE x≠0 then some (.dn (0,((kE x,((k:Int),(k:Int))),()))) else if k>0 then
    (match l[k-1]? with
    | some y=>if DC y.1 x.1=true then some (.nx 0) else some (.dn (0,(((6:Int),((k:Int),(k:Int))),())))
    | none=>none) else some (.nx (0:Int))) (λ_=>some (1,((0,(0,(l.length:Int))),()))) m k st) (λr6=>br (neq r6.1 0) (λ_=>some (r6.2.1.2.1,r6.2.1.1)) λ_=>some ((0:Int),(0:Int)))=some (Jy p k m):=by
  intro m
  induction m with
  | nil=>intro k p _ _ st;rfl
  | cons x m ih =>
   intro k p hm hp st
   have hx:l[k]? = some x:=by
    have:=congrArg List.head? hm;rw [List.head?_drop] at this;simpa using this
   have hk:k<l.length:=(List.getElem?_eq_some_iff.1 hx).1
   have hm2:l.drop (k+1)=m:=by
    have:=congrArg List.tail hm;rw [List.tail_drop] at this;simpa using this
   unfold Ow Jy;by_cases h1:kE x=0
   ·simp only [h1,ne_eq,not_true,if_false];by_cases h2:k>0
    ·have hy:l[k-1]? = some l[k-1]:=by rw [List.getElem?_eq_getElem (by omega)]
     rw [if_pos h2,hy];rw [if_neg (by omega : ¬ k=0),hy] at hp;subst hp;simp only [Option.map_some];by_cases h3:DC l[k-1].1 x.1=true
     ·rw [if_pos h3,if_pos h3];exact ih (k+1) (some x.1) hm2 (by rw [if_neg (by omega)];simp [hx]) 0
     ·rw [if_neg h3,if_neg h3];rfl
    ·have hk0:k=0:=by omega
     subst hk0;rw [if_neg h2];simp only [if_true] at hp;subst hp;exact ih 1 (some x.1) hm2 (by simp [hx]) 0
   ·simp only [h1,ne_eq,not_false_iff,if_true];rfl
 exact main l 0 none (by simp) (by simp) 0
theorem MM {α β σ S:Type} {l:List α} (mk:Nat->σ->S) (F:List α->Nat->σ->Option β) {f:S->Option (LR S β)} {s:S} (st:σ) (h0:s=mk 0 st) (hl:l.length<=9223372036854775807)
  (hn : ∀ st,f (mk l.length st)=ji (F [] l.length st))
  (hc : ∀ k x m st,l.drop k=x::m->l[k]? = some x->k<l.length->(∃ st',f (mk k st)=some (.nx (mk (k+1) st'))/\F (x::m) k st=F m (k+1) st')\/f (mk k st)=ji (F (x::m) k st)):loop f s=F l 0 st:=by
 subst h0
 have main : ∀ (m:List α) (k n:Nat) (st:σ),l.drop k=m->k<=l.length->m.length<n->Dk n f (mk k st)=F m k st:=by
  intro m
  induction m with
  | nil =>
   intro k n st hm hk hn';obtain ⟨n,rfl⟩ : ∃ j,n=j+1:=⟨n-1,by omega⟩
   have hkl:k=l.length:=by
    have:=congrArg List.length hm;simp at this;omega
   subst hkl;unfold Dk;rw [hn];cases F [] l.length st<;>rfl
  | cons x m ih =>
   intro k n st hm hk hn';obtain ⟨n,rfl⟩ : ∃ j,n=j+1:=⟨n-1,by omega⟩
   have hx:l[k]? = some x:=by
    have:=congrArg List.head? hm;rw [List.head?_drop] at this;simpa using this
   have hk':k<l.length:=(List.getElem?_eq_some_iff.1 hx).1
   have hm2:l.drop (k+1)=m:=by
    have:=congrArg List.tail hm;rw [List.tail_drop] at this;simpa using this
   rcases hc k x m st hm hx hk' with ⟨st',h1,h2⟩ | h1
   ·rw [BF h1,h2];exact ih (k+1) n st' hm2 (by omega) (by simp at hn';omega)
   ·unfold Dk;rw [h1];cases F (x::m) k st<;>rfl
 exact main l 0 _ st (by simp) (by omega) (by omega)
theorem rl {α:Type} {l:List α} {k:Nat} (h:k<l.length):Ah (k:Int) (l.length:Int)=true:=by unfold Ah;simp;omega
theorem re {α:Type} (l:List α):Ah (l.length:Int) (l.length:Int)=false:=by unfold Ah;simp
theorem BC {α β:Type} {m:Option α} {x:α} {k:α->Option β} {r:Option β} (h:m=some x) (e:k x=r):bd m k=r:=by subst h;exact e
theorem NE (k:AM):DG k=some (k.2&&decide (k.1≠[])):=by
 unfold DG;rw [FG];cases h:k.2 with
 | true=>rw [if_pos rfl,LS];simp [Ab]
 | false=>rw [if_neg (by simp)];rfl
def EX (k:AM):Prop:=k.2=true->k.1=[]
theorem gY {k:AM} (h:EX k):DG k=some false:=by
 rw [NE];cases h2:k.2 with
 | true=>simp [h h2]
 | false=>rfl
theorem Bh (l:List AD) (i:Nat):EX (kx l i):=by
 unfold kx EX;split<;>simp
theorem Gj {l:List AM} (h : ∀ k∈l,EX k) (h0:l≠[]) (hl:l.length<=32):DT l=some 0:=by
 unfold DT;simp only [AW,AP];rw [Bc,Ao,if_neg (by have:=List.length_pos_iff.2 h0;omega),if_neg (by omega)]
 rw [MM (l:=l) (σ:=Unit) (s:=(0,0)) (λk _=>((0:Int),(k:Int))) (λ_ _ _=>some (1,((0,(l.length:Int)),()))) () rfl (by omega) (λst=>by
  simp only;rw [re];rfl) (λk x m st _ hx hk => .inl ⟨(),by
   simp only;rw [rl hk,AR,AE,AK hx,gY (h x (List.mem_of_getElem? hx)),AB,Al,Au hx (by omega)],rfl⟩),AB]
 rfl
theorem J1 {α:Type} {l:List α} (h:l.length<=1048576):(gd (BO (AA l) 1048576) λ_=>some l)=some l:=Bl h _
theorem TB (p q:AM):E1 [p,q]=some (Tt p q):=by
 have hw:w0 p q=(if p.2≠q.2 then q.2 else if p.1≠q.1 then DC p.1 q.1 else true):=rfl
 unfold E1;simp only [AW,AP,List.length_cons,List.length_nil];rw [show Mn .i64 2 ((0+1+1:Nat):Int)=4 from rfl,show CE .i64 4 1=3 from rfl];unfold Aj;rw [show AS 4=λk=>k 4 from rfl];simp only [Bl (show 4<=1048576 by omega),J1 (show [p,q].length<=1048576 by simp),AB];rw [show AS ((0+1+1:Nat):Int)=λk=>k 2 from rfl];simp only [Bl (show 2<=1048576 by omega)];have fin : ∀ {w l:Int} {x:Nat×((Int×(List Int×(List AM×(List Int×Int))))×Unit)},x=(0,((0,([0,w,0,1],([p,q],([0,l],0)))),()))->(gd (Df 1 (AA x.2.1.2.1)) λ_=>ix x.2.1.2.1 1 λx41=>some ((x.2.1.2.2.1,(x.2.1.2.2.2.1,x41))))=some ([p,q],([0,l],w)):=λe=>by subst e;rfl
 have go : ∀ {f:(Int×(List Int×(List AM×(List Int×Int))))->Option (LR (Int×(List Int×(List AM×(List Int×Int)))) (Nat×((Int×(List Int×(List AM×(List Int×Int))))×Unit)))} {w l:Int},f (3,([0,0,0,0],([p,q],([0,0],0))))=some (.nx (2,([0,0,0,1],([p,q],([0,0],0)))))->f (2,([0,0,0,1],([p,q],([0,0],0))))=some (.nx (1,([0,0,0,1],([p,q],([0,0],0))))) ->
   f (1,([0,0,0,1],([p,q],([0,0],0))))=some (.nx (0,([0,w,0,1],([p,q],([0,l],0)))))->f (0,([0,w,0,1],([p,q],([0,l],0))))=some (.dn (0,((0,([0,w,0,1],([p,q],([0,l],0)))),()))) ->
   loop f (3,([0,0,0,0],([p,q],([0,0],0))))=some (0,((0,([0,w,0,1],([p,q],([0,l],0)))),())):=λh1 h2 h3 h4 =>
  CT (n:=4) (by omega) ((BF h1).trans ((BF h2).trans ((BF h3).trans (BN h4))))
 have st : ∀ {β:Type} (A B:Option β),w0 p q=true->br (Ab (beq p.2 q.2)) (λ_=>br (Ab q.2) (λ_=>B) λ_=>A) (λ_=>br (Ab (seq p.1 q.1)) (λ_=>br (Ab (DC p.1 q.1)) (λ_=>B) λ_=>A) λ_=>A)=A:=fun {β} A B h=>by
  rw [hw] at h;rw [BW (beq p.2 q.2),FG (beq p.2 q.2),BW q.2,FG q.2,BW (seq p.1 q.1),Eh,BW (DC p.1 q.1),Gh];by_cases h1:p.2=q.2
  ·rw [if_neg (by simp [h1])] at h;rw [if_pos (by simp [Sv.beq,h1])];by_cases h2:p.1=q.1
   ·rw [if_pos h2]
   ·rw [if_neg h2];rw [if_pos h2] at h;rw [if_pos h]
  ·rw [if_pos h1] at h;rw [if_neg (by simp [Sv.beq,h1]),if_pos h]
 have st2 : ∀ {β:Type} (A B:Option β),w0 p q≠true->br (Ab (beq p.2 q.2)) (λ_=>br (Ab q.2) (λ_=>B) λ_=>A) (λ_=>br (Ab (seq p.1 q.1)) (λ_=>br (Ab (DC p.1 q.1)) (λ_=>B) λ_=>A) λ_=>A)=B:=fun {β} A B h=>by
  rw [hw] at h;rw [BW (beq p.2 q.2),FG (beq p.2 q.2),BW q.2,FG q.2,BW (seq p.1 q.1),Eh,BW (DC p.1 q.1),Gh];by_cases h1:p.2=q.2
  ·rw [if_neg (by simp [h1])] at h;rw [if_pos (by simp [Sv.beq,h1])];by_cases h2:p.1=q.1
   ·rw [if_neg (by simp [h2])] at h;exact absurd rfl h
   ·rw [if_neg h2];rw [if_pos h2] at h;rw [if_neg h]
  ·rw [if_pos h1] at h;rw [if_neg (by simp [Sv.beq,h1]),if_neg h]
 rw [show Dh 4 (0:Int)=[0,0,0,0] from rfl,show Dh 2 (0:Int)=[0,0] from rfl];by_cases h:w0 p q=true
 ·refine BC (x:=(0,((0,([0,0,0,1],([p,q],([0,1],0)))),()))) ?_ ?_;refine CT (n:=4) (by omega) ?_;refine (BF (s':=(2,([0,0,0,1],([p,q],([0,0],0))))) ?_).trans ((BF (s':=(1,([0,0,0,1],([p,q],([0,0],0))))) ?_).trans ((BF (s':=(0,([0,0,0,1],([p,q],([0,1],0))))) ?_).trans (BN ?_)))
  ·rfl
  ·rfl
  ·exact st _ _ h
  ·rfl
  ·show some ([p,q],([0,1],0))=_;unfold Tt;simp [h]
 ·refine BC (x:=(0,((0,([0,1,0,1],([p,q],([0,0],0)))),()))) ?_ ?_;refine CT (n:=4) (by omega) ?_;refine (BF (s':=(2,([0,0,0,1],([p,q],([0,0],0))))) ?_).trans ((BF (s':=(1,([0,0,0,1],([p,q],([0,0],0))))) ?_).trans ((BF (s':=(0,([0,1,0,1],([p,q],([0,0],0))))) ?_).trans (BN ?_)))
  ·rfl
  ·rfl
  ·exact st2 _ _ h
  ·rfl
  ·show some ([p,q],([0,0],1))=_;unfold Tt;simp [h]
theorem NF {p q:AM} (hp:EX p) (hq:EX q):CR [p,q]=some (Tt p q,0):=by
 unfold CR;rw [Gj (by simp [hp,hq]) (by simp) (by simp),AB,AN,if_pos rfl,TB,AB]
theorem Uq {p q:AM} (hp:EX p) (hq:EX q):FL (Tt p q)=some (0,0):=by
 unfold FL;rw [show (Tt p q).1=[p,q] from rfl,Gj (by simp [hp,hq]) (by simp) (by simp),AB,AN,if_pos rfl,AN,if_pos (show AY (AA (Tt p q).2.1)=AY (AA [p,q]) from rfl),TB,AB];simp only [AW,AP]
 rw [MM (l:=(Tt p q).2.1) (σ:=Unit) (s:=(0,(0,0))) (λk _=>((0:Int),((k:Int),(0:Int)))) (λ_ _ _=>some (1,((0,(((Tt p q).2.1.length:Int),0)),()))) () rfl (show 2<=9223372036854775807 by omega) (λst=>by
  simp only;rw [re];rfl) (λk x m st _ hx hk => .inl ⟨(),by
   simp only;rw [rl hk,AR,AE,AK hx,AE,AK hx,AN,if_pos rfl,Au hx (show 2<=9223372036854775807 by omega)],rfl⟩),AB]
 rw [show neq 1 0=false from rfl,Al,AN,if_pos rfl]
def wn (p q:AM):Nat:=if w0 p q=true then 0 else 1
def wk (p q:AM):AM:=if w0 p q=true then p else q
theorem Ur (p q:AM):(Tt p q).2.2=(wn p q:Int):=by unfold Tt wn;split<;>rfl
theorem Us (p q:AM):(Tt p q).1[wn p q]? = some (wk p q):=by unfold Tt wn wk;split<;>rfl
theorem TC {p q:AM} (hp:EX p) (hq:EX q):E2 (Tt p q)=some (if (wk p q).2=true then 12 else 0):=by
 unfold E2;rw [Uq hp hq,AB,AN,if_pos rfl,Ur,AE,AK (Us p q),FG];split<;>rfl
theorem He {p q:AM} (hp:EX p) (hq:EX q):CZ (Tt p q)=some (if (wk p q).2=true then (0,([],12)) else ((wn p q:Int),((wk p q).1,0))):=by
 unfold CZ;rw [TC hp hq,AB,AN,Ur,AE,AK (Us p q)];by_cases h:(wk p q).2=true<;>simp [h]
def rk (p q k:AM):AM×AM:=if w0 p q=true then (k,q) else (p,k)
theorem Z9 (p q:AM):Bf (0,(1,([p,q],())))=some (w0 p q):=by
 unfold Bf w0;show br (Ab (beq p.2 q.2)) (λ_=>some q.2) (λ_=>br (Ab (seq p.1 q.1)) (λ_=>some (DC p.1 q.1)) λ_=>some (Ah 0 1))=_;rw [BW (beq p.2 q.2),FG (beq p.2 q.2),BW (seq p.1 q.1),Eh];by_cases h1:p.2=q.2
 ·rw [if_pos (show Sv.beq p.2 q.2=true by simp [Sv.beq,h1]),if_neg (show ¬ p.2≠q.2 by simp [h1])];by_cases h2:p.1=q.1
  ·rw [if_pos h2,if_neg (show ¬ p.1≠q.1 by simp [h2])];rfl
  ·rw [if_neg h2,if_pos h2]
 ·rw [if_neg (show ¬ Sv.beq p.2 q.2=true by simp [Sv.beq,h1]),if_pos h1]
theorem aA (p q:AM):Bf (1,(0,([p,q],())))=some (!w0 p q):=by
 unfold Bf w0;show br (Ab (beq q.2 p.2)) (λ_=>some p.2) (λ_=>br (Ab (seq q.1 p.1)) (λ_=>some (DC q.1 p.1)) λ_=>some (Ah 1 0))=_;rw [BW (beq q.2 p.2),FG (beq q.2 p.2),BW (seq q.1 p.1),Eh];by_cases h1:p.2=q.2
 ·rw [if_pos (show Sv.beq q.2 p.2=true by simp [Sv.beq,h1]),if_neg (show ¬ p.2≠q.2 by simp [h1])];by_cases h2:p.1=q.1
  ·rw [if_pos h2.symm,if_neg (show ¬ p.1≠q.1 by simp [h2])];rfl
  ·rw [if_neg (show ¬ q.1=p.1 from λe=>h2 e.symm),if_pos h2];cases hs:DC p.1 q.1 with
   | true=>rw [Dr hs];rfl
   | false=>rw [Rn hs h2];rfl
 ·rw [if_neg (show ¬ Sv.beq q.2 p.2=true by simp [Sv.beq,Ne.symm h1]),if_pos h1];cases hp:p.2<;>cases hq:q.2<;>simp_all
theorem H6 {p q k:AM} (hp:EX p) (hq:EX q) (hk:EX k) (hw:(wk p q).2=false) (hle:k.2=true\/DC k.1 (wk p q).1=false) :
  ∃ n,CK (Tt p q,k)=some (Tt (rk p q k).1 (rk p q k).2,(n,0)):=by
 have hlen:(Tt p q).1.length<=1048576:=by show 2<=_;omega
 have hlen2:(Tt p q).2.1.length<=1048576:=by show 2<=_;omega
 have hset:lset (Tt p q).1 (wn p q) k=[(rk p q k).1,(rk p q k).2]:=by unfold Tt wn rk;split<;>rfl
 have hlose:(Tt p q).2.1=[0,(1-(wn p q:Int))]:=by unfold Tt wn;split<;>rfl
 have hwn:wn p q=0\/wn p q=1:=by unfold wn;split<;>simp
 have up : ∀ {f:(Int×(Int×(Unit×(List Int×Int))))->Option (LR (Int×(Int×(Unit×(List Int×Int)))) (Nat×((Int×(Int×(Unit×(List Int×Int))))×Unit)))},
   (f=λs8=>br (BP (Hq .i64 s8.2.1 2) 0) (λ_=>some (.dn ((0,((s8.1,(Hq .i64 s8.2.1 2,((),s8.2.2.2))),()))))) λ_=>AS (Hq .i64 s8.2.1 2) λk9=>gd (Df k9 (AA s8.2.2.2.1)) λ_=>ix s8.2.2.2.1 k9 λx10=>bd (Bf ((x10,(s8.2.2.2.2,([(rk p q k).1,(rk p q k).2],()))))) λr11=>br r11 (λ_=>AS (Hq .i64 s8.2.1 2) λk12=>gd (Df k12 (AA s8.2.2.2.1)) λ_=>ix s8.2.2.2.1 k12 λx13=>AS (Hq .i64 s8.2.1 2) λk14=>gd (Df k14 (AA s8.2.2.2.1)) λ_=>ix s8.2.2.2.1 k14 λx15=>some (.nx ((AI .i64 s8.1 1,(Hq .i64 s8.2.1 2,((),(lset s8.2.2.2.1 k14 s8.2.2.2.2,x13))))))) λ_=>some (.nx ((AI .i64 s8.1 1,(Hq .i64 s8.2.1 2,((),s8.2.2.2))))))
   -> loop f (0,((2:Int)+wn p q,((),([0,(1-(wn p q:Int))],(wn p q:Int)))))=some (0,((1,(0,((),(Tt (rk p q k).1 (rk p q k).2).2))),())):=by
  intro f hf;subst hf;refine CT (n:=2) (by omega) ((BF (s':=(1,(1,((),(Tt (rk p q k).1 (rk p q k).2).2)))) ?_).trans (BN rfl));rcases hwn with h | h
  ·rw [h]
   have hw0:w0 p q=true:=by
    unfold wn at h;by_cases hh:w0 p q=true
    ·exact hh
    ·rw [if_neg hh] at h;cases h
   show bd (Bf (1,(0,([(rk p q k).1,(rk p q k).2],())))) _=_;rw [aA,AB];unfold Tt;cases hz:w0 (rk p q k).1 (rk p q k).2<;>rfl
  ·rw [h];show bd (Bf (0,(1,([(rk p q k).1,(rk p q k).2],())))) _=_;rw [Z9,AB];unfold Tt;cases hz:w0 (rk p q k).1 (rk p q k).2<;>rfl
 unfold CK;simp only [TC hp hq,hw,AB,AN,if_true,if_false,Bool.false_eq_true];rw [Gj (by simp [hk]) (by simp) (by simp),AB];simp only [if_true,BW];rw [FG];unfold Aj Ay;simp only [Ur,AE,AK (Us p q),Bl hlen,Bl hlen2,AB,Gh,Jx,AP,AW,hset];have hlt:wn p q<(Tt p q).1.length:=by show wn p q<2;omega
 have hi:AI .i64 (([(rk p q k).1,(rk p q k).2].length:Nat):Int) (wn p q:Int)=(2:Int)+wn p q:=by
  rw [D5 (by simp;omega)];rfl
 rw [hi,hlose];simp only [AP,Jx] at up;have key:=up rfl;rw [if_pos hlt];by_cases hk2:k.2=true
 ·rw [if_pos hk2,key,AB];exact ⟨_,rfl⟩
 ·rw [if_neg hk2,if_neg (by rcases hle with h | h;exact absurd h hk2;rw [h];simp),key,AB]
  exact ⟨_,rfl⟩
end Go.Proofs.YthpkjfabdccpdaaGreat.Pl
namespace Go.Proofs.YthpkjfabdccpdaaGreat.Pl
open Go Go.Proofs.YthpkjfabdccpdaaGreat.Sv
theorem Cb {S β:Type} {f:S->Option (LR S β)} {s0 s1 s2:S} {r:β} (h0:f s0=some (.nx s1)) (h1:f s1=some (.nx s2)) (h2:f s2=some (.dn r)):loop f s0=some r :=
 CT (n:=3) (by omega) ((BF h0).trans ((BF h1).trans (BN h2)))
theorem Nr {α β:Type} {c:Bool} {n:Int} {l:List α} {K:Nat->α->Option β} {E:Unit->Option β} (k:Nat) {x:α} (hc:c=true) (hn:n=(k:Int)) (hx:l[k]? = some x):br c (λ_=>AS n λk1=>ix l k1 λx2=>K k1 x2) E=K k x:=by
 subst hc;subst hn;rw [AR,AE,AK hx]
theorem Ei {α β:Type} {n:Int} {l:List α} {K:Nat->α->Option β} (k:Nat) {x:α} (hn:n=(k:Int)) (hx:l[k]? = some x):AS n (λk1=>ix l k1 λx2=>K k1 x2)=K k x:=by
 subst hn;rw [AE,AK hx]
theorem Gs {l:List AD} {i:Nat} (h:i<=l.length):BI (l,(i:Int))=some (kx l i):=by
 unfold BI kx;simp only [AW,AP];rw [Bc];by_cases hi:i=l.length
 ·rw [if_pos (by omega),List.getElem?_eq_none (by omega)]
 ·have hx:l[i]? = some l[i]:=by rw [List.getElem?_eq_getElem (by omega)]
  rw [if_neg (by omega),AE,AK hx,hx]
section
variable {a b:List AD} (va:VL a) (vb:VL b)
theorem aB {i j:Nat} (hi:i<=a.length) (hj:j<=b.length):F9 ([a,b],[(i:Int),(j:Int)])=some (Tt (kx a i) (kx b j)):=by
 unfold F9;refine BC (x:=(0,((2,[kx a i,kx b j]),()))) (Cb (s1:=(1,[kx a i,([],false)])) (s2:=(2,[kx a i,kx b j])) ?_ ?_ rfl) ?_
 ·show bd (BI (a,(i:Int))) _=_;rw [Gs hi];rfl
 ·show bd (BI (b,(j:Int))) _=_;rw [Gs hj];rfl
 ·show bd (CR [kx a i,kx b j]) _=_;rw [NF (Bh _ _) (Bh _ _)];rfl
include va vb
theorem MN:BQ a=some (0,0):=by
 rw [G2 _ (by have:=va.len;omega),Jz va]
theorem LU:DS [a,b]=some (0,0):=by
 unfold DS;refine BC (x:=(1,((0,(0,2)),()))) (Cb (s1:=(0,(0,1))) (s2:=(0,(0,2))) ?_ ?_ rfl) rfl
 ·show bd (BQ a) _=_;rw [MN va va];rfl
 ·show bd (BQ b) _=_;rw [MN vb vb];rfl
theorem Xa (bt:Bool):Ef ([a,b],bt)=some (o0 a b bt 0,(0,0)):=by
 unfold Ef;rw [LU va vb,AB,AN,if_pos rfl];refine BC (x:=(0,((2,[kx a 0,kx b 0]),()))) (Cb (s1:=(1,[kx a 0,([],false)])) (s2:=(2,[kx a 0,kx b 0])) ?_ ?_ rfl) ?_
 ·show bd (BI (a,((0:Nat):Int))) _=_;rw [Gs (by omega)];rfl
 ·show bd (BI (b,((0:Nat):Int))) _=_;rw [Gs (by omega)];rfl
 ·show bd (CR [kx a 0,kx b 0]) _=_;rw [NF (Bh _ _) (Bh _ _)];rfl
end
theorem HL (x:Bool):Sv.beq x x=true:=by cases x<;>rfl
theorem JB (x:MK):seq x x=true:=by rw [N7]
theorem Ut (l:List AM) (h:l.length<=1000):Ak (l,l)=some true:=by
 unfold Ak;simp only [AW,AP]
 rw [AN,if_pos rfl,MM (l:=l) (σ:=Unit) (s:=(0,false)) (λk _=>((k:Int),false)) (λ_ _ _=>some (1,(((l.length:Int),false),()))) () rfl (by omega) (λst=>by
  simp only;rw [re];rfl) (λk x m st _ hx hk => .inl ⟨(),by
   simp only;rw [rl hk,AR,AE,AK hx,AE,AK hx,JB,HL,show Ab (Bn true (Bn true true))=false from rfl,Al,Au hx (by omega)],rfl⟩),AB]
 rfl
theorem Uu (l:List Int) (h:l.length<=1000):Ae (l,l)=some true:=by
 unfold Ae;simp only [AW,AP]
 rw [AN,if_pos rfl,MM (l:=l) (σ:=Unit) (s:=(0,false)) (λk _=>((k:Int),false)) (λ_ _ _=>some (1,(((l.length:Int),false),()))) () rfl (by omega) (λst=>by
  simp only;rw [re];rfl) (λk x m st _ hx hk => .inl ⟨(),by
   simp only;rw [rl hk,AR,AE,AK hx,AE,AK hx,AN,if_pos rfl,Au hx (by omega)],rfl⟩),AB]
 rfl
theorem Xb (t:D6) (h1:t.1.length<=1000) (h2:t.2.1.length<=1000):EN (t,t)=some true:=by
 unfold EN;rw [Bc,if_pos rfl,Ut _ h1,AB,AR,Uu _ h2];rfl
theorem Xc (p q:AM):EN (Tt p q,Tt p q)=some true:=Xb _ (show 2<=1000 by omega) (show 2<=1000 by omega)
theorem Xd {a b:List AD} {i j:Nat} (h:Hs a b i j=true):wk (kx a i) (kx b j)=kx a i/\wn (kx a i) (kx b j)=0:=by
 unfold Hs at h;unfold wk wn;rw [if_pos h,if_pos h];exact ⟨rfl,rfl⟩
theorem Xe {a b:List AD} {i j:Nat} (h:Hs a b i j=false):wk (kx a i) (kx b j)=kx b j/\wn (kx a i) (kx b j)=1:=by
 unfold Hs at h;unfold wk wn;rw [if_neg (by simp [h]),if_neg (by simp [h])];exact ⟨rfl,rfl⟩
theorem Wd (x y:MK):Ca (x,y)=some (if DC x y=true then -1 else if DC y x=true then 1 else 0):=by
 unfold Ca C3;simp only [JB,J0,AB,Al];rw [Gh,Gh];split
 ·rfl
 ·split<;>rfl
theorem We (x y:Int):CG (x,y)=some (if x<y then -1 else if x>y then 1 else 0):=by
 unfold CG EF;simp only [AB,AN,if_true,BB,Ao];split
 ·rfl
 ·split<;>rfl
theorem aC (x y:Int):GA [x,y]=some (if x≠0 then x else y):=by
 unfold GA;by_cases h:x=0
 ·rw [if_neg (by simp [h])];by_cases h2:y=0
  ·refine BC (x:=(1,((0,2),()))) (Cb (s1:=(0,1)) (s2:=(0,2)) ?_ ?_ rfl) (by rw [h2];rfl)
   ·refine (Nr 0 rfl rfl rfl).trans ?_;rw [AN,if_pos h];rfl
   ·refine (Nr 1 rfl rfl rfl).trans ?_;rw [AN,if_pos h2];rfl
  ·refine BC (x:=(0,((y,1),()))) (CT (n:=2) (by omega) ((BF (s':=(0,1)) ?_).trans (BN ?_))) rfl
   ·refine (Nr 0 rfl rfl rfl).trans ?_;rw [AN,if_pos h];rfl
   ·refine (Nr 1 rfl rfl rfl).trans ?_;rw [AN,if_neg h2]
 ·rw [if_pos h];refine BC (x:=(0,((x,0),()))) (CT (n:=1) (by omega) (BN ?_)) rfl;refine (Nr 0 rfl rfl rfl).trans ?_;rw [AN,if_neg h]
section
variable {a b:List AD} (va:VL a) (vb:VL b)
include va vb
theorem KY {i j:Nat} (I:Inv a b i j):DU (Lb a b i j)=some (0,0):=by
 unfold DU;rw [show (Lb a b i j).1=[a,b] from rfl,LU va vb,AB,AN,if_pos rfl];rw [show (Lb a b i j).2.1=[(i:Int),(j:Int)] from rfl,AN,if_pos (show AY (AA [(i:Int),(j:Int)])=AY (AA [a,b]) from rfl)];refine BC (x:=(1,((0,(0,2)),()))) (Cb (s1:=(0,(0,1))) (s2:=(0,(0,2))) ?_ ?_ rfl) ?_
 ·refine (Nr 0 rfl rfl rfl).trans ?_;rw [BB,if_neg (by omega),show AS (((0:Int),((0:Int),(0:Int))).2.2)=λ(k:Nat->Option (LR (Int×(Int×Int)) (Nat×((Int×(Int×Int))×Unit))))=>k 0 from rfl];simp only;rw [AK (x:=a) rfl,Ao,if_neg (by have:=I.ia;simp only [AW,AP];omega)];rfl
 ·refine (Nr 1 rfl rfl rfl).trans ?_;rw [BB,if_neg (by omega),show AS (((0:Int),((0:Int),(1:Int))).2.2)=λ(k:Nat->Option (LR (Int×(Int×Int)) (Nat×((Int×(Int×Int))×Unit))))=>k 1 from rfl];simp only;rw [AK (x:=b) rfl,Ao,if_neg (by have:=I.jb;simp only [AW,AP];omega)];rfl
 rw [show neq ((1:Nat),(((0:Int),((0:Int),(2:Int))),())).1 0=false from rfl,Al,aB I.ia I.jb,AB,show (Lb a b i j).2.2=Tt (kx a i) (kx b j) from rfl,Xc,AB,show Ab true=false from rfl,Al,He (Bh _ _) (Bh _ _),AB];by_cases hd:(wk (kx a i) (kx b j)).2=true
 ·rw [if_pos hd];rfl
 rw [if_neg hd,AN,if_pos rfl]
 have la : ∀ {x:AD} {i':Nat},i=i'+1->a[i']? = some x -> ¬ (if (if DC x.1 (wk (kx a i) (kx b j)).1=true then (-1:Int) else if DC (wk (kx a i) (kx b j)).1 x.1=true then 1 else 0)≠0 then (if DC x.1 (wk (kx a i) (kx b j)).1=true then (-1:Int) else if DC (wk (kx a i) (kx b j)).1 x.1=true then 1 else 0) else (if (0:Int)<(wn (kx a i) (kx b j):Int) then -1 else if (0:Int)>(wn (kx a i) (kx b j):Int) then 1 else 0))>0:=by
  intro x i' hi hx
  have hle:DC (wk (kx a i) (kx b j)).1 x.1=false:=by
   cases g:Hs a b i j with
   | true =>
    rw [(Xd g).1] at hd ⊢;unfold kx at hd ⊢;cases hy:a[i]? with
    | none=>rw [hy] at hd;exact absurd rfl hd
    | some y=>rw [hi] at hy;exact Dr (va.lt hx hy)
   | false =>
    rw [(Xe g).1] at hd ⊢;unfold kx at hd ⊢;cases hy:b[j]? with
    | none=>rw [hy] at hd;exact absurd rfl hd
    | some y=>exact I.pa i' hi x y hx hy
  rw [hle];have : ¬ (0:Int)>(wn (kx a i) (kx b j):Int):=by omega
  by_cases hs:DC x.1 (wk (kx a i) (kx b j)).1=true
  ·simp [hs]
  ·simp only [hs,Bool.false_eq_true,if_false,ne_eq,not_true,this];split<;>omega
 have lb : ∀ {y:AD} {j':Nat},j=j'+1->b[j']? = some y -> ¬ (if (if DC y.1 (wk (kx a i) (kx b j)).1=true then (-1:Int) else if DC (wk (kx a i) (kx b j)).1 y.1=true then 1 else 0)≠0 then (if DC y.1 (wk (kx a i) (kx b j)).1=true then (-1:Int) else if DC (wk (kx a i) (kx b j)).1 y.1=true then 1 else 0) else (if (1:Int)<(wn (kx a i) (kx b j):Int) then -1 else if (1:Int)>(wn (kx a i) (kx b j):Int) then 1 else 0))>0:=by
  intro y j' hj hy
  have hlt:DC y.1 (wk (kx a i) (kx b j)).1=true:=by
   cases g:Hs a b i j with
   | true =>
    rw [(Xd g).1] at hd ⊢;unfold kx at hd ⊢;cases hx:a[i]? with
    | none=>rw [hx] at hd;exact absurd rfl hd
    | some x=>exact I.pb j' hj y x hy hx
   | false =>
    rw [(Xe g).1] at hd ⊢;unfold kx at hd ⊢;cases hx:b[j]? with
    | none=>rw [hx] at hd;exact absurd rfl hd
    | some x=>rw [hj] at hx;exact vb.lt hy hx
  rw [hlt];simp
 refine BC (x:=(1,((0,(0,2)),()))) (Cb (s1:=(0,(0,1))) (s2:=(0,(0,2))) ?_ ?_ rfl) rfl
 ·refine (Nr 0 rfl rfl rfl).trans ?_;rw [Ao];by_cases h0:(i:Int)>0
  ·rw [if_pos h0];obtain ⟨i',hi'⟩ : ∃ i',i=i'+1:=⟨i-1,by omega⟩;have hi2:i'<a.length:=by have:=I.ia;omega
   have hx:a[i']? = some a[i']:=by simp [hi2]
   refine (Ei 0 rfl (x:=a) rfl).trans ((Ei i' ?_ hx).trans ?_)
   ·rw [CF (by have:=va.len;have:=I.ia;omega)];omega
   rw [Wd,AB];show bd (CG (0,(wn (kx a i) (kx b j):Int))) _=_;rw [We,AB,aC,AB,Ao,if_neg (la hi' hx)];rfl
  ·rw [if_neg h0];rfl
 ·refine (Nr 1 rfl rfl rfl).trans ?_;rw [Ao];by_cases h0:(j:Int)>0
  ·rw [if_pos h0];obtain ⟨j',hj'⟩ : ∃ j',j=j'+1:=⟨j-1,by omega⟩;have hj2:j'<b.length:=by have:=I.jb;omega
   have hy:b[j']? = some b[j']:=by simp [hj2]
   refine (Ei 1 rfl (x:=b) rfl).trans ((Ei j' ?_ hy).trans ?_)
   ·rw [CF (by have:=vb.len;have:=I.jb;omega)];omega
   rw [Wd,AB];show bd (CG (1,(wn (kx a i) (kx b j):Int))) _=_;rw [We,AB,aC,AB,Ao,if_neg (lb hj' hy)];rfl
  ·rw [if_neg h0];rfl
end
end Go.Proofs.YthpkjfabdccpdaaGreat.Pl
namespace Go.Proofs.YthpkjfabdccpdaaGreat.Pl
open Go Go.Proofs.YthpkjfabdccpdaaGreat.Sv
theorem GC {l:List AD} {i:Nat} {x:AD} (h:l[i]? = some x):kx l i=(x.1,false):=by unfold kx;rw [h]
theorem MO {l:List AD} {i:Nat} (h:l[i]? = none):kx l i=([],true):=by unfold kx;rw [h]
theorem N8 {l:List AD} (v:VL l) {i:Nat} {x:AD} (h:l[i]? = some x):(kx l (i+1)).2=true\/DC (kx l (i+1)).1 x.1=false:=by
 cases hy:l[i+1]? with
 | none=>rw [MO hy];exact .inl rfl
 | some y=>rw [GC hy];exact .inr (Dr (v.lt h hy))
theorem J2 {α β:Type} {n:Int} {l:List α} {K:Nat->α->Option β} (k:Nat) {x:α} (hn:n=(k:Int)) (hx:l[k]? = some x):AS n (λk1=>gd (Df k1 (AA l)) λ_=>ix l k1 λx2=>K k1 x2)=K k x:=by
 subst hn;rw [AE,Jx,if_pos (show k<AA l from (List.getElem?_eq_some_iff.1 hx).1),AK hx]
section
variable {a b:List AD} (va:VL a) (vb:VL b)
include va vb
theorem gZ {i j:Nat} (I:Inv a b i j) {x:AD} (hx:a[i]? = some x) (g:Hs a b i j=true):B5 (Lb a b i j)=some (x,(0,(Lb a b (i+1) j,0))):=by
 obtain ⟨hk,hn⟩:=Xd g;have hi:=(List.getElem?_eq_some_iff.1 hx).1;have hl:=va.len;have hd:(wk (kx a i) (kx b j)).2=false:=by rw [hk,GC hx]
 obtain ⟨m,hr⟩:=H6 (p:=kx a i) (q:=kx b j) (k:=kx a (i+1)) (Bh _ _) (Bh _ _) (Bh _ _) hd (by rw [hk,GC hx];exact N8 va hx)
 have hrk:rk (kx a i) (kx b j) (kx a (i+1))=(kx a (i+1),kx b j):=by
  unfold rk;unfold Hs at g;rw [if_pos g]
 rw [hrk] at hr;unfold B5;rw [KY va vb I,AB,AN,if_pos rfl];unfold Ai Ay;refine BC (J1 (show 2<=1048576 by omega)) (BC (J1 (show 2<=1048576 by omega)) ?_);rw [show (Lb a b i j).2.2=Tt (kx a i) (kx b j) from rfl,He (Bh _ _) (Bh _ _),if_neg (by simp [hd]),AB,AN,if_pos rfl,hn];refine (J2 0 rfl (x:=a) rfl).trans ((J2 0 rfl (x:=(i:Int)) rfl).trans ((Ei i rfl hx).trans ((J2 0 rfl (x:=(i:Int)) rfl).trans ((J2 0 rfl (x:=(i:Int)) rfl).trans ((J2 0 rfl (x:=a) rfl).trans ((J2 0 rfl (x:=AI .i64 (i:Int) 1) rfl).trans ?_))))));rw [Ac (by omega),Gs (show i+1<=a.length by omega),AB,hr,AB];rfl
theorem ga {i j:Nat} (I:Inv a b i j) {y:AD} (hy:b[j]? = some y) (g:Hs a b i j=false):B5 (Lb a b i j)=some (y,(1,(Lb a b i (j+1),0))):=by
 obtain ⟨hk,hn⟩:=Xe g;have hi:=(List.getElem?_eq_some_iff.1 hy).1;have hl:=vb.len;have hd:(wk (kx a i) (kx b j)).2=false:=by rw [hk,GC hy]
 obtain ⟨m,hr⟩:=H6 (p:=kx a i) (q:=kx b j) (k:=kx b (j+1)) (Bh _ _) (Bh _ _) (Bh _ _) hd (by rw [hk,GC hy];exact N8 vb hy)
 have hrk:rk (kx a i) (kx b j) (kx b (j+1))=(kx a i,kx b (j+1)):=by
  unfold rk;unfold Hs at g;rw [if_neg (by simp [g])]
 rw [hrk] at hr;unfold B5;rw [KY va vb I,AB,AN,if_pos rfl];unfold Ai Ay;refine BC (J1 (show 2<=1048576 by omega)) (BC (J1 (show 2<=1048576 by omega)) ?_);rw [show (Lb a b i j).2.2=Tt (kx a i) (kx b j) from rfl,He (Bh _ _) (Bh _ _),if_neg (by simp [hd]),AB,AN,if_pos rfl,hn];refine (J2 1 rfl (x:=b) rfl).trans ((J2 1 rfl (x:=(j:Int)) rfl).trans ((Ei j rfl hy).trans ((J2 1 rfl (x:=(j:Int)) rfl).trans ((J2 1 rfl (x:=(j:Int)) rfl).trans ((J2 1 rfl (x:=b) rfl).trans ((J2 1 rfl (x:=AI .i64 (j:Int) 1) rfl).trans ?_))))));rw [Ac (by omega),Gs (show j+1<=b.length by omega),AB,hr,AB];rfl
def LV (a b:List AD) (n:Nat):AL:=Lb a b (Am a b n).1 (Am a b n).2
def Oy (a b:List AD) (n:Nat):Nat:=if Hs a b (Am a b n).1 (Am a b n).2=true then 0 else 1
theorem Oz {n:Nat} {x:AD} (h:n<a.length+b.length) (hx:Nq a b n=some x):B5 (LV a b n)=some (x,((Oy a b n:Int),(LV a b (n+1),0))):=by
 obtain ⟨hI,hs⟩:=Fh va vb (n:=n) (by omega);unfold LV Oy;rw [show Am a b (n+1)=if Hs a b (Am a b n).1 (Am a b n).2=true then ((Am a b n).1+1,(Am a b n).2) else ((Am a b n).1,(Am a b n).2+1) from rfl]
 unfold Nq at hx;cases g:Hs a b (Am a b n).1 (Am a b n).2 with
 | true=>rw [if_pos g] at hx;rw [gZ va vb hI hx g];simp
 | false=>rw [if_neg (by simp [g])] at hx;rw [ga va vb hI hx g];simp
end
theorem O0 {s:B4} (h1:s.2.1.length<=32) (h2:s.1=false->s.2.1=[]):Dp s=some 0:=by
 unfold Dp;rw [Ku,AB,if_neg (by omega),AN,if_pos rfl,BW,FG];cases h:s.1 with
 | true=>rfl
 | false=>rw [if_neg (by simp),BW,Eh,if_pos (h2 h)]
def keep (s:B4) (x:AD):Bool := !(s.1&&decide (x.1=s.2.1)) && !(s.2.2&&x.2.2.1)
theorem Xf {s:B4} {x:AD} (h1:s.2.1.length<=32) (h2:s.1=false->s.2.1=[]) (h3:kE x=0) (h4:s.1=true->DC x.1 s.2.1=false):CA (s,x)=some (keep s x,((true,(x.1,s.2.2)),0)):=by
 unfold CA keep;rw [O0 h1 h2,AB,AN,if_pos rfl,Gi,h3,AB,AN,if_pos rfl];obtain ⟨s1,s2,s3⟩:=s;obtain ⟨x1,x2,x3,x4⟩:=x;simp only at h4 ⊢;cases s1 with
 | true =>
  have:=h4 rfl;simp only [AR,Al,Gh,Eh,this,Bool.false_eq_true,if_false];by_cases he:x1=s2
  ·simp [he]
  ·simp only [he,if_false,decide_false];cases s3<;>cases x3<;>rfl
 | false =>
  simp only [AR,Al];cases s3<;>cases x3<;>rfl
def FM:B4->List AD->List AD
 | _,[]=>[]
 | s,x::l=>(if keep s x=true then [x] else [])++FM (true,(x.1,s.2.2)) l
theorem Ii : ∀ (s:B4) (l:List AD),(FM s l).length<=l.length
 | _,[]=>Nat.le_refl _
 | s,x::l=>by
  have:=Ii (true,(x.1,s.2.2)) l;unfold FM;by_cases h:keep s x=true
  ·rw [if_pos h];simp;omega
  ·rw [if_neg h];simp;omega
def O1:B4->List AD->Prop
 | _,[]=>True
 | s,x::l=>kE x=0/\(s.1=true->DC x.1 s.2.1=false)/\O1 (true,(x.1,s.2.2)) l
theorem O2 {x:AD} (h:kE x=0):x.1.length<=32:=by
 unfold kE at h;by_cases hh:x.1.length>32\/x.2.1.length>64
 ·rw [if_pos hh] at h;cases h
 ·omega
theorem DL {α β σ S:Type} {l:List α} (mk:Nat->σ->S) (Inv:List α->Nat->σ->Prop) (F:List α->Nat->σ->β) {f:S->Option (LR S β)} {s:S} (st:σ) (h0:s=mk 0 st) (hl:l.length<=9223372036854775807) (hi:Inv l 0 st)
  (hn : ∀ st,Inv [] l.length st->f (mk l.length st)=some (.dn (F [] l.length st)))
  (hc : ∀ k x m st,l.drop k=x::m->l[k]? = some x->k<l.length->Inv (x::m) k st -> ∃ st',f (mk k st)=some (.nx (mk (k+1) st'))/\Inv m (k+1) st'/\F (x::m) k st=F m (k+1) st'):loop f s=some (F l 0 st):=by
 subst h0
 have main : ∀ (m:List α) (k n:Nat) (st:σ),l.drop k=m->k<=l.length->m.length<n->Inv m k st->Dk n f (mk k st)=some (F m k st):=by
  intro m
  induction m with
  | nil =>
   intro k n st hm hk hn' hi;obtain ⟨n,rfl⟩ : ∃ j,n=j+1:=⟨n-1,by omega⟩
   have hkl:k=l.length:=by
    have:=congrArg List.length hm;simp at this;omega
   subst hkl;exact BN (hn st hi)
  | cons x m ih =>
   intro k n st hm hk hn' hi;obtain ⟨n,rfl⟩ : ∃ j,n=j+1:=⟨n-1,by omega⟩
   have hx:l[k]? = some x:=by
    have:=congrArg List.head? hm;rw [List.head?_drop] at this;simpa using this
   have hk':k<l.length:=(List.getElem?_eq_some_iff.1 hx).1
   have hm2:l.drop (k+1)=m:=by
    have:=congrArg List.tail hm;rw [List.tail_drop] at this;simpa using this
   obtain ⟨st',h1,h2,h3⟩:=hc k x m st hm hx hk' hi;rw [BF h1,h3];exact ih (k+1) n st' hm2 (by omega) (by simp at hn';omega) h2
 exact main l 0 _ st (by simp) (by omega) (by omega) hi
def CP:B4->List AD->B4
 | s,[]=>s
 | s,x::l=>CP (true,(x.1,s.2.2)) l
theorem Rp {β:Type} {out:List AD} {n:Nat} (h:out.length<=n) (hn:n<=20000) (x:AD) (k:Unit->Option β):gd (BO (Ar (AA out) (AA [x])) 1048576) k=k ():=Bl (by simp only [Ar,AA,List.length_cons,List.length_nil];omega) k
theorem Xg {l:List AD} {bt:Bool} (hl:l.length<=20000) (hr:O1 (false,([],bt)) l):EG (l,bt)=some (FM (false,([],bt)) l,(0,0)):=by
 unfold EG CY;simp only [AW,AP];rw [Ao,if_neg (by omega),AB]
 rw [DL (l:=l) (σ:=B4×List AD) (s:=(0,(0,(0,((false,([],bt)),[]))))) (λk st=>((0:Int),((k:Int),((0:Int),st))))
  (λm k st=>O1 st.1 m/\st.1.2.1.length<=32/\(st.1.1=false->st.1.2.1=[])/\st.2.length<=k/\k+m.length=l.length)
  (λm k st=>(1,((0,((l.length:Int),(0,(CP st.1 m,st.2++FM st.1 m)))),()))) ((false,([],bt)),[]) rfl (by omega) ⟨hr,by simp,λ_=>rfl,by simp,by simp⟩ ?_ ?_,AB]
 ·simp;rfl
 ·intro st _;simp only;rw [re,Al];simp [CP,FM]
 ·rintro k x m ⟨s,out⟩ hm hx hk ⟨⟨h1,h2,h3⟩,h4,h5,h6,h7⟩;simp only at h1 h2 h3 h4 h5 h6 ⊢;refine ⟨((true,(x.1,s.2.2)),out++if keep s x=true then [x] else []),?_,⟨h3,O2 h1,(λh=>by cases h),?_,by simp at h7;omega⟩,?_⟩
  ·rw [rl hk,AR,AE,AK hx,O0 h4 h5,AB,AN,if_pos rfl,Gi,h1,AB,AN,if_pos rfl];unfold keep A8;obtain ⟨s1,s2,s3⟩:=s;obtain ⟨x1,x2,x3,x4⟩:=x;simp only [AB,Au hx (show l.length<=9223372036854775807 by omega)] at h2 ⊢;have hg : ∀ {β:Type} (k:Unit->Option β),gd (BO (Ar out.length [(x1,(x2,(x3,x4)))].length) 1048576) k=k ():=λk=>Rp h6 (by simp at h7;omega) (x1,(x2,(x3,x4))) k;cases s1 with
   | true =>
    have h8:=h2 rfl;simp only [AR,Al,Eh,h8,hg];by_cases he:x1=s2
    ·simp [he]
    ·simp only [he,if_false,decide_false];cases s3<;>cases x3<;>simp [AR,Al,B3]
   | false =>
    simp only [AR,Al,hg];cases s3<;>cases x3<;>simp [AR,Al,B3]
  ·split<;>simp<;>omega
  ·simp only [CP,FM,List.append_assoc]
end Go.Proofs.YthpkjfabdccpdaaGreat.Pl
namespace Go.Proofs.YthpkjfabdccpdaaGreat.Pl
open Go Go.Proofs.YthpkjfabdccpdaaGreat.Sv
theorem TD : ∀ (l:List AD) (s:B4) (x:AD),FM s (l++[x])=FM s l++(if keep (CP s l) x=true then [x] else [])
 | [],s,x=>by
  show (if keep s x=true then [x] else [])++[]=[]++(if keep s x=true then [x] else [])
  rw [List.append_nil,List.nil_append]
 | y::l,s,x=>by
  show (if keep s y=true then [y] else [])++FM _ (l++[x])=((if keep s y=true then [y] else [])++FM _ l)++_
  rw [TD l,List.append_assoc];rfl
theorem KZ : ∀ (l:List AD) (s:B4) (x:AD),CP s (l++[x])=(true,(x.1,(CP s l).2.2))
 | [],s,x=>rfl
 | y::l,s,x=>by simp only [List.cons_append,CP,KZ l]
theorem GD : ∀ (l:List AD) (s:B4),(CP s l).2.2=s.2.2
 | [],s=>rfl
 | y::l,s=>by rw [CP,GD l]
theorem TE : ∀ (l:List AD) (s:B4) (x:AD),O1 s l->kE x=0->((CP s l).1=true->DC x.1 (CP s l).2.1=false)->O1 s (l++[x])
 | [],s,x,_,h1,h2=>⟨h1,h2,trivial⟩
 | y::l,s,x,⟨h1,h2,h3⟩,h4,h5=>⟨h1,h2,TE l _ x h3 h4 h5⟩
theorem QT : ∀ (l:List AD) (s:B4),O1 s l->s.2.1.length<=32->(s.1=false->s.2.1=[])->(CP s l).2.1.length<=32/\((CP s l).1=false->(CP s l).2.1=[])
 | [],s,_,h1,h2=>⟨h1,h2⟩
 | y::l,s,⟨h3,_,h4⟩,_,_=>QT l _ h4 (O2 h3) (λh=>by cases h)
abbrev s0 (bt:Bool):B4:=(false,([],bt))
def Dg (a b:List AD) (bt:Bool) (n:Nat):H5:=(LV a b n,(CP (s0 bt) (A1 a b n),(FM (s0 bt) (A1 a b n),(n:Int))))
def Hf (a b:List AD):Nat->List Int
 | 0=>[]
 | n+1=>Hf a b n++[(Oy a b n:Int)]
theorem NG (a b:List AD) : ∀ n,(Hf a b n).length=n
 | 0=>rfl
 | n+1=>by simp [Hf,NG a b n]
theorem Ij {S β:Type} {f:S->Option (LR S β)} {r:β} (mk:Nat->S) (k0 n:Nat) {s:S} (h0:s=mk k0) (hk:k0<=n) (hn:n<18446744073709551616) (hs : ∀ k,k0<=k->k<n->f (mk k)=some (.nx (mk (k+1)))) (he:f (mk n)=some (.dn r)):loop f s=some r:=by
 have h:=Hd (f:=f) (r:=r) (λk=>mk (k0+k)) (n-k0) (s:=s) h0 (by omega) (λk hk=>hs (k0+k) (by omega) (by omega)) (by show f (mk (k0+(n-k0)))=_;rw [show k0+(n-k0)=n by omega];exact he);exact h
theorem O3 (l:List AD) (h:l.length<=100000):Dq (l,l)=some true:=by
 unfold Dq;simp only [AW,AP]
 rw [AN,if_pos rfl,MM (l:=l) (σ:=Unit) (s:=(false,0)) (λk _=>(false,(k:Int))) (λ_ _ _=>some (1,((false,(l.length:Int)),()))) () rfl (by omega) (λst=>by
  simp only;rw [re];rfl) (λk x m st _ hx hk => .inl ⟨(),by
   simp only;rw [rl hk,AR,AE,AK hx,AE,AK hx,JB,JB,HL,show BP x.2.2.2 x.2.2.2=true by unfold BP;simp,show Ab (Bn true (Bn true (Bn true (Bn true true))))=false from rfl,Al,Au hx (by omega)],rfl⟩),AB]
 rfl
section
variable {a b:List AD} (va:VL a) (vb:VL b)
include va vb
theorem Gk {n:Nat} {x:AD} (hx:Nq a b n=some x):A1 a b (n+1)=A1 a b n++[x]:=by
 show (match Nq a b n with
  | some x=>A1 a b n++[x]
  | none=>A1 a b n)=_
 rw [hx]
theorem Hg (bt:Bool) : ∀ {n:Nat},n<=a.length+b.length->O1 (s0 bt) (A1 a b n)
 | 0,_=>trivial
 | n+1,h=>by
  obtain ⟨x,hx,_⟩:=EH va vb (n:=n) (by omega);rw [Gk va vb hx];refine TE _ _ _ (Hg bt (by omega)) (Z8 va vb hx) λ_ => ?_;cases n with
  | zero=>rename_i h1;cases h1
  | succ m =>
   obtain ⟨y,hy,_⟩:=EH va vb (n:=m) (by omega);rw [Gk va vb hy,KZ];exact Wc va vb (by omega) hy hx
theorem Uv (bt:Bool) {n:Nat} (h:n<=a.length+b.length):(CP (s0 bt) (A1 a b n)).2.1.length<=32/\((CP (s0 bt) (A1 a b n)).1=false->(CP (s0 bt) (A1 a b n)).2.1=[]) :=
 QT _ _ (Hg va vb bt h) (by simp) (λ_=>rfl)
theorem gb {n:Nat} (h:n=a.length+b.length):(wk (kx a (Am a b n).1) (kx b (Am a b n).2)).2=true:=by
 obtain ⟨hI,hs⟩:=Fh va vb (n:=n) (by omega);have h1:=hI.ia;have h2:=hI.jb;rw [MO (List.getElem?_eq_none (by omega)),MO (List.getElem?_eq_none (by omega))];rfl
theorem gc {n:Nat} {x:AD} (hx:Nq a b n=some x):(wk (kx a (Am a b n).1) (kx b (Am a b n).2)).2=false/\wn (kx a (Am a b n).1) (kx b (Am a b n).2)=Oy a b n:=by
 unfold Nq at hx;unfold Oy;cases g:Hs a b (Am a b n).1 (Am a b n).2 with
 | true=>rw [if_pos g] at hx;rw [(Xd g).1,(Xd g).2,GC hx];exact ⟨rfl,rfl⟩
 | false=>rw [if_neg (by simp [g])] at hx;rw [(Xe g).1,(Xe g).2,GC hx];exact ⟨rfl,rfl⟩
theorem gf:G1 [a,b]=some (A1 a b (a.length+b.length),(Hf a b (a.length+b.length),0)):=by
 have la:=va.len;have lb:=vb.len;unfold G1;rw [LU va vb,AB,AN,if_pos rfl];refine Eq.trans (b:=bd (loop _ (0,[([],false),([],false)])) _) rfl ?_;refine BC (x:=(0,((2,[kx a 0,kx b 0]),()))) (Cb (s1:=(1,[kx a 0,([],false)])) (s2:=(2,[kx a 0,kx b 0])) ?_ ?_ rfl) ?_
 ·show bd (BI (a,((0:Nat):Int))) _=_;rw [Gs (by omega)];rfl
 ·show bd (BI (b,((0:Nat):Int))) _=_;rw [Gs (by omega)];rfl
 rw [show ((0:Nat),(((2:Int),[kx a 0,kx b 0]),())).2.1.2=[kx a 0,kx b 0] from rfl,NF (Bh _ _) (Bh _ _),AB]
 refine BC (x:=(0,((A1 a b (a.length+b.length),(Hf a b (a.length+b.length),((),([((Am a b (a.length+b.length)).1:Int),((Am a b (a.length+b.length)).2:Int)],Tt (kx a (Am a b (a.length+b.length)).1) (kx b (Am a b (a.length+b.length)).2))))),())))
  (Ij (λk=>(A1 a b k,(Hf a b k,((),([((Am a b k).1:Int),((Am a b k).2:Int)],Tt (kx a (Am a b k).1) (kx b (Am a b k).2)))))) 0 (a.length+b.length) rfl (by omega) (by omega) (λk _ hk => ?_) ?_) rfl
 ·obtain ⟨x,hx,_⟩:=EH va vb (n:=k) hk;obtain ⟨w1,w2⟩:=gc va vb hx;obtain ⟨hI,hs⟩:=Fh va vb (n:=k) (by omega);have hl1:(A1 a b k).length=k:=Ch va vb (by omega);have hl2:=NG a b k;simp only;rw [He (Bh _ _) (Bh _ _),if_neg (by simp [w1]),AB,AN,if_pos rfl,w2];rw [Gk va vb hx];unfold Nq at hx;rw [show Hf a b (k+1)=Hf a b k++[(Oy a b k:Int)] from rfl];unfold Oy;rw [show Am a b (k+1)=if Hs a b (Am a b k).1 (Am a b k).2=true then ((Am a b k).1+1,(Am a b k).2) else ((Am a b k).1,(Am a b k).2+1) from rfl]
  have g1 : ∀ {β:Type} (y:AD) (q:Unit->Option β),gd (BO (Ar (AA (A1 a b k)) (AA [y])) 1048576) q=q ():=λy q=>Bl (by simp only [Ar,AA,hl1,List.length_cons,List.length_nil];omega) q;have g2 : ∀ {β:Type} (y:Int) (q:Unit->Option β),gd (BO (Ar (AA (Hf a b k)) (AA [y])) 1048576) q=q ():=λy q=>Bl (by simp only [Ar,AA,hl2,List.length_cons,List.length_nil];omega) q;cases g:Hs a b (Am a b k).1 (Am a b k).2 with
  | true =>
   rw [if_pos g] at hx;obtain ⟨hkk,_⟩:=Xd g;obtain ⟨m,hr⟩:=H6 (p:=kx a (Am a b k).1) (q:=kx b (Am a b k).2) (k:=kx a ((Am a b k).1+1)) (Bh _ _) (Bh _ _) (Bh _ _) w1 (by rw [hkk,GC hx];exact N8 va hx)
   have hrk:rk (kx a (Am a b k).1) (kx b (Am a b k).2) (kx a ((Am a b k).1+1))=(kx a ((Am a b k).1+1),kx b (Am a b k).2):=by
    unfold rk;unfold Hs at g;rw [if_pos g]
   rw [hrk] at hr;have hi:=(List.getElem?_eq_some_iff.1 hx).1;simp only [if_true];refine (J2 0 rfl (x:=a) rfl).trans ((J2 0 rfl (x:=((Am a b k).1:Int)) rfl).trans ((Ei _ rfl hx).trans ?_));rw [g1,g2];refine (J2 0 rfl (x:=((Am a b k).1:Int)) rfl).trans ((J2 0 rfl (x:=((Am a b k).1:Int)) rfl).trans ((J2 0 rfl (x:=a) rfl).trans ((J2 0 rfl (x:=AI .i64 ((Am a b k).1:Int) 1) rfl).trans ?_)));rw [Ac (by omega),Gs (by omega),AB,hr,AB];rfl
  | false =>
   rw [if_neg (by simp [g])] at hx;obtain ⟨hkk,_⟩:=Xe g;obtain ⟨m,hr⟩:=H6 (p:=kx a (Am a b k).1) (q:=kx b (Am a b k).2) (k:=kx b ((Am a b k).2+1)) (Bh _ _) (Bh _ _) (Bh _ _) w1 (by rw [hkk,GC hx];exact N8 vb hx)
   have hrk:rk (kx a (Am a b k).1) (kx b (Am a b k).2) (kx b ((Am a b k).2+1))=(kx a (Am a b k).1,kx b ((Am a b k).2+1)):=by
    unfold rk;unfold Hs at g;rw [if_neg (by simp [g])]
   rw [hrk] at hr;have hi:=(List.getElem?_eq_some_iff.1 hx).1;simp only [Bool.false_eq_true,if_false];refine (J2 1 rfl (x:=b) rfl).trans ((J2 1 rfl (x:=((Am a b k).2:Int)) rfl).trans ((Ei _ rfl hx).trans ?_));rw [g1,g2];refine (J2 1 rfl (x:=((Am a b k).2:Int)) rfl).trans ((J2 1 rfl (x:=((Am a b k).2:Int)) rfl).trans ((J2 1 rfl (x:=b) rfl).trans ((J2 1 rfl (x:=AI .i64 ((Am a b k).2:Int) 1) rfl).trans ?_)));rw [Ac (by omega),Gs (by omega),AB,hr,AB];rfl
 ·simp only;rw [He (Bh _ _) (Bh _ _),if_pos (gb va vb rfl),AB,AN,if_neg (by decide),AN,if_neg (by decide)]
end
end Go.Proofs.YthpkjfabdccpdaaGreat.Pl
namespace Go.Proofs.YthpkjfabdccpdaaGreat.Pl
open Go Go.Proofs.YthpkjfabdccpdaaGreat.Sv
theorem Wf {β:Type} {out:List AD} {n:Nat} (h:out.length<=n) (hn:n<=20000) (x:AD) (k:Unit->Option β):gd (BO (Ar out.length [x].length) 1048576) k=k ():=Rp h hn x k
section
variable {a b:List AD} (va:VL a) (vb:VL b)
include va vb
theorem HE {n:Nat} (h:n<=a.length+b.length):(A1 a b (a.length+b.length)).take n=A1 a b n:=Uo va vb (Nat.le_refl _) h
theorem J3 {n:Nat} {x:AD} (bt:Bool) (hx:Nq a b n=some x):CP (s0 bt) (A1 a b (n+1))=(true,(x.1,bt)):=by
 rw [Gk va vb hx,KZ,GD]
theorem Uw (bt:Bool) {n:Nat} (h:n<=a.length+b.length):Eg (Dg a b bt n)=some 0:=by
 obtain ⟨hI,hs⟩:=Fh va vb (n:=n) h;have la:=va.len;have lb:=vb.len;have hfl:=Ii (s0 bt) (A1 a b n);have hml:(A1 a b n).length=n:=Ch va vb h;unfold Eg;rw [show (Dg a b bt n).1=Lb a b (Am a b n).1 (Am a b n).2 from rfl,KY va vb hI,AB,AN,if_pos rfl];refine BC (x:=(0,((2,(n:Int)),()))) (Cb (s1:=(1,((Am a b n).1:Int))) (s2:=(2,(n:Int))) ?_ ?_ rfl) ?_
 ·refine (Nr 0 rfl rfl (x:=((Am a b n).1:Int)) rfl).trans ?_;show some (LR.nx ((1:Int),AI .i64 0 ((Am a b n).1:Int)))=_;rw [D5 (by omega),Int.zero_add]
 ·refine (Nr 1 rfl rfl (x:=((Am a b n).2:Int)) rfl).trans ?_;show some (LR.nx ((2:Int),AI .i64 ((Am a b n).1:Int) ((Am a b n).2:Int)))=_;rw [D5 (by omega),show ((Am a b n).1:Int)+((Am a b n).2:Int)=(n:Int) by omega]
 simp only [AW,AP];rw [show (Dg a b bt n).2.2.1=FM (s0 bt) (A1 a b n) from rfl,show (Dg a b bt n).2.2.2=(n:Int) from rfl,show (Dg a b bt n).2.1=CP (s0 bt) (A1 a b n) from rfl,Ao,if_neg (by omega),Ao,if_neg (by omega),AN,if_pos rfl];rw [show (Lb a b (Am a b n).1 (Am a b n).2).1=[a,b] from rfl,gf va vb,AB,AN,if_pos rfl,AE];rw [Bl (by rw [Ch va vb (Nat.le_refl _)];exact h),Bl (Nat.zero_le _)];rw [show ER (A1 a b (a.length+b.length)) 0 n=A1 a b n from by unfold ER;rw [List.drop_zero,Nat.sub_zero];exact HE va vb h,GD];rw [show (s0 bt).2.2=bt from rfl,Xg (by omega) (Hg va vb bt h),AB,AN,if_pos rfl];unfold CY;rw [AB,Ao];cases n with
 | zero =>
  rw [if_neg (by omega),O3 _ (by omega),AB,J0,Al];show br (Ab (Bn (Sv.beq false false) (Bn (seq [] []) (Bn (Sv.beq bt bt) true)))) _ _=_;rw [HL,HL,JB];rfl
 | succ m =>
  obtain ⟨x,hx,_⟩:=EH va vb (n:=m) (by omega);rw [if_pos (by omega),show CE .i64 ((m+1:Nat):Int) 1=(m:Int) by rw [CF (by omega)];omega,AE];rw [AK (x:=x) (by rw [Ih va vb (Nat.le_refl _) (by omega)];exact hx),O3 _ (by omega),AB,J0,Al,J3 va vb bt hx];rw [HL,HL,JB];rfl
theorem aD {n:Nat} (h:n<=a.length+b.length):GB (LV a b n)=some (((a.length+b.length-n:Nat):Int),0):=by
 obtain ⟨hI,hs⟩:=Fh va vb (n:=n) h;have la:=va.len;have lb:=vb.len;have ha:=hI.ia;have hb:=hI.jb;unfold GB;rw [show LV a b n=Lb a b (Am a b n).1 (Am a b n).2 from rfl,KY va vb hI,AB,AN,if_pos rfl];refine BC (x:=(0,((2,((a.length+b.length-n:Nat):Int)),()))) (Cb (s1:=(1,(a.length:Int)-((Am a b n).1:Int))) (s2:=(2,((a.length+b.length-n:Nat):Int))) ?_ ?_ rfl) rfl
 ·refine (Nr 0 rfl rfl (x:=a) rfl).trans ((Ei 0 rfl (x:=((Am a b n).1:Int)) rfl).trans ?_);simp only [AW,AP];rw [CF (by omega)];show some (LR.nx ((1:Int),AI .i64 0 ((a.length:Int)-((Am a b n).1:Int))))=_;rw [D5 (by omega),Int.zero_add]
 ·refine (Nr 1 rfl rfl (x:=b) rfl).trans ((Ei 1 rfl (x:=((Am a b n).2:Int)) rfl).trans ?_);simp only [AW,AP];rw [CF (by omega)];show some (LR.nx ((2:Int),AI .i64 ((a.length:Int)-((Am a b n).1:Int)) ((b.length:Int)-((Am a b n).2:Int))))=_;rw [D5 (by omega),show (a.length:Int)-((Am a b n).1:Int)+((b.length:Int)-((Am a b n).2:Int))=((a.length+b.length-n:Nat):Int) by omega]
theorem NH (bt:Bool) {n:Nat} (h:n<=a.length+b.length):Bi (Dg a b bt n)=some (((a.length+b.length-n:Nat):Int),0):=by
 unfold Bi;rw [Uw va vb bt h,AB,AN,if_pos rfl,show (Dg a b bt n).1=LV a b n from rfl,aD va vb h];rfl
theorem O4 (bt:Bool) {n:Nat} {x:AD} (hx:Nq a b n=some x):Dg a b bt (n+1)=(LV a b (n+1),((true,(x.1,bt)),(FM (s0 bt) (A1 a b n)++(if keep (CP (s0 bt) (A1 a b n)) x=true then [x] else []),((n+1:Nat):Int)))):=by
 unfold Dg;rw [Gk va vb hx,KZ,GD,TD]
theorem JC (bt:Bool) {n:Nat} {x:AD} (hn:n<a.length+b.length) (hx:Nq a b n=some x):CA (CP (s0 bt) (A1 a b n),x)=some (keep (CP (s0 bt) (A1 a b n)) x,((true,(x.1,bt)),0)):=by
 have hlm:=Uv va vb bt (n:=n) (by omega);rw [Xf hlm.1 hlm.2 (Z8 va vb hx),GD];intro h1;cases n with
 | zero=>cases h1
 | succ m =>
  obtain ⟨y,hy,_⟩:=EH va vb (n:=m) (by omega);rw [J3 va vb bt hy];exact Wc va vb (by omega) hy hx
def iL (k:Int) (s:H5):Int×(Int×(List (List AD)×(List Int×(List AM×(List Int×(Int×(Bool×(MK×(Bool×(List AD×Int)))))))))) :=
 (k,(0,(s.1.1,(s.1.2.1,(s.1.2.2.1,(s.1.2.2.2.1,(s.1.2.2.2.2,(s.2.1.1,(s.2.1.2.1,(s.2.1.2.2,(s.2.2.1,s.2.2.2)))))))))))
theorem QU (bt:Bool) {n:Nat} (h:n<=a.length+b.length) {k:Nat}:Bz (Dg a b bt n,(k:Int))=some (Dg a b bt (n+min k (a.length+b.length-n)),(((min k (a.length+b.length-n):Nat):Int),0)):=by
 have la:=va.len;have lb:=vb.len;have hml : ∀ m,m<=a.length+b.length->(FM (s0 bt) (A1 a b m)).length<=m:=λm hm=>by have:=Ii (s0 bt) (A1 a b m);have:=Ch va vb hm;omega
 obtain ⟨u,hu⟩ : ∃ u,u=min k (a.length+b.length-n):=⟨_,rfl⟩
 have him:Na (k:Int) ((a.length+b.length-n:Nat):Int)=(u:Int):=by
  unfold Na;split<;>omega
 rw [<- hu];unfold Bz;rw [NH va vb bt h,AB,AN,if_pos rfl];simp only [him,AW,AP];rw [BB,if_neg (by omega),show (Dg a b bt n).2.2.2=(n:Int) from rfl,D5 (by omega),Ao,if_neg (by omega)];rw [show (Dg a b bt n).2.2.1=FM (s0 bt) (A1 a b n) from rfl,show (Dg a b bt n).1=LV a b n from rfl,Bl (by have:=hml n h;omega),Bl (show (LV a b n).2.1.length<=1048576 from (show 2<=1048576 by omega)),BB];by_cases h0:u=0
 ·rw [h0,if_neg (by omega)];rfl
 rw [if_pos (by omega)];obtain ⟨x,hx,_⟩:=EH va vb (n:=n) (by omega);rw [Oz va vb (by omega) hx,AB,AN,if_pos rfl,show (Dg a b bt n).2.1=CP (s0 bt) (A1 a b n) from rfl,JC va vb bt (by omega) hx,AB,AN,if_pos rfl]
 have hl : ∀ j,1<=j->j<u -> ∃ y,Nq a b (n+j)=some y:=λj h1 h2=>by
  obtain ⟨y,hy,_⟩:=EH va vb (n:=n+j) (by omega);exact ⟨y,hy⟩
 rw [FG];have hS:=O4 va vb bt hx;cases hk:keep (CP (s0 bt) (A1 a b n)) x with
 | true =>
  rw [hk] at hS;rw [if_pos rfl,Wf (hml n h) (by omega)];refine BC (x:=(1,(iL u (Dg a b bt (n+u)),()))) (Ij (λj=>iL j (Dg a b bt (n+j))) 1 u ?_ (by omega) (by omega) (λj h1 h2 => ?_) ?_) ?_
  ·rw [hS,show AI .i64 (n:Int) 1=((n+1:Nat):Int) from Ac (by omega)];rfl
  ·obtain ⟨y,hy⟩:=hl j h1 h2;show br (Ah (j:Int) (u:Int)) _ _=_;rw [BB,if_pos (by omega)];show bd (B5 (LV a b (n+j))) _=_;rw [Oz va vb (by omega) hy,AB,AN,if_pos rfl];show bd (CA (CP (s0 bt) (A1 a b (n+j)),y)) _=_;rw [JC va vb bt (by omega) hy,AB,AN,if_pos rfl,FG,show n+(j+1)=n+j+1 by omega,O4 va vb bt hy];cases hk2:keep (CP (s0 bt) (A1 a b (n+j))) y with
   | true =>
    rw [if_pos rfl,if_pos rfl];show gd (BO (Ar (AA (FM (s0 bt) (A1 a b (n+j)))) (AA [y])) 1048576) _=_;rw [Rp (hml _ (by omega)) (by omega)];show some (LR.nx (AI .i64 (j:Int) 1,_))=_;unfold iL;simp only [Ac (show j+1<=9223372036854775807 by omega),B3];rw [show AI .i64 (Dg a b bt (n+j)).2.2.2 1=((n+j+1:Nat):Int) from Ac (by omega)];rfl
   | false =>
    rw [if_neg (by simp),if_neg (by simp)];show some (LR.nx (AI .i64 (j:Int) 1,_))=_;unfold iL;simp only [Ac (show j+1<=9223372036854775807 by omega)];rw [show AI .i64 (Dg a b bt (n+j)).2.2.2 1=((n+j+1:Nat):Int) from Ac (by omega),List.append_nil];rfl
  ·show br (Ah (u:Int) (u:Int)) _ _=_;rw [BB,if_neg (by omega)]
  ·rfl
 | false =>
  rw [hk] at hS;rw [if_neg (by simp)];refine BC (x:=(1,(iL u (Dg a b bt (n+u)),()))) (Ij (λj=>iL j (Dg a b bt (n+j))) 1 u ?_ (by omega) (by omega) (λj h1 h2 => ?_) ?_) ?_
  ·rw [hS,show AI .i64 (n:Int) 1=((n+1:Nat):Int) from Ac (by omega),if_neg (by simp),List.append_nil];rfl
  ·obtain ⟨y,hy⟩:=hl j h1 h2;show br (Ah (j:Int) (u:Int)) _ _=_;rw [BB,if_pos (by omega)];show bd (B5 (LV a b (n+j))) _=_;rw [Oz va vb (by omega) hy,AB,AN,if_pos rfl];show bd (CA (CP (s0 bt) (A1 a b (n+j)),y)) _=_;rw [JC va vb bt (by omega) hy,AB,AN,if_pos rfl,FG,show n+(j+1)=n+j+1 by omega,O4 va vb bt hy];cases hk2:keep (CP (s0 bt) (A1 a b (n+j))) y with
   | true =>
    rw [if_pos rfl,if_pos rfl];show gd (BO (Ar (AA (FM (s0 bt) (A1 a b (n+j)))) (AA [y])) 1048576) _=_;rw [Rp (hml _ (by omega)) (by omega)];show some (LR.nx (AI .i64 (j:Int) 1,_))=_;unfold iL;simp only [Ac (show j+1<=9223372036854775807 by omega),B3];rw [show AI .i64 (Dg a b bt (n+j)).2.2.2 1=((n+j+1:Nat):Int) from Ac (by omega)];rfl
   | false =>
    rw [if_neg (by simp),if_neg (by simp)];show some (LR.nx (AI .i64 (j:Int) 1,_))=_;unfold iL;simp only [Ac (show j+1<=9223372036854775807 by omega)];rw [show AI .i64 (Dg a b bt (n+j)).2.2.2 1=((n+j+1:Nat):Int) from Ac (by omega),List.append_nil];rfl
  ·show br (Ah (u:Int) (u:Int)) _ _=_;rw [BB,if_neg (by omega)]
  ·rfl
end
end Go.Proofs.YthpkjfabdccpdaaGreat.Pl
namespace Go.Proofs.YthpkjfabdccpdaaGreat.Pl
open Go Go.Proofs.YthpkjfabdccpdaaGreat.Sv
theorem HF {α β σ S:Type} {l:List α} (mk:Nat->σ->S) (I:List α->Nat->σ->Prop) (Q:β->Prop) {f:S->Option (LR S β)} {s:S} (st:σ) (h0:s=mk 0 st) (hl:l.length<=9223372036854775807) (hi:I l 0 st)
  (hn : ∀ st,I [] l.length st -> ∃ r,f (mk l.length st)=some (.dn r)/\Q r)
  (hc : ∀ k x m st,l.drop k=x::m->l[k]? = some x->k<l.length->I (x::m) k st->(∃ st',f (mk k st)=some (.nx (mk (k+1) st'))/\I m (k+1) st') \/ ∃ r,f (mk k st)=some (.dn r)/\Q r) : ∃ r,loop f s=some r/\Q r:=by
 subst h0
 have main : ∀ (m:List α) (k n:Nat) (st:σ),l.drop k=m->k<=l.length->m.length<n->I m k st -> ∃ r,Dk n f (mk k st)=some r/\Q r:=by
  intro m
  induction m with
  | nil =>
   intro k n st hm hk hn' hi;obtain ⟨n,rfl⟩ : ∃ j,n=j+1:=⟨n-1,by omega⟩
   have hkl:k=l.length:=by
    have:=congrArg List.length hm;simp at this;omega
   subst hkl;obtain ⟨r,h1,h2⟩:=hn st hi;exact ⟨r,BN h1,h2⟩
  | cons x m ih =>
   intro k n st hm hk hn' hi;obtain ⟨n,rfl⟩ : ∃ j,n=j+1:=⟨n-1,by omega⟩
   have hx:l[k]? = some x:=by
    have:=congrArg List.head? hm;rw [List.head?_drop] at this;simpa using this
   have hk':k<l.length:=(List.getElem?_eq_some_iff.1 hx).1
   have hm2:l.drop (k+1)=m:=by
    have:=congrArg List.tail hm;rw [List.tail_drop] at this;simpa using this
   rcases hc k x m st hm hx hk' hi with ⟨st',h1,h2⟩ | ⟨r,h1,h2⟩
   ·rw [BF h1];exact ih (k+1) n st' hm2 (by omega) (by simp at hn';omega) h2
   ·exact ⟨r,BN h1,h2⟩
 exact main l 0 _ st (by simp) (by omega) (by omega) hi
theorem Ik {α:Type} (l m:List α) (hl:l.length=m.length) (hb:l.length<=9223372036854775806) {f:(Int×Bool)->Option (LR (Int×Bool) (Nat×((Int×Bool)×Unit)))}
  (hs : ∀ (k:Nat) x y,l[k]? = some x->m[k]? = some y->(x=y->f ((k:Int),false)=some (.nx (((k+1:Nat):Int),false)))/\(x≠y->f ((k:Int),false)=some (.dn (0,(((k:Int),false),())))))
  (he:f ((l.length:Int),false)=some (.dn (1,(((l.length:Int),false),())))) :
  ∃ r,loop f (0,false)=some r/\((l=m/\r.1=1)\/(l≠m/\r.1=0/\r.2.1.2=false)):=by
 refine HF (l:=l) (σ:=Unit) (λk _=>((k:Int),false)) (λt k _=>t=l.drop k/\l.take k=m.take k) _ () rfl (by omega) ⟨by simp,by simp⟩ (λst h => ?_) (λk x t st hd hx hk h => ?_)
 ·refine ⟨_,he,.inl ⟨?_,rfl⟩⟩;have:=h.2;rw [List.take_length,hl,List.take_length] at this;exact this
 ·have hk2:k<m.length:=by omega
  have hy:m[k]? = some m[k]:=by simp [hk2]
  by_cases e:x=m[k]
  ·refine .inl ⟨(),(hs k x m[k] hx hy).1 e,?_,?_⟩
   ·have:=congrArg List.tail hd;rw [List.tail_drop] at this;simp at this;exact this.symm
   ·rw [List.take_add_one,List.take_add_one,h.2,hx,hy,e]
  ·refine .inr ⟨_,(hs k x m[k] hx hy).2 e,.inr ⟨?_,rfl,rfl⟩⟩;intro e2;subst e2;rw [hx] at hy;exact e (Option.some.inj hy)
theorem beq_eq (a b:Bool):Sv.beq a b=decide (a=b):=by cases a<;>cases b<;>rfl
theorem Ej (a b:Int):BP a b=decide (a=b):=by
 unfold BP;by_cases h:a=b<;>simp [h]
theorem JD (p q:Prop) [Decidable p] [Decidable q]:Bn (decide p) (decide q)=decide (p/\q):=by unfold Bn;simp
theorem Ci (p:Prop) [Decidable p]:Ab (decide p)=decide (¬ p):=by unfold Ab;simp
theorem MP (a:Bool):Bn a true=a:=by cases a<;>rfl
theorem Xh (l m:List AM) (hb:l.length<=9223372036854775806):Ak (l,m)=some (decide (l=m)):=by
 unfold Ak;simp only [AW,AP];rw [AN];by_cases hl:(l.length:Int)=(m.length:Int)
 ·rw [if_pos hl];have hl2:l.length=m.length:=by omega
  obtain ⟨r,h1,h2⟩:=Ik l m hl2 hb (f:=λs0=>br (Ah s0.1 (l.length:Int)) (λ_=>AS s0.1 λk1=>ix l k1 λx2=>AS s0.1 λk3=>ix m k3 λx4=>br (Ab (Bn (seq x2.1 x4.1) (Bn (Sv.beq x2.2 x4.2) true))) (λ_=>some (.dn ((0,((s0.1,false),()))))) λ_=>some (.nx (AI .i64 s0.1 1,s0.2))) λ_=>some (.dn ((1,(s0,()))))) (λk x y hx hy=>by
    have hk:=(List.getElem?_eq_some_iff.1 hx).1
    have he : ∀ {β:Type} (u v:Unit->Option β),br (Ab (Bn (seq x.1 y.1) (Bn (Sv.beq x.2 y.2) true))) u v=if x=y then v () else u ():=by
     intro β u v;rw [MP,LS,beq_eq,JD,Ci,Cp];by_cases e:x=y
     ·subst e;simp
     ·rw [if_pos (λh=>e (Prod.ext h.1 h.2)),if_neg e]
    constructor
    ·intro e;simp only;rw [rl hk,AR,AE,AK hx,AE,AK hy,he,if_pos e,Ac (by omega)]
    ·intro e;simp only
     rw [rl hk,AR,AE,AK hx,AE,AK hy,he,if_neg e]) (by simp only;rw [re];rfl)
  refine BC h1 ?_;rcases h2 with ⟨e,h2⟩ | ⟨e,h2,h3⟩
  ·rw [CX,h2];simp [e]
  ·rw [CX,h2];simp [e,h3]
 ·rw [if_neg hl];have : ¬ l=m:=λe=>hl (by rw [e]);simp [this]
theorem Ka (l m:List Int) (hb:l.length<=9223372036854775806):Ae (l,m)=some (decide (l=m)):=by
 unfold Ae;simp only [AW,AP];rw [AN];by_cases hl:(l.length:Int)=(m.length:Int)
 ·rw [if_pos hl];have hl2:l.length=m.length:=by omega
  obtain ⟨r,h1,h2⟩:=Ik l m hl2 hb (f:=λs0=>br (Ah s0.1 (l.length:Int)) (λ_=>AS s0.1 λk1=>ix l k1 λx2=>AS s0.1 λk3=>ix m k3 λx4=>br (A7 x2 x4) (λ_=>some (.dn ((0,((s0.1,false),()))))) λ_=>some (.nx (AI .i64 s0.1 1,s0.2))) λ_=>some (.dn ((1,(s0,()))))) (λk x y hx hy=>by
    have hk:=(List.getElem?_eq_some_iff.1 hx).1;constructor
    ·intro e;simp only;rw [rl hk,AR,AE,AK hx,AE,AK hy,AN,if_pos e,Ac (by omega)]
    ·intro e;simp only
     rw [rl hk,AR,AE,AK hx,AE,AK hy,AN,if_neg e]) (by simp only;rw [re];rfl)
  refine BC h1 ?_;rcases h2 with ⟨e,h2⟩ | ⟨e,h2,h3⟩
  ·rw [CX,h2];simp [e]
  ·rw [CX,h2];simp [e,h3]
 ·rw [if_neg hl];have : ¬ l=m:=λe=>hl (by rw [e]);simp [this]
theorem O5 {β:Type} (x y:AD) (u v:Unit->Option β):br (Ab (Bn (seq x.1 y.1) (Bn (seq x.2.1 y.2.1) (Bn (Sv.beq x.2.2.1 y.2.2.1) (Bn (BP x.2.2.2 y.2.2.2) true))))) u v=if x=y then v () else u ():=by
 rw [MP,LS,LS,beq_eq,Ej,JD,JD,JD,Ci,Cp];by_cases e:x=y
 ·subst e;simp
 ·rw [if_pos (λh=>e (Prod.ext h.1 (Prod.ext h.2.1 (Prod.ext h.2.2.1 h.2.2.2)))),if_neg e]
theorem GE (l m:List AD) (hb:l.length<=9223372036854775806):BU (l,m)=some (decide (l=m)):=by
 unfold BU;simp only [AW,AP];rw [AN];by_cases hl:(l.length:Int)=(m.length:Int)
 ·rw [if_pos hl];have hl2:l.length=m.length:=by omega
  obtain ⟨r,h1,h2⟩:=Ik l m hl2 hb (f:=λs0=>br (Ah s0.1 (l.length:Int)) (λ_=>AS s0.1 λk1=>ix l k1 λx2=>AS s0.1 λk3=>ix m k3 λx4=>br (Ab (Bn (seq x2.1 x4.1) (Bn (seq x2.2.1 x4.2.1) (Bn (Sv.beq x2.2.2.1 x4.2.2.1) (Bn (BP x2.2.2.2 x4.2.2.2) true))))) (λ_=>some (.dn ((0,((s0.1,false),()))))) λ_=>some (.nx (AI .i64 s0.1 1,s0.2))) λ_=>some (.dn ((1,(s0,()))))) (λk x y hx hy=>by
    have hk:=(List.getElem?_eq_some_iff.1 hx).1;constructor
    ·intro e;simp only;rw [rl hk,AR,AE,AK hx,AE,AK hy,O5,if_pos e,Ac (by omega)]
    ·intro e;simp only
     rw [rl hk,AR,AE,AK hx,AE,AK hy,O5,if_neg e]) (by simp only;rw [re];rfl)
  refine BC h1 ?_;rcases h2 with ⟨e,h2⟩ | ⟨e,h2,h3⟩
  ·rw [CX,h2];simp [e]
  ·rw [CX,h2];simp [e,h3]
 ·rw [if_neg hl];have : ¬ l=m:=λe=>hl (by rw [e]);simp [this]
theorem Hh (l m:List AD) (hb:l.length<=9223372036854775806):Bp (l,m)=some (decide (l=m)):=by
 unfold Bp;rw [GE l m hb];rfl
instance:DecidableEq AD:=inferInstance
instance:DecidableEq (List AD):=inferInstance
instance:DecidableEq (List (List AD)):=inferInstance
instance:DecidableEq AM:=inferInstance
instance:DecidableEq D6:=inferInstance
instance:DecidableEq AL:=inferInstance
instance:DecidableEq B4:=inferInstance
instance:DecidableEq H5:=inferInstance
theorem TF (x y:H5) (h1:x.1.1.length<=1000) (h2 : ∀ l∈x.1.1,l.length<=1000000) (h3:x.1.2.1.length<=1000) (h4:x.1.2.2.1.length<=1000) (h5:x.1.2.2.2.1.length<=1000) (h6:x.2.2.1.length<=1000000):DJ (x,y)=some (decide (x=y)):=by
 obtain ⟨⟨xr,xa,xk,xl,xw⟩,⟨xs,xt,xb⟩,xo,xn⟩:=x;obtain ⟨⟨yr,ya,yk,yl,yw⟩,⟨ys,yt,yb⟩,yo,yn⟩:=y;simp only at h1 h2 h3 h4 h5 h6;unfold DJ;simp only [AW,AP];rw [AN];by_cases hl:(xr.length:Int)=(yr.length:Int)
 ·rw [if_pos hl];have hl2:xr.length=yr.length:=by omega
  obtain ⟨r,q1,q2⟩:=Ik xr yr hl2 (by omega) (f:=λs0=>br (Ah s0.1 (xr.length:Int)) (λ_=>AS s0.1 λk1=>ix xr k1 λx2=>AS s0.1 λk3=>ix yr k3 λx4=>bd (Bp (x2,x4)) λr5=>br (Ab r5) (λ_=>some (.dn ((0,((s0.1,false),()))))) λ_=>some (.nx (AI .i64 s0.1 1,s0.2))) λ_=>some (.dn ((1,(s0,()))))) (λk x y hx hy=>by
    have hk:=(List.getElem?_eq_some_iff.1 hx).1;have hx1:=h2 x (List.mem_of_getElem? hx);constructor
    ·intro e;simp only;rw [rl hk,AR,AE,AK hx,AE,AK hy,Hh _ _ (by omega),AB,Ci,Cp,if_neg (by simp [e]),Ac (by omega)]
    ·intro e;simp only
     rw [rl hk,AR,AE,AK hx,AE,AK hy,Hh _ _ (by omega),AB,Ci,Cp,if_pos e]) (by simp only;rw [re];rfl)
  refine BC q1 ?_;simp only [Ka _ _ (show xa.length<=9223372036854775806 by omega),Ka _ _ (show xl.length<=9223372036854775806 by omega),Xh _ _ (show xk.length<=9223372036854775806 by omega),Hh _ _ (show xo.length<=9223372036854775806 by omega),AB,Cp,Ej,LS,beq_eq,MP,JD,CX];rw [FG];rcases q2 with ⟨e,q2⟩ | ⟨e,q2,q3⟩
  ·rw [if_neg (show ¬ r.1=0 by omega)]
   repeat' split
   all_goals simp_all
  ·rw [if_pos q2,if_neg (show ¬ r.2.1.2=true by simp [q3])];simp [e]
 ·rw [if_neg hl];have : ¬ xr=yr:=λe=>hl (by rw [e]);simp [this]
end Go.Proofs.YthpkjfabdccpdaaGreat.Pl
namespace Go.Proofs.YthpkjfabdccpdaaGreat.Pl
open Go Go.Proofs.YthpkjfabdccpdaaGreat.Sv
def kR (ids:List Int) (most:Int) (r:BL):Int :=
 if r.1<1\/r.1>1000000 then 7 else if (FH r.2).2≠0 then (FH r.2).2 else if r.2.length=0 then 4 else if (r.2.length:Int)>most then 3 else if r.1∈ids then 8 else 0
def Ke (most:Int):Nat->List Int->List BL->Option (Nat×Int)
 | _,_,[]=>none
 | k,ids,r::rs=>if kR ids most r≠0 then some (k,kR ids most r) else Ke most (k+1) (ids++[r.1]) rs
def CH (B:Int) (i:Nat):Int:=B*2 ^ i
def Kf (B:Int):Nat->List Int->List (List BL)->Option (Nat×(Nat×Int))
 | _,_,[]=>none
 | i,ids,rs::ls=>if rs.length>2 then some (i,(0,3)) else match Ke (CH B i) 0 ids rs with
  | some (k,e)=>some (i,(k,e))
  | none=>Kf B (i+1) (ids++rs.map (·.1)) ls
def EY (L:AJ):Int×(Int×Int) :=
 if L.1<1\/L.1>16 then (0,(0,7)) else if L.2.length>12 then (0,(0,3)) else match Kf L.1 0 [] L.2 with
  | some (i,(k,e))=>((i:Int),((k:Int),e))
  | none=>if L.2.getLast? = some [] then (((L.2.length-1:Nat):Int),(0,6)) else (0,(0,0))
theorem Wg {most:Int} : ∀ {rs:List BL} {k:Nat} {ids:List Int} {k':Nat} {e:Int},Ke most k ids rs=some (k',e)->e≠0
 | [],_,_,_,_,h=>by cases h
 | r::rs,k,ids,k',e,h=>by
  unfold Ke at h;by_cases hk:kR ids most r≠0
  ·rw [if_pos hk] at h;cases h;exact hk
  ·rw [if_neg hk] at h;exact Wg h
theorem Rq {B:Int} : ∀ {ls:List (List BL)} {i:Nat} {ids:List Int} {i' k':Nat} {e:Int},Kf B i ids ls=some (i',(k',e))->e≠0
 | [],_,_,_,_,_,h=>by cases h
 | rs::ls,i,ids,i',k',e,h=>by
  unfold Kf at h;by_cases hk:rs.length>2
  ·rw [if_pos hk] at h;cases h;decide
  ·rw [if_neg hk] at h;cases hr:Ke (CH B i) 0 ids rs with
   | none=>rw [hr] at h;exact Rq h
   | some x=>rw [hr] at h;cases h;exact Wg hr
def Pk (ids:List Int):List (Int×Bool):=ids.map λi=>(i,true)
theorem aE (ids:List Int) (i:Int):Pe (IV (λa b=>BP a b) (Pk ids) i) false=decide (i∈ids):=by
 induction ids with
 | nil=>rfl
 | cons j ids ih =>
  show Pe (bif BP i j then some true else IV (λa b=>BP a b) (Pk ids) i) false=_
  rw [Ej];by_cases h:i=j
  ·simp [h,Pe]
  ·simp only [h,decide_false,cond_false,List.mem_cons,false_or];exact ih
theorem aF {ids:List Int} {i:Int} (h:i ∉ ids):Hn (λa b=>BP a b) (Pk ids) i true=Pk (ids++[i]):=by
 induction ids with
 | nil=>rfl
 | cons j ids ih =>
  show (bif BP i j then (i,true)::Pk ids else (j,true)::Hn (λa b=>BP a b) (Pk ids) i true)=_
  rw [Ej];have h1 : ¬ i=j:=λe=>h (by simp [e]);rw [ih (λe=>h (by simp [e]))];simp only [h1,decide_false,cond_false];rfl
theorem Rr (r:BL) (hl:r.2.length<=9223372036854775807):F8 r=some (if r.1<1\/r.1>1000000 then (-1,7) else FH r.2):=by
 unfold F8;rw [BB,Ao,G2 _ hl,AB];by_cases h:r.1<1
 ·rw [if_pos h,if_pos (.inl h)]
 ·rw [if_neg h];by_cases h2:r.1>1000000
  ·rw [if_pos h2,if_pos (.inr h2)]
  ·rw [if_neg h2,if_neg (by omega)]
theorem QV (r:BL) (most:Int) (hl:r.2.length<=9223372036854775807):Ct (r,most)=some (kR [] most r):=by
 unfold Ct kR;rw [Rr r hl,AB];simp only [AW,AP];by_cases h:r.1<1\/r.1>1000000
 ·rw [if_pos h,if_pos h];rfl
 ·rw [if_neg h,if_neg h,AN];by_cases h2:(FH r.2).2=0
  ·rw [if_pos h2,if_neg (by simp [h2]),Bc,Ao]
   repeat' split
   all_goals first | rfl | (exfalso;omega) | simp_all
  ·rw [if_neg h2,if_pos h2]
theorem i3 (ids:List Int) (most:Int) (r:BL):kR ids most r=if kR [] most r=0 then (if r.1∈ids then 8 else 0) else kR [] most r:=by
 unfold kR
 repeat' split
 all_goals simp_all
theorem i4 (i:Nat) (h:i<=12):(2:Int) ^ i<=4096/\1<=(2:Int) ^ i:=by
 have h1:(2:Nat) ^ i<=2 ^ 12:=Nat.pow_le_pow_right (by omega) h;have h2:1<=(2:Nat) ^ i:=Nat.one_le_two_pow;have h3:((2 ^ i:Nat):Int)=(2:Int) ^ i:=by simp
 omega
theorem TG {B:Int} {i:Nat} (h1:1<=B) (h2:B<=16) (hi:i<=12):1<=CH B i/\CH B i<=65536:=by
 obtain ⟨h3,h4⟩:=i4 i hi;unfold CH;constructor
 ·have:=Int.mul_le_mul h1 h4 (by omega) (by omega);omega
 ·have:=Int.mul_le_mul h2 h3 (by omega) (by omega);omega
theorem NI {B:Int} {i:Nat} (h1:1<=B) (h2:B<=16) (hi:i<=12):SZ .i64 B (i:Int)=CH B i:=by
 have h3:=TG h1 h2 hi;unfold SZ;rw [show min ((i:Int).toNat) IntKind.i64.bits=i by rw [Int.toNat_natCast];exact Nat.min_eq_left (Nat.le_trans hi (by decide))];unfold CH at h3 ⊢;exact IntWalk.i64_in _ (by omega)
def Q1:Option (Nat×(Nat×Int))->Int->Int->Int->Prop
 | some (i,(k,e)),a,b,c=>a=(k:Int)/\b=(i:Int)/\c=e
 | none,_,_,c=>c=0
def Q2 (m:List (Int×Bool)):Option (Nat×Int)->Nat->Int->Int->List (Int×Bool)->Prop
 | some (k,e),r,a,c,_=>r=0/\a=(k:Int)/\c=e
 | none,r,_,c,m'=>r=1/\c=0/\m'=m
theorem LW (L:AJ) (hb:L.2.length<=1048576) (hr : ∀ rs∈L.2,rs.length<=1048576 /\ ∀ r∈rs,r.2.length<=9223372036854775807):C2 L=some (EY L):=by
 unfold C2 EY;simp only [AW,AP];rw [BB,Ao,Ao];by_cases hB1:L.1<1
 ·rw [if_pos hB1,if_pos (.inl hB1)]
 rw [if_neg hB1];by_cases hB2:L.1>16
 ·rw [if_pos hB2,if_pos (.inr hB2)]
 rw [if_neg hB2,if_neg (show ¬ (L.1<1\/L.1>16) by omega)];by_cases hl:(L.2.length:Int)>12
 ·rw [if_pos hl,if_pos (by omega)]
 rw [if_neg hl,if_neg (by omega)];have hl2:L.2.length<=12:=by omega
 obtain ⟨T,hT⟩ : ∃ T,T=Kf L.1 0 [] L.2:=⟨_,rfl⟩;rw [<- hT]
 have hlast : ∀ r2:Int,r2=0->T=none->(br (A7 r2 0) (λ_=>(none:Option (Int×(Int×Int)))) λ_=>br (B8 (L.2.length:Int) 0) (λ_=>AS (CE .i64 (L.2.length:Int) 1) λk15=>ix L.2 k15 λx16=>br (BP (x16.length:Int) 0) (λ_=>some ((CE .i64 (L.2.length:Int) 1,(0,6)))) λ_=>some ((0,(0,0)))) λ_=>some ((0,(0,0))))=some (if L.2.getLast? = some [] then (((L.2.length-1:Nat):Int),(0,6)) else (0,(0,0))):=by
  intro r2 h0 _;rw [AN,if_pos h0,Ao];by_cases hn:L.2=[]
  ·rw [hn];rfl
  ·have hp:=List.length_pos_iff.2 hn;rw [if_pos (by omega),show CE .i64 (L.2.length:Int) 1=((L.2.length-1:Nat):Int) by rw [CF (by omega)];omega,AE,List.getLast?_eq_getElem?];have hx:L.2[L.2.length-1]? = some (L.2[L.2.length-1]'(by omega)):=by simp
   rw [AK hx,hx,Bc];by_cases he:L.2[L.2.length-1]'(by omega)=[]
   ·rw [he];simp
   ·rw [if_neg (by have:=List.length_pos_iff.2 he;omega),if_neg (by simp [he])]
 obtain ⟨r,q1,q2⟩:=HF (l:=L.2) (σ:=Int×(Int×List Int)) (λi st=>(st.1,(st.2.1,((0:Int),((i:Int),Pk st.2.2)))))
  (λm i st=>Kf L.1 i st.2.2 m=T) (λ(r:Nat×((Int×(Int×(Int×(Int×List (Int×Bool)))))×Unit))=>Q1 T r.2.1.1 r.2.1.2.1 r.2.1.2.2.1)
  (f:=λs0=>br (Ah s0.2.2.2.1 (L.2.length:Int)) (λ_=>AS s0.2.2.2.1 λk1=>ix L.2 k1 λx2=>br (B8 (x2.length:Int) 2) (λ_=>some (.dn ((0,((0,(s0.2.2.2.1,(3,s0.2.2.2))),()))))) λ_=>bd (loop (λs3=>br (Ah s3.2.1 (x2.length:Int)) (λ_=>AS s3.2.1 λk4=>ix x2 k4 λx5=>gd (G5 s0.2.2.2.1 0) λ_=>bd (Ct (x5,SZ .i64 L.1 s0.2.2.2.1)) λr6=>br (BP r6 0) (λ_=>br (Pe (IV ((λa7=>(λa8=>BP a7 a8))) s3.2.2.2 x5.1) false) (λ_=>some (.dn ((0,((s3.2.1,(s3.2.1,(8,s3.2.2.2))),()))))) λ_=>br (A7 r6 0) (λ_=>some (.dn ((0,((s3.2.1,(s3.2.1,(r6,s3.2.2.2))),()))))) λ_=>some (.nx ((s3.2.1,(AI .i64 s3.2.1 1,(r6,Hn ((λa9=>(λa10=>BP a9 a10))) s3.2.2.2 x5.1 true)))))) λ_=>br (A7 r6 0) (λ_=>some (.dn ((0,((s3.2.1,(s3.2.1,(r6,s3.2.2.2))),()))))) λ_=>some (.nx ((s3.2.1,(AI .i64 s3.2.1 1,(r6,Hn ((λa11=>(λa12=>BP a11 a12))) s3.2.2.2 x5.1 true)))))) λ_=>some (.dn ((1,(s3,()))))) ((0,(0,(s0.2.2.1,s0.2.2.2.2))))) λr13=>br (neq r13.1 0) (λ_=>some (.dn ((0,((r13.2.1.1,(s0.2.2.2.1,(r13.2.1.2.2.1,(s0.2.2.2.1,r13.2.1.2.2.2)))),()))))) λ_=>some (.nx ((r13.2.1.1,(s0.2.2.2.1,(r13.2.1.2.2.1,(AI .i64 s0.2.2.2.1 1,r13.2.1.2.2.2))))))) λ_=>some (.dn ((0,(s0,())))))
  (s:=(0,(0,(0,(0,[]))))) (0,(0,[])) rfl (by omega) hT.symm (λst h=>by
   refine ⟨_,by simp only;rw [re];rfl,?_⟩;simp only at h ⊢;rw [<- h];exact rfl) (λi rs m st hd hx hi h=>by
   obtain ⟨s1,s2,ids⟩:=st;simp only at h ⊢;obtain ⟨hrs1,hrs2⟩:=hr rs (List.mem_of_getElem? hx);rw [rl hi,AR,AE,AK hx,Ao];unfold Kf at h;by_cases h3:rs.length>2
   ·rw [if_pos (by omega)];rw [if_pos h3] at h;refine .inr ⟨_,rfl,?_⟩;rw [<- h];exact ⟨rfl,rfl,rfl⟩
   rw [if_neg (by omega)];rw [if_neg h3] at h;obtain ⟨U,hU⟩ : ∃ U,U=Ke (CH L.1 i) 0 ids rs:=⟨_,rfl⟩;rw [<- hU] at h
   obtain ⟨r,q1,q2⟩:=HF (l:=rs) (σ:=Int) (λk st=>(st,((k:Int),((0:Int),Pk (ids++(rs.take k).map (·.1))))))
    (λm k _=>Ke (CH L.1 i) k (ids++(rs.take k).map (·.1)) m=U) (λ(r:Nat×((Int×(Int×(Int×List (Int×Bool))))×Unit))=>Q2 (Pk (ids++rs.map (·.1))) U r.1 r.2.1.1 r.2.1.2.2.1 r.2.1.2.2.2)
    (f:=λs3=>br (Ah s3.2.1 (rs.length:Int)) (λ_=>AS s3.2.1 λk4=>ix rs k4 λx5=>gd (G5 (i:Int) 0) λ_=>bd (Ct (x5,SZ .i64 L.1 (i:Int))) λr6=>br (BP r6 0) (λ_=>br (Pe (IV ((λa7=>(λa8=>BP a7 a8))) s3.2.2.2 x5.1) false) (λ_=>some (.dn ((0,((s3.2.1,(s3.2.1,(8,s3.2.2.2))),()))))) λ_=>br (A7 r6 0) (λ_=>some (.dn ((0,((s3.2.1,(s3.2.1,(r6,s3.2.2.2))),()))))) λ_=>some (.nx ((s3.2.1,(AI .i64 s3.2.1 1,(r6,Hn ((λa9=>(λa10=>BP a9 a10))) s3.2.2.2 x5.1 true)))))) λ_=>br (A7 r6 0) (λ_=>some (.dn ((0,((s3.2.1,(s3.2.1,(r6,s3.2.2.2))),()))))) λ_=>some (.nx ((s3.2.1,(AI .i64 s3.2.1 1,(r6,Hn ((λa11=>(λa12=>BP a11 a12))) s3.2.2.2 x5.1 true)))))) λ_=>some (.dn ((1,(s3,())))))
    (s:=(0,(0,(0,Pk ids)))) 0 (by simp) (by omega) (by simp [hU]) (λst h=>by
     refine ⟨_,by simp only;rw [re];rfl,?_⟩;rw [<- h];exact ⟨rfl,rfl,by simp⟩) (λk r m st hd hx hk h=>by
     simp only at h ⊢;have hr2:=hrs2 r (List.mem_of_getElem? hx);have htk:(rs.take (k+1)).map (·.1)=(rs.take k).map (·.1)++[r.1]:=by rw [List.take_add_one,hx];simp
     rw [rl hk,AR,AE,AK hx,show gd (G5 (i:Int) 0)=λ(q:Unit->Option (LR (Int×(Int×(Int×List (Int×Bool)))) (Nat×((Int×(Int×(Int×List (Int×Bool))))×Unit))))=>q () from by unfold G5;simp [gd];rfl,NI (by omega) (by omega) (by omega)];simp only;rw [QV _ _ (by omega),AB,Bc,aE,AN];unfold Ke at h;rw [i3] at h;by_cases h0:kR [] (CH L.1 i) r=0
     ·rw [if_pos h0] at h;rw [if_pos h0,if_pos h0,Cp];by_cases hm:r.1∈ids++(rs.take k).map (·.1)
      ·rw [if_pos hm];rw [if_pos hm,if_pos (by decide)] at h;refine .inr ⟨_,rfl,?_⟩;rw [<- h];exact ⟨rfl,rfl,rfl⟩
      ·rw [if_neg hm];rw [if_neg hm,if_neg (by decide)] at h;refine .inl ⟨(k:Int),?_,?_⟩
       ·rw [aF hm,h0,Au hx (by omega),htk,List.append_assoc]
       ·rw [htk,<- List.append_assoc];exact h
     ·rw [if_neg h0,if_pos h0] at h;rw [if_neg h0,if_neg h0];refine .inr ⟨_,rfl,?_⟩;rw [<- h]
      exact ⟨rfl,rfl,rfl⟩)
   rw [q1,AB,CX];cases hUc:U with
   | some u =>
    obtain ⟨k,e⟩:=u;rw [hUc] at q2 h;rw [if_pos q2.1];refine .inr ⟨_,rfl,?_⟩;rw [<- h];exact ⟨q2.2.1,rfl,q2.2.2⟩
   | none =>
    rw [hUc] at q2 h;rw [if_neg (show ¬ r.1=0 by have:=q2.1;omega)];refine .inl ⟨(r.2.1.1,((i:Int),ids++rs.map (·.1))),?_,h⟩
    rw [q2.2.1,q2.2.2,Au hx (by omega)])
 refine BC q1 ?_;cases hTc:T with
 | some t =>
  obtain ⟨i,k,e⟩:=t;rw [hTc] at q2 hT;rw [AN,if_neg (by rw [q2.2.2];exact Rq hT.symm),q2.1,q2.2.1,q2.2.2]
 | none =>
  rw [hTc] at q2;have h:=hlast _ q2 hTc;have q3:r.2.1.2.2.1=0:=q2;rw [AN,if_pos q3] at h ⊢;exact h
end Go.Proofs.YthpkjfabdccpdaaGreat.Pl
namespace Go.Proofs.YthpkjfabdccpdaaGreat.Pl
open Go Go.Proofs.YthpkjfabdccpdaaGreat.Sv
structure VR (most:Int) (r:BL):Prop where
 id1:1<=r.1
 id2:r.1<=1000000
 vl:VL r.2
 ne:r.2≠[]
 le:(r.2.length:Int)<=most
theorem aG {ids:List Int} {most:Int} {r:BL}:kR ids most r=0<->VR most r/\r.1 ∉ ids:=by
 unfold kR;constructor
 ·intro h;by_cases h1:r.1<1\/r.1>1000000
  ·rw [if_pos h1] at h;cases h
  rw [if_neg h1] at h;by_cases h2:(FH r.2).2≠0
  ·rw [if_pos h2] at h;exact absurd h h2
  rw [if_neg h2] at h;by_cases h3:r.2.length=0
  ·rw [if_pos h3] at h;cases h
  rw [if_neg h3] at h;by_cases h4:(r.2.length:Int)>most
  ·rw [if_pos h4] at h;cases h
  rw [if_neg h4] at h;by_cases h5:r.1∈ids
  ·rw [if_pos h5] at h;cases h
  exact ⟨⟨by omega,by omega,ND.1 (by simpa using h2),by intro e;rw [e] at h3;exact h3 rfl,by omega⟩,h5⟩
 ·rintro ⟨h,h5⟩;rw [if_neg (by have:=h.id1;have:=h.id2;omega),if_neg (by simp [ND.2 h.vl]),if_neg (by have:=List.length_pos_iff.2 h.ne;omega),if_neg (by have:=h.le;omega),if_neg h5]
def iM (r:BL):Int:=r.1
theorem NJ {most:Int} : ∀ {rs:List BL} {k:Nat} {ids:List Int},Ke most k ids rs=none<->(∀ r∈rs,VR most r/\r.1 ∉ ids)/\(rs.map iM).Nodup
 | [],k,ids=>by simp [Ke]
 | r::rs,k,ids=>by
  unfold Ke;by_cases h:kR ids most r=0
  ·rw [if_neg (by simp [h]),NJ (rs:=rs)];have h1:=aG.1 h;simp only [List.mem_cons,forall_eq_or_imp,List.map_cons,List.nodup_cons,List.mem_append,List.not_mem_nil,or_false,List.mem_map,not_exists,not_and,not_or];constructor
   ·rintro ⟨h2,h3⟩;exact ⟨⟨h1,λx hx=>⟨(h2 x hx).1,(h2 x hx).2.1⟩⟩,λx hx e=>(h2 x hx).2.2 e,h3⟩
   ·rintro ⟨⟨_,h2⟩,h3,h4⟩;exact ⟨λx hx=>⟨(h2 x hx).1,(h2 x hx).2,h3 x hx⟩,h4⟩
  ·rw [if_pos h];simp only [reduceCtorEq,false_iff,not_and];intro h2;exact absurd (aG.2 (h2 r (by simp))) h
theorem Kb {B:Int} : ∀ {ls:List (List BL)} {i:Nat} {ids:List Int},Kf B i ids ls=none<->(∀ k rs,ls[k]? = some rs->rs.length<=2 /\ ∀ r∈rs,VR (CH B (i+k)) r/\r.1 ∉ ids)/\(ls.flatten.map iM).Nodup
 | [],i,ids=>by simp [Kf]
 | rs::ls,i,ids=>by
  unfold Kf;by_cases h:rs.length>2
  ·rw [if_pos h];simp only [reduceCtorEq,false_iff,not_and];intro h2;have:=(h2 0 rs rfl).1;omega
  ·rw [if_neg h];cases hr:Ke (CH B i) 0 ids rs with
   | some x =>
    simp only [reduceCtorEq,false_iff,not_and];intro h2 h3
    have h4:Ke (CH B i) 0 ids rs=none:=NJ.2 ⟨(h2 0 rs rfl).2,by
     simp only [List.flatten_cons,List.map_append] at h3
     exact (List.nodup_append.1 h3).1⟩
    rw [hr] at h4;cases h4
   | none =>
    have h1:=NJ.1 hr;simp only;rw [Kb (ls:=ls)];simp only [List.flatten_cons,List.map_append,List.mem_append,not_or,List.mem_map];constructor
    ·rintro ⟨h2,h3⟩;refine ⟨λk rs' hk => ?_,?_⟩
     ·cases k with
      | zero=>cases hk;exact ⟨by omega,h1.1⟩
      | succ k =>
       have h4:=h2 k rs' hk
       exact ⟨h4.1,λr hr=>by
        have:=h4.2 r hr;rw [show i+(k+1)=i+1+k by omega]
        exact ⟨this.1,this.2.1⟩⟩
     ·rw [List.nodup_append];refine ⟨h1.2,h3,?_⟩;intro a ha b hb e;subst e;obtain ⟨r,hr,e1⟩:=List.mem_map.1 ha;obtain ⟨r',hr',e2⟩:=List.mem_map.1 hb;obtain ⟨rs',hrs,hr'⟩:=List.mem_flatten.1 hr';obtain ⟨k,hk⟩:=List.getElem?_of_mem hrs;exact ((h2 k rs' hk).2 r' hr').2.2 ⟨r,hr,by unfold iM at e1 e2;omega⟩
    ·rintro ⟨h2,h3⟩;rw [List.nodup_append] at h3;refine ⟨λk rs' hk => ?_,h3.2.1⟩;have h4:=h2 (k+1) rs' hk;refine ⟨h4.1,λr hr => ?_⟩;have:=h4.2 r hr;rw [show i+(k+1)=i+1+k by omega] at this;refine ⟨this.1,this.2,?_⟩;rintro ⟨r',hr',e⟩;exact h3.2.2 (iM r') (List.mem_map_of_mem hr') (iM r) (List.mem_map_of_mem (List.mem_flatten.2 ⟨rs',List.mem_of_getElem? hk,hr⟩)) e
structure VLev (L:AJ):Prop where
 B1:1<=L.1
 B2:L.1<=16
 len:L.2.length<=12
 lev : ∀ i rs,L.2[i]? = some rs->rs.length<=2 /\ ∀ r∈rs,VR (CH L.1 i) r
 ids:(L.2.flatten.map iM).Nodup
 last:L.2.getLast? ≠ some []
theorem H7 {L:AJ}:(EY L).2.2=0<->VLev L:=by
 unfold EY;constructor
 ·intro h;by_cases h1:L.1<1\/L.1>16
  ·rw [if_pos h1] at h;cases h
  rw [if_neg h1] at h;by_cases h2:L.2.length>12
  ·rw [if_pos h2] at h;cases h
  rw [if_neg h2] at h;cases hg:Kf L.1 0 [] L.2 with
  | some x =>
   obtain ⟨i,k,e⟩:=x;rw [hg] at h;exact absurd h (Rq hg)
  | none =>
   rw [hg] at h;simp only at h;by_cases h3:L.2.getLast? = some []
   ·rw [if_pos h3] at h;cases h
   ·have h4:=Kb.1 hg
    exact ⟨by omega,by omega,by omega,λi rs hi=>by
     have:=h4.1 i rs hi;rw [Nat.zero_add] at this
     exact ⟨this.1,λr hr=>(this.2 r hr).1⟩,h4.2,h3⟩
 ·intro h
  have hg:Kf L.1 0 [] L.2=none:=Kb.2 ⟨λk rs hk=>by
   have:=h.lev k rs hk;rw [Nat.zero_add]
   exact ⟨this.1,λr hr=>⟨this.2 r hr,by simp⟩⟩,h.ids⟩
  rw [if_neg (by have:=h.B1;have:=h.B2;omega),if_neg (by have:=h.len;omega),hg];simp only;rw [if_neg h.last]
theorem GF {L:AJ} (h:VLev L):EY L=(0,(0,0)):=by
 have hg:Kf L.1 0 [] L.2=none:=Kb.2 ⟨λk rs hk=>by
  have:=h.lev k rs hk;rw [Nat.zero_add]
  exact ⟨this.1,λr hr=>⟨this.2 r hr,by simp⟩⟩,h.ids⟩
 unfold EY;rw [if_neg (by have:=h.B1;have:=h.B2;omega),if_neg (by have:=h.len;omega),hg];simp only;rw [if_neg h.last]
def E3 (l:List (List BL)):Int:=l.foldl (λm rs=>rs.foldl (λm r=>KP m r.1) m) 0
def Az:Nat->List (List BL)->List Int
 | _,[]=>[]
 | i,rs::ls=>(if rs.length=2 then [(i:Int)] else [])++Az (i+1) ls
theorem TH (L:AJ) (hb:L.2.length<=1048576) (hr : ∀ rs∈L.2,rs.length<=1048576):EE L=some (E3 L.2):=by
 unfold EE;simp only [AW,AP]
 rw [DL (l:=L.2) (σ:=Int) (s:=((0:Int),(0:Int))) (λi m=>(m,(i:Int))) (λ_ _ _=>True) (λls _ m=>(0,((ls.foldl (λm rs=>rs.foldl (λm r=>KP m r.1) m) m,(L.2.length:Int)),()))) 0 rfl (by omega) trivial (λm _=>by
  simp only;rw [re];rfl) (λi rs ls m hd hx hi _=>by
   refine ⟨rs.foldl (λm r=>KP m r.1) m,?_,trivial,rfl⟩;have h1:=hr rs (List.mem_of_getElem? hx);simp only
   rw [rl hi,AR,AE,AK hx,DL (l:=rs) (σ:=Int) (s:=((0:Int),m)) (λi m=>((i:Int),m)) (λ_ _ _=>True) (λl _ m=>(0,(((rs.length:Int),l.foldl (λm r=>KP m r.1) m),()))) m rfl (by omega) trivial (λm _=>by
    simp only;rw [re];rfl) (λk r l m hd hx hk _=>by
     refine ⟨KP m r.1,?_,trivial,rfl⟩;simp only
     rw [rl hk,AR,AE,AK hx,Au hx (by omega)]),AB,Au hx (by omega)]),AB]
 rfl
def Kg (L:AJ) (due:List Int) (i:Nat) (j:Job):Bool:=match due[i]? with
 | none=>true
 | some d=>if j.1≠d then true else if j.2.2.1.2.2=true/\j.1≠(L.2.length:Int)-1 then true else match L.2[d.toNat]? with
  | some [r0,r1]=>if j.2.2.2.2<0\/j.2.2.2.2>((r1.2.length+r0.2.length:Nat):Int) then true else decide (Dg r1.2 r0.2 j.2.2.1.2.2 j.2.2.2.2.toNat≠j.2)
  | _=>true
def Fi (L:AJ) (due:List Int):Nat->List Job->Option Nat
 | _,[]=>none
 | i,j::js=>if Kg L due i j=true then some i else Fi L due (i+1) js
def AV (s:AT):Int×Int :=
 if (EY s.1).2.2≠0 then (-1,(EY s.1).2.2) else if s.2.2<1\/s.2.2>1000001 then (-1,7) else if s.2.2<=E3 s.1.2 then (-1,6) else match Fi s.1 (Az 0 s.1.2) 0 s.2.1 with
  | some i=>((i:Int),6)
  | none=>if s.2.1.length<(Az 0 s.1.2).length then (-1,4) else (0,0)
theorem HQ : ∀ {ls:List (List BL)} {i k:Nat} {d:Int},(Az i ls)[k]? = some d -> ∃ n:Nat,d=((i+n:Nat):Int) /\ ∃ r0 r1,ls[n]? = some [r0,r1]
 | [],i,k,d,h=>by cases h
 | rs::ls,i,k,d,h=>by
  unfold Az at h;by_cases h2:rs.length=2
  ·rw [if_pos h2] at h;cases k with
   | zero =>
    simp at h;refine ⟨0,by simp [<- h],?_⟩
    match rs,h2 with
    | [r0,r1],_=>exact ⟨r0,r1,rfl⟩
   | succ k =>
    simp at h;obtain ⟨n,h3,h4⟩:=HQ h;exact ⟨n+1,by rw [h3];congr 1;omega,h4⟩
  ·rw [if_neg h2] at h;simp at h;obtain ⟨n,h3,h4⟩:=HQ h;exact ⟨n+1,by rw [h3];congr 1;omega,h4⟩
theorem Fo : ∀ (ls:List (List BL)) (i:Nat),(Az i ls).length<=ls.length
 | [],i=>Nat.le_refl _
 | rs::ls,i=>by
  have:=Fo ls (i+1);unfold Az;split<;>simp<;>omega
theorem TI {L:AJ} {n:Nat} {r0 r1:BL} (bt:Bool) (h:L.2[n]? = some [r0,r1]) (v0:VL r0.2) (v1:VL r1.2):CS (L,((n:Int),bt))=some ((n:Int),Dg r1.2 r0.2 bt 0):=by
 unfold CS;simp only;rw [AE,AK h,AK (x:=r1) rfl,AK (x:=r0) rfl,Xa v1 v0];rfl
theorem NK {a b:List AD} (va:VL a) (vb:VL b) (bt:Bool) {n:Nat} (h:n<=a.length+b.length):(Dg a b bt n).1.1.length<=1000/\(∀ l∈(Dg a b bt n).1.1,l.length<=1000000)/\(Dg a b bt n).1.2.1.length<=1000/\(Dg a b bt n).1.2.2.1.length<=1000/\(Dg a b bt n).1.2.2.2.1.length<=1000/\(Dg a b bt n).2.2.1.length<=1000000:=by
 have la:=va.len;have lb:=vb.len;refine ⟨show 2<=1000 by omega,λl hl => ?_,show 2<=1000 by omega,show 2<=1000 by omega,show 2<=1000 by omega,?_⟩
 ·have:l=a\/l=b:=by simpa [Dg,LV,Lb] using hl
  rcases this with e | e<;>subst e<;>omega
 ·have h1:=Ii (s0 bt) (A1 a b n);have h2:=Ch va vb h;show (FM (s0 bt) (A1 a b n)).length<=_;omega
theorem i5 {L:AJ} {n:Nat} {r0 r1:BL} {j:Job} (h:L.2[n]? = some [r0,r1]) (v0:VL r0.2) (v1:VL r1.2) {β:Type} (A B:Option β) :
  (bd (CS (L,((n:Int),j.2.2.1.2.2))) λr16=>bd (Bi r16.2) λr17=>br (Ah j.2.2.2.2 0) (λ_=>A) λ_=>br (B8 j.2.2.2.2 r17.1) (λ_=>A) λ_=>bd (Bz (r16.2,j.2.2.2.2)) λr18=>bd (DJ (r18.1,j.2)) λr19=>br (Ab r19) (λ_=>A) λ_=>B)
  = if j.2.2.2.2<0\/j.2.2.2.2>((r1.2.length+r0.2.length:Nat):Int) then A else if Dg r1.2 r0.2 j.2.2.1.2.2 j.2.2.2.2.toNat=j.2 then B else A:=by
 rw [TI _ h v0 v1,AB,NH v1 v0 _ (Nat.zero_le _),AB,BB,Ao,Nat.sub_zero];by_cases h1:j.2.2.2.2<0
 ·rw [if_pos h1,if_pos (.inl h1)]
 rw [if_neg h1];by_cases h2:j.2.2.2.2>((r1.2.length+r0.2.length:Nat):Int)
 ·rw [if_pos h2,if_pos (.inr h2)]
 rw [if_neg h2,if_neg (show ¬ (j.2.2.2.2<0\/j.2.2.2.2>((r1.2.length+r0.2.length:Nat):Int)) by omega)];obtain ⟨k,hk⟩ : ∃ k:Nat,j.2.2.2.2=(k:Int):=⟨j.2.2.2.2.toNat,by omega⟩;rw [hk,QU v1 v0 _ (Nat.zero_le _),AB,Nat.sub_zero,Nat.zero_add,Nat.min_eq_left (by omega),Int.toNat_natCast];obtain ⟨s1,s2,s3,s4,s5,s6⟩:=NK v1 v0 j.2.2.1.2.2 (n:=k) (by omega);rw [TF _ _ s1 s2 s3 s4 s5 s6,AB,Ci,Cp];by_cases he:Dg r1.2 r0.2 j.2.2.1.2.2 k=j.2
 ·rw [if_neg (by simp [he]),if_pos he]
 ·rw [if_pos he,if_neg he]
theorem Ux (s:AT) (hb:s.1.2.length<=1048576) (hr : ∀ rs∈s.1.2,rs.length<=1048576 /\ ∀ r∈rs,r.2.length<=9223372036854775807) (hj:s.2.1.length<=1048576):DK s=some (AV s):=by
 unfold DK AV;simp only [AW,AP];rw [LW _ hb hr,AB,AN];by_cases h0:(EY s.1).2.2=0;rotate_left
 ·rw [if_neg h0,if_pos h0]
 rw [if_pos h0,if_neg (by simp [h0]),BB,Ao,TH _ hb (λrs h=>(hr rs h).1),AB];have v:=H7.1 h0;by_cases h1:s.2.2<1
 ·rw [if_pos h1,if_pos (.inl h1)]
 rw [if_neg h1];by_cases h2:s.2.2>1000001
 ·rw [if_pos h2,if_pos (.inr h2)]
 rw [if_neg h2,if_neg (show ¬ (s.2.2<1\/s.2.2>1000001) by omega),WZ];by_cases h3:s.2.2<=E3 s.1.2
 ·rw [if_pos h3,if_pos h3]
 rw [if_neg h3,if_neg h3]
 rw [DL (l:=s.1.2) (σ:=List Int) (s:=((0:Int),([]:List Int))) (λi m=>((i:Int),m)) (λls i m=>m++Az i ls=Az 0 s.1.2) (λ_ _ _=>(0,(((s.1.2.length:Int),Az 0 s.1.2),()))) [] rfl (by omega) rfl (λm h=>by
  simp only;rw [re,Al,<- h];simp [Az]) (λi rs ls m hd hx hi h=>by
   refine ⟨m++(if rs.length=2 then [(i:Int)] else []),?_,?_,rfl⟩
   ·simp only;rw [rl hi,AR,AE,AK hx,Bc]
    have hm:m.length<=1048575:=by
     have h4:=congrArg List.length h;have h5:=Fo s.1.2 0;have h6:=v.len;rw [List.length_append] at h4;omega
    by_cases h4:rs.length=2
    ·rw [if_pos (by omega),if_pos h4,Bl (by simp only [Ar,AA,List.length_cons,List.length_nil];omega),Au hx (by omega)];rfl
    ·rw [if_neg (by omega),if_neg h4,List.append_nil,Au hx (by omega)]
   ·rw [List.append_assoc];exact h),AB]
 simp only;obtain ⟨due,hdue⟩ : ∃ due,due=Az 0 s.1.2:=⟨_,rfl⟩;have hdl:due.length<=12:=by have:=Fo s.1.2 0;have:=v.len;rw [hdue];omega
 rw [<- hdue];obtain ⟨T,hT⟩ : ∃ T,T=Fi s.1 due 0 s.2.1:=⟨_,rfl⟩;rw [<- hT]
 obtain ⟨r,q1,q2⟩:=HF (l:=s.2.1) (σ:=Unit) (λi _=>((0:Int),((0:Int),(i:Int)))) (λjs i _=>Fi s.1 due i js=T) (λ(r:Nat×((Int×(Int×Int))×Unit))=>(T=none/\r.1=1)\/(∃ i:Nat,T=some i/\r.1=0/\r.2.1.1=6/\r.2.1.2.1=(i:Int)))
  (f:=λs6=>br (Ah s6.2.2 (s.2.1.length:Int)) (λ_=>AS s6.2.2 λk7=>ix s.2.1 k7 λx8=>br (G5 s6.2.2 (due.length:Int)) (λ_=>some (.dn ((0,((6,(s6.2.2,s6.2.2)),()))))) λ_=>AS s6.2.2 λk9=>gd (Df k9 due.length) λ_=>ix due k9 λx10=>br (A7 x8.1 x10) (λ_=>some (.dn ((0,((6,(s6.2.2,s6.2.2)),()))))) λ_=>br x8.2.2.1.2.2 (λ_=>bd (Cu (s.1,x8.1)) λr11=>br (Ab r11) (λ_=>some (.dn ((0,((6,(s6.2.2,s6.2.2)),()))))) λ_=>bd (CS ((s.1,(x8.1,x8.2.2.1.2.2)))) λr12=>bd (Bi r12.2) λr13=>br (Ah x8.2.2.2.2 0) (λ_=>some (.dn ((0,((6,(s6.2.2,s6.2.2)),()))))) λ_=>br (B8 x8.2.2.2.2 r13.1) (λ_=>some (.dn ((0,((6,(s6.2.2,s6.2.2)),()))))) λ_=>bd (Bz (r12.2,x8.2.2.2.2)) λr14=>bd (DJ (r14.1,x8.2)) λr15=>br (Ab r15) (λ_=>some (.dn ((0,((6,(s6.2.2,s6.2.2)),()))))) λ_=>some (.nx ((s6.1,(s6.2.1,AI .i64 s6.2.2 1))))) λ_=>bd (CS ((s.1,(x8.1,x8.2.2.1.2.2)))) λr16=>bd (Bi r16.2) λr17=>br (Ah x8.2.2.2.2 0) (λ_=>some (.dn ((0,((6,(s6.2.2,s6.2.2)),()))))) λ_=>br (B8 x8.2.2.2.2 r17.1) (λ_=>some (.dn ((0,((6,(s6.2.2,s6.2.2)),()))))) λ_=>bd (Bz (r16.2,x8.2.2.2.2)) λr18=>bd (DJ (r18.1,x8.2)) λr19=>br (Ab r19) (λ_=>some (.dn ((0,((6,(s6.2.2,s6.2.2)),()))))) λ_=>some (.nx ((s6.1,(s6.2.1,AI .i64 s6.2.2 1))))) λ_=>some (.dn ((1,(s6,())))))
  (s:=(0,(0,0))) () rfl (by omega) hT.symm (λ_ h=>by
   refine ⟨_,by simp only;rw [re];rfl,.inl ⟨by rw [<- h];rfl,rfl⟩⟩) (λi j js _ hd hx hi h=>by
   simp only;rw [rl hi,AR,AE,AK hx,Dz];unfold Fi at h
   have hbad:Kg s.1 due i j=true -> ∃ r:Nat×((Int×(Int×Int))×Unit),(some (LR.dn ((0,((6,((i:Int),(i:Int))),()))):LR (Int×(Int×Int)) _))=some (.dn r)/\((T=none/\r.1=1)\/(∃ i:Nat,T=some i/\r.1=0/\r.2.1.1=6/\r.2.1.2.1=(i:Int))):=λhb=>by
    rw [if_pos hb] at h;exact ⟨_,rfl,.inr ⟨i,h.symm,rfl,rfl,rfl⟩⟩
   have hgood:Kg s.1 due i j=false -> ∃ st':Unit,(some (LR.nx ((0:Int),((0:Int),AI .i64 (i:Int) 1))):Option (LR _ (Nat×((Int×(Int×Int))×Unit))))=some (.nx ((0:Int),((0:Int),((i+1:Nat):Int))))/\Fi s.1 due (i+1) js=T:=λhg=>by
    rw [if_neg (by simp [hg])] at h;exact ⟨(),by rw [Au hx (by omega)],h⟩
   by_cases h1:(i:Int)>=(due.length:Int)
   ·rw [if_pos h1];exact .inr (hbad (by unfold Kg;rw [List.getElem?_eq_none (by omega)]))
   rw [if_neg h1,AE,Jx,if_pos (by omega)];have hd2:due[i]? = some (due[i]'(by omega)):=by simp
   rw [AK hd2,AN];obtain ⟨n,hn,r0,r1,hlv⟩:=HQ (ls:=s.1.2) (i:=0) (k:=i) (d:=due[i]'(by omega)) (by rw [<- hdue];exact hd2);rw [Nat.zero_add] at hn
   have hE:Kg s.1 due i j=(if j.1≠(due[i]'(by omega)) then true else if j.2.2.1.2.2=true/\j.1≠(s.1.2.length:Int)-1 then true else if j.2.2.2.2<0\/j.2.2.2.2>((r1.2.length+r0.2.length:Nat):Int) then true else decide (Dg r1.2 r0.2 j.2.2.1.2.2 j.2.2.2.2.toNat≠j.2)):=by
    unfold Kg;rw [hd2];simp only;rw [hn,Int.toNat_natCast,hlv]
   by_cases h2:j.1=(due[i]'(by omega));rotate_left
   ·rw [if_neg h2];exact .inr (hbad (by rw [hE,if_pos h2]))
   rw [if_pos h2];rw [if_neg (by simp [h2])] at hE;have hjn:j.1=(n:Int):=by rw [h2,hn]
   have hv:=(v.lev n _ hlv).2;have v0:=(hv r0 (by simp)).vl;have v1:=(hv r1 (by simp)).vl;have hlow:CE .i64 (s.1.2.length:Int) 1=(s.1.2.length:Int)-1:=CF (by omega);unfold Cu;simp only [AW,AP];rw [AB,hlow,Ej,Ci,Cp,hjn,i5 hlv v0 v1,FG];rw [hjn] at hE;by_cases h3:j.2.2.1.2.2=true/\(n:Int)≠(s.1.2.length:Int)-1
   ·rw [if_pos h3.1,if_pos h3.2];exact .inr (hbad (by rw [hE,if_pos h3]))
   rw [if_neg h3] at hE
   have h4 : ∀ {γ:Type} (A B:γ),(if j.2.2.1.2.2=true then if ¬(n:Int)=(s.1.2.length:Int)-1 then A else B else B)=B:=by
    intro γ A B;by_cases h5:j.2.2.1.2.2=true
    ·rw [if_pos h5,if_neg (λh6=>h3 ⟨h5,h6⟩)]
    ·rw [if_neg h5]
   rw [h4];by_cases h5:j.2.2.2.2<0\/j.2.2.2.2>((r1.2.length+r0.2.length:Nat):Int)
   ·rw [if_pos h5];exact .inr (hbad (by rw [hE,if_pos h5]))
   rw [if_neg h5];rw [if_neg h5] at hE;by_cases h6:Dg r1.2 r0.2 j.2.2.1.2.2 j.2.2.2.2.toNat=j.2
   ·rw [if_pos h6];exact .inl (hgood (by rw [hE];simp [h6]))
   ·rw [if_neg h6]
    exact .inr (hbad (by rw [hE];simp [h6])))
 rw [h0];refine BC q1 ?_;rw [CX];rcases q2 with ⟨q2,q3⟩ | ⟨i,q2,q3,q4,q5⟩
 ·rw [if_neg (show ¬ r.1=0 by omega),q2,BB];simp only;by_cases h7:s.2.1.length<due.length
  ·rw [if_pos (by omega),if_pos h7]
  ·rw [if_neg (by omega),if_neg h7]
 ·rw [if_pos q3,q2,q4,q5]
end Go.Proofs.YthpkjfabdccpdaaGreat.Pl
