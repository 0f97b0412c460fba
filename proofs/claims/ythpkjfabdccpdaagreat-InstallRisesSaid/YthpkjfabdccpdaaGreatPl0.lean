/- Functions of the program and of the specification as plain functions, and laws about them. No condition. -/
import Derived.Test.YthpkjfabdccpdaaGreatPs3
set_option linter.all false
namespace Go.Proofs.YthpkjfabdccpdaaGreat.Pl
open Go Go.Proofs.YthpkjfabdccpdaaGreat.Sv
set_option linter.unusedVariables false
abbrev AD:=((List UInt8)×((List UInt8)×(Bool×Int)))
abbrev BQ:=(Int×(List AD))
abbrev AI:=(Int×(List (List BQ)))
abbrev AO:=((List UInt8)×Bool)
abbrev Dw:=((List AO)×((List Int)×Int))
abbrev AN:=((List (List AD))×((List Int)×Dw))
abbrev Bu:=(Bool×((List UInt8)×Bool))
abbrev Ii:=(AN×(Bu×((List AD)×Int)))
abbrev GN:=(Int×Ii)
abbrev Ab:=(AI×((List GN)×Int))
def Eh (x:(List UInt8)):Option Int :=
 br (CD (AZ (Ep x)) 32) (λ_=>some 3) λ_=>some 0
def CA (x:AD):Option Int :=
 bd (Eh x.1) λr0=>br (A6 r0 0) (λ_=>some 3) λ_=>br (CD (AZ (Ep x.2.1)) 64) (λ_=>some 3) λ_=>br x.2.2.1 (λ_=>br (AX (seq x.2.1 [])) (λ_=>some 6) λ_=>br (Am x.2.2.2 1) (λ_=>some 7) λ_=>br (CD x.2.2.2 1000000000) (λ_=>some 7) λ_=>some 0) λ_=>br (Am x.2.2.2 1) (λ_=>some 7) λ_=>br (CD x.2.2.2 1000000000) (λ_=>some 7) λ_=>some 0
def BH (x:(List AD)):Option (Int×Int) :=
 br (CD (AZ (AA x)) 5000) (λ_=>some (((-1),3))) λ_=>bd (loop (λs0=>br (Am s0.2.2 (AZ (AA x))) (λ_=>AV s0.2.2 λk1=>ix x k1 λx2=>bd (CA x2) λr3=>br (A6 r3 0) (λ_=>some (.dn ((0,((r3,(s0.2.2,s0.2.2)),()))))) λ_=>br (CD s0.2.2 0) (λ_=>AV (Bz .i64 s0.2.2 1) λk4=>ix x k4 λx5=>br (AX (C6 x5.1 x2.1)) (λ_=>some (.dn ((0,((6,(s0.2.2,s0.2.2)),()))))) λ_=>some (.nx ((s0.1,(s0.2.1,AH .i64 s0.2.2 1))))) λ_=>some (.nx ((s0.1,(s0.2.1,AH .i64 s0.2.2 1))))) λ_=>some (.dn ((1,(s0,()))))) ((0,(0,0)))) λr6=>br (neq r6.1 0) (λ_=>some (r6.2.1.2.1,r6.2.1.1)) λ_=>some (0,0)
def Ff (x:BQ):Option (Int×Int) :=
 br (Am x.1 1) (λ_=>some (((-1),7))) λ_=>br (CD x.1 1000000) (λ_=>some (((-1),7))) λ_=>bd (BH x.2) λr0=>some r0
def Cl (x:(BQ×Int)):Option Int :=
 bd (Ff x.1) λr0=>br (A6 r0.2 0) (λ_=>some r0.2) λ_=>br (Bg (AZ (AA x.1.2)) 0) (λ_=>some 4) λ_=>br (CD (AZ (AA x.1.2)) x.2) (λ_=>some 3) λ_=>some 0
def CN (x:AI):Option (Int×(Int×Int)) :=
 br (Am x.1 1) (λ_=>some ((0,(0,7)))) λ_=>br (CD x.1 16) (λ_=>some ((0,(0,7)))) λ_=>br (CD (AZ (AA x.2)) 12) (λ_=>some ((0,(0,3)))) λ_=>bd (loop (λs0=>br (Am s0.2.2.2.1 (AZ (AA x.2))) (λ_=>AV s0.2.2.2.1 λk1=>ix x.2 k1 λx2=>br (CD (AZ (AA x2)) 2) (λ_=>some (.dn ((0,((0,(s0.2.2.2.1,(3,s0.2.2.2))),()))))) λ_=>bd (loop (λs3=>br (Am s3.2.1 (AZ (AA x2))) (λ_=>AV s3.2.1 λk4=>ix x2 k4 λx5=>gd (Gz s0.2.2.2.1 0) λ_=>bd (Cl (x5,R8 .i64 x.1 s0.2.2.2.1)) λr6=>br (Bg r6 0) (λ_=>br (PB (H3 ((λa7=>(λa8=>Bg a7 a8))) s3.2.2.2 x5.1) false) (λ_=>some (.dn ((0,((s3.2.1,(s3.2.1,(8,s3.2.2.2))),()))))) λ_=>br (A6 r6 0) (λ_=>some (.dn ((0,((s3.2.1,(s3.2.1,(r6,s3.2.2.2))),()))))) λ_=>some (.nx ((s3.2.1,(AH .i64 s3.2.1 1,(r6,HN ((λa9=>(λa10=>Bg a9 a10))) s3.2.2.2 x5.1 true)))))) λ_=>br (A6 r6 0) (λ_=>some (.dn ((0,((s3.2.1,(s3.2.1,(r6,s3.2.2.2))),()))))) λ_=>some (.nx ((s3.2.1,(AH .i64 s3.2.1 1,(r6,HN ((λa11=>(λa12=>Bg a11 a12))) s3.2.2.2 x5.1 true)))))) λ_=>some (.dn ((1,(s3,()))))) ((0,(0,(s0.2.2.1,s0.2.2.2.2))))) λr13=>br (neq r13.1 0) (λ_=>some (.dn ((0,((r13.2.1.1,(s0.2.2.2.1,(r13.2.1.2.2.1,(s0.2.2.2.1,r13.2.1.2.2.2)))),()))))) λ_=>some (.nx ((r13.2.1.1,(s0.2.2.2.1,(r13.2.1.2.2.1,(AH .i64 s0.2.2.2.1 1,r13.2.1.2.2.2))))))) λ_=>some (.dn ((0,(s0,()))))) ((0,(0,(0,(0,[])))))) λr14=>br (A6 r14.2.1.2.2.1 0) (λ_=>some ((r14.2.1.2.1,(r14.2.1.1,r14.2.1.2.2.1)))) λ_=>br (CD (AZ (AA x.2)) 0) (λ_=>AV (Bz .i64 (AZ (AA x.2)) 1) λk15=>ix x.2 k15 λx16=>br (Bg (AZ (AA x16)) 0) (λ_=>some ((Bz .i64 (AZ (AA x.2)) 1,(0,6)))) λ_=>some ((0,(0,0)))) λ_=>some ((0,(0,0)))
def D1 (x:AI):Option Int :=
 bd (loop (λs0=>br (Am s0.2 (AZ (AA x.2))) (λ_=>AV s0.2 λk1=>ix x.2 k1 λx2=>bd (loop (λs3=>br (Am s3.1 (AZ (AA x2))) (λ_=>AV s3.1 λk4=>ix x2 k4 λx5=>some (.nx (AH .i64 s3.1 1,KW s3.2 x5.1))) λ_=>some (.dn ((0,(s3,()))))) (0,s0.1)) λr6=>some (.nx (r6.2.1.2,AH .i64 s0.2 1))) λ_=>some (.dn ((0,(s0,()))))) (0,0)) λr7=>some r7.2.1.1
def Cm (x:(AI×Int)):Option Bool :=
 some (Bg x.2 (Bz .i64 (AZ (AA x.1.2)) 1))
def DM (x:(List (List AD))):Option (Int×Int) :=
 br (Bg (AZ (AA x)) 0) (λ_=>some (((-1),6))) λ_=>br (CD (AZ (AA x)) 32) (λ_=>some (((-1),3))) λ_=>bd (loop (λs0=>br (Am s0.2.2 (AZ (AA x))) (λ_=>AV s0.2.2 λk1=>ix x k1 λx2=>bd (BH x2) λr3=>br (A6 r3.2 0) (λ_=>some (.dn ((0,((r3.2,(s0.2.2,s0.2.2)),()))))) λ_=>some (.nx ((s0.1,(s0.2.1,AH .i64 s0.2.2 1))))) λ_=>some (.dn ((1,(s0,()))))) ((0,(0,0)))) λr4=>br (neq r4.1 0) (λ_=>some (r4.2.1.2.1,r4.2.1.1)) λ_=>some (0,0)
def CO (x:Bool):Option (Bool×AO) :=
 some ((false,([],x)))
def Af (x:(List (List AD))):Option (List (List AD)) :=
 gd (Bo (AA x) 1048576) λ_=>some x
def BC (x:((List AD)×Int)):Option AO :=
 br (Bg x.2 (AZ (AA x.1))) (λ_=>some ([],true)) λ_=>AV x.2 λk0=>ix x.1 k0 λx1=>some (x1.1,false)
def C9 (x:AO):Option Bool :=
 br x.2 (λ_=>some (AX (seq x.1 []))) λ_=>some false
def DN (x:(List AO)):Option Int :=
 br (Bg (AZ (AA x)) 0) (λ_=>some 6) λ_=>br (CD (AZ (AA x)) 32) (λ_=>some 3) λ_=>bd (loop (λs0=>br (Am s0.2 (AZ (AA x))) (λ_=>AV s0.2 λk1=>ix x k1 λx2=>bd (C9 x2) λr3=>br r3 (λ_=>some (.dn ((0,((s0.2,s0.2),()))))) λ_=>some (.nx (s0.1,AH .i64 s0.2 1))) λ_=>some (.dn ((1,(s0,()))))) (0,0)) λr4=>br (neq r4.1 0) (λ_=>br (Gz r4.2.1.1 0) (λ_=>some 2) λ_=>some 0) λ_=>br (Gz (-1) 0) (λ_=>some 2) λ_=>some 0
def Ag (x:(List AO)):Option (List AO) :=
 gd (Bo (AA x) 1048576) λ_=>some x
def Ei (x:(List AO)):Option Dw :=
 AV (MZ .i64 2 (AZ (AA x))) λk0=>AV (MZ .i64 2 (AZ (AA x))) λk1=>gd (Bo k1 1048576) λ_=>bd (Ag x) λr2=>AV (AZ (AA x)) λk3=>AV (AZ (AA x)) λk4=>gd (Bo k4 1048576) λ_=>bd (loop (λs5=>br (CD s5.1 0) (λ_=>br (Gz s5.1 (AZ (AA x))) (λ_=>AV s5.1 λk6=>gd (Dn k6 (AA s5.2.1)) λ_=>ix s5.2.1 k6 λx7=>some (.nx ((Bz .i64 s5.1 1,(lset s5.2.1 k6 (Bz .i64 s5.1 (AZ (AA x))),s5.2.2))))) λ_=>AV (MZ .i64 2 s5.1) λk8=>gd (Dn k8 (AA s5.2.1)) λ_=>ix s5.2.1 k8 λx9=>AV (AH .i64 (MZ .i64 2 s5.1) 1) λk10=>gd (Dn k10 (AA s5.2.1)) λ_=>ix s5.2.1 k10 λx11=>AV x9 λk12=>ix x k12 λx13=>AV x11 λk14=>ix x k14 λx15=>br (AX (beq x13.2 x15.2)) (λ_=>br (AX x15.2) (λ_=>AV s5.1 λk16=>gd (Dn k16 (AA s5.2.1)) λ_=>ix s5.2.1 k16 λx17=>AV s5.1 λk18=>gd (Dn k18 (AA s5.2.2.2.1)) λ_=>ix s5.2.2.2.1 k18 λx19=>some (.nx ((Bz .i64 s5.1 1,(lset s5.2.1 k16 x11,(s5.2.2.1,(lset s5.2.2.2.1 k18 x9,s5.2.2.2.2))))))) λ_=>AV s5.1 λk20=>gd (Dn k20 (AA s5.2.1)) λ_=>ix s5.2.1 k20 λx21=>AV s5.1 λk22=>gd (Dn k22 (AA s5.2.2.2.1)) λ_=>ix s5.2.2.2.1 k22 λx23=>some (.nx ((Bz .i64 s5.1 1,(lset s5.2.1 k20 x9,(s5.2.2.1,(lset s5.2.2.2.1 k22 x11,s5.2.2.2.2))))))) λ_=>br (AX (seq x13.1 x15.1)) (λ_=>br (AX (C6 x13.1 x15.1)) (λ_=>AV s5.1 λk24=>gd (Dn k24 (AA s5.2.1)) λ_=>ix s5.2.1 k24 λx25=>AV s5.1 λk26=>gd (Dn k26 (AA s5.2.2.2.1)) λ_=>ix s5.2.2.2.1 k26 λx27=>some (.nx ((Bz .i64 s5.1 1,(lset s5.2.1 k24 x11,(s5.2.2.1,(lset s5.2.2.2.1 k26 x9,s5.2.2.2.2))))))) λ_=>AV s5.1 λk28=>gd (Dn k28 (AA s5.2.1)) λ_=>ix s5.2.1 k28 λx29=>AV s5.1 λk30=>gd (Dn k30 (AA s5.2.2.2.1)) λ_=>ix s5.2.2.2.1 k30 λx31=>some (.nx ((Bz .i64 s5.1 1,(lset s5.2.1 k28 x9,(s5.2.2.1,(lset s5.2.2.2.1 k30 x11,s5.2.2.2.2))))))) λ_=>br (AX (Am x9 x11)) (λ_=>AV s5.1 λk32=>gd (Dn k32 (AA s5.2.1)) λ_=>ix s5.2.1 k32 λx33=>AV s5.1 λk34=>gd (Dn k34 (AA s5.2.2.2.1)) λ_=>ix s5.2.2.2.1 k34 λx35=>some (.nx ((Bz .i64 s5.1 1,(lset s5.2.1 k32 x11,(s5.2.2.1,(lset s5.2.2.2.1 k34 x9,s5.2.2.2.2))))))) λ_=>AV s5.1 λk36=>gd (Dn k36 (AA s5.2.1)) λ_=>ix s5.2.1 k36 λx37=>AV s5.1 λk38=>gd (Dn k38 (AA s5.2.2.2.1)) λ_=>ix s5.2.2.2.1 k38 λx39=>some (.nx ((Bz .i64 s5.1 1,(lset s5.2.1 k36 x9,(s5.2.2.1,(lset s5.2.2.2.1 k38 x11,s5.2.2.2.2))))))) λ_=>some (.dn ((0,(s5,()))))) ((Bz .i64 (MZ .i64 2 (AZ (AA x))) 1,(DW k1 0,(r2,(DW k4 0,(0:Int))))))) λr40=>gd (Dn 1 (AA r40.2.1.2.1)) λ_=>ix r40.2.1.2.1 1 λx41=>some ((r40.2.1.2.2.1,(r40.2.1.2.2.2.1,x41)))
def CJ (x:(List AO)):Option (Dw×Int) :=
 bd (DN x) λr0=>br (A6 r0 0) (λ_=>some ((([],([],0)),r0))) λ_=>bd (Ei x) λr1=>some (r1,0)
def ER (x:((List (List AD))×Bool)):Option ((AN×((Bool×AO)×((List AD)×Int)))×(Int×Int)) :=
 bd (DM x.1) λr0=>br (A6 r0.2 0) (λ_=>br (A6 r0.2 0) (λ_=>some (((([],([],([],([],0)))),((false,([],false)),([],0))),r0))) λ_=>bd (CO x.2) λr1=>some (((([],([],([],([],0)))),(r1,([],0))),(0,0)))) λ_=>AV (AZ (AA x.1)) λk2=>AV (AZ (AA x.1)) λk3=>gd (Bo k3 1048576) λ_=>bd (Af x.1) λr4=>AV (AZ (AA x.1)) λk5=>AV (AZ (AA x.1)) λk6=>gd (Bo k6 1048576) λ_=>bd (loop (λs7=>br (Am s7.1 (AZ (AA x.1))) (λ_=>AV s7.1 λk8=>ix x.1 k8 λx9=>AV s7.1 λk10=>gd (Dn k10 (AA (DW k3 (0:Int)))) λ_=>ix (DW k3 0) k10 λx11=>bd (BC (x9,x11)) λr12=>AV s7.1 λk13=>gd (Dn k13 (AA s7.2)) λ_=>ix s7.2 k13 λx14=>some (.nx (AH .i64 s7.1 1,lset s7.2 k13 r12))) λ_=>some (.dn ((0,(s7,()))))) ((0,DW k6 ([],false)))) λr15=>bd (CJ r15.2.1.2) λr16=>bd (CO x.2) λr17=>some ((((r4,(DW k3 0,r16.1)),(r17,([],0))),(0,0)))
def CK (x:(AI×(Int×Bool))):Option (Int×(AN×((Bool×AO)×((List AD)×Int)))) :=
 AV x.2.1 λk0=>ix x.1.2 k0 λx1=>ix x1 1 λx2=>ix x1 0 λx3=>bd (ER ([x2.2,x3.2],x.2.2)) λr4=>some (x.2.1,r4.1)
def Fg (x:((List (List AD))×(List Int))):Option Dw :=
 AV (AZ (AA x.1)) λk0=>AV (AZ (AA x.1)) λk1=>gd (Bo k1 1048576) λ_=>bd (loop (λs2=>br (Am s2.1 (AZ (AA x.1))) (λ_=>AV s2.1 λk3=>ix x.1 k3 λx4=>AV s2.1 λk5=>ix x.2 k5 λx6=>bd (BC (x4,x6)) λr7=>AV s2.1 λk8=>gd (Dn k8 (AA s2.2)) λ_=>ix s2.2 k8 λx9=>some (.nx (AH .i64 s2.1 1,lset s2.2 k8 r7))) λ_=>some (.dn ((0,(s2,()))))) ((0,DW k1 ([],false)))) λr10=>bd (CJ r10.2.1.2) λr11=>some r11.1
def Ah (x:((List AO)×(List AO))):Option Bool :=
 br (A6 (AZ (AA x.1)) (AZ (AA x.2))) (λ_=>some false) λ_=>bd (loop (λs0=>br (Am s0.1 (AZ (AA x.1))) (λ_=>AV s0.1 λk1=>ix x.1 k1 λx2=>AV s0.1 λk3=>ix x.2 k3 λx4=>br (AX (Bb (seq x2.1 x4.1) (Bb (beq x2.2 x4.2) true))) (λ_=>some (.dn ((0,((s0.1,false),()))))) λ_=>some (.nx (AH .i64 s0.1 1,s0.2))) λ_=>some (.dn ((1,(s0,()))))) (0,false)) λr5=>br (neq r5.1 0) (λ_=>some r5.2.1.2) λ_=>some true
def Ac (x:((List Int)×(List Int))):Option Bool :=
 br (A6 (AZ (AA x.1)) (AZ (AA x.2))) (λ_=>some false) λ_=>bd (loop (λs0=>br (Am s0.1 (AZ (AA x.1))) (λ_=>AV s0.1 λk1=>ix x.1 k1 λx2=>AV s0.1 λk3=>ix x.2 k3 λx4=>br (A6 x2 x4) (λ_=>some (.dn ((0,((s0.1,false),()))))) λ_=>some (.nx (AH .i64 s0.1 1,s0.2))) λ_=>some (.dn ((1,(s0,()))))) (0,false)) λr5=>br (neq r5.1 0) (λ_=>some r5.2.1.2) λ_=>some true
def D8 (x:(Dw×Dw)):Option Bool :=
 br (Bg x.1.2.2 x.2.2.2) (λ_=>bd (Ah (x.1.1,x.2.1)) λr0=>br r0 (λ_=>bd (Ac (x.1.2.1,x.2.2.1)) λr1=>some r1) λ_=>some false) λ_=>some false
def Ey (x:Dw):Option (Int×Int) :=
 bd (DN x.1) λr0=>br (A6 r0 0) (λ_=>some (0,r0)) λ_=>br (A6 (AZ (AA x.2.1)) (AZ (AA x.1))) (λ_=>some (0,6)) λ_=>bd (Ei x.1) λr1=>bd (loop (λs2=>br (Am s2.2.1 (AZ (AA r1.2.1))) (λ_=>AV s2.2.1 λk3=>ix r1.2.1 k3 λx4=>AV s2.2.1 λk5=>ix x.2.1 k5 λx6=>br (A6 x6 x4) (λ_=>some (.dn ((0,((6,(s2.2.1,s2.2.1)),()))))) λ_=>some (.nx ((s2.1,(AH .i64 s2.2.1 1,s2.2.2))))) λ_=>some (.dn ((1,(s2,()))))) ((0,(0,0)))) λr7=>br (neq r7.1 0) (λ_=>some (r7.2.1.2.2,r7.2.1.1)) λ_=>br (A6 x.2.2 r1.2.2) (λ_=>some (0,6)) λ_=>some (0,0)
def Ej (x:Dw):Option Int :=
 bd (Ey x) λr0=>br (A6 r0.2 0) (λ_=>some r0.2) λ_=>AV x.2.2 λk1=>ix x.1 k1 λx2=>br x2.2 (λ_=>some 12) λ_=>some 0
def CP (x:Dw):Option (Int×((List UInt8)×Int)) :=
 bd (Ej x) λr0=>br (A6 r0 0) (λ_=>some ((0,([],r0)))) λ_=>AV x.2.2 λk1=>ix x.1 k1 λx2=>some ((x.2.2,(x2.1,0)))
def Cz (x:(List UInt8)):Option Bool :=
 some (AX (seq x x))
def CQ (x:((List UInt8)×(List UInt8))):Option Int :=
 bd (Cz x.1) λr0=>bd (Cz x.2) λr1=>br r0 (λ_=>br r1 (λ_=>some 0) λ_=>some (-1)) λ_=>br r1 (λ_=>some 1) λ_=>br (C6 x.1 x.2) (λ_=>some (-1)) λ_=>br (C6 x.2 x.1) (λ_=>some 1) λ_=>some 0
def D2 (x:Int):Option Bool :=
 some (A6 x x)
def B8 (x:(Int×Int)):Option Int :=
 bd (D2 x.1) λr0=>bd (D2 x.2) λr1=>br r0 (λ_=>br r1 (λ_=>some 0) λ_=>some (-1)) λ_=>br r1 (λ_=>some 1) λ_=>br (Am x.1 x.2) (λ_=>some (-1)) λ_=>br (CD x.1 x.2) (λ_=>some 1) λ_=>some 0
def Fh (x:(List Int)):Option Int :=
 bd (loop (λs0=>br (Am s0.2 (AZ (AA x))) (λ_=>AV s0.2 λk1=>ix x k1 λx2=>br (A6 x2 0) (λ_=>some (.dn ((0,((x2,s0.2),()))))) λ_=>some (.nx (s0.1,AH .i64 s0.2 1))) λ_=>some (.dn ((1,(s0,()))))) (0,0)) λr3=>br (neq r3.1 0) (λ_=>some r3.2.1.1) λ_=>some 0
def DO (x:AN):Option (Int×Int) :=
 bd (DM x.1) λr0=>br (A6 r0.2 0) (λ_=>some r0) λ_=>br (A6 (AZ (AA x.2.1)) (AZ (AA x.1))) (λ_=>some (((-1),6))) λ_=>bd (loop (λs1=>br (Am s1.2.2 (AZ (AA x.2.1))) (λ_=>AV s1.2.2 λk2=>ix x.2.1 k2 λx3=>br (Am x3 0) (λ_=>some (.dn ((0,((6,(s1.2.2,s1.2.2)),()))))) λ_=>AV s1.2.2 λk4=>ix x.1 k4 λx5=>br (CD x3 (AZ (AA x5))) (λ_=>some (.dn ((0,((6,(s1.2.2,s1.2.2)),()))))) λ_=>some (.nx ((s1.1,(s1.2.1,AH .i64 s1.2.2 1))))) λ_=>some (.dn ((1,(s1,()))))) ((0,(0,0)))) λr6=>br (neq r6.1 0) (λ_=>some (r6.2.1.2.1,r6.2.1.1)) λ_=>bd (Fg (x.1,x.2.1)) λr7=>bd (D8 (x.2.2,r7)) λr8=>br (AX r8) (λ_=>some (((-1),6))) λ_=>bd (CP x.2.2) λr9=>br (A6 r9.2.2 0) (λ_=>some (0,0)) λ_=>bd (loop (λs10=>br (Am s10.2.2 (AZ (AA x.2.1))) (λ_=>AV s10.2.2 λk11=>ix x.2.1 k11 λx12=>br (CD x12 0) (λ_=>AV s10.2.2 λk13=>ix x.1 k13 λx14=>AV (Bz .i64 x12 1) λk15=>ix x14 k15 λx16=>bd (CQ (x16.1,r9.2.1)) λr17=>bd (B8 (s10.2.2,r9.1)) λr18=>bd (Fh ([r17,r18])) λr19=>br (CD r19 0) (λ_=>some (.dn ((0,((6,(r9.1,s10.2.2)),()))))) λ_=>some (.nx ((s10.1,(s10.2.1,AH .i64 s10.2.2 1))))) λ_=>some (.nx ((s10.1,(s10.2.1,AH .i64 s10.2.2 1))))) λ_=>some (.dn ((1,(s10,()))))) ((r9.2.2,(r6.2.1.2.1,0)))) λr20=>br (neq r20.1 0) (λ_=>some (r20.2.1.2.1,r20.2.1.1)) λ_=>some (0,0)
def As (x:(List Int)):Option (List Int) :=
 gd (Bo (AA x) 1048576) λ_=>some x
def BU (x:(Int×(Int×((List AO)×Unit)))):Option Bool :=
 AV x.1 λk0=>ix x.2.2.1 k0 λx1=>AV x.2.1 λk2=>ix x.2.2.1 k2 λx3=>br (AX (beq x1.2 x3.2)) (λ_=>some x3.2) λ_=>br (AX (seq x1.1 x3.1)) (λ_=>some (C6 x1.1 x3.1)) λ_=>some (Am x.1 x.2.1)
def CB (x:(Dw×AO)):Option (Dw×(Int×Int)) :=
 bd (Ej x.1) λr0=>br (A6 r0 0) (λ_=>some ((([],([],0)),(0,r0)))) λ_=>bd (DN [x.2]) λr1=>br (A6 r1 0) (λ_=>some ((([],([],0)),(0,r1)))) λ_=>br (AX x.2.2) (λ_=>AV x.1.2.2 λk2=>ix x.1.1 k2 λx3=>br (C6 x.2.1 x3.1) (λ_=>some ((([],([],0)),(0,6)))) λ_=>bd (Ag x.1.1) λr4=>bd (As x.1.2.1) λr5=>AV x.1.2.2 λk6=>gd (Dn k6 (AA r4)) λ_=>ix r4 k6 λx7=>bd (loop (λs8=>br (Bg (HP .i64 s8.2.1 2) 0) (λ_=>some (.dn ((0,((s8.1,(HP .i64 s8.2.1 2,((),s8.2.2.2))),()))))) λ_=>AV (HP .i64 s8.2.1 2) λk9=>gd (Dn k9 (AA s8.2.2.2.1)) λ_=>ix s8.2.2.2.1 k9 λx10=>bd (BU ((x10,(s8.2.2.2.2,(lset r4 k6 x.2,()))))) λr11=>br r11 (λ_=>AV (HP .i64 s8.2.1 2) λk12=>gd (Dn k12 (AA s8.2.2.2.1)) λ_=>ix s8.2.2.2.1 k12 λx13=>AV (HP .i64 s8.2.1 2) λk14=>gd (Dn k14 (AA s8.2.2.2.1)) λ_=>ix s8.2.2.2.1 k14 λx15=>some (.nx ((AH .i64 s8.1 1,(HP .i64 s8.2.1 2,((),(lset s8.2.2.2.1 k14 s8.2.2.2.2,x13))))))) λ_=>some (.nx ((AH .i64 s8.1 1,(HP .i64 s8.2.1 2,((),s8.2.2.2)))))) ((0,(AH .i64 (AZ (AA (lset r4 k6 x.2))) x.1.2.2,((),(r5,x.1.2.2)))))) λr16=>some (((lset r4 k6 x.2,r16.2.1.2.2.2),(r16.2.1.1,0)))) λ_=>bd (Ag x.1.1) λr17=>bd (As x.1.2.1) λr18=>AV x.1.2.2 λk19=>gd (Dn k19 (AA r17)) λ_=>ix r17 k19 λx20=>bd (loop (λs21=>br (Bg (HP .i64 s21.2.1 2) 0) (λ_=>some (.dn ((0,((s21.1,(HP .i64 s21.2.1 2,((),s21.2.2.2))),()))))) λ_=>AV (HP .i64 s21.2.1 2) λk22=>gd (Dn k22 (AA s21.2.2.2.1)) λ_=>ix s21.2.2.2.1 k22 λx23=>bd (BU ((x23,(s21.2.2.2.2,(lset r17 k19 x.2,()))))) λr24=>br r24 (λ_=>AV (HP .i64 s21.2.1 2) λk25=>gd (Dn k25 (AA s21.2.2.2.1)) λ_=>ix s21.2.2.2.1 k25 λx26=>AV (HP .i64 s21.2.1 2) λk27=>gd (Dn k27 (AA s21.2.2.2.1)) λ_=>ix s21.2.2.2.1 k27 λx28=>some (.nx ((AH .i64 s21.1 1,(HP .i64 s21.2.1 2,((),(lset s21.2.2.2.1 k27 s21.2.2.2.2,x26))))))) λ_=>some (.nx ((AH .i64 s21.1 1,(HP .i64 s21.2.1 2,((),s21.2.2.2)))))) ((0,(AH .i64 (AZ (AA (lset r17 k19 x.2))) x.1.2.2,((),(r18,x.1.2.2)))))) λr29=>some (((lset r17 k19 x.2,r29.2.1.2.2.2),(r29.2.1.1,0)))
def GZ (x:(List (List AD))):Option ((List AD)×((List Int)×Int)) :=
 bd (DM x) λr0=>br (A6 r0.2 0) (λ_=>br (A6 r0.2 0) (λ_=>some (([],([],r0.2)))) λ_=>bd (loop (λs1=>bd (CP (([],([],0)))) λr2=>br (A6 r2.2.2 0) (λ_=>br (A6 r2.2.2 0) (λ_=>some (.dn ((0,(s1,()))))) λ_=>gd (Bo (BF (AA s1.1) (AA ([(([],([],(false,0))):AD)]))) 1048576) λ_=>gd (Bo (BF (AA s1.2) (AA [0])) 1048576) λ_=>none) λ_=>AV r2.1 λk3=>none) ([],[])) λr4=>some ((r4.2.1.1,(r4.2.1.2,0)))) λ_=>AV (AZ (AA x)) λk5=>AV (AZ (AA x)) λk6=>gd (Bo k6 1048576) λ_=>bd (Af x) λr7=>AV (AZ (AA x)) λk8=>AV (AZ (AA x)) λk9=>gd (Bo k9 1048576) λ_=>bd (loop (λs10=>br (Am s10.1 (AZ (AA x))) (λ_=>AV s10.1 λk11=>ix x k11 λx12=>AV s10.1 λk13=>gd (Dn k13 (AA (DW k6 (0:Int)))) λ_=>ix (DW k6 0) k13 λx14=>bd (BC (x12,x14)) λr15=>AV s10.1 λk16=>gd (Dn k16 (AA s10.2)) λ_=>ix s10.2 k16 λx17=>some (.nx (AH .i64 s10.1 1,lset s10.2 k16 r15))) λ_=>some (.dn ((0,(s10,()))))) ((0,DW k9 ([],false)))) λr18=>bd (CJ r18.2.1.2) λr19=>bd (loop (λs20=>bd (CP s20.2.2.2.2) λr21=>br (A6 r21.2.2 0) (λ_=>br (A6 r21.2.2 0) (λ_=>some (.dn ((0,((s20.1,(s20.2.1,((),s20.2.2.2))),()))))) λ_=>gd (Bo (BF (AA s20.1) (AA ([(([],([],(false,0))):AD)]))) 1048576) λ_=>gd (Bo (BF (AA s20.2.1) (AA [0])) 1048576) λ_=>gd (Dn 0 (AA s20.2.2.2.1)) λ_=>ix s20.2.2.2.1 0 λx22=>gd (Dn 0 (AA s20.2.2.2.1)) λ_=>ix s20.2.2.2.1 0 λx23=>gd (Dn 0 (AA r7)) λ_=>ix r7 0 λx24=>gd (Dn 0 (AA (lset s20.2.2.2.1 0 (AH .i64 x22 1)))) λ_=>ix (lset s20.2.2.2.1 0 (AH .i64 x22 1)) 0 λx25=>bd (BC (x24,x25)) λr26=>bd (CB (s20.2.2.2.2,r26)) λr27=>some (.nx ((C3 s20.1 ([(([],([],(false,0))):AD)]),(C3 s20.2.1 [0],((),(lset s20.2.2.2.1 0 (AH .i64 x22 1),r27.1))))))) λ_=>AV r21.1 λk28=>gd (Dn k28 (AA r7)) λ_=>ix r7 k28 λx29=>AV r21.1 λk30=>gd (Dn k30 (AA s20.2.2.2.1)) λ_=>ix s20.2.2.2.1 k30 λx31=>AV x31 λk32=>ix x29 k32 λx33=>gd (Bo (BF (AA s20.1) (AA [x33])) 1048576) λ_=>gd (Bo (BF (AA s20.2.1) (AA [r21.1])) 1048576) λ_=>AV r21.1 λk34=>gd (Dn k34 (AA s20.2.2.2.1)) λ_=>ix s20.2.2.2.1 k34 λx35=>AV r21.1 λk36=>gd (Dn k36 (AA s20.2.2.2.1)) λ_=>ix s20.2.2.2.1 k36 λx37=>AV r21.1 λk38=>gd (Dn k38 (AA r7)) λ_=>ix r7 k38 λx39=>AV r21.1 λk40=>gd (Dn k40 (AA (lset s20.2.2.2.1 k36 (AH .i64 x35 1)))) λ_=>ix (lset s20.2.2.2.1 k36 (AH .i64 x35 1)) k40 λx41=>bd (BC (x39,x41)) λr42=>bd (CB (s20.2.2.2.2,r42)) λr43=>some (.nx ((C3 s20.1 [x33],(C3 s20.2.1 [r21.1],((),(lset s20.2.2.2.1 k36 (AH .i64 x35 1),r43.1))))))) (([],([],((),(DW k6 0,r19.1)))))) λr44=>some ((r44.2.1.1,(r44.2.1.2.1,0)))
def Dh (x:(Bool×AO)):Option Int :=
 bd (Eh x.2.1) λr0=>br (A6 r0 0) (λ_=>some r0) λ_=>br (AX x.1) (λ_=>br (AX (seq x.2.1 [])) (λ_=>some 6) λ_=>some 0) λ_=>some 0
def A1 (x:AD):Option AD :=
 some x
def D3 (x:((List AD)×Bool)):Option ((List AD)×(Int×Int)) :=
 br (CD (AZ (AA x.1)) 20000) (λ_=>some (([],((-1),3)))) λ_=>bd (CO x.2) λr0=>bd (loop (λs1=>br (Am s1.2.1 (AZ (AA x.1))) (λ_=>AV s1.2.1 λk2=>ix x.1 k2 λx3=>bd (Dh s1.2.2.2.1) λr4=>br (A6 r4 0) (λ_=>br (A6 r4 0) (λ_=>some (.dn ((0,((r4,(s1.2.1,(s1.2.1,s1.2.2.2))),()))))) λ_=>some (.nx ((s1.1,(AH .i64 s1.2.1 1,(s1.2.2.1,((false,([],false)),s1.2.2.2.2))))))) λ_=>bd (CA x3) λr5=>br (A6 r5 0) (λ_=>br (A6 r5 0) (λ_=>some (.dn ((0,((r5,(s1.2.1,(s1.2.1,s1.2.2.2))),()))))) λ_=>some (.nx ((s1.1,(AH .i64 s1.2.1 1,(s1.2.2.1,((false,([],false)),s1.2.2.2.2))))))) λ_=>br s1.2.2.2.1.1 (λ_=>br (C6 x3.1 s1.2.2.2.1.2.1) (λ_=>some (.dn ((0,((6,(s1.2.1,(s1.2.1,s1.2.2.2))),()))))) λ_=>br s1.2.2.2.1.1 (λ_=>br (seq x3.1 s1.2.2.2.1.2.1) (λ_=>some (.nx ((s1.1,(AH .i64 s1.2.1 1,(s1.2.2.1,((true,(x3.1,s1.2.2.2.1.2.2)),s1.2.2.2.2))))))) λ_=>br s1.2.2.2.1.2.2 (λ_=>br x3.2.2.1 (λ_=>some (.nx ((s1.1,(AH .i64 s1.2.1 1,(s1.2.2.1,((true,(x3.1,s1.2.2.2.1.2.2)),s1.2.2.2.2))))))) λ_=>bd (A1 x3) λr6=>gd (Bo (BF (AA s1.2.2.2.2) (AA [r6])) 1048576) λ_=>some (.nx ((s1.1,(AH .i64 s1.2.1 1,(s1.2.2.1,((true,(x3.1,s1.2.2.2.1.2.2)),C3 s1.2.2.2.2 [r6]))))))) λ_=>bd (A1 x3) λr7=>gd (Bo (BF (AA s1.2.2.2.2) (AA [r7])) 1048576) λ_=>some (.nx ((s1.1,(AH .i64 s1.2.1 1,(s1.2.2.1,((true,(x3.1,s1.2.2.2.1.2.2)),C3 s1.2.2.2.2 [r7]))))))) λ_=>br s1.2.2.2.1.2.2 (λ_=>br x3.2.2.1 (λ_=>some (.nx ((s1.1,(AH .i64 s1.2.1 1,(s1.2.2.1,((true,(x3.1,s1.2.2.2.1.2.2)),s1.2.2.2.2))))))) λ_=>bd (A1 x3) λr8=>gd (Bo (BF (AA s1.2.2.2.2) (AA [r8])) 1048576) λ_=>some (.nx ((s1.1,(AH .i64 s1.2.1 1,(s1.2.2.1,((true,(x3.1,s1.2.2.2.1.2.2)),C3 s1.2.2.2.2 [r8]))))))) λ_=>bd (A1 x3) λr9=>gd (Bo (BF (AA s1.2.2.2.2) (AA [r9])) 1048576) λ_=>some (.nx ((s1.1,(AH .i64 s1.2.1 1,(s1.2.2.1,((true,(x3.1,s1.2.2.2.1.2.2)),C3 s1.2.2.2.2 [r9]))))))) λ_=>br s1.2.2.2.1.1 (λ_=>br (seq x3.1 s1.2.2.2.1.2.1) (λ_=>some (.nx ((s1.1,(AH .i64 s1.2.1 1,(s1.2.2.1,((true,(x3.1,s1.2.2.2.1.2.2)),s1.2.2.2.2))))))) λ_=>br s1.2.2.2.1.2.2 (λ_=>br x3.2.2.1 (λ_=>some (.nx ((s1.1,(AH .i64 s1.2.1 1,(s1.2.2.1,((true,(x3.1,s1.2.2.2.1.2.2)),s1.2.2.2.2))))))) λ_=>bd (A1 x3) λr10=>gd (Bo (BF (AA s1.2.2.2.2) (AA [r10])) 1048576) λ_=>some (.nx ((s1.1,(AH .i64 s1.2.1 1,(s1.2.2.1,((true,(x3.1,s1.2.2.2.1.2.2)),C3 s1.2.2.2.2 [r10]))))))) λ_=>bd (A1 x3) λr11=>gd (Bo (BF (AA s1.2.2.2.2) (AA [r11])) 1048576) λ_=>some (.nx ((s1.1,(AH .i64 s1.2.1 1,(s1.2.2.1,((true,(x3.1,s1.2.2.2.1.2.2)),C3 s1.2.2.2.2 [r11]))))))) λ_=>br s1.2.2.2.1.2.2 (λ_=>br x3.2.2.1 (λ_=>some (.nx ((s1.1,(AH .i64 s1.2.1 1,(s1.2.2.1,((true,(x3.1,s1.2.2.2.1.2.2)),s1.2.2.2.2))))))) λ_=>bd (A1 x3) λr12=>gd (Bo (BF (AA s1.2.2.2.2) (AA [r12])) 1048576) λ_=>some (.nx ((s1.1,(AH .i64 s1.2.1 1,(s1.2.2.1,((true,(x3.1,s1.2.2.2.1.2.2)),C3 s1.2.2.2.2 [r12]))))))) λ_=>bd (A1 x3) λr13=>gd (Bo (BF (AA s1.2.2.2.2) (AA [r13])) 1048576) λ_=>some (.nx ((s1.1,(AH .i64 s1.2.1 1,(s1.2.2.1,((true,(x3.1,s1.2.2.2.1.2.2)),C3 s1.2.2.2.2 [r13]))))))) λ_=>some (.dn ((1,(s1,()))))) ((0,(0,(0,(r0,[])))))) λr14=>br (neq r14.1 0) (λ_=>br (A6 r14.2.1.1 0) (λ_=>some (([],(r14.2.1.2.2.1,r14.2.1.1)))) λ_=>some ((r14.2.1.2.2.2.2,(0,0)))) λ_=>some ((r14.2.1.2.2.2.2,(0,0)))
def Di (x:((List AD)×(List AD))):Option Bool :=
 br (A6 (AZ (AA x.1)) (AZ (AA x.2))) (λ_=>some false) λ_=>bd (loop (λs0=>br (Am s0.2 (AZ (AA x.1))) (λ_=>AV s0.2 λk1=>ix x.1 k1 λx2=>AV s0.2 λk3=>ix x.2 k3 λx4=>br (AX (Bb (seq x2.1 x4.1) (Bb (seq x2.2.1 x4.2.1) (Bb (beq x2.2.2.1 x4.2.2.1) (Bb (Bg x2.2.2.2 x4.2.2.2) true))))) (λ_=>some (.dn ((0,((false,s0.2),()))))) λ_=>some (.nx (s0.1,AH .i64 s0.2 1))) λ_=>some (.dn ((1,(s0,()))))) (false,0)) λr5=>br (neq r5.1 0) (λ_=>some r5.2.1.1) λ_=>some true
def ES (x:(AN×((Bool×AO)×((List AD)×Int)))):Option Int :=
 bd (DO x.1) λr0=>br (A6 r0.2 0) (λ_=>some r0.2) λ_=>bd (loop (λs1=>br (Am s1.1 (AZ (AA x.1.2.1))) (λ_=>AV s1.1 λk2=>ix x.1.2.1 k2 λx3=>some (.nx (AH .i64 s1.1 1,AH .i64 s1.2 x3))) λ_=>some (.dn ((0,(s1,()))))) (0,0)) λr4=>br (CD (AZ (AA x.2.2.1)) 20000) (λ_=>some 3) λ_=>br (CD r4.2.1.2 20000) (λ_=>some 3) λ_=>br (A6 x.2.2.2 r4.2.1.2) (λ_=>some 7) λ_=>bd (GZ x.1.1) λr5=>br (A6 r5.2.2 0) (λ_=>some r5.2.2) λ_=>AV r4.2.1.2 λk6=>gd (Bo k6 (AA r5.1)) λ_=>gd (Bo 0 k6) λ_=>bd (D3 (Er r5.1 0 k6,x.2.1.2.2)) λr7=>br (A6 r7.2.2 0) (λ_=>some r7.2.2) λ_=>bd (CO x.2.1.2.2) λr8=>br (CD r4.2.1.2 0) (λ_=>AV (Bz .i64 r4.2.1.2 1) λk9=>ix r5.1 k9 λx10=>bd (Di (x.2.2.1,r7.1)) λr11=>br (AX r11) (λ_=>some 6) λ_=>br (AX (Bb (beq x.2.1.1 true) (Bb (seq x.2.1.2.1 x10.1) (Bb (beq x.2.1.2.2 r8.2.2) true)))) (λ_=>some 6) λ_=>some 0) λ_=>bd (Di (x.2.2.1,r7.1)) λr12=>br (AX r12) (λ_=>some 6) λ_=>br (AX (Bb (beq x.2.1.1 r8.1) (Bb (seq x.2.1.2.1 r8.2.1) (Bb (beq x.2.1.2.2 r8.2.2) true)))) (λ_=>some 6) λ_=>some 0
def Fi (x:AN):Option (Int×Int) :=
 bd (DO x) λr0=>br (A6 r0.2 0) (λ_=>some (0,r0.2)) λ_=>bd (loop (λs1=>br (Am s1.1 (AZ (AA x.1))) (λ_=>AV s1.1 λk2=>ix x.1 k2 λx3=>AV s1.1 λk4=>ix x.2.1 k4 λx5=>some (.nx ((AH .i64 s1.1 1,AH .i64 s1.2 (Bz .i64 (AZ (AA x3)) x5))))) λ_=>some (.dn ((0,(s1,()))))) (0,0)) λr6=>some (r6.2.1.2,0)
def BX (x:(AN×((Bool×AO)×((List AD)×Int)))):Option (Int×Int) :=
 bd (ES x) λr0=>br (A6 r0 0) (λ_=>some (0,r0)) λ_=>bd (Fi x.1) λr1=>some r1
def Bv (x:AN):Option (AD×(Int×(AN×Int))) :=
 bd (DO x) λr0=>br (A6 r0.2 0) (λ_=>br (A6 r0.2 0) (λ_=>some (((([],([],(false,0))):AD),(0,(([],([],([],([],0)))),r0.2))))) λ_=>none) λ_=>bd (Af x.1) λr1=>bd (As x.2.1) λr2=>bd (CP x.2.2) λr3=>br (A6 r3.2.2 0) (λ_=>br (A6 r3.2.2 0) (λ_=>some (((([],([],(false,0))):AD),(0,(([],([],([],([],0)))),r3.2.2))))) λ_=>gd (Dn 0 (AA r2)) λ_=>ix r2 0 λx4=>gd (Dn 0 (AA r2)) λ_=>ix r2 0 λx5=>gd (Dn 0 (AA r1)) λ_=>ix r1 0 λx6=>gd (Dn 0 (AA (lset r2 0 (AH .i64 x4 1)))) λ_=>ix (lset r2 0 (AH .i64 x4 1)) 0 λx7=>bd (BC (x6,x7)) λr8=>bd (CB (x.2.2,r8)) λr9=>some (((([],([],(false,0))):AD),(0,((r1,(lset r2 0 (AH .i64 x4 1),r9.1)),0))))) λ_=>AV r3.1 λk10=>gd (Dn k10 (AA r1)) λ_=>ix r1 k10 λx11=>AV r3.1 λk12=>gd (Dn k12 (AA r2)) λ_=>ix r2 k12 λx13=>AV x13 λk14=>ix x11 k14 λx15=>AV r3.1 λk16=>gd (Dn k16 (AA r2)) λ_=>ix r2 k16 λx17=>AV r3.1 λk18=>gd (Dn k18 (AA r2)) λ_=>ix r2 k18 λx19=>AV r3.1 λk20=>gd (Dn k20 (AA r1)) λ_=>ix r1 k20 λx21=>AV r3.1 λk22=>gd (Dn k22 (AA (lset r2 k18 (AH .i64 x17 1)))) λ_=>ix (lset r2 k18 (AH .i64 x17 1)) k22 λx23=>bd (BC (x21,x23)) λr24=>bd (CB (x.2.2,r24)) λr25=>some ((x15,(r3.1,((r1,(lset r2 k18 (AH .i64 x17 1),r25.1)),0))))
def B0 (x:((Bool×AO)×AD)):Option (Bool×((Bool×AO)×Int)) :=
 bd (Dh x.1) λr0=>br (A6 r0 0) (λ_=>some ((false,((false,([],false)),r0)))) λ_=>bd (CA x.2) λr1=>br (A6 r1 0) (λ_=>some ((false,((false,([],false)),r1)))) λ_=>br x.1.1 (λ_=>br (C6 x.2.1 x.1.2.1) (λ_=>some ((false,((false,([],false)),6)))) λ_=>br x.1.1 (λ_=>br (seq x.2.1 x.1.2.1) (λ_=>some ((false,((true,(x.2.1,x.1.2.2)),0)))) λ_=>br x.1.2.2 (λ_=>br x.2.2.2.1 (λ_=>some ((false,((true,(x.2.1,x.1.2.2)),0)))) λ_=>some ((true,((true,(x.2.1,x.1.2.2)),0)))) λ_=>some ((true,((true,(x.2.1,x.1.2.2)),0)))) λ_=>br x.1.2.2 (λ_=>br x.2.2.2.1 (λ_=>some ((false,((true,(x.2.1,x.1.2.2)),0)))) λ_=>some ((true,((true,(x.2.1,x.1.2.2)),0)))) λ_=>some ((true,((true,(x.2.1,x.1.2.2)),0)))) λ_=>br x.1.1 (λ_=>br (seq x.2.1 x.1.2.1) (λ_=>some ((false,((true,(x.2.1,x.1.2.2)),0)))) λ_=>br x.1.2.2 (λ_=>br x.2.2.2.1 (λ_=>some ((false,((true,(x.2.1,x.1.2.2)),0)))) λ_=>some ((true,((true,(x.2.1,x.1.2.2)),0)))) λ_=>some ((true,((true,(x.2.1,x.1.2.2)),0)))) λ_=>br x.1.2.2 (λ_=>br x.2.2.2.1 (λ_=>some ((false,((true,(x.2.1,x.1.2.2)),0)))) λ_=>some ((true,((true,(x.2.1,x.1.2.2)),0)))) λ_=>some ((true,((true,(x.2.1,x.1.2.2)),0)))
def B3 (x:((AN×((Bool×AO)×((List AD)×Int)))×Int)):Option ((AN×((Bool×AO)×((List AD)×Int)))×(Int×Int)) :=
 bd (BX x.1) λr0=>br (A6 r0.2 0) (λ_=>some (((([],([],([],([],0)))),((false,([],false)),([],0))),(0,r0.2)))) λ_=>br (Am x.2 0) (λ_=>some (((([],([],([],([],0)))),((false,([],false)),([],0))),(0,7)))) λ_=>br (CD (AH .i64 x.1.2.2.2 (NL x.2 r0.1)) 20000) (λ_=>some (((([],([],([],([],0)))),((false,([],false)),([],0))),(0,3)))) λ_=>gd (Bo (AA x.1.2.2.1) 1048576) λ_=>gd (Bo (AA x.1.1.2.1) 1048576) λ_=>br (Am 0 (NL x.2 r0.1)) (λ_=>bd (Bv x.1.1) λr1=>br (A6 r1.2.2.2 0) (λ_=>br (A6 r1.2.2.2 0) (λ_=>br (A6 r1.2.2.2 0) (λ_=>some (((([],([],([],([],0)))),((false,([],false)),([],0))),(0,r1.2.2.2)))) λ_=>some ((x.1,(NL x.2 r0.1,0)))) λ_=>none) λ_=>bd (B0 (x.1.2.1,r1.1)) λr2=>br (A6 r2.2.2 0) (λ_=>br (A6 r2.2.2 0) (λ_=>br (A6 r2.2.2 0) (λ_=>some (((([],([],([],([],0)))),((false,([],false)),([],0))),(0,r2.2.2)))) λ_=>some ((x.1,(NL x.2 r0.1,0)))) λ_=>none) λ_=>br r2.1 (λ_=>gd (Bo (BF (AA x.1.2.2.1) (AA [r1.1])) 1048576) λ_=>bd (loop (λs3=>br (Am s3.1 (NL x.2 r0.1)) (λ_=>bd (Bv ((s3.2.2.1,(s3.2.2.2.1,(s3.2.2.2.2.1,(s3.2.2.2.2.2.1,s3.2.2.2.2.2.2.1)))))) λr4=>br (A6 r4.2.2.2 0) (λ_=>br (A6 r4.2.2.2 0) (λ_=>some (.dn ((0,((s3.1,(r4.2.2.2,s3.2.2)),()))))) λ_=>some (.nx (AH .i64 s3.1 1,s3.2))) λ_=>bd (B0 (((s3.2.2.2.2.2.2.2.1,(s3.2.2.2.2.2.2.2.2.1,s3.2.2.2.2.2.2.2.2.2.1)),r4.1))) λr5=>br (A6 r5.2.2 0) (λ_=>br (A6 r5.2.2 0) (λ_=>some (.dn ((0,((s3.1,(r5.2.2,s3.2.2)),()))))) λ_=>some (.nx (AH .i64 s3.1 1,s3.2))) λ_=>br r5.1 (λ_=>gd (Bo (BF (AA s3.2.2.2.2.2.2.2.2.2.2.1) (AA [r4.1])) 1048576) λ_=>some (.nx ((AH .i64 s3.1 1,(s3.2.1,(r4.2.2.1.1,(r4.2.2.1.2.1,(r4.2.2.1.2.2.1,(r4.2.2.1.2.2.2.1,(r4.2.2.1.2.2.2.2,(r5.2.1.1,(r5.2.1.2.1,(r5.2.1.2.2,(C3 s3.2.2.2.2.2.2.2.2.2.2.1 [r4.1],AH .i64 s3.2.2.2.2.2.2.2.2.2.2.2 1)))))))))))))) λ_=>some (.nx ((AH .i64 s3.1 1,(s3.2.1,(r4.2.2.1.1,(r4.2.2.1.2.1,(r4.2.2.1.2.2.1,(r4.2.2.1.2.2.2.1,(r4.2.2.1.2.2.2.2,(r5.2.1.1,(r5.2.1.2.1,(r5.2.1.2.2,(s3.2.2.2.2.2.2.2.2.2.2.1,AH .i64 s3.2.2.2.2.2.2.2.2.2.2.2 1)))))))))))))) λ_=>some (.dn ((1,(s3,()))))) ((1,(0,(r1.2.2.1.1,(r1.2.2.1.2.1,(r1.2.2.1.2.2.1,(r1.2.2.1.2.2.2.1,(r1.2.2.1.2.2.2.2,(r2.2.1.1,(r2.2.1.2.1,(r2.2.1.2.2,(C3 x.1.2.2.1 [r1.1],AH .i64 x.1.2.2.2 1))))))))))))) λr6=>br (neq r6.1 0) (λ_=>br (A6 r6.2.1.2.1 0) (λ_=>some (((([],([],([],([],0)))),((false,([],false)),([],0))),(0,r6.2.1.2.1)))) λ_=>some ((((r6.2.1.2.2.1,(r6.2.1.2.2.2.1,(r6.2.1.2.2.2.2.1,(r6.2.1.2.2.2.2.2.1,r6.2.1.2.2.2.2.2.2.1)))),((r6.2.1.2.2.2.2.2.2.2.1,(r6.2.1.2.2.2.2.2.2.2.2.1,r6.2.1.2.2.2.2.2.2.2.2.2.1)),r6.2.1.2.2.2.2.2.2.2.2.2.2)),(NL x.2 r0.1,0)))) λ_=>some ((((r6.2.1.2.2.1,(r6.2.1.2.2.2.1,(r6.2.1.2.2.2.2.1,(r6.2.1.2.2.2.2.2.1,r6.2.1.2.2.2.2.2.2.1)))),((r6.2.1.2.2.2.2.2.2.2.1,(r6.2.1.2.2.2.2.2.2.2.2.1,r6.2.1.2.2.2.2.2.2.2.2.2.1)),r6.2.1.2.2.2.2.2.2.2.2.2.2)),(NL x.2 r0.1,0)))) λ_=>bd (loop (λs7=>br (Am s7.1 (NL x.2 r0.1)) (λ_=>bd (Bv ((s7.2.2.1,(s7.2.2.2.1,(s7.2.2.2.2.1,(s7.2.2.2.2.2.1,s7.2.2.2.2.2.2.1)))))) λr8=>br (A6 r8.2.2.2 0) (λ_=>br (A6 r8.2.2.2 0) (λ_=>some (.dn ((0,((s7.1,(r8.2.2.2,s7.2.2)),()))))) λ_=>some (.nx (AH .i64 s7.1 1,s7.2))) λ_=>bd (B0 (((s7.2.2.2.2.2.2.2.1,(s7.2.2.2.2.2.2.2.2.1,s7.2.2.2.2.2.2.2.2.2.1)),r8.1))) λr9=>br (A6 r9.2.2 0) (λ_=>br (A6 r9.2.2 0) (λ_=>some (.dn ((0,((s7.1,(r9.2.2,s7.2.2)),()))))) λ_=>some (.nx (AH .i64 s7.1 1,s7.2))) λ_=>br r9.1 (λ_=>gd (Bo (BF (AA s7.2.2.2.2.2.2.2.2.2.2.1) (AA [r8.1])) 1048576) λ_=>some (.nx ((AH .i64 s7.1 1,(s7.2.1,(r8.2.2.1.1,(r8.2.2.1.2.1,(r8.2.2.1.2.2.1,(r8.2.2.1.2.2.2.1,(r8.2.2.1.2.2.2.2,(r9.2.1.1,(r9.2.1.2.1,(r9.2.1.2.2,(C3 s7.2.2.2.2.2.2.2.2.2.2.1 [r8.1],AH .i64 s7.2.2.2.2.2.2.2.2.2.2.2 1)))))))))))))) λ_=>some (.nx ((AH .i64 s7.1 1,(s7.2.1,(r8.2.2.1.1,(r8.2.2.1.2.1,(r8.2.2.1.2.2.1,(r8.2.2.1.2.2.2.1,(r8.2.2.1.2.2.2.2,(r9.2.1.1,(r9.2.1.2.1,(r9.2.1.2.2,(s7.2.2.2.2.2.2.2.2.2.2.1,AH .i64 s7.2.2.2.2.2.2.2.2.2.2.2 1)))))))))))))) λ_=>some (.dn ((1,(s7,()))))) ((1,(0,(r1.2.2.1.1,(r1.2.2.1.2.1,(r1.2.2.1.2.2.1,(r1.2.2.1.2.2.2.1,(r1.2.2.1.2.2.2.2,(r2.2.1.1,(r2.2.1.2.1,(r2.2.1.2.2,(x.1.2.2.1,AH .i64 x.1.2.2.2 1))))))))))))) λr10=>br (neq r10.1 0) (λ_=>br (A6 r10.2.1.2.1 0) (λ_=>some (((([],([],([],([],0)))),((false,([],false)),([],0))),(0,r10.2.1.2.1)))) λ_=>some ((((r10.2.1.2.2.1,(r10.2.1.2.2.2.1,(r10.2.1.2.2.2.2.1,(r10.2.1.2.2.2.2.2.1,r10.2.1.2.2.2.2.2.2.1)))),((r10.2.1.2.2.2.2.2.2.2.1,(r10.2.1.2.2.2.2.2.2.2.2.1,r10.2.1.2.2.2.2.2.2.2.2.2.1)),r10.2.1.2.2.2.2.2.2.2.2.2.2)),(NL x.2 r0.1,0)))) λ_=>some ((((r10.2.1.2.2.1,(r10.2.1.2.2.2.1,(r10.2.1.2.2.2.2.1,(r10.2.1.2.2.2.2.2.1,r10.2.1.2.2.2.2.2.2.1)))),((r10.2.1.2.2.2.2.2.2.2.1,(r10.2.1.2.2.2.2.2.2.2.2.1,r10.2.1.2.2.2.2.2.2.2.2.2.1)),r10.2.1.2.2.2.2.2.2.2.2.2.2)),(NL x.2 r0.1,0)))) λ_=>some ((x.1,(NL x.2 r0.1,0)))
def BK (x:((List AD)×(List AD))):Option Bool :=
 br (A6 (AZ (AA x.1)) (AZ (AA x.2))) (λ_=>some false) λ_=>bd (loop (λs0=>br (Am s0.1 (AZ (AA x.1))) (λ_=>AV s0.1 λk1=>ix x.1 k1 λx2=>AV s0.1 λk3=>ix x.2 k3 λx4=>br (AX (Bb (seq x2.1 x4.1) (Bb (seq x2.2.1 x4.2.1) (Bb (beq x2.2.2.1 x4.2.2.1) (Bb (Bg x2.2.2.2 x4.2.2.2) true))))) (λ_=>some (.dn ((0,((s0.1,false),()))))) λ_=>some (.nx (AH .i64 s0.1 1,s0.2))) λ_=>some (.dn ((1,(s0,()))))) (0,false)) λr5=>br (neq r5.1 0) (λ_=>some r5.2.1.2) λ_=>some true
def Bd (x:((List AD)×(List AD))):Option Bool :=
 bd (BK x) λr0=>some r0
def DD (x:((AN×((Bool×AO)×((List AD)×Int)))×(AN×((Bool×AO)×((List AD)×Int))))):Option Bool :=
 br (A6 (AZ (AA x.1.1.1)) (AZ (AA x.2.1.1))) (λ_=>some false) λ_=>bd (loop (λs0=>br (Am s0.1 (AZ (AA x.1.1.1))) (λ_=>AV s0.1 λk1=>ix x.1.1.1 k1 λx2=>AV s0.1 λk3=>ix x.2.1.1 k3 λx4=>bd (Bd (x2,x4)) λr5=>br (AX r5) (λ_=>some (.dn ((0,((s0.1,false),()))))) λ_=>some (.nx (AH .i64 s0.1 1,s0.2))) λ_=>some (.dn ((1,(s0,()))))) (0,false)) λr6=>br (neq r6.1 0) (λ_=>br r6.2.1.2 (λ_=>bd (Ac (x.1.1.2.1,x.2.1.2.1)) λr7=>br r7 (λ_=>bd (Ah (x.1.1.2.2.1,x.2.1.2.2.1)) λr8=>br r8 (λ_=>bd (Ac (x.1.1.2.2.2.1,x.2.1.2.2.2.1)) λr9=>br r9 (λ_=>br (Bg x.1.1.2.2.2.2 x.2.1.2.2.2.2) (λ_=>br (Bb (beq x.1.2.1.1 x.2.2.1.1) (Bb (seq x.1.2.1.2.1 x.2.2.1.2.1) (Bb (beq x.1.2.1.2.2 x.2.2.1.2.2) true))) (λ_=>bd (Bd (x.1.2.2.1,x.2.2.2.1)) λr10=>br r10 (λ_=>some (Bg x.1.2.2.2 x.2.2.2.2)) λ_=>some false) λ_=>some false) λ_=>some false) λ_=>some false) λ_=>some false) λ_=>some false) λ_=>some false) λ_=>bd (Ac (x.1.1.2.1,x.2.1.2.1)) λr11=>br r11 (λ_=>bd (Ah (x.1.1.2.2.1,x.2.1.2.2.1)) λr12=>br r12 (λ_=>bd (Ac (x.1.1.2.2.2.1,x.2.1.2.2.2.1)) λr13=>br r13 (λ_=>br (Bg x.1.1.2.2.2.2 x.2.1.2.2.2.2) (λ_=>br (Bb (beq x.1.2.1.1 x.2.2.1.1) (Bb (seq x.1.2.1.2.1 x.2.2.1.2.1) (Bb (beq x.1.2.1.2.2 x.2.2.1.2.2) true))) (λ_=>bd (Bd (x.1.2.2.1,x.2.2.2.1)) λr14=>br r14 (λ_=>some (Bg x.1.2.2.2 x.2.2.2.2)) λ_=>some false) λ_=>some false) λ_=>some false) λ_=>some false) λ_=>some false) λ_=>some false
def DE (x:(AI×((List (Int×(AN×((Bool×AO)×((List AD)×Int)))))×Int))):Option (Int×Int) :=
 bd (CN x.1) λr0=>br (A6 r0.2.2 0) (λ_=>some (((-1),r0.2.2))) λ_=>br (Am x.2.2 1) (λ_=>some (((-1),7))) λ_=>br (CD x.2.2 1000001) (λ_=>some (((-1),7))) λ_=>bd (D1 x.1) λr1=>br (XH x.2.2 r1) (λ_=>some (((-1),6))) λ_=>bd (loop (λs2=>br (Am s2.1 (AZ (AA x.1.2))) (λ_=>AV s2.1 λk3=>ix x.1.2 k3 λx4=>br (Bg (AZ (AA x4)) 2) (λ_=>gd (Bo (BF (AA s2.2) (AA [s2.1])) 1048576) λ_=>some (.nx (AH .i64 s2.1 1,C3 s2.2 [s2.1]))) λ_=>some (.nx (AH .i64 s2.1 1,s2.2))) λ_=>some (.dn ((0,(s2,()))))) (0,[])) λr5=>bd (loop (λs6=>br (Am s6.2.2 (AZ (AA x.2.1))) (λ_=>AV s6.2.2 λk7=>ix x.2.1 k7 λx8=>br (Gz s6.2.2 (AZ (AA r5.2.1.2))) (λ_=>some (.dn ((0,((6,(s6.2.2,s6.2.2)),()))))) λ_=>AV s6.2.2 λk9=>gd (Dn k9 (AA r5.2.1.2)) λ_=>ix r5.2.1.2 k9 λx10=>br (A6 x8.1 x10) (λ_=>some (.dn ((0,((6,(s6.2.2,s6.2.2)),()))))) λ_=>br x8.2.2.1.2.2 (λ_=>bd (Cm (x.1,x8.1)) λr11=>br (AX r11) (λ_=>some (.dn ((0,((6,(s6.2.2,s6.2.2)),()))))) λ_=>bd (CK ((x.1,(x8.1,x8.2.2.1.2.2)))) λr12=>bd (BX r12.2) λr13=>br (Am x8.2.2.2.2 0) (λ_=>some (.dn ((0,((6,(s6.2.2,s6.2.2)),()))))) λ_=>br (CD x8.2.2.2.2 r13.1) (λ_=>some (.dn ((0,((6,(s6.2.2,s6.2.2)),()))))) λ_=>bd (B3 (r12.2,x8.2.2.2.2)) λr14=>bd (DD (r14.1,x8.2)) λr15=>br (AX r15) (λ_=>some (.dn ((0,((6,(s6.2.2,s6.2.2)),()))))) λ_=>some (.nx ((s6.1,(s6.2.1,AH .i64 s6.2.2 1))))) λ_=>bd (CK ((x.1,(x8.1,x8.2.2.1.2.2)))) λr16=>bd (BX r16.2) λr17=>br (Am x8.2.2.2.2 0) (λ_=>some (.dn ((0,((6,(s6.2.2,s6.2.2)),()))))) λ_=>br (CD x8.2.2.2.2 r17.1) (λ_=>some (.dn ((0,((6,(s6.2.2,s6.2.2)),()))))) λ_=>bd (B3 (r16.2,x8.2.2.2.2)) λr18=>bd (DD (r18.1,x8.2)) λr19=>br (AX r19) (λ_=>some (.dn ((0,((6,(s6.2.2,s6.2.2)),()))))) λ_=>some (.nx ((s6.1,(s6.2.1,AH .i64 s6.2.2 1))))) λ_=>some (.dn ((1,(s6,()))))) ((r0.2.2,(0,0)))) λr20=>br (neq r20.1 0) (λ_=>some (r20.2.1.2.1,r20.2.1.1)) λ_=>br (Am (AZ (AA x.2.1)) (AZ (AA r5.2.1.2))) (λ_=>some (((-1),4))) λ_=>some (0,0)
end Go.Proofs.YthpkjfabdccpdaaGreat.Pl
namespace Go.Proofs.YthpkjfabdccpdaaGreat.Pl
open Go Go.Proofs.YthpkjfabdccpdaaGreat.Sv
abbrev L4:=List UInt8
theorem L5 (a:L4):C6 a []=false:=by unfold C6;cases a<;>rfl
theorem RJ (b:UInt8) (y:L4):C6 [] (b::y)=true:=rfl
theorem IC (a b:UInt8) (x y:L4):C6 (a::x) (b::y)=(decide (a<b)||(a == b&&C6 x y)):=rfl
theorem Ij : ∀ a:L4,C6 a a=false
 | []=>rfl
 | a::x=>by rw [IC,Ij x];simp
theorem ID : ∀ {a b c:L4},C6 a b=true->C6 b c=true->C6 a c=true
 | [],b,[],h1,h2=>by rw [L5] at h2;cases h2
 | [],b,c::z,_,_=>rfl
 | a::x,[],c,h1,_=>by rw [L5] at h1;cases h1
 | a::x,b::y,[],_,h2=>by rw [L5] at h2;cases h2
 | a::x,b::y,c::z,h1,h2=>by
  rw [IC] at h1 h2 ⊢;simp only [Bool.or_eq_true,decide_eq_true_eq,Bool.and_eq_true,beq_iff_eq] at h1 h2 ⊢;rcases h1 with h1 | ⟨rfl,h1⟩
  ·rcases h2 with h2 | ⟨rfl,h2⟩
   ·exact .inl (UInt8.lt_trans h1 h2)
   ·exact .inl h1
  ·rcases h2 with h2 | ⟨rfl,h2⟩
   ·exact .inl h2
   ·exact .inr ⟨rfl,ID h1 h2⟩
theorem RK : ∀ a b:L4,C6 a b=true\/a=b\/C6 b a=true
 | [],[] => .inr (.inl rfl)
 | [],_::_ => .inl rfl
 | _::_,[] => .inr (.inr rfl)
 | a::x,b::y=>by
  rw [IC,IC];simp only [Bool.or_eq_true,decide_eq_true_eq,Bool.and_eq_true,beq_iff_eq,List.cons.injEq];rcases UInt8.lt_or_lt_of_ne (a:=a) (b:=b) |> λh=>Classical.em (a=b) |>.imp id h with h | h | h
  ·subst h;rcases RK x y with h | h | h
   ·exact .inl (.inr ⟨rfl,h⟩)
   ·exact .inr (.inl ⟨rfl,h⟩)
   ·exact .inr (.inr (.inr ⟨rfl,h⟩))
  ·exact .inl (.inl h)
  ·exact .inr (.inr (.inl h))
theorem Dj {a b:L4} (h:C6 a b=true):C6 b a=false:=by
 cases h2:C6 b a with
 | false=>rfl
 | true=>have:=ID h h2;rw [Ij] at this;cases this
theorem UG {a b:L4} (h:C6 a b=true):a≠b:=λe=>by subst e;rw [Ij] at h;cases h
theorem RL {a b:L4} (h:C6 a b=false) (hn:a≠b):C6 b a=true:=by
 rcases RK a b with h1 | h1 | h1
 ·rw [h] at h1;cases h1
 ·exact absurd h1 hn
 ·exact h1
theorem UH {a b c:L4} (h:C6 b a=false) (h2:C6 b c=true):C6 a c=true:=by
 rcases RK a b with h1 | h1 | h1
 ·exact ID h1 h2
 ·subst h1;exact h2
 ·rw [h] at h1;cases h1
theorem Nl {a b:L4}:seq a b=true<->a=b:=by unfold seq;simp
theorem LB (a b:L4):seq a b=decide (a=b):=by
 cases h:seq a b with
 | true=>rw [Nl] at h;simp [h]
 | false =>
  have : ¬ a=b:=λe=>by rw [<- Nl] at e;rw [h] at e;cases e
  simp [this]
section
variable {α β σ S:Type}
theorem ET (a b:L4) (x y:Unit->Option β):br (seq a b) x y=if a=b then x () else y ():=NX Nl x y
theorem GB (a b:L4) (x y:Unit->Option β):br (C6 a b) x y=if C6 a b=true then x () else y ():=NX Iff.rfl x y
theorem Ch (p:Prop) [Decidable p] (x y:Unit->Option β):br (decide p) x y=if p then x () else y ():=NX (by simp) x y
theorem AE (k:Nat) (c:Nat->Option β):AV (k:Int) c=c k:=by rw [dz (by omega)];simp
theorem fw {l:List α} {k:Nat} {x:α} (h:l[k]? = some x):Am (k:Int) (AZ (AA l))=true:=by
 have:=(List.getElem?_eq_some_iff.1 h).1;unfold Am AZ AA;simp;omega
theorem d7 (l:List α):Am (l.length:Int) (AZ (AA l))=false:=by unfold Am AZ AA;simp
theorem Aa {k:Nat} (h:k+1<=9223372036854775807):AH .i64 (k:Int) 1=((k+1:Nat):Int):=by
 rw [DC (by omega)];omega
theorem Al {l:List α} {k:Nat} {x:α} (h:l[k]? = some x) (hl:l.length<=9223372036854775807):AH .i64 (k:Int) 1=((k+1:Nat):Int):=by
 have:=(List.getElem?_eq_some_iff.1 h).1;exact Aa (by omega)
def Ob (step:Nat->α->σ->Option (LR σ β)) (fin:σ->Option β):List α->Nat->σ->Option β
 | [],_,s=>fin s
 | x::l,k,s=>match step k x s with
  | none=>none
  | some (.nx s')=>Ob step fin l (k+1) s'
  | some (.dn b)=>some b
def ld (mk:σ->S):Option (LR σ β)->Option (LR S β)
 | none=>none
 | some (.nx s)=>some (.nx (mk s))
 | some (.dn b)=>some (.dn b)
def gp:Option β->Option (LR S β)
 | none=>none
 | some b=>some (.dn b)
theorem UI {l:List α} {mk:Nat->σ->S} {f:S->Option (LR S β)} {step:Nat->α->σ->Option (LR σ β)} {fin:σ->Option β}
  (hs : ∀ k x st,l[k]? = some x->f (mk k st)=ld (mk (k+1)) (step k x st)) (he : ∀ st,f (mk l.length st)=gp (fin st)) :
  ∀ (d n k:Nat) (st:σ),l.length-k=d->k<=l.length->d<n->Dc n f (mk k st)=Ob step fin (l.drop k) k st:=by
 intro d
 induction d with
 | zero =>
  intro n k st h1 h2 h3;have hk:k=l.length:=by omega
  obtain ⟨m,rfl⟩ : ∃ m,n=m+1:=⟨n-1,by omega⟩;subst hk;unfold Dc;rw [he,List.drop_length];unfold gp Ob;cases fin st<;>rfl
 | succ d ih =>
  intro n k st h1 h2 h3;obtain ⟨m,rfl⟩ : ∃ m,n=m+1:=⟨n-1,by omega⟩;have hk:k<l.length:=by omega
  have hx:l[k]? = some l[k]:=by simp [hk]
  unfold Dc;rw [hs k _ st hx,List.drop_eq_getElem_cons hk]
  show _=match step k l[k] st with
   | none=>none
   | some (.nx s')=>Ob step fin (l.drop (k+1)) (k+1) s'
   | some (.dn b)=>some b
  cases step k l[k] st with
  | none=>rfl
  | some r=>cases r with
   | nx s'=>exact ih m (k+1) s' (by omega) (by omega) (by omega)
   | dn b=>rfl
theorem WY {l:List α} (mk:Nat->σ->S) (step:Nat->α->σ->Option (LR σ β)) (fin:σ->Option β) {f:S->Option (LR S β)} {s:S} (st:σ) (h0:s=mk 0 st) (hl:l.length<=9223372036854775807)
  (hs : ∀ k x st,l[k]? = some x->f (mk k st)=ld (mk (k+1)) (step k x st)) (he : ∀ st,f (mk l.length st)=gp (fin st)) :
  loop f s=Ob step fin l 0 st:=by
 subst h0;have:=UI hs he l.length 18446744073709551616 0 st (by omega) (by omega) (by omega);rw [List.drop_zero] at this;exact this
theorem Se {f:α->Option (LR α β)} {x:β} : ∀ {n m:Nat} {s:α},n<=m->Dc n f s=some x->Dc m f s=some x
 | 0,_,_,_,h=>by cases h
 | n+1,0,_,hl,_=>by omega
 | n+1,m+1,s,hl,h=>by
  unfold Dc at h ⊢;split at h
  ·cases h
  ·rename_i s' e;exact Se (by omega) h
  ·exact h
theorem CL {f:α->Option (LR α β)} {x:β} {n:Nat} {s:α} (hn:n<=18446744073709551616) (h:Dc n f s=some x):loop f s=some x:=Se hn h
theorem A7 {f:α->Option (LR α β)} {n:Nat} {s s':α} (h:f s=some (.nx s')):Dc (n+1) f s=Dc n f s':=by
 show (match f s with
  | none=>none
  | some (.nx s)=>Dc n f s
  | some (.dn x)=>some x)=_
 rw [h]
theorem BL {f:α->Option (LR α β)} {n:Nat} {s:α} {x:β} (h:f s=some (.dn x)):Dc (n+1) f s=some x:=by
 show (match f s with
  | none=>none
  | some (.nx s)=>Dc n f s
  | some (.dn x)=>some x)=_
 rw [h]
theorem Jd {f : S -> Option (LR S β)} {r : β} (mk : Nat -> S) (n : Nat) {s : S} (h0 : s = mk 0) (hn : n < 18446744073709551616) (hs : ∀ k, k < n -> f (mk k) = some (.nx (mk (k + 1)))) (he : f (mk n) = some (.dn r)) : loop f s = some r := by
  subst h0
  have : ∀ d k, k + d = n -> Dc (d + 1) f (mk k) = some r := by
    intro d
    induction d with
    | zero => intro k hk; have : k = n := by omega
              subst this; exact BL he
    | succ d ih => intro k hk; rw [A7 (hs k (by omega))]; exact ih (k + 1) (by omega)
  exact CL (n := n + 1) (by omega) (this n 0 (by omega))
end
end Go.Proofs.YthpkjfabdccpdaaGreat.Pl
namespace Go.Proofs.YthpkjfabdccpdaaGreat.Pl
open Go Go.Proofs.YthpkjfabdccpdaaGreat.Sv
def kE (x:AD):Int:=if x.1.length>32\/x.2.1.length>64 then 3 else if x.2.2.1=true/\x.2.1≠[] then 6 else if x.2.2.2<1\/x.2.2.2>1000000000 then 7 else 0
def Je:Option L4->Nat->List AD->Int×Int
 | _,_,[]=>(0,0)
 | p,k,x::l=>if kE x≠0 then ((k:Int),kE x) else match p with
  | some q=>if C6 q x.1=true then Je (some x.1) (k+1) l else ((k:Int),6)
  | none=>Je (some x.1) (k+1) l
def Et (l:List AD):Int×Int:=if l.length>5000 then (-1,3) else Je none 0 l
def Asc:Option L4->List AD->Prop
 | _,[]=>True
 | p,x::l=>(∀ q,p=some q->C6 q x.1=true)/\Asc (some x.1) l
theorem RM : ∀ {p k l},(Je p k l).2=0<->(∀ x∈l,kE x=0)/\Asc p l
 | p,k,[]=>by simp [Je,Asc]
 | p,k,x::l=>by
  unfold Je;by_cases h:kE x=0
  ·rw [if_neg (by simp [h])];cases p with
   | none =>
    simp only [RM (p:=some x.1) (l:=l),Asc,List.mem_cons,forall_eq_or_imp];constructor
    ·rintro ⟨h1,h2⟩;exact ⟨⟨h,h1⟩,(λq hq=>by cases hq),h2⟩
    ·rintro ⟨⟨_,h1⟩,_,h2⟩;exact ⟨h1,h2⟩
   | some q =>
    simp only;by_cases hq:C6 q x.1=true
    ·rw [if_pos hq];simp only [RM (p:=some x.1) (l:=l),Asc,List.mem_cons,forall_eq_or_imp];constructor
     ·rintro ⟨h1,h2⟩;exact ⟨⟨h,h1⟩,(λq' hq'=>by cases hq';exact hq),h2⟩
     ·rintro ⟨⟨_,h1⟩,_,h2⟩;exact ⟨h1,h2⟩
    ·rw [if_neg hq];constructor
     ·intro h;cases h
     ·rintro ⟨_,h2⟩;exact absurd (h2.1 q rfl) hq
  ·rw [if_pos h];constructor
   ·intro h';exact absurd h' h
   ·rintro ⟨h1,_⟩;exact absurd (h1 x (by simp)) h
theorem Mw : ∀ {p k l},(Je p k l).2=0->Je p k l=(0,0)
 | p,k,[],_=>rfl
 | p,k,x::l,h=>by
  unfold Je at h ⊢;by_cases hx:kE x=0
  ·rw [if_neg (by simp [hx])] at h ⊢;cases p with
   | none=>exact Mw h
   | some q =>
    simp only at h ⊢;by_cases hq:C6 q x.1=true
    ·rw [if_pos hq] at h ⊢;exact Mw h
    ·rw [if_neg hq] at h;cases h
  ·rw [if_pos hx] at h;exact absurd h hx
structure VL (l:List AD):Prop where
 len:l.length<=5000
 ok : ∀ x∈l,kE x=0
 asc:Asc none l
theorem Mx {l:List AD}:(Et l).2=0<->VL l:=by
 unfold Et;by_cases h:l.length>5000
 ·rw [if_pos h];constructor
  ·intro h;cases h
  ·intro h';have:=h'.len;omega
 ·rw [if_neg h];rw [RM];exact ⟨λ⟨a,b⟩=>⟨by omega,a,b⟩,λh=>⟨h.ok,h.asc⟩⟩
theorem Jf {l:List AD} (h:VL l):Et l=(0,0):=by
 have h2:=Mx.2 h;unfold Et at h2 ⊢;rw [if_neg (by have:=h.len;omega)] at h2 ⊢;exact Mw h2
theorem Asc.lt : ∀ {p:Option L4} {l:List AD},Asc p l -> ∀ {i:Nat} {x y:AD},l[i]? = some x->l[i+1]? = some y->C6 x.1 y.1=true
 | p,x::[],_,0,_,_,_,h2=>by simp at h2
 | p,a::b::l,h,0,x,y,h1,h2=>by
  simp at h1 h2;subst h1;subst h2;exact h.2.1 _ rfl
 | p,a::l,h,i+1,x,y,h1,h2=>by
  simp at h1 h2;exact Asc.lt h.2 h1 h2
theorem VL.lt {l:List AD} (h:VL l) {i:Nat} {x y:AD} (h1:l[i]? = some x) (h2:l[i+1]? = some y):C6 x.1 y.1=true:=h.asc.lt h1 h2
def kx (l:List AD) (i:Nat):AO:=match l[i]? with
 | some x=>(x.1,false)
 | none=>([],true)
def w0 (p q:AO):Bool:=if p.2≠q.2 then q.2 else if p.1≠q.1 then C6 p.1 q.1 else true
def HR (a b:List AD) (i j:Nat):Bool:=w0 (kx a i) (kx b j)
def Ai (a b:List AD):Nat->Nat×Nat
 | 0=>(0,0)
 | n+1=>if HR a b (Ai a b n).1 (Ai a b n).2=true then ((Ai a b n).1+1,(Ai a b n).2) else ((Ai a b n).1,(Ai a b n).2+1)
def NY (a b:List AD) (n:Nat):Option AD:=if HR a b (Ai a b n).1 (Ai a b n).2=true then a[(Ai a b n).1]? else b[(Ai a b n).2]?
structure Inv (a b:List AD) (i j:Nat):Prop where
 ia:i<=a.length
 jb:j<=b.length
 pa : ∀ i',i=i'+1 -> ∀ x y,a[i']? = some x->b[j]? = some y->C6 y.1 x.1=false
 pb : ∀ j',j=j'+1 -> ∀ x y,b[j']? = some x->a[i]? = some y->C6 x.1 y.1=true
theorem Oc {a b:List AD} {i j:Nat} {x y:AD} (h1:a[i]? = some x) (h2:b[j]? = some y):HR a b i j = !C6 y.1 x.1:=by
 unfold HR w0 kx;rw [h1,h2];simp only [ne_eq,not_true,if_false];by_cases h:x.1=y.1
 ·rw [if_neg (by simp [h]),h,Ij];rfl
 ·rw [if_pos h];cases hs:C6 x.1 y.1 with
  | true=>rw [Dj hs];rfl
  | false=>rw [RL hs h];rfl
theorem Va {a b:List AD} {i j:Nat} {x:AD} (h1:a[i]? = some x) (h2:b[j]? = none):HR a b i j=true:=by
 unfold HR w0 kx;rw [h1,h2];rfl
theorem Vb {a b:List AD} {i j:Nat} {y:AD} (h1:a[i]? = none) (h2:b[j]? = some y):HR a b i j=false:=by
 unfold HR w0 kx;rw [h1,h2];rfl
theorem Sf {a b:List AD} {i j:Nat} (h1:a[i]? = none) (h2:b[j]? = none):HR a b i j=true:=by
 unfold HR w0 kx;rw [h1,h2];rfl
theorem Inv.zero (a b:List AD):Inv a b 0 0:=⟨by omega,by omega,λ_ h=>by omega,λ_ h=>by omega⟩
theorem Inv.stepA {a b:List AD} (va:VL a) {i j:Nat} (h:Inv a b i j) {x:AD} (hx:a[i]? = some x) (g:HR a b i j=true):Inv a b (i+1) j:=by
 have hi:=(List.getElem?_eq_some_iff.1 hx).1;refine ⟨by omega,h.jb,λi' e x' y h1 h2 => ?_,λj' e x' y h1 h2 => ?_⟩
 ·have:i'=i:=by omega
  subst this;rw [hx] at h1;cases h1;rw [Oc hx h2] at g;simpa using g
 ·exact ID (h.pb j' e x' x h1 hx) (va.lt hx h2)
theorem Inv.stepB {a b:List AD} (vb:VL b) {i j:Nat} (h:Inv a b i j) {y:AD} (hy:b[j]? = some y) (g:HR a b i j=false):Inv a b i (j+1):=by
 have hj:=(List.getElem?_eq_some_iff.1 hy).1;refine ⟨h.ia,by omega,λi' e x' y' h1 h2 => ?_,λj' e x' y' h1 h2 => ?_⟩
 ·have h3:=h.pa i' e x' y h1 hy;exact Dj (UH h3 (vb.lt hy h2))
 ·have:j'=j:=by omega
  subst this;rw [hy] at h1;cases h1;rw [Oc h2 hy] at g;simpa using g
theorem FG {a b:List AD} (va:VL a) (vb:VL b) : ∀ {n:Nat},n<=a.length+b.length->Inv a b (Ai a b n).1 (Ai a b n).2/\(Ai a b n).1+(Ai a b n).2=n
 | 0,_=>⟨Inv.zero a b,rfl⟩
 | n+1,h=>by
  obtain ⟨hI,hs⟩:=FG va vb (n:=n) (by omega);rw [show Ai a b (n+1)=if HR a b (Ai a b n).1 (Ai a b n).2=true then ((Ai a b n).1+1,(Ai a b n).2) else ((Ai a b n).1,(Ai a b n).2+1) from rfl]
  revert hI hs;generalize (Ai a b n).1=i;generalize (Ai a b n).2=j;intro hI hs;cases g:HR a b i j with
  | true =>
   have hi:i<a.length:=by
    refine Nat.lt_of_not_le λh' => ?_;have h1:a[i]? = none:=List.getElem?_eq_none h';have h2:j<b.length:=by have:=hI.ia;omega
    rw [Vb h1 (by simp [h2]:b[j]? = some b[j])] at g;cases g
   have:=hI.stepA va (by simp [hi]:a[i]? = some a[i]) g;rw [if_pos rfl];exact ⟨this,by omega⟩
  | false =>
   have hj:j<b.length:=by
    refine Nat.lt_of_not_le λh' => ?_;have h1:b[j]? = none:=List.getElem?_eq_none h';cases h2:a[i]? with
    | none=>rw [Sf h2 h1] at g;cases g
    | some x=>rw [Va h2 h1] at g;cases g
   have:=hI.stepB vb (by simp [hj]:b[j]? = some b[j]) g;rw [if_neg (by simp)];exact ⟨this,by omega⟩
end Go.Proofs.YthpkjfabdccpdaaGreat.Pl
namespace Go.Proofs.YthpkjfabdccpdaaGreat.Pl
open Go Go.Proofs.YthpkjfabdccpdaaGreat.Sv
def Tt (p q:AO):Dw:=([p,q],([0,if w0 p q=true then 1 else 0],if w0 p q=true then 0 else 1))
def LJ (a b:List AD) (i j:Nat):AN:=([a,b],([(i:Int),(j:Int)],Tt (kx a i) (kx b j)))
def fG (a b:List AD) (n:Nat):L4:=match NY a b n with
 | some x=>x.1
 | none=>[]
def fresh (a b:List AD) (n:Nat) (x:AD):Bool:=decide (n=0)||decide (fG a b (n-1)≠x.1)
def d8 (a b:List AD) (bt:Bool):Nat->List AD
 | 0=>[]
 | n+1=>match NY a b n with
  | some x=>if (fresh a b n x && !(bt&&x.2.2.1))=true then d8 a b bt n++[x] else d8 a b bt n
  | none=>d8 a b bt n
def lj (a b:List AD) (bt:Bool) (n:Nat):Bu:=(decide (n≠0),(if n=0 then [] else fG a b (n-1),bt))
def lm (a b:List AD) (bt:Bool) (n:Nat):Ii:=(LJ a b (Ai a b n).1 (Ai a b n).2,(lj a b bt n,(d8 a b bt n,(n:Int))))
def Aw (a b:List AD):Nat->List AD
 | 0=>[]
 | n+1=>match NY a b n with
  | some x=>Aw a b n++[x]
  | none=>Aw a b n
section
variable {a b:List AD} (va:VL a) (vb:VL b)
include va vb
theorem D4 {n:Nat} (h:n<a.length+b.length) : ∃ x,NY a b n=some x/\(x∈a\/x∈b):=by
 obtain ⟨hI,hs⟩:=FG va vb (n:=n) (by omega);unfold NY;revert hI hs;generalize (Ai a b n).1=i;generalize (Ai a b n).2=j;intro hI hs;cases g:HR a b i j with
 | true =>
  have hi:i<a.length:=by
   refine Nat.lt_of_not_le λh' => ?_;have h1:a[i]? = none:=List.getElem?_eq_none h';have h2:j<b.length:=by have:=hI.ia;omega
   rw [Vb h1 (by simp [h2]:b[j]? = some b[j])] at g;cases g
  exact ⟨a[i],by simp [hi],.inl (List.getElem_mem hi)⟩
 | false =>
  have hj:j<b.length:=by
   refine Nat.lt_of_not_le λh' => ?_;have h1:b[j]? = none:=List.getElem?_eq_none h';cases h2:a[i]? with
   | none=>rw [Sf h2 h1] at g;cases g
   | some x=>rw [Va h2 h1] at g;cases g
  exact ⟨b[j],by simp [hj],.inr (List.getElem_mem hj)⟩
theorem YU {n:Nat} {x:AD} (h:NY a b n=some x):kE x=0:=by
 have:x∈a\/x∈b:=by
  unfold NY at h;split at h
  ·exact .inl (List.mem_of_getElem? h)
  ·exact .inr (List.mem_of_getElem? h)
 rcases this with h | h
 ·exact va.ok x h
 ·exact vb.ok x h
theorem Vc {n:Nat} (hn:n+1<a.length+b.length) {x y:AD} (h1:NY a b n=some x) (h2:NY a b (n+1)=some y):C6 y.1 x.1=false:=by
 obtain ⟨hI,hs⟩:=FG va vb (n:=n) (by omega);unfold NY at h1 h2;rw [show Ai a b (n+1)=if HR a b (Ai a b n).1 (Ai a b n).2=true then ((Ai a b n).1+1,(Ai a b n).2) else ((Ai a b n).1,(Ai a b n).2+1) from rfl] at h2
 revert hI hs h1 h2;generalize (Ai a b n).1=i;generalize (Ai a b n).2=j;intro h1 h2 hI hs;cases g:HR a b i j with
 | true =>
  rw [if_pos g] at h1;simp only [g,if_true] at h2;have hI':=hI.stepA va h1 g;cases g2:HR a b (i+1) j with
  | true=>rw [if_pos g2] at h2;exact Dj (va.lt h1 h2)
  | false=>rw [if_neg (by simp [g2])] at h2;exact hI'.pa i rfl x y h1 h2
 | false =>
  rw [if_neg (by simp [g])] at h1;simp only [g,if_false,Bool.false_eq_true] at h2;have hI':=hI.stepB vb h1 g;cases g2:HR a b i (j+1) with
  | true=>rw [if_pos g2] at h2;exact Dj (hI'.pb j rfl x y h1 h2)
  | false=>rw [if_neg (by simp [g2])] at h2;exact Dj (vb.lt h1 h2)
theorem CY : ∀ {n:Nat},n<=a.length+b.length->(Aw a b n).length=n
 | 0,_=>rfl
 | n+1,h=>by
  obtain ⟨x,hx,_⟩:=D4 va vb (n:=n) (by omega);unfold Aw;rw [hx];simp [CY (n:=n) (by omega)]
theorem IE : ∀ {n k:Nat},n<=a.length+b.length->k<n->(Aw a b n)[k]? = NY a b k
 | n+1,k,h,hk=>by
  obtain ⟨x,hx,_⟩:=D4 va vb (n:=n) (by omega);unfold Aw;rw [hx];show (Aw a b n++[x])[k]? = _;have hl:=CY va vb (n:=n) (by omega);by_cases hkn:k<n
  ·rw [List.getElem?_append_left (by omega)];exact IE (by omega) hkn
  ·have:k=n:=by omega
   subst this;rw [List.getElem?_append_right (by omega),hl];simp [hx]
theorem UJ {n m:Nat} (hm:m<=a.length+b.length) (h:n<=m):(Aw a b m).take n=Aw a b n:=by
 apply List.ext_getElem?;intro k;rw [List.getElem?_take];by_cases hk:k<n
 ·rw [if_pos hk,IE va vb hm (by omega),IE va vb (by omega) hk]
 ·rw [if_neg hk,List.getElem?_eq_none];rw [CY va vb (by omega)];omega
end
end Go.Proofs.YthpkjfabdccpdaaGreat.Pl
namespace Go.Proofs.YthpkjfabdccpdaaGreat.Pl
open Go Go.Proofs.YthpkjfabdccpdaaGreat.Sv
theorem AT (n:Nat):AZ n=(n:Int):=rfl
theorem AP {α:Type} (l:List α):AA l=l.length:=rfl
theorem Ik (l:List UInt8):Ep l=l.length:=rfl
theorem RN:AX true=false:=rfl
theorem BY {β:Type} (c:Bool) (x y:Unit->Option β):br (AX c) x y=br c y x:=fq c x y
theorem CR {β:Type} {a b:Nat} (h:a<=b) (k:Unit->Option β):gd (Bo a b) k=k ():=by rw [UF,if_pos h]
theorem Kc (k:L4):Eh k=some (if k.length>32 then 3 else 0):=by
 unfold Eh;rw [Az,AT,Ik];by_cases h:k.length>32
 ·rw [if_pos (by omega),if_pos h]
 ·rw [if_neg (by omega),if_neg h]
theorem GC (x:AD):CA x=some (kE x):=by
 unfold CA kE;rw [Kc,AB,AQ];by_cases h1:x.1.length>32
 ·simp [h1]
 rw [if_neg h1,if_pos rfl,Az,AT,Ik];by_cases h2:x.2.1.length>64
 ·rw [if_pos (by omega),if_pos (.inr h2)]
 rw [if_neg (by omega : ¬ (x.2.1.length:Int)>64),if_neg (by omega),Fe];by_cases h3:x.2.2.1=true
 ·rw [if_pos h3,BY,ET];by_cases h4:x.2.1=[]
  ·rw [if_pos h4,if_neg (by simp [h4]),BB,Az];by_cases h5:x.2.2.2<1
   ·simp [h5]
   ·by_cases h6:x.2.2.2>1000000000<;>simp [h5,h6]
  ·rw [if_neg h4,if_pos ⟨h3,h4⟩]
 ·rw [if_neg h3,if_neg (by simp [h3]),BB,Az];by_cases h5:x.2.2.2<1
  ·simp [h5]
  ·by_cases h6:x.2.2.2>1000000000<;>simp [h5,h6]
theorem Ga (l:List AD) (hl:l.length<=9223372036854775807):BH l=some (Et l):=by
 unfold BH Et;rw [Az,AT,AP];by_cases h:l.length>5000
 ·rw [if_pos (by omega),if_pos h]
 rw [if_neg (by omega),if_neg h]
 have key:=WY (β:=Nat×(Int×Int×Int)×Unit) (l:=l) (λk (_:Int)=>((0:Int),((0:Int),(k:Int))))
  (λk x _=>if kE x≠0 then some (.dn (0,((kE x,((k:Int),(k:Int))),()))) else if k>0 then
    (match l[k-1]? with
    | some y=>if C6 y.1 x.1=true then some (.nx 0) else some (.dn (0,(((6:Int),((k:Int),(k:Int))),())))
    | none=>none) else some (.nx 0))
  (λ_=>some (1,((0,(0,(l.length:Int))),()))) (s:=(0,(0,0))) (0:Int) rfl hl (f:=(λs0=>br (Am s0.2.2 (AZ (AA l))) (λ_=>AV s0.2.2 λk1=>ix l k1 λx2=>bd (CA x2) λr3=>br (A6 r3 0) (λ_=>some (.dn ((0,((r3,(s0.2.2,s0.2.2)),()))))) λ_=>br (CD s0.2.2 0) (λ_=>AV (Bz .i64 s0.2.2 1) λk4=>ix l k4 λx5=>br (AX (C6 x5.1 x2.1)) (λ_=>some (.dn ((0,((6,(s0.2.2,s0.2.2)),()))))) λ_=>some (.nx ((s0.1,(s0.2.1,AH .i64 s0.2.2 1))))) λ_=>some (.nx ((s0.1,(s0.2.1,AH .i64 s0.2.2 1))))) λ_=>some (.dn ((1,(s0,()))))))
  (λk x st hx=>by
   simp only;rw [fw hx,AR,AE,AJ hx,GC,AB,AQ];by_cases h1:kE x=0
   ·have hk:k<l.length:=(List.getElem?_eq_some_iff.1 hx).1;simp only [h1,if_true,ne_eq,not_true,if_false];rw [Az];by_cases h2:k>0
    ·rw [if_pos (by omega:(k:Int)>0),if_pos h2,Bj (by omega),show ((k:Int)-1)=((k-1:Nat):Int) by omega,AE];have hy:l[k-1]? = some l[k-1]:=by rw [List.getElem?_eq_getElem (by omega)]
     rw [AJ hy,hy,BY,GB];simp only;by_cases h3:C6 l[k-1].1 x.1=true
     ·rw [if_pos h3,if_pos h3,Al hx hl];rfl
     ·rw [if_neg h3,if_neg h3];rfl
    ·rw [if_neg (by omega : ¬ (k:Int)>0),if_neg h2,Al hx hl];rfl
   ·simp only [h1,if_false,ne_eq,not_false_iff,if_true];rfl)
  (λst=>by
   simp only
   rw [d7,Ao];rfl)
 simp only [AT,AP] at key;rw [key]
 have main : ∀ (m:List AD) (k:Nat) (p:Option L4),l.drop k=m->(p=if k=0 then none else (l[k-1]?).map (·.1)) -> ∀ st,bd (Ob (β:=Nat×(Int×Int×Int)×Unit) (λk x (_:Int)=>if kE x≠0 then some (.dn (0,((kE x,((k:Int),(k:Int))),()))) else if k>0 then
    (match l[k-1]? with
    | some y=>if C6 y.1 x.1=true then some (.nx 0) else some (.dn (0,(((6:Int),((k:Int),(k:Int))),())))
    | none=>none) else some (.nx (0:Int))) (λ_=>some (1,((0,(0,(l.length:Int))),()))) m k st) (λr6=>br (neq r6.1 0) (λ_=>some (r6.2.1.2.1,r6.2.1.1)) λ_=>some ((0:Int),(0:Int)))=some (Je p k m):=by
  intro m
  induction m with
  | nil=>intro k p _ _ st;rfl
  | cons x m ih =>
   intro k p hm hp st
   have hx:l[k]? = some x:=by
    have:=congrArg List.head? hm;rw [List.head?_drop] at this;simpa using this
   have hk:k<l.length:=(List.getElem?_eq_some_iff.1 hx).1
   have hm2:l.drop (k+1)=m:=by
    have:=congrArg List.tail hm;rw [List.tail_drop] at this;simpa using this
   unfold Ob Je;by_cases h1:kE x=0
   ·simp only [h1,ne_eq,not_true,if_false];by_cases h2:k>0
    ·have hy:l[k-1]? = some l[k-1]:=by rw [List.getElem?_eq_getElem (by omega)]
     rw [if_pos h2,hy];rw [if_neg (by omega : ¬ k=0),hy] at hp;subst hp;simp only [Option.map_some];by_cases h3:C6 l[k-1].1 x.1=true
     ·rw [if_pos h3,if_pos h3];exact ih (k+1) (some x.1) hm2 (by rw [if_neg (by omega)];simp [hx]) 0
     ·rw [if_neg h3,if_neg h3];rfl
    ·have hk0:k=0:=by omega
     subst hk0;rw [if_neg h2];simp only [if_true] at hp;subst hp;exact ih 1 (some x.1) hm2 (by simp [hx]) 0
   ·simp only [h1,ne_eq,not_false_iff,if_true];rfl
 exact main l 0 none (by simp) (by simp) 0
theorem L6 {α β σ S:Type} {l:List α} (mk:Nat->σ->S) (F:List α->Nat->σ->Option β) {f:S->Option (LR S β)} {s:S} (st:σ) (h0:s=mk 0 st) (hl:l.length<=9223372036854775807)
  (hn : ∀ st,f (mk l.length st)=gp (F [] l.length st))
  (hc : ∀ k x m st,l.drop k=x::m->l[k]? = some x->k<l.length->(∃ st',f (mk k st)=some (.nx (mk (k+1) st'))/\F (x::m) k st=F m (k+1) st')\/f (mk k st)=gp (F (x::m) k st)):loop f s=F l 0 st:=by
 subst h0
 have main : ∀ (m:List α) (k n:Nat) (st:σ),l.drop k=m->k<=l.length->m.length<n->Dc n f (mk k st)=F m k st:=by
  intro m
  induction m with
  | nil =>
   intro k n st hm hk hn';obtain ⟨n,rfl⟩ : ∃ j,n=j+1:=⟨n-1,by omega⟩
   have hkl:k=l.length:=by
    have:=congrArg List.length hm;simp at this;omega
   subst hkl;unfold Dc;rw [hn];cases F [] l.length st<;>rfl
  | cons x m ih =>
   intro k n st hm hk hn';obtain ⟨n,rfl⟩ : ∃ j,n=j+1:=⟨n-1,by omega⟩
   have hx:l[k]? = some x:=by
    have:=congrArg List.head? hm;rw [List.head?_drop] at this;simpa using this
   have hk':k<l.length:=(List.getElem?_eq_some_iff.1 hx).1
   have hm2:l.drop (k+1)=m:=by
    have:=congrArg List.tail hm;rw [List.tail_drop] at this;simpa using this
   rcases hc k x m st hm hx hk' with ⟨st',h1,h2⟩ | h1
   ·rw [A7 h1,h2];exact ih (k+1) n st' hm2 (by omega) (by simp at hn';omega)
   ·unfold Dc;rw [h1];cases F (x::m) k st<;>rfl
 exact main l 0 _ st (by simp) (by omega) (by omega)
theorem rl {α:Type} {l:List α} {k:Nat} (h:k<l.length):Am (k:Int) (l.length:Int)=true:=by unfold Am;simp;omega
theorem re {α:Type} (l:List α):Am (l.length:Int) (l.length:Int)=false:=by unfold Am;simp
theorem BD {α β:Type} {m:Option α} {x:α} {k:α->Option β} {r:Option β} (h:m=some x) (e:k x=r):bd m k=r:=by subst h;exact e
theorem My (k:AO):C9 k=some (k.2&&decide (k.1≠[])):=by
 unfold C9;rw [Fe];cases h:k.2 with
 | true=>rw [if_pos rfl,LB];simp [AX]
 | false=>rw [if_neg (by simp)];rfl
def EH (k:AO):Prop:=k.2=true->k.1=[]
theorem d9 {k:AO} (h:EH k):C9 k=some false:=by
 rw [My];cases h2:k.2 with
 | true=>simp [h h2]
 | false=>rfl
theorem BW (l:List AD) (i:Nat):EH (kx l i):=by
 unfold kx EH;split<;>simp
theorem GD {l:List AO} (h : ∀ k∈l,EH k) (h0:l≠[]) (hl:l.length<=32):DN l=some 0:=by
 unfold DN;simp only [AT,AP];rw [B7,Az,if_neg (by have:=List.length_pos_iff.2 h0;omega),if_neg (by omega)]
 rw [L6 (l:=l) (σ:=Unit) (s:=(0,0)) (λk _=>((0:Int),(k:Int))) (λ_ _ _=>some (1,((0,(l.length:Int)),()))) () rfl (by omega) (λst=>by
  simp only;rw [re];rfl) (λk x m st _ hx hk => .inl ⟨(),by
   simp only;rw [rl hk,AR,AE,AJ hx,d9 (h x (List.mem_of_getElem? hx)),AB,Ao,Al hx (by omega)],rfl⟩),AB]
 rfl
theorem Jg {α:Type} {l:List α} (h:l.length<=1048576):(gd (Bo (AA l) 1048576) λ_=>some l)=some l:=CR h _
theorem Sh (p q:AO):Ei [p,q]=some (Tt p q):=by
 have hw:w0 p q=(if p.2≠q.2 then q.2 else if p.1≠q.1 then C6 p.1 q.1 else true):=rfl
 unfold Ei;simp only [AT,AP,List.length_cons,List.length_nil];rw [show MZ .i64 2 ((0+1+1:Nat):Int)=4 from rfl,show Bz .i64 4 1=3 from rfl];unfold Ag;rw [show AV 4=λk=>k 4 from rfl];simp only [CR (show 4<=1048576 by omega),Jg (show [p,q].length<=1048576 by simp),AB];rw [show AV ((0+1+1:Nat):Int)=λk=>k 2 from rfl];simp only [CR (show 2<=1048576 by omega)];have fin : ∀ {w l:Int} {x:Nat×((Int×(List Int×(List AO×(List Int×Int))))×Unit)},x=(0,((0,([0,w,0,1],([p,q],([0,l],0)))),()))->(gd (Dn 1 (AA x.2.1.2.1)) λ_=>ix x.2.1.2.1 1 λx41=>some ((x.2.1.2.2.1,(x.2.1.2.2.2.1,x41))))=some ([p,q],([0,l],w)):=λe=>by subst e;rfl
 have go : ∀ {f:(Int×(List Int×(List AO×(List Int×Int))))->Option (LR (Int×(List Int×(List AO×(List Int×Int)))) (Nat×((Int×(List Int×(List AO×(List Int×Int))))×Unit)))} {w l:Int},f (3,([0,0,0,0],([p,q],([0,0],0))))=some (.nx (2,([0,0,0,1],([p,q],([0,0],0)))))->f (2,([0,0,0,1],([p,q],([0,0],0))))=some (.nx (1,([0,0,0,1],([p,q],([0,0],0))))) ->
   f (1,([0,0,0,1],([p,q],([0,0],0))))=some (.nx (0,([0,w,0,1],([p,q],([0,l],0)))))->f (0,([0,w,0,1],([p,q],([0,l],0))))=some (.dn (0,((0,([0,w,0,1],([p,q],([0,l],0)))),()))) ->
   loop f (3,([0,0,0,0],([p,q],([0,0],0))))=some (0,((0,([0,w,0,1],([p,q],([0,l],0)))),())):=λh1 h2 h3 h4 =>
  CL (n:=4) (by omega) ((A7 h1).trans ((A7 h2).trans ((A7 h3).trans (BL h4))))
 have st : ∀ {β:Type} (A B:Option β),w0 p q=true->br (AX (beq p.2 q.2)) (λ_=>br (AX q.2) (λ_=>B) λ_=>A) (λ_=>br (AX (seq p.1 q.1)) (λ_=>br (AX (C6 p.1 q.1)) (λ_=>B) λ_=>A) λ_=>A)=A:=fun {β} A B h=>by
  rw [hw] at h;rw [BY (beq p.2 q.2),Fe (beq p.2 q.2),BY q.2,Fe q.2,BY (seq p.1 q.1),ET,BY (C6 p.1 q.1),GB];by_cases h1:p.2=q.2
  ·rw [if_neg (by simp [h1])] at h;rw [if_pos (by simp [Sv.beq,h1])];by_cases h2:p.1=q.1
   ·rw [if_pos h2]
   ·rw [if_neg h2];rw [if_pos h2] at h;rw [if_pos h]
  ·rw [if_pos h1] at h;rw [if_neg (by simp [Sv.beq,h1]),if_pos h]
 have st2 : ∀ {β:Type} (A B:Option β),w0 p q≠true->br (AX (beq p.2 q.2)) (λ_=>br (AX q.2) (λ_=>B) λ_=>A) (λ_=>br (AX (seq p.1 q.1)) (λ_=>br (AX (C6 p.1 q.1)) (λ_=>B) λ_=>A) λ_=>A)=B:=fun {β} A B h=>by
  rw [hw] at h;rw [BY (beq p.2 q.2),Fe (beq p.2 q.2),BY q.2,Fe q.2,BY (seq p.1 q.1),ET,BY (C6 p.1 q.1),GB];by_cases h1:p.2=q.2
  ·rw [if_neg (by simp [h1])] at h;rw [if_pos (by simp [Sv.beq,h1])];by_cases h2:p.1=q.1
   ·rw [if_neg (by simp [h2])] at h;exact absurd rfl h
   ·rw [if_neg h2];rw [if_pos h2] at h;rw [if_neg h]
  ·rw [if_pos h1] at h;rw [if_neg (by simp [Sv.beq,h1]),if_neg h]
 rw [show DW 4 (0:Int)=[0,0,0,0] from rfl,show DW 2 (0:Int)=[0,0] from rfl];by_cases h:w0 p q=true
 ·refine BD (x:=(0,((0,([0,0,0,1],([p,q],([0,1],0)))),()))) ?_ ?_;refine CL (n:=4) (by omega) ?_;refine (A7 (s':=(2,([0,0,0,1],([p,q],([0,0],0))))) ?_).trans ((A7 (s':=(1,([0,0,0,1],([p,q],([0,0],0))))) ?_).trans ((A7 (s':=(0,([0,0,0,1],([p,q],([0,1],0))))) ?_).trans (BL ?_)))
  ·rfl
  ·rfl
  ·exact st _ _ h
  ·rfl
  ·show some ([p,q],([0,1],0))=_;unfold Tt;simp [h]
 ·refine BD (x:=(0,((0,([0,1,0,1],([p,q],([0,0],0)))),()))) ?_ ?_;refine CL (n:=4) (by omega) ?_;refine (A7 (s':=(2,([0,0,0,1],([p,q],([0,0],0))))) ?_).trans ((A7 (s':=(1,([0,0,0,1],([p,q],([0,0],0))))) ?_).trans ((A7 (s':=(0,([0,1,0,1],([p,q],([0,0],0))))) ?_).trans (BL ?_)))
  ·rfl
  ·rfl
  ·exact st2 _ _ h
  ·rfl
  ·show some ([p,q],([0,0],1))=_;unfold Tt;simp [h]
theorem Mz {p q:AO} (hp:EH p) (hq:EH q):CJ [p,q]=some (Tt p q,0):=by
 unfold CJ;rw [GD (by simp [hp,hq]) (by simp) (by simp),AB,AQ,if_pos rfl,Sh,AB]
theorem UK {p q:AO} (hp:EH p) (hq:EH q):Ey (Tt p q)=some (0,0):=by
 unfold Ey;rw [show (Tt p q).1=[p,q] from rfl,GD (by simp [hp,hq]) (by simp) (by simp),AB,AQ,if_pos rfl,AQ,if_pos (show AZ (AA (Tt p q).2.1)=AZ (AA [p,q]) from rfl),Sh,AB];simp only [AT,AP]
 rw [L6 (l:=(Tt p q).2.1) (σ:=Unit) (s:=(0,(0,0))) (λk _=>((0:Int),((k:Int),(0:Int)))) (λ_ _ _=>some (1,((0,(((Tt p q).2.1.length:Int),0)),()))) () rfl (show 2<=9223372036854775807 by omega) (λst=>by
  simp only;rw [re];rfl) (λk x m st _ hx hk => .inl ⟨(),by
   simp only;rw [rl hk,AR,AE,AJ hx,AE,AJ hx,AQ,if_pos rfl,Al hx (show 2<=9223372036854775807 by omega)],rfl⟩),AB]
 rw [show neq 1 0=false from rfl,Ao,AQ,if_pos rfl]
def wn (p q:AO):Nat:=if w0 p q=true then 0 else 1
def wk (p q:AO):AO:=if w0 p q=true then p else q
theorem UL (p q:AO):(Tt p q).2.2=(wn p q:Int):=by unfold Tt wn;split<;>rfl
theorem UN (p q:AO):(Tt p q).1[wn p q]? = some (wk p q):=by unfold Tt wn wk;split<;>rfl
theorem Si {p q:AO} (hp:EH p) (hq:EH q):Ej (Tt p q)=some (if (wk p q).2=true then 12 else 0):=by
 unfold Ej;rw [UK hp hq,AB,AQ,if_pos rfl,UL,AE,AJ (UN p q),Fe];split<;>rfl
theorem HE {p q:AO} (hp:EH p) (hq:EH q):CP (Tt p q)=some (if (wk p q).2=true then (0,([],12)) else ((wn p q:Int),((wk p q).1,0))):=by
 unfold CP;rw [Si hp hq,AB,AQ,UL,AE,AJ (UN p q)];by_cases h:(wk p q).2=true<;>simp [h]
def rk (p q k:AO):AO×AO:=if w0 p q=true then (k,q) else (p,k)
theorem YV (p q:AO):BU (0,(1,([p,q],())))=some (w0 p q):=by
 unfold BU w0;show br (AX (beq p.2 q.2)) (λ_=>some q.2) (λ_=>br (AX (seq p.1 q.1)) (λ_=>some (C6 p.1 q.1)) λ_=>some (Am 0 1))=_;rw [BY (beq p.2 q.2),Fe (beq p.2 q.2),BY (seq p.1 q.1),ET];by_cases h1:p.2=q.2
 ·rw [if_pos (show Sv.beq p.2 q.2=true by simp [Sv.beq,h1]),if_neg (show ¬ p.2≠q.2 by simp [h1])];by_cases h2:p.1=q.1
  ·rw [if_pos h2,if_neg (show ¬ p.1≠q.1 by simp [h2])];rfl
  ·rw [if_neg h2,if_pos h2]
 ·rw [if_neg (show ¬ Sv.beq p.2 q.2=true by simp [Sv.beq,h1]),if_pos h1]
theorem YW (p q:AO):BU (1,(0,([p,q],())))=some (!w0 p q):=by
 unfold BU w0;show br (AX (beq q.2 p.2)) (λ_=>some p.2) (λ_=>br (AX (seq q.1 p.1)) (λ_=>some (C6 q.1 p.1)) λ_=>some (Am 1 0))=_;rw [BY (beq q.2 p.2),Fe (beq q.2 p.2),BY (seq q.1 p.1),ET];by_cases h1:p.2=q.2
 ·rw [if_pos (show Sv.beq q.2 p.2=true by simp [Sv.beq,h1]),if_neg (show ¬ p.2≠q.2 by simp [h1])];by_cases h2:p.1=q.1
  ·rw [if_pos h2.symm,if_neg (show ¬ p.1≠q.1 by simp [h2])];rfl
  ·rw [if_neg (show ¬ q.1=p.1 from λe=>h2 e.symm),if_pos h2];cases hs:C6 p.1 q.1 with
   | true=>rw [Dj hs];rfl
   | false=>rw [RL hs h2];rfl
 ·rw [if_neg (show ¬ Sv.beq q.2 p.2=true by simp [Sv.beq,Ne.symm h1]),if_pos h1];cases hp:p.2<;>cases hq:q.2<;>simp_all
theorem He {p q k:AO} (hp:EH p) (hq:EH q) (hk:EH k) (hw:(wk p q).2=false) (hle:k.2=true\/C6 k.1 (wk p q).1=false) :
  ∃ n,CB (Tt p q,k)=some (Tt (rk p q k).1 (rk p q k).2,(n,0)):=by
 have hlen:(Tt p q).1.length<=1048576:=by show 2<=_;omega
 have hlen2:(Tt p q).2.1.length<=1048576:=by show 2<=_;omega
 have hset:lset (Tt p q).1 (wn p q) k=[(rk p q k).1,(rk p q k).2]:=by unfold Tt wn rk;split<;>rfl
 have hlose:(Tt p q).2.1=[0,(1-(wn p q:Int))]:=by unfold Tt wn;split<;>rfl
 have hwn:wn p q=0\/wn p q=1:=by unfold wn;split<;>simp
 have up : ∀ {f:(Int×(Int×(Unit×(List Int×Int))))->Option (LR (Int×(Int×(Unit×(List Int×Int)))) (Nat×((Int×(Int×(Unit×(List Int×Int))))×Unit)))},
   (f=λs8=>br (Bg (HP .i64 s8.2.1 2) 0) (λ_=>some (.dn ((0,((s8.1,(HP .i64 s8.2.1 2,((),s8.2.2.2))),()))))) λ_=>AV (HP .i64 s8.2.1 2) λk9=>gd (Dn k9 (AA s8.2.2.2.1)) λ_=>ix s8.2.2.2.1 k9 λx10=>bd (BU ((x10,(s8.2.2.2.2,([(rk p q k).1,(rk p q k).2],()))))) λr11=>br r11 (λ_=>AV (HP .i64 s8.2.1 2) λk12=>gd (Dn k12 (AA s8.2.2.2.1)) λ_=>ix s8.2.2.2.1 k12 λx13=>AV (HP .i64 s8.2.1 2) λk14=>gd (Dn k14 (AA s8.2.2.2.1)) λ_=>ix s8.2.2.2.1 k14 λx15=>some (.nx ((AH .i64 s8.1 1,(HP .i64 s8.2.1 2,((),(lset s8.2.2.2.1 k14 s8.2.2.2.2,x13))))))) λ_=>some (.nx ((AH .i64 s8.1 1,(HP .i64 s8.2.1 2,((),s8.2.2.2))))))
   -> loop f (0,((2:Int)+wn p q,((),([0,(1-(wn p q:Int))],(wn p q:Int)))))=some (0,((1,(0,((),(Tt (rk p q k).1 (rk p q k).2).2))),())):=by
  intro f hf;subst hf;refine CL (n:=2) (by omega) ((A7 (s':=(1,(1,((),(Tt (rk p q k).1 (rk p q k).2).2)))) ?_).trans (BL rfl));rcases hwn with h | h
  ·rw [h]
   have hw0:w0 p q=true:=by
    unfold wn at h;by_cases hh:w0 p q=true
    ·exact hh
    ·rw [if_neg hh] at h;cases h
   show bd (BU (1,(0,([(rk p q k).1,(rk p q k).2],())))) _=_;rw [YW,AB];unfold Tt;cases hz:w0 (rk p q k).1 (rk p q k).2<;>rfl
  ·rw [h];show bd (BU (0,(1,([(rk p q k).1,(rk p q k).2],())))) _=_;rw [YV,AB];unfold Tt;cases hz:w0 (rk p q k).1 (rk p q k).2<;>rfl
 unfold CB;simp only [Si hp hq,hw,AB,AQ,if_true,if_false,Bool.false_eq_true];rw [GD (by simp [hk]) (by simp) (by simp),AB];simp only [if_true,BY];rw [Fe];unfold Ag As;simp only [UL,AE,AJ (UN p q),CR hlen,CR hlen2,AB,GB,Mv,AP,AT,hset];have hlt:wn p q<(Tt p q).1.length:=by show wn p q<2;omega
 have hi:AH .i64 (([(rk p q k).1,(rk p q k).2].length:Nat):Int) (wn p q:Int)=(2:Int)+wn p q:=by
  rw [DC (by simp;omega)];rfl
 rw [hi,hlose];simp only [AP,Mv] at up;have key:=up rfl;rw [if_pos hlt];by_cases hk2:k.2=true
 ·rw [if_pos hk2,key,AB];exact ⟨_,rfl⟩
 ·rw [if_neg hk2,if_neg (by rcases hle with h | h;exact absurd h hk2;rw [h];simp),key,AB]
  exact ⟨_,rfl⟩
end Go.Proofs.YthpkjfabdccpdaaGreat.Pl
namespace Go.Proofs.YthpkjfabdccpdaaGreat.Pl
open Go Go.Proofs.YthpkjfabdccpdaaGreat.Sv
theorem CS {S β:Type} {f:S->Option (LR S β)} {s0 s1 s2:S} {r:β} (h0:f s0=some (.nx s1)) (h1:f s1=some (.nx s2)) (h2:f s2=some (.dn r)):loop f s0=some r :=
 CL (n:=3) (by omega) ((A7 h0).trans ((A7 h1).trans (BL h2)))
theorem NZ {α β:Type} {c:Bool} {n:Int} {l:List α} {K:Nat->α->Option β} {E:Unit->Option β} (k:Nat) {x:α} (hc:c=true) (hn:n=(k:Int)) (hx:l[k]? = some x):br c (λ_=>AV n λk1=>ix l k1 λx2=>K k1 x2) E=K k x:=by
 subst hc;subst hn;rw [AR,AE,AJ hx]
theorem EU {α β:Type} {n:Int} {l:List α} {K:Nat->α->Option β} (k:Nat) {x:α} (hn:n=(k:Int)) (hx:l[k]? = some x):AV n (λk1=>ix l k1 λx2=>K k1 x2)=K k x:=by
 subst hn;rw [AE,AJ hx]
theorem GO {l:List AD} {i:Nat} (h:i<=l.length):BC (l,(i:Int))=some (kx l i):=by
 unfold BC kx;simp only [AT,AP];rw [B7];by_cases hi:i=l.length
 ·rw [if_pos (by omega),List.getElem?_eq_none (by omega)]
 ·have hx:l[i]? = some l[i]:=by rw [List.getElem?_eq_getElem (by omega)]
  rw [if_neg (by omega),AE,AJ hx,hx]
section
variable {a b:List AD} (va:VL a) (vb:VL b)
theorem YX {i j:Nat} (hi:i<=a.length) (hj:j<=b.length):Fg ([a,b],[(i:Int),(j:Int)])=some (Tt (kx a i) (kx b j)):=by
 unfold Fg;refine BD (x:=(0,((2,[kx a i,kx b j]),()))) (CS (s1:=(1,[kx a i,([],false)])) (s2:=(2,[kx a i,kx b j])) ?_ ?_ rfl) ?_
 ·show bd (BC (a,(i:Int))) _=_;rw [GO hi];rfl
 ·show bd (BC (b,(j:Int))) _=_;rw [GO hj];rfl
 ·show bd (CJ [kx a i,kx b j]) _=_;rw [Mz (BW _ _) (BW _ _)];rfl
include va vb
theorem L7:BH a=some (0,0):=by
 rw [Ga _ (by have:=va.len;omega),Jf va]
theorem LC:DM [a,b]=some (0,0):=by
 unfold DM;refine BD (x:=(1,((0,(0,2)),()))) (CS (s1:=(0,(0,1))) (s2:=(0,(0,2))) ?_ ?_ rfl) rfl
 ·show bd (BH a) _=_;rw [L7 va va];rfl
 ·show bd (BH b) _=_;rw [L7 vb vb];rfl
theorem WZ (bt:Bool):ER ([a,b],bt)=some (lm a b bt 0,(0,0)):=by
 unfold ER;rw [LC va vb,AB,AQ,if_pos rfl];refine BD (x:=(0,((2,[kx a 0,kx b 0]),()))) (CS (s1:=(1,[kx a 0,([],false)])) (s2:=(2,[kx a 0,kx b 0])) ?_ ?_ rfl) ?_
 ·show bd (BC (a,((0:Nat):Int))) _=_;rw [GO (by omega)];rfl
 ·show bd (BC (b,((0:Nat):Int))) _=_;rw [GO (by omega)];rfl
 ·show bd (CJ [kx a 0,kx b 0]) _=_;rw [Mz (BW _ _) (BW _ _)];rfl
end
theorem Hf (x:Bool):Sv.beq x x=true:=by cases x<;>rfl
theorem Il (x:L4):seq x x=true:=by rw [Nl]
theorem UO (l:List AO) (h:l.length<=1000):Ah (l,l)=some true:=by
 unfold Ah;simp only [AT,AP]
 rw [AQ,if_pos rfl,L6 (l:=l) (σ:=Unit) (s:=(0,false)) (λk _=>((k:Int),false)) (λ_ _ _=>some (1,(((l.length:Int),false),()))) () rfl (by omega) (λst=>by
  simp only;rw [re];rfl) (λk x m st _ hx hk => .inl ⟨(),by
   simp only;rw [rl hk,AR,AE,AJ hx,AE,AJ hx,Il,Hf,show AX (Bb true (Bb true true))=false from rfl,Ao,Al hx (by omega)],rfl⟩),AB]
 rfl
theorem UP (l:List Int) (h:l.length<=1000):Ac (l,l)=some true:=by
 unfold Ac;simp only [AT,AP]
 rw [AQ,if_pos rfl,L6 (l:=l) (σ:=Unit) (s:=(0,false)) (λk _=>((k:Int),false)) (λ_ _ _=>some (1,(((l.length:Int),false),()))) () rfl (by omega) (λst=>by
  simp only;rw [re];rfl) (λk x m st _ hx hk => .inl ⟨(),by
   simp only;rw [rl hk,AR,AE,AJ hx,AE,AJ hx,AQ,if_pos rfl,Al hx (by omega)],rfl⟩),AB]
 rfl
theorem Wa (t:Dw) (h1:t.1.length<=1000) (h2:t.2.1.length<=1000):D8 (t,t)=some true:=by
 unfold D8;rw [B7,if_pos rfl,UO _ h1,AB,AR,UP _ h2];rfl
theorem Wb (p q:AO):D8 (Tt p q,Tt p q)=some true:=Wa _ (show 2<=1000 by omega) (show 2<=1000 by omega)
theorem Wc {a b:List AD} {i j:Nat} (h:HR a b i j=true):wk (kx a i) (kx b j)=kx a i/\wn (kx a i) (kx b j)=0:=by
 unfold HR at h;unfold wk wn;rw [if_pos h,if_pos h];exact ⟨rfl,rfl⟩
theorem Wd {a b:List AD} {i j:Nat} (h:HR a b i j=false):wk (kx a i) (kx b j)=kx b j/\wn (kx a i) (kx b j)=1:=by
 unfold HR at h;unfold wk wn;rw [if_neg (by simp [h]),if_neg (by simp [h])];exact ⟨rfl,rfl⟩
theorem Vd (x y:L4):CQ (x,y)=some (if C6 x y=true then -1 else if C6 y x=true then 1 else 0):=by
 unfold CQ Cz;simp only [Il,RN,AB,Ao];rw [GB,GB];split
 ·rfl
 ·split<;>rfl
theorem Ve (x y:Int):B8 (x,y)=some (if x<y then -1 else if x>y then 1 else 0):=by
 unfold B8 D2;simp only [AB,AQ,if_true,BB,Az];split
 ·rfl
 ·split<;>rfl
theorem YY (x y:Int):Fh [x,y]=some (if x≠0 then x else y):=by
 unfold Fh;by_cases h:x=0
 ·rw [if_neg (by simp [h])];by_cases h2:y=0
  ·refine BD (x:=(1,((0,2),()))) (CS (s1:=(0,1)) (s2:=(0,2)) ?_ ?_ rfl) (by rw [h2];rfl)
   ·refine (NZ 0 rfl rfl rfl).trans ?_;rw [AQ,if_pos h];rfl
   ·refine (NZ 1 rfl rfl rfl).trans ?_;rw [AQ,if_pos h2];rfl
  ·refine BD (x:=(0,((y,1),()))) (CL (n:=2) (by omega) ((A7 (s':=(0,1)) ?_).trans (BL ?_))) rfl
   ·refine (NZ 0 rfl rfl rfl).trans ?_;rw [AQ,if_pos h];rfl
   ·refine (NZ 1 rfl rfl rfl).trans ?_;rw [AQ,if_neg h2]
 ·rw [if_pos h];refine BD (x:=(0,((x,0),()))) (CL (n:=1) (by omega) (BL ?_)) rfl;refine (NZ 0 rfl rfl rfl).trans ?_;rw [AQ,if_neg h]
section
variable {a b:List AD} (va:VL a) (vb:VL b)
include va vb
theorem KI {i j:Nat} (I:Inv a b i j):DO (LJ a b i j)=some (0,0):=by
 unfold DO;rw [show (LJ a b i j).1=[a,b] from rfl,LC va vb,AB,AQ,if_pos rfl];rw [show (LJ a b i j).2.1=[(i:Int),(j:Int)] from rfl,AQ,if_pos (show AZ (AA [(i:Int),(j:Int)])=AZ (AA [a,b]) from rfl)];refine BD (x:=(1,((0,(0,2)),()))) (CS (s1:=(0,(0,1))) (s2:=(0,(0,2))) ?_ ?_ rfl) ?_
 ·refine (NZ 0 rfl rfl rfl).trans ?_;rw [BB,if_neg (by omega),show AV (((0:Int),((0:Int),(0:Int))).2.2)=λ(k:Nat->Option (LR (Int×(Int×Int)) (Nat×((Int×(Int×Int))×Unit))))=>k 0 from rfl];simp only;rw [AJ (x:=a) rfl,Az,if_neg (by have:=I.ia;simp only [AT,AP];omega)];rfl
 ·refine (NZ 1 rfl rfl rfl).trans ?_;rw [BB,if_neg (by omega),show AV (((0:Int),((0:Int),(1:Int))).2.2)=λ(k:Nat->Option (LR (Int×(Int×Int)) (Nat×((Int×(Int×Int))×Unit))))=>k 1 from rfl];simp only;rw [AJ (x:=b) rfl,Az,if_neg (by have:=I.jb;simp only [AT,AP];omega)];rfl
 rw [show neq ((1:Nat),(((0:Int),((0:Int),(2:Int))),())).1 0=false from rfl,Ao,YX I.ia I.jb,AB,show (LJ a b i j).2.2=Tt (kx a i) (kx b j) from rfl,Wb,AB,show AX true=false from rfl,Ao,HE (BW _ _) (BW _ _),AB];by_cases hd:(wk (kx a i) (kx b j)).2=true
 ·rw [if_pos hd];rfl
 rw [if_neg hd,AQ,if_pos rfl]
 have la : ∀ {x:AD} {i':Nat},i=i'+1->a[i']? = some x -> ¬ (if (if C6 x.1 (wk (kx a i) (kx b j)).1=true then (-1:Int) else if C6 (wk (kx a i) (kx b j)).1 x.1=true then 1 else 0)≠0 then (if C6 x.1 (wk (kx a i) (kx b j)).1=true then (-1:Int) else if C6 (wk (kx a i) (kx b j)).1 x.1=true then 1 else 0) else (if (0:Int)<(wn (kx a i) (kx b j):Int) then -1 else if (0:Int)>(wn (kx a i) (kx b j):Int) then 1 else 0))>0:=by
  intro x i' hi hx
  have hle:C6 (wk (kx a i) (kx b j)).1 x.1=false:=by
   cases g:HR a b i j with
   | true =>
    rw [(Wc g).1] at hd ⊢;unfold kx at hd ⊢;cases hy:a[i]? with
    | none=>rw [hy] at hd;exact absurd rfl hd
    | some y=>rw [hi] at hy;exact Dj (va.lt hx hy)
   | false =>
    rw [(Wd g).1] at hd ⊢;unfold kx at hd ⊢;cases hy:b[j]? with
    | none=>rw [hy] at hd;exact absurd rfl hd
    | some y=>exact I.pa i' hi x y hx hy
  rw [hle];have : ¬ (0:Int)>(wn (kx a i) (kx b j):Int):=by omega
  by_cases hs:C6 x.1 (wk (kx a i) (kx b j)).1=true
  ·simp [hs]
  ·simp only [hs,Bool.false_eq_true,if_false,ne_eq,not_true,this];split<;>omega
 have lb : ∀ {y:AD} {j':Nat},j=j'+1->b[j']? = some y -> ¬ (if (if C6 y.1 (wk (kx a i) (kx b j)).1=true then (-1:Int) else if C6 (wk (kx a i) (kx b j)).1 y.1=true then 1 else 0)≠0 then (if C6 y.1 (wk (kx a i) (kx b j)).1=true then (-1:Int) else if C6 (wk (kx a i) (kx b j)).1 y.1=true then 1 else 0) else (if (1:Int)<(wn (kx a i) (kx b j):Int) then -1 else if (1:Int)>(wn (kx a i) (kx b j):Int) then 1 else 0))>0:=by
  intro y j' hj hy
  have hlt:C6 y.1 (wk (kx a i) (kx b j)).1=true:=by
   cases g:HR a b i j with
   | true =>
    rw [(Wc g).1] at hd ⊢;unfold kx at hd ⊢;cases hx:a[i]? with
    | none=>rw [hx] at hd;exact absurd rfl hd
    | some x=>exact I.pb j' hj y x hy hx
   | false =>
    rw [(Wd g).1] at hd ⊢;unfold kx at hd ⊢;cases hx:b[j]? with
    | none=>rw [hx] at hd;exact absurd rfl hd
    | some x=>rw [hj] at hx;exact vb.lt hy hx
  rw [hlt];simp
 refine BD (x:=(1,((0,(0,2)),()))) (CS (s1:=(0,(0,1))) (s2:=(0,(0,2))) ?_ ?_ rfl) rfl
 ·refine (NZ 0 rfl rfl rfl).trans ?_;rw [Az];by_cases h0:(i:Int)>0
  ·rw [if_pos h0];obtain ⟨i',hi'⟩ : ∃ i',i=i'+1:=⟨i-1,by omega⟩;have hi2:i'<a.length:=by have:=I.ia;omega
   have hx:a[i']? = some a[i']:=by simp [hi2]
   refine (EU 0 rfl (x:=a) rfl).trans ((EU i' ?_ hx).trans ?_)
   ·rw [Bj (by have:=va.len;have:=I.ia;omega)];omega
   rw [Vd,AB];show bd (B8 (0,(wn (kx a i) (kx b j):Int))) _=_;rw [Ve,AB,YY,AB,Az,if_neg (la hi' hx)];rfl
  ·rw [if_neg h0];rfl
 ·refine (NZ 1 rfl rfl rfl).trans ?_;rw [Az];by_cases h0:(j:Int)>0
  ·rw [if_pos h0];obtain ⟨j',hj'⟩ : ∃ j',j=j'+1:=⟨j-1,by omega⟩;have hj2:j'<b.length:=by have:=I.jb;omega
   have hy:b[j']? = some b[j']:=by simp [hj2]
   refine (EU 1 rfl (x:=b) rfl).trans ((EU j' ?_ hy).trans ?_)
   ·rw [Bj (by have:=vb.len;have:=I.jb;omega)];omega
   rw [Vd,AB];show bd (B8 (1,(wn (kx a i) (kx b j):Int))) _=_;rw [Ve,AB,YY,AB,Az,if_neg (lb hj' hy)];rfl
  ·rw [if_neg h0];rfl
end
end Go.Proofs.YthpkjfabdccpdaaGreat.Pl
namespace Go.Proofs.YthpkjfabdccpdaaGreat.Pl
open Go Go.Proofs.YthpkjfabdccpdaaGreat.Sv
theorem Fj {l:List AD} {i:Nat} {x:AD} (h:l[i]? = some x):kx l i=(x.1,false):=by unfold kx;rw [h]
theorem L8 {l:List AD} {i:Nat} (h:l[i]? = none):kx l i=([],true):=by unfold kx;rw [h]
theorem Nm {l:List AD} (v:VL l) {i:Nat} {x:AD} (h:l[i]? = some x):(kx l (i+1)).2=true\/C6 (kx l (i+1)).1 x.1=false:=by
 cases hy:l[i+1]? with
 | none=>rw [L8 hy];exact .inl rfl
 | some y=>rw [Fj hy];exact .inr (Dj (v.lt h hy))
theorem Jh {α β:Type} {n:Int} {l:List α} {K:Nat->α->Option β} (k:Nat) {x:α} (hn:n=(k:Int)) (hx:l[k]? = some x):AV n (λk1=>gd (Dn k1 (AA l)) λ_=>ix l k1 λx2=>K k1 x2)=K k x:=by
 subst hn;rw [AE,Mv,if_pos (show k<AA l from (List.getElem?_eq_some_iff.1 hx).1),AJ hx]
section
variable {a b:List AD} (va:VL a) (vb:VL b)
include va vb
theorem eA {i j:Nat} (I:Inv a b i j) {x:AD} (hx:a[i]? = some x) (g:HR a b i j=true):Bv (LJ a b i j)=some (x,(0,(LJ a b (i+1) j,0))):=by
 obtain ⟨hk,hn⟩:=Wc g;have hi:=(List.getElem?_eq_some_iff.1 hx).1;have hl:=va.len;have hd:(wk (kx a i) (kx b j)).2=false:=by rw [hk,Fj hx]
 obtain ⟨m,hr⟩:=He (p:=kx a i) (q:=kx b j) (k:=kx a (i+1)) (BW _ _) (BW _ _) (BW _ _) hd (by rw [hk,Fj hx];exact Nm va hx)
 have hrk:rk (kx a i) (kx b j) (kx a (i+1))=(kx a (i+1),kx b j):=by
  unfold rk;unfold HR at g;rw [if_pos g]
 rw [hrk] at hr;unfold Bv;rw [KI va vb I,AB,AQ,if_pos rfl];unfold Af As;refine BD (Jg (show 2<=1048576 by omega)) (BD (Jg (show 2<=1048576 by omega)) ?_);rw [show (LJ a b i j).2.2=Tt (kx a i) (kx b j) from rfl,HE (BW _ _) (BW _ _),if_neg (by simp [hd]),AB,AQ,if_pos rfl,hn];refine (Jh 0 rfl (x:=a) rfl).trans ((Jh 0 rfl (x:=(i:Int)) rfl).trans ((EU i rfl hx).trans ((Jh 0 rfl (x:=(i:Int)) rfl).trans ((Jh 0 rfl (x:=(i:Int)) rfl).trans ((Jh 0 rfl (x:=a) rfl).trans ((Jh 0 rfl (x:=AH .i64 (i:Int) 1) rfl).trans ?_))))));rw [Aa (by omega),GO (show i+1<=a.length by omega),AB,hr,AB];rfl
theorem eB {i j:Nat} (I:Inv a b i j) {y:AD} (hy:b[j]? = some y) (g:HR a b i j=false):Bv (LJ a b i j)=some (y,(1,(LJ a b i (j+1),0))):=by
 obtain ⟨hk,hn⟩:=Wd g;have hi:=(List.getElem?_eq_some_iff.1 hy).1;have hl:=vb.len;have hd:(wk (kx a i) (kx b j)).2=false:=by rw [hk,Fj hy]
 obtain ⟨m,hr⟩:=He (p:=kx a i) (q:=kx b j) (k:=kx b (j+1)) (BW _ _) (BW _ _) (BW _ _) hd (by rw [hk,Fj hy];exact Nm vb hy)
 have hrk:rk (kx a i) (kx b j) (kx b (j+1))=(kx a i,kx b (j+1)):=by
  unfold rk;unfold HR at g;rw [if_neg (by simp [g])]
 rw [hrk] at hr;unfold Bv;rw [KI va vb I,AB,AQ,if_pos rfl];unfold Af As;refine BD (Jg (show 2<=1048576 by omega)) (BD (Jg (show 2<=1048576 by omega)) ?_);rw [show (LJ a b i j).2.2=Tt (kx a i) (kx b j) from rfl,HE (BW _ _) (BW _ _),if_neg (by simp [hd]),AB,AQ,if_pos rfl,hn];refine (Jh 1 rfl (x:=b) rfl).trans ((Jh 1 rfl (x:=(j:Int)) rfl).trans ((EU j rfl hy).trans ((Jh 1 rfl (x:=(j:Int)) rfl).trans ((Jh 1 rfl (x:=(j:Int)) rfl).trans ((Jh 1 rfl (x:=b) rfl).trans ((Jh 1 rfl (x:=AH .i64 (j:Int) 1) rfl).trans ?_))))));rw [Aa (by omega),GO (show j+1<=b.length by omega),AB,hr,AB];rfl
def LD (a b:List AD) (n:Nat):AN:=LJ a b (Ai a b n).1 (Ai a b n).2
def Od (a b:List AD) (n:Nat):Nat:=if HR a b (Ai a b n).1 (Ai a b n).2=true then 0 else 1
theorem Oe {n:Nat} {x:AD} (h:n<a.length+b.length) (hx:NY a b n=some x):Bv (LD a b n)=some (x,((Od a b n:Int),(LD a b (n+1),0))):=by
 obtain ⟨hI,hs⟩:=FG va vb (n:=n) (by omega);unfold LD Od;rw [show Ai a b (n+1)=if HR a b (Ai a b n).1 (Ai a b n).2=true then ((Ai a b n).1+1,(Ai a b n).2) else ((Ai a b n).1,(Ai a b n).2+1) from rfl]
 unfold NY at hx;cases g:HR a b (Ai a b n).1 (Ai a b n).2 with
 | true=>rw [if_pos g] at hx;rw [eA va vb hI hx g];simp
 | false=>rw [if_neg (by simp [g])] at hx;rw [eB va vb hI hx g];simp
end
theorem Of {s:Bu} (h1:s.2.1.length<=32) (h2:s.1=false->s.2.1=[]):Dh s=some 0:=by
 unfold Dh;rw [Kc,AB,if_neg (by omega),AQ,if_pos rfl,BY,Fe];cases h:s.1 with
 | true=>rfl
 | false=>rw [if_neg (by simp),BY,ET,if_pos (h2 h)]
def keep (s:Bu) (x:AD):Bool := !(s.1&&decide (x.1=s.2.1)) && !(s.2.2&&x.2.2.1)
theorem We {s:Bu} {x:AD} (h1:s.2.1.length<=32) (h2:s.1=false->s.2.1=[]) (h3:kE x=0) (h4:s.1=true->C6 x.1 s.2.1=false):B0 (s,x)=some (keep s x,((true,(x.1,s.2.2)),0)):=by
 unfold B0 keep;rw [Of h1 h2,AB,AQ,if_pos rfl,GC,h3,AB,AQ,if_pos rfl];obtain ⟨s1,s2,s3⟩:=s;obtain ⟨x1,x2,x3,x4⟩:=x;simp only at h4 ⊢;cases s1 with
 | true =>
  have:=h4 rfl;simp only [AR,Ao,GB,ET,this,Bool.false_eq_true,if_false];by_cases he:x1=s2
  ·simp [he]
  ·simp only [he,if_false,decide_false];cases s3<;>cases x3<;>rfl
 | false =>
  simp only [AR,Ao];cases s3<;>cases x3<;>rfl
def Ez:Bu->List AD->List AD
 | _,[]=>[]
 | s,x::l=>(if keep s x=true then [x] else [])++Ez (true,(x.1,s.2.2)) l
theorem IF : ∀ (s:Bu) (l:List AD),(Ez s l).length<=l.length
 | _,[]=>Nat.le_refl _
 | s,x::l=>by
  have:=IF (true,(x.1,s.2.2)) l;unfold Ez;by_cases h:keep s x=true
  ·rw [if_pos h];simp;omega
  ·rw [if_neg h];simp;omega
def Og:Bu->List AD->Prop
 | _,[]=>True
 | s,x::l=>kE x=0/\(s.1=true->C6 x.1 s.2.1=false)/\Og (true,(x.1,s.2.2)) l
theorem Oh {x:AD} (h:kE x=0):x.1.length<=32:=by
 unfold kE at h;by_cases hh:x.1.length>32\/x.2.1.length>64
 ·rw [if_pos hh] at h;cases h
 ·omega
theorem Dk {α β σ S:Type} {l:List α} (mk:Nat->σ->S) (Inv:List α->Nat->σ->Prop) (F:List α->Nat->σ->β) {f:S->Option (LR S β)} {s:S} (st:σ) (h0:s=mk 0 st) (hl:l.length<=9223372036854775807) (hi:Inv l 0 st)
  (hn : ∀ st,Inv [] l.length st->f (mk l.length st)=some (.dn (F [] l.length st)))
  (hc : ∀ k x m st,l.drop k=x::m->l[k]? = some x->k<l.length->Inv (x::m) k st -> ∃ st',f (mk k st)=some (.nx (mk (k+1) st'))/\Inv m (k+1) st'/\F (x::m) k st=F m (k+1) st'):loop f s=some (F l 0 st):=by
 subst h0
 have main : ∀ (m:List α) (k n:Nat) (st:σ),l.drop k=m->k<=l.length->m.length<n->Inv m k st->Dc n f (mk k st)=some (F m k st):=by
  intro m
  induction m with
  | nil =>
   intro k n st hm hk hn' hi;obtain ⟨n,rfl⟩ : ∃ j,n=j+1:=⟨n-1,by omega⟩
   have hkl:k=l.length:=by
    have:=congrArg List.length hm;simp at this;omega
   subst hkl;exact BL (hn st hi)
  | cons x m ih =>
   intro k n st hm hk hn' hi;obtain ⟨n,rfl⟩ : ∃ j,n=j+1:=⟨n-1,by omega⟩
   have hx:l[k]? = some x:=by
    have:=congrArg List.head? hm;rw [List.head?_drop] at this;simpa using this
   have hk':k<l.length:=(List.getElem?_eq_some_iff.1 hx).1
   have hm2:l.drop (k+1)=m:=by
    have:=congrArg List.tail hm;rw [List.tail_drop] at this;simpa using this
   obtain ⟨st',h1,h2,h3⟩:=hc k x m st hm hx hk' hi;rw [A7 h1,h3];exact ih (k+1) n st' hm2 (by omega) (by simp at hn';omega) h2
 exact main l 0 _ st (by simp) (by omega) (by omega) hi
def CH:Bu->List AD->Bu
 | s,[]=>s
 | s,x::l=>CH (true,(x.1,s.2.2)) l
theorem RO {β:Type} {out:List AD} {n:Nat} (h:out.length<=n) (hn:n<=20000) (x:AD) (k:Unit->Option β):gd (Bo (BF (AA out) (AA [x])) 1048576) k=k ():=CR (by simp only [BF,AA,List.length_cons,List.length_nil];omega) k
theorem Wf {l:List AD} {bt:Bool} (hl:l.length<=20000) (hr:Og (false,([],bt)) l):D3 (l,bt)=some (Ez (false,([],bt)) l,(0,0)):=by
 unfold D3 CO;simp only [AT,AP];rw [Az,if_neg (by omega),AB]
 rw [Dk (l:=l) (σ:=Bu×List AD) (s:=(0,(0,(0,((false,([],bt)),[]))))) (λk st=>((0:Int),((k:Int),((0:Int),st))))
  (λm k st=>Og st.1 m/\st.1.2.1.length<=32/\(st.1.1=false->st.1.2.1=[])/\st.2.length<=k/\k+m.length=l.length)
  (λm k st=>(1,((0,((l.length:Int),(0,(CH st.1 m,st.2++Ez st.1 m)))),()))) ((false,([],bt)),[]) rfl (by omega) ⟨hr,by simp,λ_=>rfl,by simp,by simp⟩ ?_ ?_,AB]
 ·simp;rfl
 ·intro st _;simp only;rw [re,Ao];simp [CH,Ez]
 ·rintro k x m ⟨s,out⟩ hm hx hk ⟨⟨h1,h2,h3⟩,h4,h5,h6,h7⟩;simp only at h1 h2 h3 h4 h5 h6 ⊢;refine ⟨((true,(x.1,s.2.2)),out++if keep s x=true then [x] else []),?_,⟨h3,Oh h1,(λh=>by cases h),?_,by simp at h7;omega⟩,?_⟩
  ·rw [rl hk,AR,AE,AJ hx,Of h4 h5,AB,AQ,if_pos rfl,GC,h1,AB,AQ,if_pos rfl];unfold keep A1;obtain ⟨s1,s2,s3⟩:=s;obtain ⟨x1,x2,x3,x4⟩:=x;simp only [AB,Al hx (show l.length<=9223372036854775807 by omega)] at h2 ⊢;have hg : ∀ {β:Type} (k:Unit->Option β),gd (Bo (BF out.length [(x1,(x2,(x3,x4)))].length) 1048576) k=k ():=λk=>RO h6 (by simp at h7;omega) (x1,(x2,(x3,x4))) k;cases s1 with
   | true =>
    have h8:=h2 rfl;simp only [AR,Ao,ET,h8,hg];by_cases he:x1=s2
    ·simp [he]
    ·simp only [he,if_false,decide_false];cases s3<;>cases x3<;>simp [AR,Ao,C3]
   | false =>
    simp only [AR,Ao,hg];cases s3<;>cases x3<;>simp [AR,Ao,C3]
  ·split<;>simp<;>omega
  ·simp only [CH,Ez,List.append_assoc]
end Go.Proofs.YthpkjfabdccpdaaGreat.Pl
namespace Go.Proofs.YthpkjfabdccpdaaGreat.Pl
open Go Go.Proofs.YthpkjfabdccpdaaGreat.Sv
theorem Sj : ∀ (l:List AD) (s:Bu) (x:AD),Ez s (l++[x])=Ez s l++(if keep (CH s l) x=true then [x] else [])
 | [],s,x=>by
  show (if keep s x=true then [x] else [])++[]=[]++(if keep s x=true then [x] else [])
  rw [List.append_nil,List.nil_append]
 | y::l,s,x=>by
  show (if keep s y=true then [y] else [])++Ez _ (l++[x])=((if keep s y=true then [y] else [])++Ez _ l)++_
  rw [Sj l,List.append_assoc];rfl
theorem KJ : ∀ (l:List AD) (s:Bu) (x:AD),CH s (l++[x])=(true,(x.1,(CH s l).2.2))
 | [],s,x=>rfl
 | y::l,s,x=>by simp only [List.cons_append,CH,KJ l]
theorem Fk : ∀ (l:List AD) (s:Bu),(CH s l).2.2=s.2.2
 | [],s=>rfl
 | y::l,s=>by rw [CH,Fk l]
theorem Sk : ∀ (l:List AD) (s:Bu) (x:AD),Og s l->kE x=0->((CH s l).1=true->C6 x.1 (CH s l).2.1=false)->Og s (l++[x])
 | [],s,x,_,h1,h2=>⟨h1,h2,trivial⟩
 | y::l,s,x,⟨h1,h2,h3⟩,h4,h5=>⟨h1,h2,Sk l _ x h3 h4 h5⟩
theorem P4 : ∀ (l:List AD) (s:Bu),Og s l->s.2.1.length<=32->(s.1=false->s.2.1=[])->(CH s l).2.1.length<=32/\((CH s l).1=false->(CH s l).2.1=[])
 | [],s,_,h1,h2=>⟨h1,h2⟩
 | y::l,s,⟨h3,_,h4⟩,_,_=>P4 l _ h4 (Oh h3) (λh=>by cases h)
abbrev s0 (bt:Bool):Bu:=(false,([],bt))
def EI (a b:List AD) (bt:Bool) (n:Nat):Ii:=(LD a b n,(CH (s0 bt) (Aw a b n),(Ez (s0 bt) (Aw a b n),(n:Int))))
def HF (a b:List AD):Nat->List Int
 | 0=>[]
 | n+1=>HF a b n++[(Od a b n:Int)]
theorem M4 (a b:List AD) : ∀ n,(HF a b n).length=n
 | 0=>rfl
 | n+1=>by simp [HF,M4 a b n]
theorem IG {S β:Type} {f:S->Option (LR S β)} {r:β} (mk:Nat->S) (k0 n:Nat) {s:S} (h0:s=mk k0) (hk:k0<=n) (hn:n<18446744073709551616) (hs : ∀ k,k0<=k->k<n->f (mk k)=some (.nx (mk (k+1)))) (he:f (mk n)=some (.dn r)):loop f s=some r:=by
 have h:=Jd (f:=f) (r:=r) (λk=>mk (k0+k)) (n-k0) (s:=s) h0 (by omega) (λk hk=>hs (k0+k) (by omega) (by omega)) (by show f (mk (k0+(n-k0)))=_;rw [show k0+(n-k0)=n by omega];exact he);exact h
theorem Oi (l:List AD) (h:l.length<=100000):Di (l,l)=some true:=by
 unfold Di;simp only [AT,AP]
 rw [AQ,if_pos rfl,L6 (l:=l) (σ:=Unit) (s:=(false,0)) (λk _=>(false,(k:Int))) (λ_ _ _=>some (1,((false,(l.length:Int)),()))) () rfl (by omega) (λst=>by
  simp only;rw [re];rfl) (λk x m st _ hx hk => .inl ⟨(),by
   simp only;rw [rl hk,AR,AE,AJ hx,AE,AJ hx,Il,Il,Hf,show Bg x.2.2.2 x.2.2.2=true by unfold Bg;simp,show AX (Bb true (Bb true (Bb true (Bb true true))))=false from rfl,Ao,Al hx (by omega)],rfl⟩),AB]
 rfl
section
variable {a b:List AD} (va:VL a) (vb:VL b)
include va vb
theorem GE {n:Nat} {x:AD} (hx:NY a b n=some x):Aw a b (n+1)=Aw a b n++[x]:=by
 show (match NY a b n with
  | some x=>Aw a b n++[x]
  | none=>Aw a b n)=_
 rw [hx]
theorem HG (bt:Bool) : ∀ {n:Nat},n<=a.length+b.length->Og (s0 bt) (Aw a b n)
 | 0,_=>trivial
 | n+1,h=>by
  obtain ⟨x,hx,_⟩:=D4 va vb (n:=n) (by omega);rw [GE va vb hx];refine Sk _ _ _ (HG bt (by omega)) (YU va vb hx) λ_ => ?_;cases n with
  | zero=>rename_i h1;cases h1
  | succ m =>
   obtain ⟨y,hy,_⟩:=D4 va vb (n:=m) (by omega);rw [GE va vb hy,KJ];exact Vc va vb (by omega) hy hx
theorem UQ (bt:Bool) {n:Nat} (h:n<=a.length+b.length):(CH (s0 bt) (Aw a b n)).2.1.length<=32/\((CH (s0 bt) (Aw a b n)).1=false->(CH (s0 bt) (Aw a b n)).2.1=[]) :=
 P4 _ _ (HG va vb bt h) (by simp) (λ_=>rfl)
theorem eC {n:Nat} (h:n=a.length+b.length):(wk (kx a (Ai a b n).1) (kx b (Ai a b n).2)).2=true:=by
 obtain ⟨hI,hs⟩:=FG va vb (n:=n) (by omega);have h1:=hI.ia;have h2:=hI.jb;rw [L8 (List.getElem?_eq_none (by omega)),L8 (List.getElem?_eq_none (by omega))];rfl
theorem eE {n:Nat} {x:AD} (hx:NY a b n=some x):(wk (kx a (Ai a b n).1) (kx b (Ai a b n).2)).2=false/\wn (kx a (Ai a b n).1) (kx b (Ai a b n).2)=Od a b n:=by
 unfold NY at hx;unfold Od;cases g:HR a b (Ai a b n).1 (Ai a b n).2 with
 | true=>rw [if_pos g] at hx;rw [(Wc g).1,(Wc g).2,Fj hx];exact ⟨rfl,rfl⟩
 | false=>rw [if_neg (by simp [g])] at hx;rw [(Wd g).1,(Wd g).2,Fj hx];exact ⟨rfl,rfl⟩
theorem eF:GZ [a,b]=some (Aw a b (a.length+b.length),(HF a b (a.length+b.length),0)):=by
 have la:=va.len;have lb:=vb.len;unfold GZ;rw [LC va vb,AB,AQ,if_pos rfl];refine Eq.trans (b:=bd (loop _ (0,[([],false),([],false)])) _) rfl ?_;refine BD (x:=(0,((2,[kx a 0,kx b 0]),()))) (CS (s1:=(1,[kx a 0,([],false)])) (s2:=(2,[kx a 0,kx b 0])) ?_ ?_ rfl) ?_
 ·show bd (BC (a,((0:Nat):Int))) _=_;rw [GO (by omega)];rfl
 ·show bd (BC (b,((0:Nat):Int))) _=_;rw [GO (by omega)];rfl
 rw [show ((0:Nat),(((2:Int),[kx a 0,kx b 0]),())).2.1.2=[kx a 0,kx b 0] from rfl,Mz (BW _ _) (BW _ _),AB]
 refine BD (x:=(0,((Aw a b (a.length+b.length),(HF a b (a.length+b.length),((),([((Ai a b (a.length+b.length)).1:Int),((Ai a b (a.length+b.length)).2:Int)],Tt (kx a (Ai a b (a.length+b.length)).1) (kx b (Ai a b (a.length+b.length)).2))))),())))
  (IG (λk=>(Aw a b k,(HF a b k,((),([((Ai a b k).1:Int),((Ai a b k).2:Int)],Tt (kx a (Ai a b k).1) (kx b (Ai a b k).2)))))) 0 (a.length+b.length) rfl (by omega) (by omega) (λk _ hk => ?_) ?_) rfl
 ·obtain ⟨x,hx,_⟩:=D4 va vb (n:=k) hk;obtain ⟨w1,w2⟩:=eE va vb hx;obtain ⟨hI,hs⟩:=FG va vb (n:=k) (by omega);have hl1:(Aw a b k).length=k:=CY va vb (by omega);have hl2:=M4 a b k;simp only;rw [HE (BW _ _) (BW _ _),if_neg (by simp [w1]),AB,AQ,if_pos rfl,w2];rw [GE va vb hx];unfold NY at hx;rw [show HF a b (k+1)=HF a b k++[(Od a b k:Int)] from rfl];unfold Od;rw [show Ai a b (k+1)=if HR a b (Ai a b k).1 (Ai a b k).2=true then ((Ai a b k).1+1,(Ai a b k).2) else ((Ai a b k).1,(Ai a b k).2+1) from rfl]
  have g1 : ∀ {β:Type} (y:AD) (q:Unit->Option β),gd (Bo (BF (AA (Aw a b k)) (AA [y])) 1048576) q=q ():=λy q=>CR (by simp only [BF,AA,hl1,List.length_cons,List.length_nil];omega) q;have g2 : ∀ {β:Type} (y:Int) (q:Unit->Option β),gd (Bo (BF (AA (HF a b k)) (AA [y])) 1048576) q=q ():=λy q=>CR (by simp only [BF,AA,hl2,List.length_cons,List.length_nil];omega) q;cases g:HR a b (Ai a b k).1 (Ai a b k).2 with
  | true =>
   rw [if_pos g] at hx;obtain ⟨hkk,_⟩:=Wc g;obtain ⟨m,hr⟩:=He (p:=kx a (Ai a b k).1) (q:=kx b (Ai a b k).2) (k:=kx a ((Ai a b k).1+1)) (BW _ _) (BW _ _) (BW _ _) w1 (by rw [hkk,Fj hx];exact Nm va hx)
   have hrk:rk (kx a (Ai a b k).1) (kx b (Ai a b k).2) (kx a ((Ai a b k).1+1))=(kx a ((Ai a b k).1+1),kx b (Ai a b k).2):=by
    unfold rk;unfold HR at g;rw [if_pos g]
   rw [hrk] at hr;have hi:=(List.getElem?_eq_some_iff.1 hx).1;simp only [if_true];refine (Jh 0 rfl (x:=a) rfl).trans ((Jh 0 rfl (x:=((Ai a b k).1:Int)) rfl).trans ((EU _ rfl hx).trans ?_));rw [g1,g2];refine (Jh 0 rfl (x:=((Ai a b k).1:Int)) rfl).trans ((Jh 0 rfl (x:=((Ai a b k).1:Int)) rfl).trans ((Jh 0 rfl (x:=a) rfl).trans ((Jh 0 rfl (x:=AH .i64 ((Ai a b k).1:Int) 1) rfl).trans ?_)));rw [Aa (by omega),GO (by omega),AB,hr,AB];rfl
  | false =>
   rw [if_neg (by simp [g])] at hx;obtain ⟨hkk,_⟩:=Wd g;obtain ⟨m,hr⟩:=He (p:=kx a (Ai a b k).1) (q:=kx b (Ai a b k).2) (k:=kx b ((Ai a b k).2+1)) (BW _ _) (BW _ _) (BW _ _) w1 (by rw [hkk,Fj hx];exact Nm vb hx)
   have hrk:rk (kx a (Ai a b k).1) (kx b (Ai a b k).2) (kx b ((Ai a b k).2+1))=(kx a (Ai a b k).1,kx b ((Ai a b k).2+1)):=by
    unfold rk;unfold HR at g;rw [if_neg (by simp [g])]
   rw [hrk] at hr;have hi:=(List.getElem?_eq_some_iff.1 hx).1;simp only [Bool.false_eq_true,if_false];refine (Jh 1 rfl (x:=b) rfl).trans ((Jh 1 rfl (x:=((Ai a b k).2:Int)) rfl).trans ((EU _ rfl hx).trans ?_));rw [g1,g2];refine (Jh 1 rfl (x:=((Ai a b k).2:Int)) rfl).trans ((Jh 1 rfl (x:=((Ai a b k).2:Int)) rfl).trans ((Jh 1 rfl (x:=b) rfl).trans ((Jh 1 rfl (x:=AH .i64 ((Ai a b k).2:Int) 1) rfl).trans ?_)));rw [Aa (by omega),GO (by omega),AB,hr,AB];rfl
 ·simp only;rw [HE (BW _ _) (BW _ _),if_pos (eC va vb rfl),AB,AQ,if_neg (by decide),AQ,if_neg (by decide)]
end
end Go.Proofs.YthpkjfabdccpdaaGreat.Pl
namespace Go.Proofs.YthpkjfabdccpdaaGreat.Pl
open Go Go.Proofs.YthpkjfabdccpdaaGreat.Sv
theorem Vf {β:Type} {out:List AD} {n:Nat} (h:out.length<=n) (hn:n<=20000) (x:AD) (k:Unit->Option β):gd (Bo (BF out.length [x].length) 1048576) k=k ():=RO h hn x k
section
variable {a b:List AD} (va:VL a) (vb:VL b)
include va vb
theorem Gl {n:Nat} (h:n<=a.length+b.length):(Aw a b (a.length+b.length)).take n=Aw a b n:=UJ va vb (Nat.le_refl _) h
theorem Ji {n:Nat} {x:AD} (bt:Bool) (hx:NY a b n=some x):CH (s0 bt) (Aw a b (n+1))=(true,(x.1,bt)):=by
 rw [GE va vb hx,KJ,Fk]
theorem UR (bt:Bool) {n:Nat} (h:n<=a.length+b.length):ES (EI a b bt n)=some 0:=by
 obtain ⟨hI,hs⟩:=FG va vb (n:=n) h;have la:=va.len;have lb:=vb.len;have hfl:=IF (s0 bt) (Aw a b n);have hml:(Aw a b n).length=n:=CY va vb h;unfold ES;rw [show (EI a b bt n).1=LJ a b (Ai a b n).1 (Ai a b n).2 from rfl,KI va vb hI,AB,AQ,if_pos rfl];refine BD (x:=(0,((2,(n:Int)),()))) (CS (s1:=(1,((Ai a b n).1:Int))) (s2:=(2,(n:Int))) ?_ ?_ rfl) ?_
 ·refine (NZ 0 rfl rfl (x:=((Ai a b n).1:Int)) rfl).trans ?_;show some (LR.nx ((1:Int),AH .i64 0 ((Ai a b n).1:Int)))=_;rw [DC (by omega),Int.zero_add]
 ·refine (NZ 1 rfl rfl (x:=((Ai a b n).2:Int)) rfl).trans ?_;show some (LR.nx ((2:Int),AH .i64 ((Ai a b n).1:Int) ((Ai a b n).2:Int)))=_;rw [DC (by omega),show ((Ai a b n).1:Int)+((Ai a b n).2:Int)=(n:Int) by omega]
 simp only [AT,AP];rw [show (EI a b bt n).2.2.1=Ez (s0 bt) (Aw a b n) from rfl,show (EI a b bt n).2.2.2=(n:Int) from rfl,show (EI a b bt n).2.1=CH (s0 bt) (Aw a b n) from rfl,Az,if_neg (by omega),Az,if_neg (by omega),AQ,if_pos rfl];rw [show (LJ a b (Ai a b n).1 (Ai a b n).2).1=[a,b] from rfl,eF va vb,AB,AQ,if_pos rfl,AE];rw [CR (by rw [CY va vb (Nat.le_refl _)];exact h),CR (Nat.zero_le _)];rw [show Er (Aw a b (a.length+b.length)) 0 n=Aw a b n from by unfold Er;rw [List.drop_zero,Nat.sub_zero];exact Gl va vb h,Fk];rw [show (s0 bt).2.2=bt from rfl,Wf (by omega) (HG va vb bt h),AB,AQ,if_pos rfl];unfold CO;rw [AB,Az];cases n with
 | zero =>
  rw [if_neg (by omega),Oi _ (by omega),AB,RN,Ao];show br (AX (Bb (Sv.beq false false) (Bb (seq [] []) (Bb (Sv.beq bt bt) true)))) _ _=_;rw [Hf,Hf,Il];rfl
 | succ m =>
  obtain ⟨x,hx,_⟩:=D4 va vb (n:=m) (by omega);rw [if_pos (by omega),show Bz .i64 ((m+1:Nat):Int) 1=(m:Int) by rw [Bj (by omega)];omega,AE];rw [AJ (x:=x) (by rw [IE va vb (Nat.le_refl _) (by omega)];exact hx),Oi _ (by omega),AB,RN,Ao,Ji va vb bt hx];rw [Hf,Hf,Il];rfl
theorem YZ {n:Nat} (h:n<=a.length+b.length):Fi (LD a b n)=some (((a.length+b.length-n:Nat):Int),0):=by
 obtain ⟨hI,hs⟩:=FG va vb (n:=n) h;have la:=va.len;have lb:=vb.len;have ha:=hI.ia;have hb:=hI.jb;unfold Fi;rw [show LD a b n=LJ a b (Ai a b n).1 (Ai a b n).2 from rfl,KI va vb hI,AB,AQ,if_pos rfl];refine BD (x:=(0,((2,((a.length+b.length-n:Nat):Int)),()))) (CS (s1:=(1,(a.length:Int)-((Ai a b n).1:Int))) (s2:=(2,((a.length+b.length-n:Nat):Int))) ?_ ?_ rfl) rfl
 ·refine (NZ 0 rfl rfl (x:=a) rfl).trans ((EU 0 rfl (x:=((Ai a b n).1:Int)) rfl).trans ?_);simp only [AT,AP];rw [Bj (by omega)];show some (LR.nx ((1:Int),AH .i64 0 ((a.length:Int)-((Ai a b n).1:Int))))=_;rw [DC (by omega),Int.zero_add]
 ·refine (NZ 1 rfl rfl (x:=b) rfl).trans ((EU 1 rfl (x:=((Ai a b n).2:Int)) rfl).trans ?_);simp only [AT,AP];rw [Bj (by omega)];show some (LR.nx ((2:Int),AH .i64 ((a.length:Int)-((Ai a b n).1:Int)) ((b.length:Int)-((Ai a b n).2:Int))))=_;rw [DC (by omega),show (a.length:Int)-((Ai a b n).1:Int)+((b.length:Int)-((Ai a b n).2:Int))=((a.length+b.length-n:Nat):Int) by omega]
theorem M5 (bt:Bool) {n:Nat} (h:n<=a.length+b.length):BX (EI a b bt n)=some (((a.length+b.length-n:Nat):Int),0):=by
 unfold BX;rw [UR va vb bt h,AB,AQ,if_pos rfl,show (EI a b bt n).1=LD a b n from rfl,YZ va vb h];rfl
theorem Oj (bt:Bool) {n:Nat} {x:AD} (hx:NY a b n=some x):EI a b bt (n+1)=(LD a b (n+1),((true,(x.1,bt)),(Ez (s0 bt) (Aw a b n)++(if keep (CH (s0 bt) (Aw a b n)) x=true then [x] else []),((n+1:Nat):Int)))):=by
 unfold EI;rw [GE va vb hx,KJ,Fk,Sj]
theorem Im (bt:Bool) {n:Nat} {x:AD} (hn:n<a.length+b.length) (hx:NY a b n=some x):B0 (CH (s0 bt) (Aw a b n),x)=some (keep (CH (s0 bt) (Aw a b n)) x,((true,(x.1,bt)),0)):=by
 have hlm:=UQ va vb bt (n:=n) (by omega);rw [We hlm.1 hlm.2 (YU va vb hx),Fk];intro h1;cases n with
 | zero=>cases h1
 | succ m =>
  obtain ⟨y,hy,_⟩:=D4 va vb (n:=m) (by omega);rw [Ji va vb bt hy];exact Vc va vb (by omega) hy hx
def fH (k:Int) (s:Ii):Int×(Int×(List (List AD)×(List Int×(List AO×(List Int×(Int×(Bool×(L4×(Bool×(List AD×Int)))))))))) :=
 (k,(0,(s.1.1,(s.1.2.1,(s.1.2.2.1,(s.1.2.2.2.1,(s.1.2.2.2.2,(s.2.1.1,(s.2.1.2.1,(s.2.1.2.2,(s.2.2.1,s.2.2.2)))))))))))
theorem Wg (bt:Bool) {n:Nat} (h:n<=a.length+b.length) {k:Nat}:B3 (EI a b bt n,(k:Int))=some (EI a b bt (n+min k (a.length+b.length-n)),(((min k (a.length+b.length-n):Nat):Int),0)):=by
 have la:=va.len;have lb:=vb.len;have hml : ∀ m,m<=a.length+b.length->(Ez (s0 bt) (Aw a b m)).length<=m:=λm hm=>by have:=IF (s0 bt) (Aw a b m);have:=CY va vb hm;omega
 obtain ⟨u,hu⟩ : ∃ u,u=min k (a.length+b.length-n):=⟨_,rfl⟩
 have him:NL (k:Int) ((a.length+b.length-n:Nat):Int)=(u:Int):=by
  unfold NL;split<;>omega
 rw [<- hu];unfold B3;rw [M5 va vb bt h,AB,AQ,if_pos rfl];simp only [him,AT,AP];rw [BB,if_neg (by omega),show (EI a b bt n).2.2.2=(n:Int) from rfl,DC (by omega),Az,if_neg (by omega)];rw [show (EI a b bt n).2.2.1=Ez (s0 bt) (Aw a b n) from rfl,show (EI a b bt n).1=LD a b n from rfl,CR (by have:=hml n h;omega),CR (show (LD a b n).2.1.length<=1048576 from (show 2<=1048576 by omega)),BB];by_cases h0:u=0
 ·rw [h0,if_neg (by omega)];rfl
 rw [if_pos (by omega)];obtain ⟨x,hx,_⟩:=D4 va vb (n:=n) (by omega);rw [Oe va vb (by omega) hx,AB,AQ,if_pos rfl,show (EI a b bt n).2.1=CH (s0 bt) (Aw a b n) from rfl,Im va vb bt (by omega) hx,AB,AQ,if_pos rfl]
 have hl : ∀ j,1<=j->j<u -> ∃ y,NY a b (n+j)=some y:=λj h1 h2=>by
  obtain ⟨y,hy,_⟩:=D4 va vb (n:=n+j) (by omega);exact ⟨y,hy⟩
 rw [Fe];have hS:=Oj va vb bt hx;cases hk:keep (CH (s0 bt) (Aw a b n)) x with
 | true =>
  rw [hk] at hS;rw [if_pos rfl,Vf (hml n h) (by omega)];refine BD (x:=(1,(fH u (EI a b bt (n+u)),()))) (IG (λj=>fH j (EI a b bt (n+j))) 1 u ?_ (by omega) (by omega) (λj h1 h2 => ?_) ?_) ?_
  ·rw [hS,show AH .i64 (n:Int) 1=((n+1:Nat):Int) from Aa (by omega)];rfl
  ·obtain ⟨y,hy⟩:=hl j h1 h2;show br (Am (j:Int) (u:Int)) _ _=_;rw [BB,if_pos (by omega)];show bd (Bv (LD a b (n+j))) _=_;rw [Oe va vb (by omega) hy,AB,AQ,if_pos rfl];show bd (B0 (CH (s0 bt) (Aw a b (n+j)),y)) _=_;rw [Im va vb bt (by omega) hy,AB,AQ,if_pos rfl,Fe,show n+(j+1)=n+j+1 by omega,Oj va vb bt hy];cases hk2:keep (CH (s0 bt) (Aw a b (n+j))) y with
   | true =>
    rw [if_pos rfl,if_pos rfl];show gd (Bo (BF (AA (Ez (s0 bt) (Aw a b (n+j)))) (AA [y])) 1048576) _=_;rw [RO (hml _ (by omega)) (by omega)];show some (LR.nx (AH .i64 (j:Int) 1,_))=_;unfold fH;simp only [Aa (show j+1<=9223372036854775807 by omega),C3];rw [show AH .i64 (EI a b bt (n+j)).2.2.2 1=((n+j+1:Nat):Int) from Aa (by omega)];rfl
   | false =>
    rw [if_neg (by simp),if_neg (by simp)];show some (LR.nx (AH .i64 (j:Int) 1,_))=_;unfold fH;simp only [Aa (show j+1<=9223372036854775807 by omega)];rw [show AH .i64 (EI a b bt (n+j)).2.2.2 1=((n+j+1:Nat):Int) from Aa (by omega),List.append_nil];rfl
  ·show br (Am (u:Int) (u:Int)) _ _=_;rw [BB,if_neg (by omega)]
  ·rfl
 | false =>
  rw [hk] at hS;rw [if_neg (by simp)];refine BD (x:=(1,(fH u (EI a b bt (n+u)),()))) (IG (λj=>fH j (EI a b bt (n+j))) 1 u ?_ (by omega) (by omega) (λj h1 h2 => ?_) ?_) ?_
  ·rw [hS,show AH .i64 (n:Int) 1=((n+1:Nat):Int) from Aa (by omega),if_neg (by simp),List.append_nil];rfl
  ·obtain ⟨y,hy⟩:=hl j h1 h2;show br (Am (j:Int) (u:Int)) _ _=_;rw [BB,if_pos (by omega)];show bd (Bv (LD a b (n+j))) _=_;rw [Oe va vb (by omega) hy,AB,AQ,if_pos rfl];show bd (B0 (CH (s0 bt) (Aw a b (n+j)),y)) _=_;rw [Im va vb bt (by omega) hy,AB,AQ,if_pos rfl,Fe,show n+(j+1)=n+j+1 by omega,Oj va vb bt hy];cases hk2:keep (CH (s0 bt) (Aw a b (n+j))) y with
   | true =>
    rw [if_pos rfl,if_pos rfl];show gd (Bo (BF (AA (Ez (s0 bt) (Aw a b (n+j)))) (AA [y])) 1048576) _=_;rw [RO (hml _ (by omega)) (by omega)];show some (LR.nx (AH .i64 (j:Int) 1,_))=_;unfold fH;simp only [Aa (show j+1<=9223372036854775807 by omega),C3];rw [show AH .i64 (EI a b bt (n+j)).2.2.2 1=((n+j+1:Nat):Int) from Aa (by omega)];rfl
   | false =>
    rw [if_neg (by simp),if_neg (by simp)];show some (LR.nx (AH .i64 (j:Int) 1,_))=_;unfold fH;simp only [Aa (show j+1<=9223372036854775807 by omega)];rw [show AH .i64 (EI a b bt (n+j)).2.2.2 1=((n+j+1:Nat):Int) from Aa (by omega),List.append_nil];rfl
  ·show br (Am (u:Int) (u:Int)) _ _=_;rw [BB,if_neg (by omega)]
  ·rfl
end
end Go.Proofs.YthpkjfabdccpdaaGreat.Pl
namespace Go.Proofs.YthpkjfabdccpdaaGreat.Pl
open Go Go.Proofs.YthpkjfabdccpdaaGreat.Sv
theorem Gm {α β σ S:Type} {l:List α} (mk:Nat->σ->S) (I:List α->Nat->σ->Prop) (Q:β->Prop) {f:S->Option (LR S β)} {s:S} (st:σ) (h0:s=mk 0 st) (hl:l.length<=9223372036854775807) (hi:I l 0 st)
  (hn : ∀ st,I [] l.length st -> ∃ r,f (mk l.length st)=some (.dn r)/\Q r)
  (hc : ∀ k x m st,l.drop k=x::m->l[k]? = some x->k<l.length->I (x::m) k st->(∃ st',f (mk k st)=some (.nx (mk (k+1) st'))/\I m (k+1) st') \/ ∃ r,f (mk k st)=some (.dn r)/\Q r) : ∃ r,loop f s=some r/\Q r:=by
 subst h0
 have main : ∀ (m:List α) (k n:Nat) (st:σ),l.drop k=m->k<=l.length->m.length<n->I m k st -> ∃ r,Dc n f (mk k st)=some r/\Q r:=by
  intro m
  induction m with
  | nil =>
   intro k n st hm hk hn' hi;obtain ⟨n,rfl⟩ : ∃ j,n=j+1:=⟨n-1,by omega⟩
   have hkl:k=l.length:=by
    have:=congrArg List.length hm;simp at this;omega
   subst hkl;obtain ⟨r,h1,h2⟩:=hn st hi;exact ⟨r,BL h1,h2⟩
  | cons x m ih =>
   intro k n st hm hk hn' hi;obtain ⟨n,rfl⟩ : ∃ j,n=j+1:=⟨n-1,by omega⟩
   have hx:l[k]? = some x:=by
    have:=congrArg List.head? hm;rw [List.head?_drop] at this;simpa using this
   have hk':k<l.length:=(List.getElem?_eq_some_iff.1 hx).1
   have hm2:l.drop (k+1)=m:=by
    have:=congrArg List.tail hm;rw [List.tail_drop] at this;simpa using this
   rcases hc k x m st hm hx hk' hi with ⟨st',h1,h2⟩ | ⟨r,h1,h2⟩
   ·rw [A7 h1];exact ih (k+1) n st' hm2 (by omega) (by simp at hn';omega) h2
   ·exact ⟨r,BL h1,h2⟩
 exact main l 0 _ st (by simp) (by omega) (by omega) hi
theorem IH {α:Type} (l m:List α) (hl:l.length=m.length) (hb:l.length<=9223372036854775806) {f:(Int×Bool)->Option (LR (Int×Bool) (Nat×((Int×Bool)×Unit)))}
  (hs : ∀ (k:Nat) x y,l[k]? = some x->m[k]? = some y->(x=y->f ((k:Int),false)=some (.nx (((k+1:Nat):Int),false)))/\(x≠y->f ((k:Int),false)=some (.dn (0,(((k:Int),false),())))))
  (he:f ((l.length:Int),false)=some (.dn (1,(((l.length:Int),false),())))) :
  ∃ r,loop f (0,false)=some r/\((l=m/\r.1=1)\/(l≠m/\r.1=0/\r.2.1.2=false)):=by
 refine Gm (l:=l) (σ:=Unit) (λk _=>((k:Int),false)) (λt k _=>t=l.drop k/\l.take k=m.take k) _ () rfl (by omega) ⟨by simp,by simp⟩ (λst h => ?_) (λk x t st hd hx hk h => ?_)
 ·refine ⟨_,he,.inl ⟨?_,rfl⟩⟩;have:=h.2;rw [List.take_length,hl,List.take_length] at this;exact this
 ·have hk2:k<m.length:=by omega
  have hy:m[k]? = some m[k]:=by simp [hk2]
  by_cases e:x=m[k]
  ·refine .inl ⟨(),(hs k x m[k] hx hy).1 e,?_,?_⟩
   ·have:=congrArg List.tail hd;rw [List.tail_drop] at this;simp at this;exact this.symm
   ·rw [List.take_add_one,List.take_add_one,h.2,hx,hy,e]
  ·refine .inr ⟨_,(hs k x m[k] hx hy).2 e,.inr ⟨?_,rfl,rfl⟩⟩;intro e2;subst e2;rw [hx] at hy;exact e (Option.some.inj hy)
theorem beq_eq (a b:Bool):Sv.beq a b=decide (a=b):=by cases a<;>cases b<;>rfl
theorem FH (a b:Int):Bg a b=decide (a=b):=by
 unfold Bg;by_cases h:a=b<;>simp [h]
theorem In (p q:Prop) [Decidable p] [Decidable q]:Bb (decide p) (decide q)=decide (p/\q):=by unfold Bb;simp
theorem CZ (p:Prop) [Decidable p]:AX (decide p)=decide (¬ p):=by unfold AX;simp
theorem L9 (a:Bool):Bb a true=a:=by cases a<;>rfl
theorem Wh (l m:List AO) (hb:l.length<=9223372036854775806):Ah (l,m)=some (decide (l=m)):=by
 unfold Ah;simp only [AT,AP];rw [AQ];by_cases hl:(l.length:Int)=(m.length:Int)
 ·rw [if_pos hl];have hl2:l.length=m.length:=by omega
  obtain ⟨r,h1,h2⟩:=IH l m hl2 hb (f:=λs0=>br (Am s0.1 (l.length:Int)) (λ_=>AV s0.1 λk1=>ix l k1 λx2=>AV s0.1 λk3=>ix m k3 λx4=>br (AX (Bb (seq x2.1 x4.1) (Bb (Sv.beq x2.2 x4.2) true))) (λ_=>some (.dn ((0,((s0.1,false),()))))) λ_=>some (.nx (AH .i64 s0.1 1,s0.2))) λ_=>some (.dn ((1,(s0,()))))) (λk x y hx hy=>by
    have hk:=(List.getElem?_eq_some_iff.1 hx).1
    have he : ∀ {β:Type} (u v:Unit->Option β),br (AX (Bb (seq x.1 y.1) (Bb (Sv.beq x.2 y.2) true))) u v=if x=y then v () else u ():=by
     intro β u v;rw [L9,LB,beq_eq,In,CZ,Ch];by_cases e:x=y
     ·subst e;simp
     ·rw [if_pos (λh=>e (Prod.ext h.1 h.2)),if_neg e]
    constructor
    ·intro e;simp only;rw [rl hk,AR,AE,AJ hx,AE,AJ hy,he,if_pos e,Aa (by omega)]
    ·intro e;simp only
     rw [rl hk,AR,AE,AJ hx,AE,AJ hy,he,if_neg e]) (by simp only;rw [re];rfl)
  refine BD h1 ?_;rcases h2 with ⟨e,h2⟩ | ⟨e,h2,h3⟩
  ·rw [CM,h2];simp [e]
  ·rw [CM,h2];simp [e,h3]
 ·rw [if_neg hl];have : ¬ l=m:=λe=>hl (by rw [e]);simp [this]
theorem KK (l m:List Int) (hb:l.length<=9223372036854775806):Ac (l,m)=some (decide (l=m)):=by
 unfold Ac;simp only [AT,AP];rw [AQ];by_cases hl:(l.length:Int)=(m.length:Int)
 ·rw [if_pos hl];have hl2:l.length=m.length:=by omega
  obtain ⟨r,h1,h2⟩:=IH l m hl2 hb (f:=λs0=>br (Am s0.1 (l.length:Int)) (λ_=>AV s0.1 λk1=>ix l k1 λx2=>AV s0.1 λk3=>ix m k3 λx4=>br (A6 x2 x4) (λ_=>some (.dn ((0,((s0.1,false),()))))) λ_=>some (.nx (AH .i64 s0.1 1,s0.2))) λ_=>some (.dn ((1,(s0,()))))) (λk x y hx hy=>by
    have hk:=(List.getElem?_eq_some_iff.1 hx).1;constructor
    ·intro e;simp only;rw [rl hk,AR,AE,AJ hx,AE,AJ hy,AQ,if_pos e,Aa (by omega)]
    ·intro e;simp only
     rw [rl hk,AR,AE,AJ hx,AE,AJ hy,AQ,if_neg e]) (by simp only;rw [re];rfl)
  refine BD h1 ?_;rcases h2 with ⟨e,h2⟩ | ⟨e,h2,h3⟩
  ·rw [CM,h2];simp [e]
  ·rw [CM,h2];simp [e,h3]
 ·rw [if_neg hl];have : ¬ l=m:=λe=>hl (by rw [e]);simp [this]
theorem Ok {β:Type} (x y:AD) (u v:Unit->Option β):br (AX (Bb (seq x.1 y.1) (Bb (seq x.2.1 y.2.1) (Bb (Sv.beq x.2.2.1 y.2.2.1) (Bb (Bg x.2.2.2 y.2.2.2) true))))) u v=if x=y then v () else u ():=by
 rw [L9,LB,LB,beq_eq,FH,In,In,In,CZ,Ch];by_cases e:x=y
 ·subst e;simp
 ·rw [if_pos (λh=>e (Prod.ext h.1 (Prod.ext h.2.1 (Prod.ext h.2.2.1 h.2.2.2)))),if_neg e]
theorem Fl (l m:List AD) (hb:l.length<=9223372036854775806):BK (l,m)=some (decide (l=m)):=by
 unfold BK;simp only [AT,AP];rw [AQ];by_cases hl:(l.length:Int)=(m.length:Int)
 ·rw [if_pos hl];have hl2:l.length=m.length:=by omega
  obtain ⟨r,h1,h2⟩:=IH l m hl2 hb (f:=λs0=>br (Am s0.1 (l.length:Int)) (λ_=>AV s0.1 λk1=>ix l k1 λx2=>AV s0.1 λk3=>ix m k3 λx4=>br (AX (Bb (seq x2.1 x4.1) (Bb (seq x2.2.1 x4.2.1) (Bb (Sv.beq x2.2.2.1 x4.2.2.1) (Bb (Bg x2.2.2.2 x4.2.2.2) true))))) (λ_=>some (.dn ((0,((s0.1,false),()))))) λ_=>some (.nx (AH .i64 s0.1 1,s0.2))) λ_=>some (.dn ((1,(s0,()))))) (λk x y hx hy=>by
    have hk:=(List.getElem?_eq_some_iff.1 hx).1;constructor
    ·intro e;simp only;rw [rl hk,AR,AE,AJ hx,AE,AJ hy,Ok,if_pos e,Aa (by omega)]
    ·intro e;simp only
     rw [rl hk,AR,AE,AJ hx,AE,AJ hy,Ok,if_neg e]) (by simp only;rw [re];rfl)
  refine BD h1 ?_;rcases h2 with ⟨e,h2⟩ | ⟨e,h2,h3⟩
  ·rw [CM,h2];simp [e]
  ·rw [CM,h2];simp [e,h3]
 ·rw [if_neg hl];have : ¬ l=m:=λe=>hl (by rw [e]);simp [this]
theorem HH (l m:List AD) (hb:l.length<=9223372036854775806):Bd (l,m)=some (decide (l=m)):=by
 unfold Bd;rw [Fl l m hb];rfl
instance:DecidableEq AD:=inferInstance
instance:DecidableEq (List AD):=inferInstance
instance:DecidableEq (List (List AD)):=inferInstance
instance:DecidableEq AO:=inferInstance
instance:DecidableEq Dw:=inferInstance
instance:DecidableEq AN:=inferInstance
instance:DecidableEq Bu:=inferInstance
instance:DecidableEq Ii:=inferInstance
theorem Sl (x y:Ii) (h1:x.1.1.length<=1000) (h2 : ∀ l∈x.1.1,l.length<=1000000) (h3:x.1.2.1.length<=1000) (h4:x.1.2.2.1.length<=1000) (h5:x.1.2.2.2.1.length<=1000) (h6:x.2.2.1.length<=1000000):DD (x,y)=some (decide (x=y)):=by
 obtain ⟨⟨xr,xa,xk,xl,xw⟩,⟨xs,xt,xb⟩,xo,xn⟩:=x;obtain ⟨⟨yr,ya,yk,yl,yw⟩,⟨ys,yt,yb⟩,yo,yn⟩:=y;simp only at h1 h2 h3 h4 h5 h6;unfold DD;simp only [AT,AP];rw [AQ];by_cases hl:(xr.length:Int)=(yr.length:Int)
 ·rw [if_pos hl];have hl2:xr.length=yr.length:=by omega
  obtain ⟨r,q1,q2⟩:=IH xr yr hl2 (by omega) (f:=λs0=>br (Am s0.1 (xr.length:Int)) (λ_=>AV s0.1 λk1=>ix xr k1 λx2=>AV s0.1 λk3=>ix yr k3 λx4=>bd (Bd (x2,x4)) λr5=>br (AX r5) (λ_=>some (.dn ((0,((s0.1,false),()))))) λ_=>some (.nx (AH .i64 s0.1 1,s0.2))) λ_=>some (.dn ((1,(s0,()))))) (λk x y hx hy=>by
    have hk:=(List.getElem?_eq_some_iff.1 hx).1;have hx1:=h2 x (List.mem_of_getElem? hx);constructor
    ·intro e;simp only;rw [rl hk,AR,AE,AJ hx,AE,AJ hy,HH _ _ (by omega),AB,CZ,Ch,if_neg (by simp [e]),Aa (by omega)]
    ·intro e;simp only
     rw [rl hk,AR,AE,AJ hx,AE,AJ hy,HH _ _ (by omega),AB,CZ,Ch,if_pos e]) (by simp only;rw [re];rfl)
  refine BD q1 ?_;simp only [KK _ _ (show xa.length<=9223372036854775806 by omega),KK _ _ (show xl.length<=9223372036854775806 by omega),Wh _ _ (show xk.length<=9223372036854775806 by omega),HH _ _ (show xo.length<=9223372036854775806 by omega),AB,Ch,FH,LB,beq_eq,L9,In,CM];rw [Fe];rcases q2 with ⟨e,q2⟩ | ⟨e,q2,q3⟩
  ·rw [if_neg (show ¬ r.1=0 by omega)]
   repeat' split
   all_goals simp_all
  ·rw [if_pos q2,if_neg (show ¬ r.2.1.2=true by simp [q3])];simp [e]
 ·rw [if_neg hl];have : ¬ xr=yr:=λe=>hl (by rw [e]);simp [this]
end Go.Proofs.YthpkjfabdccpdaaGreat.Pl
namespace Go.Proofs.YthpkjfabdccpdaaGreat.Pl
open Go Go.Proofs.YthpkjfabdccpdaaGreat.Sv
def kR (ids:List Int) (most:Int) (r:BQ):Int :=
 if r.1<1\/r.1>1000000 then 7 else if (Et r.2).2≠0 then (Et r.2).2 else if r.2.length=0 then 4 else if (r.2.length:Int)>most then 3 else if r.1∈ids then 8 else 0
def KN (most:Int):Nat->List Int->List BQ->Option (Nat×Int)
 | _,_,[]=>none
 | k,ids,r::rs=>if kR ids most r≠0 then some (k,kR ids most r) else KN most (k+1) (ids++[r.1]) rs
def Br (B:Int) (i:Nat):Int:=B*2 ^ i
def KO (B:Int):Nat->List Int->List (List BQ)->Option (Nat×(Nat×Int))
 | _,_,[]=>none
 | i,ids,rs::ls=>if rs.length>2 then some (i,(0,3)) else match KN (Br B i) 0 ids rs with
  | some (k,e)=>some (i,(k,e))
  | none=>KO B (i+1) (ids++rs.map (·.1)) ls
def DG (L:AI):Int×(Int×Int) :=
 if L.1<1\/L.1>16 then (0,(0,7)) else if L.2.length>12 then (0,(0,3)) else match KO L.1 0 [] L.2 with
  | some (i,(k,e))=>((i:Int),((k:Int),e))
  | none=>if L.2.getLast? = some [] then (((L.2.length-1:Nat):Int),(0,6)) else (0,(0,0))
theorem Vg {most:Int} : ∀ {rs:List BQ} {k:Nat} {ids:List Int} {k':Nat} {e:Int},KN most k ids rs=some (k',e)->e≠0
 | [],_,_,_,_,h=>by cases h
 | r::rs,k,ids,k',e,h=>by
  unfold KN at h;by_cases hk:kR ids most r≠0
  ·rw [if_pos hk] at h;cases h;exact hk
  ·rw [if_neg hk] at h;exact Vg h
theorem RP {B:Int} : ∀ {ls:List (List BQ)} {i:Nat} {ids:List Int} {i' k':Nat} {e:Int},KO B i ids ls=some (i',(k',e))->e≠0
 | [],_,_,_,_,_,h=>by cases h
 | rs::ls,i,ids,i',k',e,h=>by
  unfold KO at h;by_cases hk:rs.length>2
  ·rw [if_pos hk] at h;cases h;decide
  ·rw [if_neg hk] at h;cases hr:KN (Br B i) 0 ids rs with
   | none=>rw [hr] at h;exact RP h
   | some x=>rw [hr] at h;cases h;exact Vg hr
def PI (ids:List Int):List (Int×Bool):=ids.map λi=>(i,true)
theorem Ya (ids:List Int) (i:Int):PB (H3 (λa b=>Bg a b) (PI ids) i) false=decide (i∈ids):=by
 induction ids with
 | nil=>rfl
 | cons j ids ih =>
  show PB (bif Bg i j then some true else H3 (λa b=>Bg a b) (PI ids) i) false=_
  rw [FH];by_cases h:i=j
  ·simp [h,PB]
  ·simp only [h,decide_false,cond_false,List.mem_cons,false_or];exact ih
theorem Yb {ids:List Int} {i:Int} (h:i ∉ ids):HN (λa b=>Bg a b) (PI ids) i true=PI (ids++[i]):=by
 induction ids with
 | nil=>rfl
 | cons j ids ih =>
  show (bif Bg i j then (i,true)::PI ids else (j,true)::HN (λa b=>Bg a b) (PI ids) i true)=_
  rw [FH];have h1 : ¬ i=j:=λe=>h (by simp [e]);rw [ih (λe=>h (by simp [e]))];simp only [h1,decide_false,cond_false];rfl
theorem RQ (r:BQ) (hl:r.2.length<=9223372036854775807):Ff r=some (if r.1<1\/r.1>1000000 then (-1,7) else Et r.2):=by
 unfold Ff;rw [BB,Az,Ga _ hl,AB];by_cases h:r.1<1
 ·rw [if_pos h,if_pos (.inl h)]
 ·rw [if_neg h];by_cases h2:r.1>1000000
  ·rw [if_pos h2,if_pos (.inr h2)]
  ·rw [if_neg h2,if_neg (by omega)]
theorem P5 (r:BQ) (most:Int) (hl:r.2.length<=9223372036854775807):Cl (r,most)=some (kR [] most r):=by
 unfold Cl kR;rw [RQ r hl,AB];simp only [AT,AP];by_cases h:r.1<1\/r.1>1000000
 ·rw [if_pos h,if_pos h];rfl
 ·rw [if_neg h,if_neg h,AQ];by_cases h2:(Et r.2).2=0
  ·rw [if_pos h2,if_neg (by simp [h2]),B7,Az]
   repeat' split
   all_goals first | rfl | (exfalso;omega) | simp_all
  ·rw [if_neg h2,if_pos h2]
theorem fx (ids:List Int) (most:Int) (r:BQ):kR ids most r=if kR [] most r=0 then (if r.1∈ids then 8 else 0) else kR [] most r:=by
 unfold kR
 repeat' split
 all_goals simp_all
theorem fy (i:Nat) (h:i<=12):(2:Int) ^ i<=4096/\1<=(2:Int) ^ i:=by
 have h1:(2:Nat) ^ i<=2 ^ 12:=Nat.pow_le_pow_right (by omega) h;have h2:1<=(2:Nat) ^ i:=Nat.one_le_two_pow;have h3:((2 ^ i:Nat):Int)=(2:Int) ^ i:=by simp
 omega
theorem Sn {B:Int} {i:Nat} (h1:1<=B) (h2:B<=16) (hi:i<=12):1<=Br B i/\Br B i<=65536:=by
 obtain ⟨h3,h4⟩:=fy i hi;unfold Br;constructor
 ·have:=Int.mul_le_mul h1 h4 (by omega) (by omega);omega
 ·have:=Int.mul_le_mul h2 h3 (by omega) (by omega);omega
theorem M6 {B:Int} {i:Nat} (h1:1<=B) (h2:B<=16) (hi:i<=12):R8 .i64 B (i:Int)=Br B i:=by
 have h3:=Sn h1 h2 hi;unfold R8;rw [show min ((i:Int).toNat) IntKind.i64.bits=i by rw [Int.toNat_natCast];exact Nat.min_eq_left (Nat.le_trans hi (by decide))];unfold Br at h3 ⊢;exact IntWalk.i64_in _ (by omega)
def Q1:Option (Nat×(Nat×Int))->Int->Int->Int->Prop
 | some (i,(k,e)),a,b,c=>a=(k:Int)/\b=(i:Int)/\c=e
 | none,_,_,c=>c=0
def Q2 (m:List (Int×Bool)):Option (Nat×Int)->Nat->Int->Int->List (Int×Bool)->Prop
 | some (k,e),r,a,c,_=>r=0/\a=(k:Int)/\c=e
 | none,r,_,c,m'=>r=1/\c=0/\m'=m
theorem Io (L:AI) (hb:L.2.length<=1048576) (hr : ∀ rs∈L.2,rs.length<=1048576 /\ ∀ r∈rs,r.2.length<=9223372036854775807):CN L=some (DG L):=by
 unfold CN DG;simp only [AT,AP];rw [BB,Az,Az];by_cases hB1:L.1<1
 ·rw [if_pos hB1,if_pos (.inl hB1)]
 rw [if_neg hB1];by_cases hB2:L.1>16
 ·rw [if_pos hB2,if_pos (.inr hB2)]
 rw [if_neg hB2,if_neg (show ¬ (L.1<1\/L.1>16) by omega)];by_cases hl:(L.2.length:Int)>12
 ·rw [if_pos hl,if_pos (by omega)]
 rw [if_neg hl,if_neg (by omega)];have hl2:L.2.length<=12:=by omega
 obtain ⟨T,hT⟩ : ∃ T,T=KO L.1 0 [] L.2:=⟨_,rfl⟩;rw [<- hT]
 have hlast : ∀ r2:Int,r2=0->T=none->(br (A6 r2 0) (λ_=>(none:Option (Int×(Int×Int)))) λ_=>br (CD (L.2.length:Int) 0) (λ_=>AV (Bz .i64 (L.2.length:Int) 1) λk15=>ix L.2 k15 λx16=>br (Bg (x16.length:Int) 0) (λ_=>some ((Bz .i64 (L.2.length:Int) 1,(0,6)))) λ_=>some ((0,(0,0)))) λ_=>some ((0,(0,0))))=some (if L.2.getLast? = some [] then (((L.2.length-1:Nat):Int),(0,6)) else (0,(0,0))):=by
  intro r2 h0 _;rw [AQ,if_pos h0,Az];by_cases hn:L.2=[]
  ·rw [hn];rfl
  ·have hp:=List.length_pos_iff.2 hn;rw [if_pos (by omega),show Bz .i64 (L.2.length:Int) 1=((L.2.length-1:Nat):Int) by rw [Bj (by omega)];omega,AE,List.getLast?_eq_getElem?];have hx:L.2[L.2.length-1]? = some (L.2[L.2.length-1]'(by omega)):=by simp
   rw [AJ hx,hx,B7];by_cases he:L.2[L.2.length-1]'(by omega)=[]
   ·rw [he];simp
   ·rw [if_neg (by have:=List.length_pos_iff.2 he;omega),if_neg (by simp [he])]
 obtain ⟨r,q1,q2⟩:=Gm (l:=L.2) (σ:=Int×(Int×List Int)) (λi st=>(st.1,(st.2.1,((0:Int),((i:Int),PI st.2.2)))))
  (λm i st=>KO L.1 i st.2.2 m=T) (λ(r:Nat×((Int×(Int×(Int×(Int×List (Int×Bool)))))×Unit))=>Q1 T r.2.1.1 r.2.1.2.1 r.2.1.2.2.1)
  (f:=λs0=>br (Am s0.2.2.2.1 (L.2.length:Int)) (λ_=>AV s0.2.2.2.1 λk1=>ix L.2 k1 λx2=>br (CD (x2.length:Int) 2) (λ_=>some (.dn ((0,((0,(s0.2.2.2.1,(3,s0.2.2.2))),()))))) λ_=>bd (loop (λs3=>br (Am s3.2.1 (x2.length:Int)) (λ_=>AV s3.2.1 λk4=>ix x2 k4 λx5=>gd (Gz s0.2.2.2.1 0) λ_=>bd (Cl (x5,R8 .i64 L.1 s0.2.2.2.1)) λr6=>br (Bg r6 0) (λ_=>br (PB (H3 ((λa7=>(λa8=>Bg a7 a8))) s3.2.2.2 x5.1) false) (λ_=>some (.dn ((0,((s3.2.1,(s3.2.1,(8,s3.2.2.2))),()))))) λ_=>br (A6 r6 0) (λ_=>some (.dn ((0,((s3.2.1,(s3.2.1,(r6,s3.2.2.2))),()))))) λ_=>some (.nx ((s3.2.1,(AH .i64 s3.2.1 1,(r6,HN ((λa9=>(λa10=>Bg a9 a10))) s3.2.2.2 x5.1 true)))))) λ_=>br (A6 r6 0) (λ_=>some (.dn ((0,((s3.2.1,(s3.2.1,(r6,s3.2.2.2))),()))))) λ_=>some (.nx ((s3.2.1,(AH .i64 s3.2.1 1,(r6,HN ((λa11=>(λa12=>Bg a11 a12))) s3.2.2.2 x5.1 true)))))) λ_=>some (.dn ((1,(s3,()))))) ((0,(0,(s0.2.2.1,s0.2.2.2.2))))) λr13=>br (neq r13.1 0) (λ_=>some (.dn ((0,((r13.2.1.1,(s0.2.2.2.1,(r13.2.1.2.2.1,(s0.2.2.2.1,r13.2.1.2.2.2)))),()))))) λ_=>some (.nx ((r13.2.1.1,(s0.2.2.2.1,(r13.2.1.2.2.1,(AH .i64 s0.2.2.2.1 1,r13.2.1.2.2.2))))))) λ_=>some (.dn ((0,(s0,())))))
  (s:=(0,(0,(0,(0,[]))))) (0,(0,[])) rfl (by omega) hT.symm (λst h=>by
   refine ⟨_,by simp only;rw [re];rfl,?_⟩;simp only at h ⊢;rw [<- h];exact rfl) (λi rs m st hd hx hi h=>by
   obtain ⟨s1,s2,ids⟩:=st;simp only at h ⊢;obtain ⟨hrs1,hrs2⟩:=hr rs (List.mem_of_getElem? hx);rw [rl hi,AR,AE,AJ hx,Az];unfold KO at h;by_cases h3:rs.length>2
   ·rw [if_pos (by omega)];rw [if_pos h3] at h;refine .inr ⟨_,rfl,?_⟩;rw [<- h];exact ⟨rfl,rfl,rfl⟩
   rw [if_neg (by omega)];rw [if_neg h3] at h;obtain ⟨U,hU⟩ : ∃ U,U=KN (Br L.1 i) 0 ids rs:=⟨_,rfl⟩;rw [<- hU] at h
   obtain ⟨r,q1,q2⟩:=Gm (l:=rs) (σ:=Int) (λk st=>(st,((k:Int),((0:Int),PI (ids++(rs.take k).map (·.1))))))
    (λm k _=>KN (Br L.1 i) k (ids++(rs.take k).map (·.1)) m=U) (λ(r:Nat×((Int×(Int×(Int×List (Int×Bool))))×Unit))=>Q2 (PI (ids++rs.map (·.1))) U r.1 r.2.1.1 r.2.1.2.2.1 r.2.1.2.2.2)
    (f:=λs3=>br (Am s3.2.1 (rs.length:Int)) (λ_=>AV s3.2.1 λk4=>ix rs k4 λx5=>gd (Gz (i:Int) 0) λ_=>bd (Cl (x5,R8 .i64 L.1 (i:Int))) λr6=>br (Bg r6 0) (λ_=>br (PB (H3 ((λa7=>(λa8=>Bg a7 a8))) s3.2.2.2 x5.1) false) (λ_=>some (.dn ((0,((s3.2.1,(s3.2.1,(8,s3.2.2.2))),()))))) λ_=>br (A6 r6 0) (λ_=>some (.dn ((0,((s3.2.1,(s3.2.1,(r6,s3.2.2.2))),()))))) λ_=>some (.nx ((s3.2.1,(AH .i64 s3.2.1 1,(r6,HN ((λa9=>(λa10=>Bg a9 a10))) s3.2.2.2 x5.1 true)))))) λ_=>br (A6 r6 0) (λ_=>some (.dn ((0,((s3.2.1,(s3.2.1,(r6,s3.2.2.2))),()))))) λ_=>some (.nx ((s3.2.1,(AH .i64 s3.2.1 1,(r6,HN ((λa11=>(λa12=>Bg a11 a12))) s3.2.2.2 x5.1 true)))))) λ_=>some (.dn ((1,(s3,())))))
    (s:=(0,(0,(0,PI ids)))) 0 (by simp) (by omega) (by simp [hU]) (λst h=>by
     refine ⟨_,by simp only;rw [re];rfl,?_⟩;rw [<- h];exact ⟨rfl,rfl,by simp⟩) (λk r m st hd hx hk h=>by
     simp only at h ⊢;have hr2:=hrs2 r (List.mem_of_getElem? hx);have htk:(rs.take (k+1)).map (·.1)=(rs.take k).map (·.1)++[r.1]:=by rw [List.take_add_one,hx];simp
     rw [rl hk,AR,AE,AJ hx,show gd (Gz (i:Int) 0)=λ(q:Unit->Option (LR (Int×(Int×(Int×List (Int×Bool)))) (Nat×((Int×(Int×(Int×List (Int×Bool))))×Unit))))=>q () from by unfold Gz;simp [gd];rfl,M6 (by omega) (by omega) (by omega)];simp only;rw [P5 _ _ (by omega),AB,B7,Ya,AQ];unfold KN at h;rw [fx] at h;by_cases h0:kR [] (Br L.1 i) r=0
     ·rw [if_pos h0] at h;rw [if_pos h0,if_pos h0,Ch];by_cases hm:r.1∈ids++(rs.take k).map (·.1)
      ·rw [if_pos hm];rw [if_pos hm,if_pos (by decide)] at h;refine .inr ⟨_,rfl,?_⟩;rw [<- h];exact ⟨rfl,rfl,rfl⟩
      ·rw [if_neg hm];rw [if_neg hm,if_neg (by decide)] at h;refine .inl ⟨(k:Int),?_,?_⟩
       ·rw [Yb hm,h0,Al hx (by omega),htk,List.append_assoc]
       ·rw [htk,<- List.append_assoc];exact h
     ·rw [if_neg h0,if_pos h0] at h;rw [if_neg h0,if_neg h0];refine .inr ⟨_,rfl,?_⟩;rw [<- h]
      exact ⟨rfl,rfl,rfl⟩)
   rw [q1,AB,CM];cases hUc:U with
   | some u =>
    obtain ⟨k,e⟩:=u;rw [hUc] at q2 h;rw [if_pos q2.1];refine .inr ⟨_,rfl,?_⟩;rw [<- h];exact ⟨q2.2.1,rfl,q2.2.2⟩
   | none =>
    rw [hUc] at q2 h;rw [if_neg (show ¬ r.1=0 by have:=q2.1;omega)];refine .inl ⟨(r.2.1.1,((i:Int),ids++rs.map (·.1))),?_,h⟩
    rw [q2.2.1,q2.2.2,Al hx (by omega)])
 refine BD q1 ?_;cases hTc:T with
 | some t =>
  obtain ⟨i,k,e⟩:=t;rw [hTc] at q2 hT;rw [AQ,if_neg (by rw [q2.2.2];exact RP hT.symm),q2.1,q2.2.1,q2.2.2]
 | none =>
  rw [hTc] at q2;have h:=hlast _ q2 hTc;have q3:r.2.1.2.2.1=0:=q2;rw [AQ,if_pos q3] at h ⊢;exact h
end Go.Proofs.YthpkjfabdccpdaaGreat.Pl
namespace Go.Proofs.YthpkjfabdccpdaaGreat.Pl
open Go Go.Proofs.YthpkjfabdccpdaaGreat.Sv
structure VR (most:Int) (r:BQ):Prop where
 id1:1<=r.1
 id2:r.1<=1000000
 vl:VL r.2
 ne:r.2≠[]
 le:(r.2.length:Int)<=most
theorem Yc {ids:List Int} {most:Int} {r:BQ}:kR ids most r=0<->VR most r/\r.1 ∉ ids:=by
 unfold kR;constructor
 ·intro h;by_cases h1:r.1<1\/r.1>1000000
  ·rw [if_pos h1] at h;cases h
  rw [if_neg h1] at h;by_cases h2:(Et r.2).2≠0
  ·rw [if_pos h2] at h;exact absurd h h2
  rw [if_neg h2] at h;by_cases h3:r.2.length=0
  ·rw [if_pos h3] at h;cases h
  rw [if_neg h3] at h;by_cases h4:(r.2.length:Int)>most
  ·rw [if_pos h4] at h;cases h
  rw [if_neg h4] at h;by_cases h5:r.1∈ids
  ·rw [if_pos h5] at h;cases h
  exact ⟨⟨by omega,by omega,Mx.1 (by simpa using h2),by intro e;rw [e] at h3;exact h3 rfl,by omega⟩,h5⟩
 ·rintro ⟨h,h5⟩;rw [if_neg (by have:=h.id1;have:=h.id2;omega),if_neg (by simp [Mx.2 h.vl]),if_neg (by have:=List.length_pos_iff.2 h.ne;omega),if_neg (by have:=h.le;omega),if_neg h5]
def fI (r:BQ):Int:=r.1
theorem M7 {most:Int} : ∀ {rs:List BQ} {k:Nat} {ids:List Int},KN most k ids rs=none<->(∀ r∈rs,VR most r/\r.1 ∉ ids)/\(rs.map fI).Nodup
 | [],k,ids=>by simp [KN]
 | r::rs,k,ids=>by
  unfold KN;by_cases h:kR ids most r=0
  ·rw [if_neg (by simp [h]),M7 (rs:=rs)];have h1:=Yc.1 h;simp only [List.mem_cons,forall_eq_or_imp,List.map_cons,List.nodup_cons,List.mem_append,List.not_mem_nil,or_false,List.mem_map,not_exists,not_and,not_or];constructor
   ·rintro ⟨h2,h3⟩;exact ⟨⟨h1,λx hx=>⟨(h2 x hx).1,(h2 x hx).2.1⟩⟩,λx hx e=>(h2 x hx).2.2 e,h3⟩
   ·rintro ⟨⟨_,h2⟩,h3,h4⟩;exact ⟨λx hx=>⟨(h2 x hx).1,(h2 x hx).2,h3 x hx⟩,h4⟩
  ·rw [if_pos h];simp only [reduceCtorEq,false_iff,not_and];intro h2;exact absurd (Yc.2 (h2 r (by simp))) h
theorem KL {B:Int} : ∀ {ls:List (List BQ)} {i:Nat} {ids:List Int},KO B i ids ls=none<->(∀ k rs,ls[k]? = some rs->rs.length<=2 /\ ∀ r∈rs,VR (Br B (i+k)) r/\r.1 ∉ ids)/\(ls.flatten.map fI).Nodup
 | [],i,ids=>by simp [KO]
 | rs::ls,i,ids=>by
  unfold KO;by_cases h:rs.length>2
  ·rw [if_pos h];simp only [reduceCtorEq,false_iff,not_and];intro h2;have:=(h2 0 rs rfl).1;omega
  ·rw [if_neg h];cases hr:KN (Br B i) 0 ids rs with
   | some x =>
    simp only [reduceCtorEq,false_iff,not_and];intro h2 h3
    have h4:KN (Br B i) 0 ids rs=none:=M7.2 ⟨(h2 0 rs rfl).2,by
     simp only [List.flatten_cons,List.map_append] at h3
     exact (List.nodup_append.1 h3).1⟩
    rw [hr] at h4;cases h4
   | none =>
    have h1:=M7.1 hr;simp only;rw [KL (ls:=ls)];simp only [List.flatten_cons,List.map_append,List.mem_append,not_or,List.mem_map];constructor
    ·rintro ⟨h2,h3⟩;refine ⟨λk rs' hk => ?_,?_⟩
     ·cases k with
      | zero=>cases hk;exact ⟨by omega,h1.1⟩
      | succ k =>
       have h4:=h2 k rs' hk
       exact ⟨h4.1,λr hr=>by
        have:=h4.2 r hr;rw [show i+(k+1)=i+1+k by omega]
        exact ⟨this.1,this.2.1⟩⟩
     ·rw [List.nodup_append];refine ⟨h1.2,h3,?_⟩;intro a ha b hb e;subst e;obtain ⟨r,hr,e1⟩:=List.mem_map.1 ha;obtain ⟨r',hr',e2⟩:=List.mem_map.1 hb;obtain ⟨rs',hrs,hr'⟩:=List.mem_flatten.1 hr';obtain ⟨k,hk⟩:=List.getElem?_of_mem hrs;exact ((h2 k rs' hk).2 r' hr').2.2 ⟨r,hr,by unfold fI at e1 e2;omega⟩
    ·rintro ⟨h2,h3⟩;rw [List.nodup_append] at h3;refine ⟨λk rs' hk => ?_,h3.2.1⟩;have h4:=h2 (k+1) rs' hk;refine ⟨h4.1,λr hr => ?_⟩;have:=h4.2 r hr;rw [show i+(k+1)=i+1+k by omega] at this;refine ⟨this.1,this.2,?_⟩;rintro ⟨r',hr',e⟩;exact h3.2.2 (fI r') (List.mem_map_of_mem hr') (fI r) (List.mem_map_of_mem (List.mem_flatten.2 ⟨rs',List.mem_of_getElem? hk,hr⟩)) e
structure VLev (L:AI):Prop where
 B1:1<=L.1
 B2:L.1<=16
 len:L.2.length<=12
 lev : ∀ i rs,L.2[i]? = some rs->rs.length<=2 /\ ∀ r∈rs,VR (Br L.1 i) r
 ids:(L.2.flatten.map fI).Nodup
 last:L.2.getLast? ≠ some []
theorem Gb {L:AI}:(DG L).2.2=0<->VLev L:=by
 unfold DG;constructor
 ·intro h;by_cases h1:L.1<1\/L.1>16
  ·rw [if_pos h1] at h;cases h
  rw [if_neg h1] at h;by_cases h2:L.2.length>12
  ·rw [if_pos h2] at h;cases h
  rw [if_neg h2] at h;cases hg:KO L.1 0 [] L.2 with
  | some x =>
   obtain ⟨i,k,e⟩:=x;rw [hg] at h;exact absurd h (RP hg)
  | none =>
   rw [hg] at h;simp only at h;by_cases h3:L.2.getLast? = some []
   ·rw [if_pos h3] at h;cases h
   ·have h4:=KL.1 hg
    exact ⟨by omega,by omega,by omega,λi rs hi=>by
     have:=h4.1 i rs hi;rw [Nat.zero_add] at this
     exact ⟨this.1,λr hr=>(this.2 r hr).1⟩,h4.2,h3⟩
 ·intro h
  have hg:KO L.1 0 [] L.2=none:=KL.2 ⟨λk rs hk=>by
   have:=h.lev k rs hk;rw [Nat.zero_add]
   exact ⟨this.1,λr hr=>⟨this.2 r hr,by simp⟩⟩,h.ids⟩
  rw [if_neg (by have:=h.B1;have:=h.B2;omega),if_neg (by have:=h.len;omega),hg];simp only;rw [if_neg h.last]
theorem Fm {L:AI} (h:VLev L):DG L=(0,(0,0)):=by
 have hg:KO L.1 0 [] L.2=none:=KL.2 ⟨λk rs hk=>by
  have:=h.lev k rs hk;rw [Nat.zero_add]
  exact ⟨this.1,λr hr=>⟨this.2 r hr,by simp⟩⟩,h.ids⟩
 unfold DG;rw [if_neg (by have:=h.B1;have:=h.B2;omega),if_neg (by have:=h.len;omega),hg];simp only;rw [if_neg h.last]
def FM (l:List (List BQ)):Int:=l.foldl (λm rs=>rs.foldl (λm r=>KW m r.1) m) 0
def Ba:Nat->List (List BQ)->List Int
 | _,[]=>[]
 | i,rs::ls=>(if rs.length=2 then [(i:Int)] else [])++Ba (i+1) ls
theorem So (L:AI) (hb:L.2.length<=1048576) (hr : ∀ rs∈L.2,rs.length<=1048576):D1 L=some (FM L.2):=by
 unfold D1;simp only [AT,AP]
 rw [Dk (l:=L.2) (σ:=Int) (s:=((0:Int),(0:Int))) (λi m=>(m,(i:Int))) (λ_ _ _=>True) (λls _ m=>(0,((ls.foldl (λm rs=>rs.foldl (λm r=>KW m r.1) m) m,(L.2.length:Int)),()))) 0 rfl (by omega) trivial (λm _=>by
  simp only;rw [re];rfl) (λi rs ls m hd hx hi _=>by
   refine ⟨rs.foldl (λm r=>KW m r.1) m,?_,trivial,rfl⟩;have h1:=hr rs (List.mem_of_getElem? hx);simp only
   rw [rl hi,AR,AE,AJ hx,Dk (l:=rs) (σ:=Int) (s:=((0:Int),m)) (λi m=>((i:Int),m)) (λ_ _ _=>True) (λl _ m=>(0,(((rs.length:Int),l.foldl (λm r=>KW m r.1) m),()))) m rfl (by omega) trivial (λm _=>by
    simp only;rw [re];rfl) (λk r l m hd hx hk _=>by
     refine ⟨KW m r.1,?_,trivial,rfl⟩;simp only
     rw [rl hk,AR,AE,AJ hx,Al hx (by omega)]),AB,Al hx (by omega)]),AB]
 rfl
def KP (L:AI) (due:List Int) (i:Nat) (j:GN):Bool:=match due[i]? with
 | none=>true
 | some d=>if j.1≠d then true else if j.2.2.1.2.2=true/\j.1≠(L.2.length:Int)-1 then true else match L.2[d.toNat]? with
  | some [r0,r1]=>if j.2.2.2.2<0\/j.2.2.2.2>((r1.2.length+r0.2.length:Nat):Int) then true else decide (EI r1.2 r0.2 j.2.2.1.2.2 j.2.2.2.2.toNat≠j.2)
  | _=>true
def FI (L:AI) (due:List Int):Nat->List GN->Option Nat
 | _,[]=>none
 | i,j::js=>if KP L due i j=true then some i else FI L due (i+1) js
def Au (s:Ab):Int×Int :=
 if (DG s.1).2.2≠0 then (-1,(DG s.1).2.2) else if s.2.2<1\/s.2.2>1000001 then (-1,7) else if s.2.2<=FM s.1.2 then (-1,6) else match FI s.1 (Ba 0 s.1.2) 0 s.2.1 with
  | some i=>((i:Int),6)
  | none=>if s.2.1.length<(Ba 0 s.1.2).length then (-1,4) else (0,0)
theorem II : ∀ {ls:List (List BQ)} {i k:Nat} {d:Int},(Ba i ls)[k]? = some d -> ∃ n:Nat,d=((i+n:Nat):Int) /\ ∃ r0 r1,ls[n]? = some [r0,r1]
 | [],i,k,d,h=>by cases h
 | rs::ls,i,k,d,h=>by
  unfold Ba at h;by_cases h2:rs.length=2
  ·rw [if_pos h2] at h;cases k with
   | zero =>
    simp at h;refine ⟨0,by simp [<- h],?_⟩
    match rs,h2 with
    | [r0,r1],_=>exact ⟨r0,r1,rfl⟩
   | succ k =>
    simp at h;obtain ⟨n,h3,h4⟩:=II h;exact ⟨n+1,by rw [h3];congr 1;omega,h4⟩
  ·rw [if_neg h2] at h;simp at h;obtain ⟨n,h3,h4⟩:=II h;exact ⟨n+1,by rw [h3];congr 1;omega,h4⟩
theorem GF : ∀ (ls:List (List BQ)) (i:Nat),(Ba i ls).length<=ls.length
 | [],i=>Nat.le_refl _
 | rs::ls,i=>by
  have:=GF ls (i+1);unfold Ba;split<;>simp<;>omega
theorem Sp {L:AI} {n:Nat} {r0 r1:BQ} (bt:Bool) (h:L.2[n]? = some [r0,r1]) (v0:VL r0.2) (v1:VL r1.2):CK (L,((n:Int),bt))=some ((n:Int),EI r1.2 r0.2 bt 0):=by
 unfold CK;simp only;rw [AE,AJ h,AJ (x:=r1) rfl,AJ (x:=r0) rfl,WZ v1 v0];rfl
theorem P6 {a b:List AD} (va:VL a) (vb:VL b) (bt:Bool) {n:Nat} (h:n<=a.length+b.length):(EI a b bt n).1.1.length<=1000/\(∀ l∈(EI a b bt n).1.1,l.length<=1000000)/\(EI a b bt n).1.2.1.length<=1000/\(EI a b bt n).1.2.2.1.length<=1000/\(EI a b bt n).1.2.2.2.1.length<=1000/\(EI a b bt n).2.2.1.length<=1000000:=by
 have la:=va.len;have lb:=vb.len;refine ⟨show 2<=1000 by omega,λl hl => ?_,show 2<=1000 by omega,show 2<=1000 by omega,show 2<=1000 by omega,?_⟩
 ·have:l=a\/l=b:=by simpa [EI,LD,LJ] using hl
  rcases this with e | e<;>subst e<;>omega
 ·have h1:=IF (s0 bt) (Aw a b n);have h2:=CY va vb h;show (Ez (s0 bt) (Aw a b n)).length<=_;omega
theorem f6 {L:AI} {n:Nat} {r0 r1:BQ} {j:GN} (h:L.2[n]? = some [r0,r1]) (v0:VL r0.2) (v1:VL r1.2) {β:Type} (A B:Option β) :
  (bd (CK (L,((n:Int),j.2.2.1.2.2))) λr16=>bd (BX r16.2) λr17=>br (Am j.2.2.2.2 0) (λ_=>A) λ_=>br (CD j.2.2.2.2 r17.1) (λ_=>A) λ_=>bd (B3 (r16.2,j.2.2.2.2)) λr18=>bd (DD (r18.1,j.2)) λr19=>br (AX r19) (λ_=>A) λ_=>B)
  = if j.2.2.2.2<0\/j.2.2.2.2>((r1.2.length+r0.2.length:Nat):Int) then A else if EI r1.2 r0.2 j.2.2.1.2.2 j.2.2.2.2.toNat=j.2 then B else A:=by
 rw [Sp _ h v0 v1,AB,M5 v1 v0 _ (Nat.zero_le _),AB,BB,Az,Nat.sub_zero];by_cases h1:j.2.2.2.2<0
 ·rw [if_pos h1,if_pos (.inl h1)]
 rw [if_neg h1];by_cases h2:j.2.2.2.2>((r1.2.length+r0.2.length:Nat):Int)
 ·rw [if_pos h2,if_pos (.inr h2)]
 rw [if_neg h2,if_neg (show ¬ (j.2.2.2.2<0\/j.2.2.2.2>((r1.2.length+r0.2.length:Nat):Int)) by omega)];obtain ⟨k,hk⟩ : ∃ k:Nat,j.2.2.2.2=(k:Int):=⟨j.2.2.2.2.toNat,by omega⟩;rw [hk,Wg v1 v0 _ (Nat.zero_le _),AB,Nat.sub_zero,Nat.zero_add,Nat.min_eq_left (by omega),Int.toNat_natCast];obtain ⟨s1,s2,s3,s4,s5,s6⟩:=P6 v1 v0 j.2.2.1.2.2 (n:=k) (by omega);rw [Sl _ _ s1 s2 s3 s4 s5 s6,AB,CZ,Ch];by_cases he:EI r1.2 r0.2 j.2.2.1.2.2 k=j.2
 ·rw [if_neg (by simp [he]),if_pos he]
 ·rw [if_pos he,if_neg he]
theorem US (s:Ab) (hb:s.1.2.length<=1048576) (hr : ∀ rs∈s.1.2,rs.length<=1048576 /\ ∀ r∈rs,r.2.length<=9223372036854775807) (hj:s.2.1.length<=1048576):DE s=some (Au s):=by
 unfold DE Au;simp only [AT,AP];rw [Io _ hb hr,AB,AQ];by_cases h0:(DG s.1).2.2=0;rotate_left
 ·rw [if_neg h0,if_pos h0]
 rw [if_pos h0,if_neg (by simp [h0]),BB,Az,So _ hb (λrs h=>(hr rs h).1),AB];have v:=Gb.1 h0;by_cases h1:s.2.2<1
 ·rw [if_pos h1,if_pos (.inl h1)]
 rw [if_neg h1];by_cases h2:s.2.2>1000001
 ·rw [if_pos h2,if_pos (.inr h2)]
 rw [if_neg h2,if_neg (show ¬ (s.2.2<1\/s.2.2>1000001) by omega),fF];by_cases h3:s.2.2<=FM s.1.2
 ·rw [if_pos h3,if_pos h3]
 rw [if_neg h3,if_neg h3]
 rw [Dk (l:=s.1.2) (σ:=List Int) (s:=((0:Int),([]:List Int))) (λi m=>((i:Int),m)) (λls i m=>m++Ba i ls=Ba 0 s.1.2) (λ_ _ _=>(0,(((s.1.2.length:Int),Ba 0 s.1.2),()))) [] rfl (by omega) rfl (λm h=>by
  simp only;rw [re,Ao,<- h];simp [Ba]) (λi rs ls m hd hx hi h=>by
   refine ⟨m++(if rs.length=2 then [(i:Int)] else []),?_,?_,rfl⟩
   ·simp only;rw [rl hi,AR,AE,AJ hx,B7]
    have hm:m.length<=1048575:=by
     have h4:=congrArg List.length h;have h5:=GF s.1.2 0;have h6:=v.len;rw [List.length_append] at h4;omega
    by_cases h4:rs.length=2
    ·rw [if_pos (by omega),if_pos h4,CR (by simp only [BF,AA,List.length_cons,List.length_nil];omega),Al hx (by omega)];rfl
    ·rw [if_neg (by omega),if_neg h4,List.append_nil,Al hx (by omega)]
   ·rw [List.append_assoc];exact h),AB]
 simp only;obtain ⟨due,hdue⟩ : ∃ due,due=Ba 0 s.1.2:=⟨_,rfl⟩;have hdl:due.length<=12:=by have:=GF s.1.2 0;have:=v.len;rw [hdue];omega
 rw [<- hdue];obtain ⟨T,hT⟩ : ∃ T,T=FI s.1 due 0 s.2.1:=⟨_,rfl⟩;rw [<- hT]
 obtain ⟨r,q1,q2⟩:=Gm (l:=s.2.1) (σ:=Unit) (λi _=>((0:Int),((0:Int),(i:Int)))) (λjs i _=>FI s.1 due i js=T) (λ(r:Nat×((Int×(Int×Int))×Unit))=>(T=none/\r.1=1)\/(∃ i:Nat,T=some i/\r.1=0/\r.2.1.1=6/\r.2.1.2.1=(i:Int)))
  (f:=λs6=>br (Am s6.2.2 (s.2.1.length:Int)) (λ_=>AV s6.2.2 λk7=>ix s.2.1 k7 λx8=>br (Gz s6.2.2 (due.length:Int)) (λ_=>some (.dn ((0,((6,(s6.2.2,s6.2.2)),()))))) λ_=>AV s6.2.2 λk9=>gd (Dn k9 due.length) λ_=>ix due k9 λx10=>br (A6 x8.1 x10) (λ_=>some (.dn ((0,((6,(s6.2.2,s6.2.2)),()))))) λ_=>br x8.2.2.1.2.2 (λ_=>bd (Cm (s.1,x8.1)) λr11=>br (AX r11) (λ_=>some (.dn ((0,((6,(s6.2.2,s6.2.2)),()))))) λ_=>bd (CK ((s.1,(x8.1,x8.2.2.1.2.2)))) λr12=>bd (BX r12.2) λr13=>br (Am x8.2.2.2.2 0) (λ_=>some (.dn ((0,((6,(s6.2.2,s6.2.2)),()))))) λ_=>br (CD x8.2.2.2.2 r13.1) (λ_=>some (.dn ((0,((6,(s6.2.2,s6.2.2)),()))))) λ_=>bd (B3 (r12.2,x8.2.2.2.2)) λr14=>bd (DD (r14.1,x8.2)) λr15=>br (AX r15) (λ_=>some (.dn ((0,((6,(s6.2.2,s6.2.2)),()))))) λ_=>some (.nx ((s6.1,(s6.2.1,AH .i64 s6.2.2 1))))) λ_=>bd (CK ((s.1,(x8.1,x8.2.2.1.2.2)))) λr16=>bd (BX r16.2) λr17=>br (Am x8.2.2.2.2 0) (λ_=>some (.dn ((0,((6,(s6.2.2,s6.2.2)),()))))) λ_=>br (CD x8.2.2.2.2 r17.1) (λ_=>some (.dn ((0,((6,(s6.2.2,s6.2.2)),()))))) λ_=>bd (B3 (r16.2,x8.2.2.2.2)) λr18=>bd (DD (r18.1,x8.2)) λr19=>br (AX r19) (λ_=>some (.dn ((0,((6,(s6.2.2,s6.2.2)),()))))) λ_=>some (.nx ((s6.1,(s6.2.1,AH .i64 s6.2.2 1))))) λ_=>some (.dn ((1,(s6,())))))
  (s:=(0,(0,0))) () rfl (by omega) hT.symm (λ_ h=>by
   refine ⟨_,by simp only;rw [re];rfl,.inl ⟨by rw [<- h];rfl,rfl⟩⟩) (λi j js _ hd hx hi h=>by
   simp only;rw [rl hi,AR,AE,AJ hx,EQ];unfold FI at h
   have hbad:KP s.1 due i j=true -> ∃ r:Nat×((Int×(Int×Int))×Unit),(some (LR.dn ((0,((6,((i:Int),(i:Int))),()))):LR (Int×(Int×Int)) _))=some (.dn r)/\((T=none/\r.1=1)\/(∃ i:Nat,T=some i/\r.1=0/\r.2.1.1=6/\r.2.1.2.1=(i:Int))):=λhb=>by
    rw [if_pos hb] at h;exact ⟨_,rfl,.inr ⟨i,h.symm,rfl,rfl,rfl⟩⟩
   have hgood:KP s.1 due i j=false -> ∃ st':Unit,(some (LR.nx ((0:Int),((0:Int),AH .i64 (i:Int) 1))):Option (LR _ (Nat×((Int×(Int×Int))×Unit))))=some (.nx ((0:Int),((0:Int),((i+1:Nat):Int))))/\FI s.1 due (i+1) js=T:=λhg=>by
    rw [if_neg (by simp [hg])] at h;exact ⟨(),by rw [Al hx (by omega)],h⟩
   by_cases h1:(i:Int)>=(due.length:Int)
   ·rw [if_pos h1];exact .inr (hbad (by unfold KP;rw [List.getElem?_eq_none (by omega)]))
   rw [if_neg h1,AE,Mv,if_pos (by omega)];have hd2:due[i]? = some (due[i]'(by omega)):=by simp
   rw [AJ hd2,AQ];obtain ⟨n,hn,r0,r1,hlv⟩:=II (ls:=s.1.2) (i:=0) (k:=i) (d:=due[i]'(by omega)) (by rw [<- hdue];exact hd2);rw [Nat.zero_add] at hn
   have hE:KP s.1 due i j=(if j.1≠(due[i]'(by omega)) then true else if j.2.2.1.2.2=true/\j.1≠(s.1.2.length:Int)-1 then true else if j.2.2.2.2<0\/j.2.2.2.2>((r1.2.length+r0.2.length:Nat):Int) then true else decide (EI r1.2 r0.2 j.2.2.1.2.2 j.2.2.2.2.toNat≠j.2)):=by
    unfold KP;rw [hd2];simp only;rw [hn,Int.toNat_natCast,hlv]
   by_cases h2:j.1=(due[i]'(by omega));rotate_left
   ·rw [if_neg h2];exact .inr (hbad (by rw [hE,if_pos h2]))
   rw [if_pos h2];rw [if_neg (by simp [h2])] at hE;have hjn:j.1=(n:Int):=by rw [h2,hn]
   have hv:=(v.lev n _ hlv).2;have v0:=(hv r0 (by simp)).vl;have v1:=(hv r1 (by simp)).vl;have hlow:Bz .i64 (s.1.2.length:Int) 1=(s.1.2.length:Int)-1:=Bj (by omega);unfold Cm;simp only [AT,AP];rw [AB,hlow,FH,CZ,Ch,hjn,f6 hlv v0 v1,Fe];rw [hjn] at hE;by_cases h3:j.2.2.1.2.2=true/\(n:Int)≠(s.1.2.length:Int)-1
   ·rw [if_pos h3.1,if_pos h3.2];exact .inr (hbad (by rw [hE,if_pos h3]))
   rw [if_neg h3] at hE
   have h4 : ∀ {γ:Type} (A B:γ),(if j.2.2.1.2.2=true then if ¬(n:Int)=(s.1.2.length:Int)-1 then A else B else B)=B:=by
    intro γ A B;by_cases h5:j.2.2.1.2.2=true
    ·rw [if_pos h5,if_neg (λh6=>h3 ⟨h5,h6⟩)]
    ·rw [if_neg h5]
   rw [h4];by_cases h5:j.2.2.2.2<0\/j.2.2.2.2>((r1.2.length+r0.2.length:Nat):Int)
   ·rw [if_pos h5];exact .inr (hbad (by rw [hE,if_pos h5]))
   rw [if_neg h5];rw [if_neg h5] at hE;by_cases h6:EI r1.2 r0.2 j.2.2.1.2.2 j.2.2.2.2.toNat=j.2
   ·rw [if_pos h6];exact .inl (hgood (by rw [hE];simp [h6]))
   ·rw [if_neg h6]
    exact .inr (hbad (by rw [hE];simp [h6])))
 rw [h0];refine BD q1 ?_;rw [CM];rcases q2 with ⟨q2,q3⟩ | ⟨i,q2,q3,q4,q5⟩
 ·rw [if_neg (show ¬ r.1=0 by omega),q2,BB];simp only;by_cases h7:s.2.1.length<due.length
  ·rw [if_pos (by omega),if_pos h7]
  ·rw [if_neg (by omega),if_neg h7]
 ·rw [if_pos q3,q2,q4,q5]
end Go.Proofs.YthpkjfabdccpdaaGreat.Pl
