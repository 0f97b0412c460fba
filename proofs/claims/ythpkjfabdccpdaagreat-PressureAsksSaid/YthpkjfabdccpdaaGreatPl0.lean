/- Functions of the program and of the specification as plain functions, and laws about them. No condition. -/
import Derived.Test.YthpkjfabdccpdaaGreatPs3
set_option linter.all false
namespace Go.Proofs.YthpkjfabdccpdaaGreat.Pl
open Go Go.Proofs.YthpkjfabdccpdaaGreat.Sv
set_option linter.unusedVariables false
abbrev AB:=((List UInt8)×((List UInt8)×(Bool×Int)))
abbrev BI:=(Int×(List AB))
abbrev AM:=(Int×(List (List BI)))
abbrev AQ:=((List UInt8)×Bool)
abbrev D0:=((List AQ)×((List Int)×Int))
abbrev AS:=((List (List AB))×((List Int)×D0))
abbrev Bp:=(Bool×((List UInt8)×Bool))
abbrev JF:=(AS×(Bp×((List AB)×Int)))
abbrev Rr:=(Int×JF)
abbrev CM:=(AM×((List Rr)×Int))
abbrev Cm:=(BI×CM)
def E3 (x:(List UInt8)):Option Int :=
 br (Bv (AW (Fb x)) 32) (λ_=>some 3) λ_=>some 0
def Ar (x:AB):Option Int :=
 bd (E3 x.1) λr0=>br (Aq r0 0) (λ_=>some 3) λ_=>br (Bv (AW (Fb x.2.1)) 64) (λ_=>some 3) λ_=>br x.2.2.1 (λ_=>br (AV (seq x.2.1 [])) (λ_=>some 6) λ_=>br (Ag x.2.2.2 1) (λ_=>some 7) λ_=>br (Bv x.2.2.2 1000000000) (λ_=>some 7) λ_=>some 0) λ_=>br (Ag x.2.2.2 1) (λ_=>some 7) λ_=>br (Bv x.2.2.2 1000000000) (λ_=>some 7) λ_=>some 0
def A8 (x:(List AB)):Option (Int×Int) :=
 br (Bv (AW (AA x)) 5000) (λ_=>some (((-1),3))) λ_=>bd (loop (λs0=>br (Ag s0.2.2 (AW (AA x))) (λ_=>AO s0.2.2 λk1=>ix x k1 λx2=>bd (Ar x2) λr3=>br (Aq r3 0) (λ_=>some (.dn ((0,((r3,(s0.2.2,s0.2.2)),()))))) λ_=>br (Bv s0.2.2 0) (λ_=>AO (A9 .i64 s0.2.2 1) λk4=>ix x k4 λx5=>br (AV (Bl x5.1 x2.1)) (λ_=>some (.dn ((0,((6,(s0.2.2,s0.2.2)),()))))) λ_=>some (.nx ((s0.1,(s0.2.1,AH .i64 s0.2.2 1))))) λ_=>some (.nx ((s0.1,(s0.2.1,AH .i64 s0.2.2 1))))) λ_=>some (.dn ((1,(s0,()))))) ((0,(0,0)))) λr6=>br (neq r6.1 0) (λ_=>some (r6.2.1.2.1,r6.2.1.1)) λ_=>some (0,0)
def E4 (x:BI):Option (Int×Int) :=
 br (Ag x.1 1) (λ_=>some (((-1),7))) λ_=>br (Bv x.1 1000000) (λ_=>some (((-1),7))) λ_=>bd (A8 x.2) λr0=>some r0
def Cn (x:(BI×Int)):Option Int :=
 bd (E4 x.1) λr0=>br (Aq r0.2 0) (λ_=>some r0.2) λ_=>br (Bh (AW (AA x.1.2)) 0) (λ_=>some 4) λ_=>br (Bv (AW (AA x.1.2)) x.2) (λ_=>some 3) λ_=>some 0
def C2 (x:AM):Option (Int×(Int×Int)) :=
 br (Ag x.1 1) (λ_=>some ((0,(0,7)))) λ_=>br (Bv x.1 16) (λ_=>some ((0,(0,7)))) λ_=>br (Bv (AW (AA x.2)) 12) (λ_=>some ((0,(0,3)))) λ_=>bd (loop (λs0=>br (Ag s0.2.2.2.1 (AW (AA x.2))) (λ_=>AO s0.2.2.2.1 λk1=>ix x.2 k1 λx2=>br (Bv (AW (AA x2)) 2) (λ_=>some (.dn ((0,((0,(s0.2.2.2.1,(3,s0.2.2.2))),()))))) λ_=>bd (loop (λs3=>br (Ag s3.2.1 (AW (AA x2))) (λ_=>AO s3.2.1 λk4=>ix x2 k4 λx5=>gd (Iu s0.2.2.2.1 0) λ_=>bd (Cn (x5,To .i64 x.1 s0.2.2.2.1)) λr6=>br (Bh r6 0) (λ_=>br (PZ (LB ((λa7=>(λa8=>Bh a7 a8))) s3.2.2.2 x5.1) false) (λ_=>some (.dn ((0,((s3.2.1,(s3.2.1,(8,s3.2.2.2))),()))))) λ_=>br (Aq r6 0) (λ_=>some (.dn ((0,((s3.2.1,(s3.2.1,(r6,s3.2.2.2))),()))))) λ_=>some (.nx ((s3.2.1,(AH .i64 s3.2.1 1,(r6,IU ((λa9=>(λa10=>Bh a9 a10))) s3.2.2.2 x5.1 true)))))) λ_=>br (Aq r6 0) (λ_=>some (.dn ((0,((s3.2.1,(s3.2.1,(r6,s3.2.2.2))),()))))) λ_=>some (.nx ((s3.2.1,(AH .i64 s3.2.1 1,(r6,IU ((λa11=>(λa12=>Bh a11 a12))) s3.2.2.2 x5.1 true)))))) λ_=>some (.dn ((1,(s3,()))))) ((0,(0,(s0.2.2.1,s0.2.2.2.2))))) λr13=>br (neq r13.1 0) (λ_=>some (.dn ((0,((r13.2.1.1,(s0.2.2.2.1,(r13.2.1.2.2.1,(s0.2.2.2.1,r13.2.1.2.2.2)))),()))))) λ_=>some (.nx ((r13.2.1.1,(s0.2.2.2.1,(r13.2.1.2.2.1,(AH .i64 s0.2.2.2.1 1,r13.2.1.2.2.2))))))) λ_=>some (.dn ((0,(s0,()))))) ((0,(0,(0,(0,[])))))) λr14=>br (Aq r14.2.1.2.2.1 0) (λ_=>some ((r14.2.1.2.1,(r14.2.1.1,r14.2.1.2.2.1)))) λ_=>br (Bv (AW (AA x.2)) 0) (λ_=>AO (A9 .i64 (AW (AA x.2)) 1) λk15=>ix x.2 k15 λx16=>br (Bh (AW (AA x16)) 0) (λ_=>some ((A9 .i64 (AW (AA x.2)) 1,(0,6)))) λ_=>some ((0,(0,0)))) λ_=>some ((0,(0,0)))
def EB (x:AM):Option Int :=
 bd (loop (λs0=>br (Ag s0.2 (AW (AA x.2))) (λ_=>AO s0.2 λk1=>ix x.2 k1 λx2=>bd (loop (λs3=>br (Ag s3.1 (AW (AA x2))) (λ_=>AO s3.1 λk4=>ix x2 k4 λx5=>some (.nx (AH .i64 s3.1 1,Nl s3.2 x5.1))) λ_=>some (.dn ((0,(s3,()))))) (0,s0.1)) λr6=>some (.nx (r6.2.1.2,AH .i64 s0.2 1))) λ_=>some (.dn ((0,(s0,()))))) (0,0)) λr7=>some r7.2.1.1
def EJ (x:(AM×Int)):Option Bool :=
 some (Bh x.2 (A9 .i64 (AW (AA x.1.2)) 1))
def DM (x:(List (List AB))):Option (Int×Int) :=
 br (Bh (AW (AA x)) 0) (λ_=>some (((-1),6))) λ_=>br (Bv (AW (AA x)) 32) (λ_=>some (((-1),3))) λ_=>bd (loop (λs0=>br (Ag s0.2.2 (AW (AA x))) (λ_=>AO s0.2.2 λk1=>ix x k1 λx2=>bd (A8 x2) λr3=>br (Aq r3.2 0) (λ_=>some (.dn ((0,((r3.2,(s0.2.2,s0.2.2)),()))))) λ_=>some (.nx ((s0.1,(s0.2.1,AH .i64 s0.2.2 1))))) λ_=>some (.dn ((1,(s0,()))))) ((0,(0,0)))) λr4=>br (neq r4.1 0) (λ_=>some (r4.2.1.2.1,r4.2.1.1)) λ_=>some (0,0)
def CS (x:Bool):Option (Bool×AQ) :=
 some ((false,([],x)))
def Ai (x:(List (List AB))):Option (List (List AB)) :=
 gd (A0 (AA x) 1048576) λ_=>some x
def BD (x:((List AB)×Int)):Option AQ :=
 br (Bh x.2 (AW (AA x.1))) (λ_=>some ([],true)) λ_=>AO x.2 λk0=>ix x.1 k0 λx1=>some (x1.1,false)
def DB (x:AQ):Option Bool :=
 br x.2 (λ_=>some (AV (seq x.1 []))) λ_=>some false
def DN (x:(List AQ)):Option Int :=
 br (Bh (AW (AA x)) 0) (λ_=>some 6) λ_=>br (Bv (AW (AA x)) 32) (λ_=>some 3) λ_=>bd (loop (λs0=>br (Ag s0.2 (AW (AA x))) (λ_=>AO s0.2 λk1=>ix x k1 λx2=>bd (DB x2) λr3=>br r3 (λ_=>some (.dn ((0,((s0.2,s0.2),()))))) λ_=>some (.nx (s0.1,AH .i64 s0.2 1))) λ_=>some (.dn ((1,(s0,()))))) (0,0)) λr4=>br (neq r4.1 0) (λ_=>br (Iu r4.2.1.1 0) (λ_=>some 2) λ_=>some 0) λ_=>br (Iu (-1) 0) (λ_=>some 2) λ_=>some 0
def Aj (x:(List AQ)):Option (List AQ) :=
 gd (A0 (AA x) 1048576) λ_=>some x
def E5 (x:(List AQ)):Option D0 :=
 AO (Kh .i64 2 (AW (AA x))) λk0=>AO (Kh .i64 2 (AW (AA x))) λk1=>gd (A0 k1 1048576) λ_=>bd (Aj x) λr2=>AO (AW (AA x)) λk3=>AO (AW (AA x)) λk4=>gd (A0 k4 1048576) λ_=>bd (loop (λs5=>br (Bv s5.1 0) (λ_=>br (Iu s5.1 (AW (AA x))) (λ_=>AO s5.1 λk6=>gd (CB k6 (AA s5.2.1)) λ_=>ix s5.2.1 k6 λx7=>some (.nx ((A9 .i64 s5.1 1,(lset s5.2.1 k6 (A9 .i64 s5.1 (AW (AA x))),s5.2.2))))) λ_=>AO (Kh .i64 2 s5.1) λk8=>gd (CB k8 (AA s5.2.1)) λ_=>ix s5.2.1 k8 λx9=>AO (AH .i64 (Kh .i64 2 s5.1) 1) λk10=>gd (CB k10 (AA s5.2.1)) λ_=>ix s5.2.1 k10 λx11=>AO x9 λk12=>ix x k12 λx13=>AO x11 λk14=>ix x k14 λx15=>br (AV (beq x13.2 x15.2)) (λ_=>br (AV x15.2) (λ_=>AO s5.1 λk16=>gd (CB k16 (AA s5.2.1)) λ_=>ix s5.2.1 k16 λx17=>AO s5.1 λk18=>gd (CB k18 (AA s5.2.2.2.1)) λ_=>ix s5.2.2.2.1 k18 λx19=>some (.nx ((A9 .i64 s5.1 1,(lset s5.2.1 k16 x11,(s5.2.2.1,(lset s5.2.2.2.1 k18 x9,s5.2.2.2.2))))))) λ_=>AO s5.1 λk20=>gd (CB k20 (AA s5.2.1)) λ_=>ix s5.2.1 k20 λx21=>AO s5.1 λk22=>gd (CB k22 (AA s5.2.2.2.1)) λ_=>ix s5.2.2.2.1 k22 λx23=>some (.nx ((A9 .i64 s5.1 1,(lset s5.2.1 k20 x9,(s5.2.2.1,(lset s5.2.2.2.1 k22 x11,s5.2.2.2.2))))))) λ_=>br (AV (seq x13.1 x15.1)) (λ_=>br (AV (Bl x13.1 x15.1)) (λ_=>AO s5.1 λk24=>gd (CB k24 (AA s5.2.1)) λ_=>ix s5.2.1 k24 λx25=>AO s5.1 λk26=>gd (CB k26 (AA s5.2.2.2.1)) λ_=>ix s5.2.2.2.1 k26 λx27=>some (.nx ((A9 .i64 s5.1 1,(lset s5.2.1 k24 x11,(s5.2.2.1,(lset s5.2.2.2.1 k26 x9,s5.2.2.2.2))))))) λ_=>AO s5.1 λk28=>gd (CB k28 (AA s5.2.1)) λ_=>ix s5.2.1 k28 λx29=>AO s5.1 λk30=>gd (CB k30 (AA s5.2.2.2.1)) λ_=>ix s5.2.2.2.1 k30 λx31=>some (.nx ((A9 .i64 s5.1 1,(lset s5.2.1 k28 x9,(s5.2.2.1,(lset s5.2.2.2.1 k30 x11,s5.2.2.2.2))))))) λ_=>br (AV (Ag x9 x11)) (λ_=>AO s5.1 λk32=>gd (CB k32 (AA s5.2.1)) λ_=>ix s5.2.1 k32 λx33=>AO s5.1 λk34=>gd (CB k34 (AA s5.2.2.2.1)) λ_=>ix s5.2.2.2.1 k34 λx35=>some (.nx ((A9 .i64 s5.1 1,(lset s5.2.1 k32 x11,(s5.2.2.1,(lset s5.2.2.2.1 k34 x9,s5.2.2.2.2))))))) λ_=>AO s5.1 λk36=>gd (CB k36 (AA s5.2.1)) λ_=>ix s5.2.1 k36 λx37=>AO s5.1 λk38=>gd (CB k38 (AA s5.2.2.2.1)) λ_=>ix s5.2.2.2.1 k38 λx39=>some (.nx ((A9 .i64 s5.1 1,(lset s5.2.1 k36 x9,(s5.2.2.1,(lset s5.2.2.2.1 k38 x11,s5.2.2.2.2))))))) λ_=>some (.dn ((0,(s5,()))))) ((A9 .i64 (Kh .i64 2 (AW (AA x))) 1,(CW k1 0,(r2,(CW k4 0,(0:Int))))))) λr40=>gd (CB 1 (AA r40.2.1.2.1)) λ_=>ix r40.2.1.2.1 1 λx41=>some ((r40.2.1.2.2.1,(r40.2.1.2.2.2.1,x41)))
def CN (x:(List AQ)):Option (D0×Int) :=
 bd (DN x) λr0=>br (Aq r0 0) (λ_=>some ((([],([],0)),r0))) λ_=>bd (E5 x) λr1=>some (r1,0)
def Eg (x:((List (List AB))×Bool)):Option ((AS×((Bool×AQ)×((List AB)×Int)))×(Int×Int)) :=
 bd (DM x.1) λr0=>br (Aq r0.2 0) (λ_=>br (Aq r0.2 0) (λ_=>some (((([],([],([],([],0)))),((false,([],false)),([],0))),r0))) λ_=>bd (CS x.2) λr1=>some (((([],([],([],([],0)))),(r1,([],0))),(0,0)))) λ_=>AO (AW (AA x.1)) λk2=>AO (AW (AA x.1)) λk3=>gd (A0 k3 1048576) λ_=>bd (Ai x.1) λr4=>AO (AW (AA x.1)) λk5=>AO (AW (AA x.1)) λk6=>gd (A0 k6 1048576) λ_=>bd (loop (λs7=>br (Ag s7.1 (AW (AA x.1))) (λ_=>AO s7.1 λk8=>ix x.1 k8 λx9=>AO s7.1 λk10=>gd (CB k10 (AA (CW k3 (0:Int)))) λ_=>ix (CW k3 0) k10 λx11=>bd (BD (x9,x11)) λr12=>AO s7.1 λk13=>gd (CB k13 (AA s7.2)) λ_=>ix s7.2 k13 λx14=>some (.nx (AH .i64 s7.1 1,lset s7.2 k13 r12))) λ_=>some (.dn ((0,(s7,()))))) ((0,CW k6 ([],false)))) λr15=>bd (CN r15.2.1.2) λr16=>bd (CS x.2) λr17=>some ((((r4,(CW k3 0,r16.1)),(r17,([],0))),(0,0)))
def CO (x:(AM×(Int×Bool))):Option (Int×(AS×((Bool×AQ)×((List AB)×Int)))) :=
 AO x.2.1 λk0=>ix x.1.2 k0 λx1=>ix x1 1 λx2=>ix x1 0 λx3=>bd (Eg ([x2.2,x3.2],x.2.2)) λr4=>some (x.2.1,r4.1)
def F6 (x:((List (List AB))×(List Int))):Option D0 :=
 AO (AW (AA x.1)) λk0=>AO (AW (AA x.1)) λk1=>gd (A0 k1 1048576) λ_=>bd (loop (λs2=>br (Ag s2.1 (AW (AA x.1))) (λ_=>AO s2.1 λk3=>ix x.1 k3 λx4=>AO s2.1 λk5=>ix x.2 k5 λx6=>bd (BD (x4,x6)) λr7=>AO s2.1 λk8=>gd (CB k8 (AA s2.2)) λ_=>ix s2.2 k8 λx9=>some (.nx (AH .i64 s2.1 1,lset s2.2 k8 r7))) λ_=>some (.dn ((0,(s2,()))))) ((0,CW k1 ([],false)))) λr10=>bd (CN r10.2.1.2) λr11=>some r11.1
def Ak (x:((List AQ)×(List AQ))):Option Bool :=
 br (Aq (AW (AA x.1)) (AW (AA x.2))) (λ_=>some false) λ_=>bd (loop (λs0=>br (Ag s0.1 (AW (AA x.1))) (λ_=>AO s0.1 λk1=>ix x.1 k1 λx2=>AO s0.1 λk3=>ix x.2 k3 λx4=>br (AV (BZ (seq x2.1 x4.1) (BZ (beq x2.2 x4.2) true))) (λ_=>some (.dn ((0,((s0.1,false),()))))) λ_=>some (.nx (AH .i64 s0.1 1,s0.2))) λ_=>some (.dn ((1,(s0,()))))) (0,false)) λr5=>br (neq r5.1 0) (λ_=>some r5.2.1.2) λ_=>some true
def Af (x:((List Int)×(List Int))):Option Bool :=
 br (Aq (AW (AA x.1)) (AW (AA x.2))) (λ_=>some false) λ_=>bd (loop (λs0=>br (Ag s0.1 (AW (AA x.1))) (λ_=>AO s0.1 λk1=>ix x.1 k1 λx2=>AO s0.1 λk3=>ix x.2 k3 λx4=>br (Aq x2 x4) (λ_=>some (.dn ((0,((s0.1,false),()))))) λ_=>some (.nx (AH .i64 s0.1 1,s0.2))) λ_=>some (.dn ((1,(s0,()))))) (0,false)) λr5=>br (neq r5.1 0) (λ_=>some r5.2.1.2) λ_=>some true
def EK (x:(D0×D0)):Option Bool :=
 br (Bh x.1.2.2 x.2.2.2) (λ_=>bd (Ak (x.1.1,x.2.1)) λr0=>br r0 (λ_=>bd (Af (x.1.2.1,x.2.2.1)) λr1=>some r1) λ_=>some false) λ_=>some false
def FI (x:D0):Option (Int×Int) :=
 bd (DN x.1) λr0=>br (Aq r0 0) (λ_=>some (0,r0)) λ_=>br (Aq (AW (AA x.2.1)) (AW (AA x.1))) (λ_=>some (0,6)) λ_=>bd (E5 x.1) λr1=>bd (loop (λs2=>br (Ag s2.2.1 (AW (AA r1.2.1))) (λ_=>AO s2.2.1 λk3=>ix r1.2.1 k3 λx4=>AO s2.2.1 λk5=>ix x.2.1 k5 λx6=>br (Aq x6 x4) (λ_=>some (.dn ((0,((6,(s2.2.1,s2.2.1)),()))))) λ_=>some (.nx ((s2.1,(AH .i64 s2.2.1 1,s2.2.2))))) λ_=>some (.dn ((1,(s2,()))))) ((0,(0,0)))) λr7=>br (neq r7.1 0) (λ_=>some (r7.2.1.2.2,r7.2.1.1)) λ_=>br (Aq x.2.2 r1.2.2) (λ_=>some (0,6)) λ_=>some (0,0)
def E6 (x:D0):Option Int :=
 bd (FI x) λr0=>br (Aq r0.2 0) (λ_=>some r0.2) λ_=>AO x.2.2 λk1=>ix x.1 k1 λx2=>br x2.2 (λ_=>some 12) λ_=>some 0
def CT (x:D0):Option (Int×((List UInt8)×Int)) :=
 bd (E6 x) λr0=>br (Aq r0 0) (λ_=>some ((0,([],r0)))) λ_=>AO x.2.2 λk1=>ix x.1 k1 λx2=>some ((x.2.2,(x2.1,0)))
def C3 (x:(List UInt8)):Option Bool :=
 some (AV (seq x x))
def CU (x:((List UInt8)×(List UInt8))):Option Int :=
 bd (C3 x.1) λr0=>bd (C3 x.2) λr1=>br r0 (λ_=>br r1 (λ_=>some 0) λ_=>some (-1)) λ_=>br r1 (λ_=>some 1) λ_=>br (Bl x.1 x.2) (λ_=>some (-1)) λ_=>br (Bl x.2 x.1) (λ_=>some 1) λ_=>some 0
def EC (x:Int):Option Bool :=
 some (Aq x x)
def B8 (x:(Int×Int)):Option Int :=
 bd (EC x.1) λr0=>bd (EC x.2) λr1=>br r0 (λ_=>br r1 (λ_=>some 0) λ_=>some (-1)) λ_=>br r1 (λ_=>some 1) λ_=>br (Ag x.1 x.2) (λ_=>some (-1)) λ_=>br (Bv x.1 x.2) (λ_=>some 1) λ_=>some 0
def F7 (x:(List Int)):Option Int :=
 bd (loop (λs0=>br (Ag s0.2 (AW (AA x))) (λ_=>AO s0.2 λk1=>ix x k1 λx2=>br (Aq x2 0) (λ_=>some (.dn ((0,((x2,s0.2),()))))) λ_=>some (.nx (s0.1,AH .i64 s0.2 1))) λ_=>some (.dn ((1,(s0,()))))) (0,0)) λr3=>br (neq r3.1 0) (λ_=>some r3.2.1.1) λ_=>some 0
def DO (x:AS):Option (Int×Int) :=
 bd (DM x.1) λr0=>br (Aq r0.2 0) (λ_=>some r0) λ_=>br (Aq (AW (AA x.2.1)) (AW (AA x.1))) (λ_=>some (((-1),6))) λ_=>bd (loop (λs1=>br (Ag s1.2.2 (AW (AA x.2.1))) (λ_=>AO s1.2.2 λk2=>ix x.2.1 k2 λx3=>br (Ag x3 0) (λ_=>some (.dn ((0,((6,(s1.2.2,s1.2.2)),()))))) λ_=>AO s1.2.2 λk4=>ix x.1 k4 λx5=>br (Bv x3 (AW (AA x5))) (λ_=>some (.dn ((0,((6,(s1.2.2,s1.2.2)),()))))) λ_=>some (.nx ((s1.1,(s1.2.1,AH .i64 s1.2.2 1))))) λ_=>some (.dn ((1,(s1,()))))) ((0,(0,0)))) λr6=>br (neq r6.1 0) (λ_=>some (r6.2.1.2.1,r6.2.1.1)) λ_=>bd (F6 (x.1,x.2.1)) λr7=>bd (EK (x.2.2,r7)) λr8=>br (AV r8) (λ_=>some (((-1),6))) λ_=>bd (CT x.2.2) λr9=>br (Aq r9.2.2 0) (λ_=>some (0,0)) λ_=>bd (loop (λs10=>br (Ag s10.2.2 (AW (AA x.2.1))) (λ_=>AO s10.2.2 λk11=>ix x.2.1 k11 λx12=>br (Bv x12 0) (λ_=>AO s10.2.2 λk13=>ix x.1 k13 λx14=>AO (A9 .i64 x12 1) λk15=>ix x14 k15 λx16=>bd (CU (x16.1,r9.2.1)) λr17=>bd (B8 (s10.2.2,r9.1)) λr18=>bd (F7 ([r17,r18])) λr19=>br (Bv r19 0) (λ_=>some (.dn ((0,((6,(r9.1,s10.2.2)),()))))) λ_=>some (.nx ((s10.1,(s10.2.1,AH .i64 s10.2.2 1))))) λ_=>some (.nx ((s10.1,(s10.2.1,AH .i64 s10.2.2 1))))) λ_=>some (.dn ((1,(s10,()))))) ((r9.2.2,(r6.2.1.2.1,0)))) λr20=>br (neq r20.1 0) (λ_=>some (r20.2.1.2.1,r20.2.1.1)) λ_=>some (0,0)
def Aw (x:(List Int)):Option (List Int) :=
 gd (A0 (AA x) 1048576) λ_=>some x
def BU (x:(Int×(Int×((List AQ)×Unit)))):Option Bool :=
 AO x.1 λk0=>ix x.2.2.1 k0 λx1=>AO x.2.1 λk2=>ix x.2.2.1 k2 λx3=>br (AV (beq x1.2 x3.2)) (λ_=>some x3.2) λ_=>br (AV (seq x1.1 x3.1)) (λ_=>some (Bl x1.1 x3.1)) λ_=>some (Ag x.1 x.2.1)
def CE (x:(D0×AQ)):Option (D0×(Int×Int)) :=
 bd (E6 x.1) λr0=>br (Aq r0 0) (λ_=>some ((([],([],0)),(0,r0)))) λ_=>bd (DN [x.2]) λr1=>br (Aq r1 0) (λ_=>some ((([],([],0)),(0,r1)))) λ_=>br (AV x.2.2) (λ_=>AO x.1.2.2 λk2=>ix x.1.1 k2 λx3=>br (Bl x.2.1 x3.1) (λ_=>some ((([],([],0)),(0,6)))) λ_=>bd (Aj x.1.1) λr4=>bd (Aw x.1.2.1) λr5=>AO x.1.2.2 λk6=>gd (CB k6 (AA r4)) λ_=>ix r4 k6 λx7=>bd (loop (λs8=>br (Bh (Hq .i64 s8.2.1 2) 0) (λ_=>some (.dn ((0,((s8.1,(Hq .i64 s8.2.1 2,((),s8.2.2.2))),()))))) λ_=>AO (Hq .i64 s8.2.1 2) λk9=>gd (CB k9 (AA s8.2.2.2.1)) λ_=>ix s8.2.2.2.1 k9 λx10=>bd (BU ((x10,(s8.2.2.2.2,(lset r4 k6 x.2,()))))) λr11=>br r11 (λ_=>AO (Hq .i64 s8.2.1 2) λk12=>gd (CB k12 (AA s8.2.2.2.1)) λ_=>ix s8.2.2.2.1 k12 λx13=>AO (Hq .i64 s8.2.1 2) λk14=>gd (CB k14 (AA s8.2.2.2.1)) λ_=>ix s8.2.2.2.1 k14 λx15=>some (.nx ((AH .i64 s8.1 1,(Hq .i64 s8.2.1 2,((),(lset s8.2.2.2.1 k14 s8.2.2.2.2,x13))))))) λ_=>some (.nx ((AH .i64 s8.1 1,(Hq .i64 s8.2.1 2,((),s8.2.2.2)))))) ((0,(AH .i64 (AW (AA (lset r4 k6 x.2))) x.1.2.2,((),(r5,x.1.2.2)))))) λr16=>some (((lset r4 k6 x.2,r16.2.1.2.2.2),(r16.2.1.1,0)))) λ_=>bd (Aj x.1.1) λr17=>bd (Aw x.1.2.1) λr18=>AO x.1.2.2 λk19=>gd (CB k19 (AA r17)) λ_=>ix r17 k19 λx20=>bd (loop (λs21=>br (Bh (Hq .i64 s21.2.1 2) 0) (λ_=>some (.dn ((0,((s21.1,(Hq .i64 s21.2.1 2,((),s21.2.2.2))),()))))) λ_=>AO (Hq .i64 s21.2.1 2) λk22=>gd (CB k22 (AA s21.2.2.2.1)) λ_=>ix s21.2.2.2.1 k22 λx23=>bd (BU ((x23,(s21.2.2.2.2,(lset r17 k19 x.2,()))))) λr24=>br r24 (λ_=>AO (Hq .i64 s21.2.1 2) λk25=>gd (CB k25 (AA s21.2.2.2.1)) λ_=>ix s21.2.2.2.1 k25 λx26=>AO (Hq .i64 s21.2.1 2) λk27=>gd (CB k27 (AA s21.2.2.2.1)) λ_=>ix s21.2.2.2.1 k27 λx28=>some (.nx ((AH .i64 s21.1 1,(Hq .i64 s21.2.1 2,((),(lset s21.2.2.2.1 k27 s21.2.2.2.2,x26))))))) λ_=>some (.nx ((AH .i64 s21.1 1,(Hq .i64 s21.2.1 2,((),s21.2.2.2)))))) ((0,(AH .i64 (AW (AA (lset r17 k19 x.2))) x.1.2.2,((),(r18,x.1.2.2)))))) λr29=>some (((lset r17 k19 x.2,r29.2.1.2.2.2),(r29.2.1.1,0)))
def G4 (x:(List (List AB))):Option ((List AB)×((List Int)×Int)) :=
 bd (DM x) λr0=>br (Aq r0.2 0) (λ_=>br (Aq r0.2 0) (λ_=>some (([],([],r0.2)))) λ_=>bd (loop (λs1=>bd (CT (([],([],0)))) λr2=>br (Aq r2.2.2 0) (λ_=>br (Aq r2.2.2 0) (λ_=>some (.dn ((0,(s1,()))))) λ_=>gd (A0 (AK (AA s1.1) (AA ([(([],([],(false,0))):AB)]))) 1048576) λ_=>gd (A0 (AK (AA s1.2) (AA [0])) 1048576) λ_=>none) λ_=>AO r2.1 λk3=>none) ([],[])) λr4=>some ((r4.2.1.1,(r4.2.1.2,0)))) λ_=>AO (AW (AA x)) λk5=>AO (AW (AA x)) λk6=>gd (A0 k6 1048576) λ_=>bd (Ai x) λr7=>AO (AW (AA x)) λk8=>AO (AW (AA x)) λk9=>gd (A0 k9 1048576) λ_=>bd (loop (λs10=>br (Ag s10.1 (AW (AA x))) (λ_=>AO s10.1 λk11=>ix x k11 λx12=>AO s10.1 λk13=>gd (CB k13 (AA (CW k6 (0:Int)))) λ_=>ix (CW k6 0) k13 λx14=>bd (BD (x12,x14)) λr15=>AO s10.1 λk16=>gd (CB k16 (AA s10.2)) λ_=>ix s10.2 k16 λx17=>some (.nx (AH .i64 s10.1 1,lset s10.2 k16 r15))) λ_=>some (.dn ((0,(s10,()))))) ((0,CW k9 ([],false)))) λr18=>bd (CN r18.2.1.2) λr19=>bd (loop (λs20=>bd (CT s20.2.2.2.2) λr21=>br (Aq r21.2.2 0) (λ_=>br (Aq r21.2.2 0) (λ_=>some (.dn ((0,((s20.1,(s20.2.1,((),s20.2.2.2))),()))))) λ_=>gd (A0 (AK (AA s20.1) (AA ([(([],([],(false,0))):AB)]))) 1048576) λ_=>gd (A0 (AK (AA s20.2.1) (AA [0])) 1048576) λ_=>gd (CB 0 (AA s20.2.2.2.1)) λ_=>ix s20.2.2.2.1 0 λx22=>gd (CB 0 (AA s20.2.2.2.1)) λ_=>ix s20.2.2.2.1 0 λx23=>gd (CB 0 (AA r7)) λ_=>ix r7 0 λx24=>gd (CB 0 (AA (lset s20.2.2.2.1 0 (AH .i64 x22 1)))) λ_=>ix (lset s20.2.2.2.1 0 (AH .i64 x22 1)) 0 λx25=>bd (BD (x24,x25)) λr26=>bd (CE (s20.2.2.2.2,r26)) λr27=>some (.nx ((CC s20.1 ([(([],([],(false,0))):AB)]),(CC s20.2.1 [0],((),(lset s20.2.2.2.1 0 (AH .i64 x22 1),r27.1))))))) λ_=>AO r21.1 λk28=>gd (CB k28 (AA r7)) λ_=>ix r7 k28 λx29=>AO r21.1 λk30=>gd (CB k30 (AA s20.2.2.2.1)) λ_=>ix s20.2.2.2.1 k30 λx31=>AO x31 λk32=>ix x29 k32 λx33=>gd (A0 (AK (AA s20.1) (AA [x33])) 1048576) λ_=>gd (A0 (AK (AA s20.2.1) (AA [r21.1])) 1048576) λ_=>AO r21.1 λk34=>gd (CB k34 (AA s20.2.2.2.1)) λ_=>ix s20.2.2.2.1 k34 λx35=>AO r21.1 λk36=>gd (CB k36 (AA s20.2.2.2.1)) λ_=>ix s20.2.2.2.1 k36 λx37=>AO r21.1 λk38=>gd (CB k38 (AA r7)) λ_=>ix r7 k38 λx39=>AO r21.1 λk40=>gd (CB k40 (AA (lset s20.2.2.2.1 k36 (AH .i64 x35 1)))) λ_=>ix (lset s20.2.2.2.1 k36 (AH .i64 x35 1)) k40 λx41=>bd (BD (x39,x41)) λr42=>bd (CE (s20.2.2.2.2,r42)) λr43=>some (.nx ((CC s20.1 [x33],(CC s20.2.1 [r21.1],((),(lset s20.2.2.2.1 k36 (AH .i64 x35 1),r43.1))))))) (([],([],((),(CW k6 0,r19.1)))))) λr44=>some ((r44.2.1.1,(r44.2.1.2.1,0)))
def Dk (x:(Bool×AQ)):Option Int :=
 bd (E3 x.2.1) λr0=>br (Aq r0 0) (λ_=>some r0) λ_=>br (AV x.1) (λ_=>br (AV (seq x.2.1 [])) (λ_=>some 6) λ_=>some 0) λ_=>some 0
def A5 (x:AB):Option AB :=
 some x
def ED (x:((List AB)×Bool)):Option ((List AB)×(Int×Int)) :=
 br (Bv (AW (AA x.1)) 20000) (λ_=>some (([],((-1),3)))) λ_=>bd (CS x.2) λr0=>bd (loop (λs1=>br (Ag s1.2.1 (AW (AA x.1))) (λ_=>AO s1.2.1 λk2=>ix x.1 k2 λx3=>bd (Dk s1.2.2.2.1) λr4=>br (Aq r4 0) (λ_=>br (Aq r4 0) (λ_=>some (.dn ((0,((r4,(s1.2.1,(s1.2.1,s1.2.2.2))),()))))) λ_=>some (.nx ((s1.1,(AH .i64 s1.2.1 1,(s1.2.2.1,((false,([],false)),s1.2.2.2.2))))))) λ_=>bd (Ar x3) λr5=>br (Aq r5 0) (λ_=>br (Aq r5 0) (λ_=>some (.dn ((0,((r5,(s1.2.1,(s1.2.1,s1.2.2.2))),()))))) λ_=>some (.nx ((s1.1,(AH .i64 s1.2.1 1,(s1.2.2.1,((false,([],false)),s1.2.2.2.2))))))) λ_=>br s1.2.2.2.1.1 (λ_=>br (Bl x3.1 s1.2.2.2.1.2.1) (λ_=>some (.dn ((0,((6,(s1.2.1,(s1.2.1,s1.2.2.2))),()))))) λ_=>br s1.2.2.2.1.1 (λ_=>br (seq x3.1 s1.2.2.2.1.2.1) (λ_=>some (.nx ((s1.1,(AH .i64 s1.2.1 1,(s1.2.2.1,((true,(x3.1,s1.2.2.2.1.2.2)),s1.2.2.2.2))))))) λ_=>br s1.2.2.2.1.2.2 (λ_=>br x3.2.2.1 (λ_=>some (.nx ((s1.1,(AH .i64 s1.2.1 1,(s1.2.2.1,((true,(x3.1,s1.2.2.2.1.2.2)),s1.2.2.2.2))))))) λ_=>bd (A5 x3) λr6=>gd (A0 (AK (AA s1.2.2.2.2) (AA [r6])) 1048576) λ_=>some (.nx ((s1.1,(AH .i64 s1.2.1 1,(s1.2.2.1,((true,(x3.1,s1.2.2.2.1.2.2)),CC s1.2.2.2.2 [r6]))))))) λ_=>bd (A5 x3) λr7=>gd (A0 (AK (AA s1.2.2.2.2) (AA [r7])) 1048576) λ_=>some (.nx ((s1.1,(AH .i64 s1.2.1 1,(s1.2.2.1,((true,(x3.1,s1.2.2.2.1.2.2)),CC s1.2.2.2.2 [r7]))))))) λ_=>br s1.2.2.2.1.2.2 (λ_=>br x3.2.2.1 (λ_=>some (.nx ((s1.1,(AH .i64 s1.2.1 1,(s1.2.2.1,((true,(x3.1,s1.2.2.2.1.2.2)),s1.2.2.2.2))))))) λ_=>bd (A5 x3) λr8=>gd (A0 (AK (AA s1.2.2.2.2) (AA [r8])) 1048576) λ_=>some (.nx ((s1.1,(AH .i64 s1.2.1 1,(s1.2.2.1,((true,(x3.1,s1.2.2.2.1.2.2)),CC s1.2.2.2.2 [r8]))))))) λ_=>bd (A5 x3) λr9=>gd (A0 (AK (AA s1.2.2.2.2) (AA [r9])) 1048576) λ_=>some (.nx ((s1.1,(AH .i64 s1.2.1 1,(s1.2.2.1,((true,(x3.1,s1.2.2.2.1.2.2)),CC s1.2.2.2.2 [r9]))))))) λ_=>br s1.2.2.2.1.1 (λ_=>br (seq x3.1 s1.2.2.2.1.2.1) (λ_=>some (.nx ((s1.1,(AH .i64 s1.2.1 1,(s1.2.2.1,((true,(x3.1,s1.2.2.2.1.2.2)),s1.2.2.2.2))))))) λ_=>br s1.2.2.2.1.2.2 (λ_=>br x3.2.2.1 (λ_=>some (.nx ((s1.1,(AH .i64 s1.2.1 1,(s1.2.2.1,((true,(x3.1,s1.2.2.2.1.2.2)),s1.2.2.2.2))))))) λ_=>bd (A5 x3) λr10=>gd (A0 (AK (AA s1.2.2.2.2) (AA [r10])) 1048576) λ_=>some (.nx ((s1.1,(AH .i64 s1.2.1 1,(s1.2.2.1,((true,(x3.1,s1.2.2.2.1.2.2)),CC s1.2.2.2.2 [r10]))))))) λ_=>bd (A5 x3) λr11=>gd (A0 (AK (AA s1.2.2.2.2) (AA [r11])) 1048576) λ_=>some (.nx ((s1.1,(AH .i64 s1.2.1 1,(s1.2.2.1,((true,(x3.1,s1.2.2.2.1.2.2)),CC s1.2.2.2.2 [r11]))))))) λ_=>br s1.2.2.2.1.2.2 (λ_=>br x3.2.2.1 (λ_=>some (.nx ((s1.1,(AH .i64 s1.2.1 1,(s1.2.2.1,((true,(x3.1,s1.2.2.2.1.2.2)),s1.2.2.2.2))))))) λ_=>bd (A5 x3) λr12=>gd (A0 (AK (AA s1.2.2.2.2) (AA [r12])) 1048576) λ_=>some (.nx ((s1.1,(AH .i64 s1.2.1 1,(s1.2.2.1,((true,(x3.1,s1.2.2.2.1.2.2)),CC s1.2.2.2.2 [r12]))))))) λ_=>bd (A5 x3) λr13=>gd (A0 (AK (AA s1.2.2.2.2) (AA [r13])) 1048576) λ_=>some (.nx ((s1.1,(AH .i64 s1.2.1 1,(s1.2.2.1,((true,(x3.1,s1.2.2.2.1.2.2)),CC s1.2.2.2.2 [r13]))))))) λ_=>some (.dn ((1,(s1,()))))) ((0,(0,(0,(r0,[])))))) λr14=>br (neq r14.1 0) (λ_=>br (Aq r14.2.1.1 0) (λ_=>some (([],(r14.2.1.2.2.1,r14.2.1.1)))) λ_=>some ((r14.2.1.2.2.2.2,(0,0)))) λ_=>some ((r14.2.1.2.2.2.2,(0,0)))
def Dl (x:((List AB)×(List AB))):Option Bool :=
 br (Aq (AW (AA x.1)) (AW (AA x.2))) (λ_=>some false) λ_=>bd (loop (λs0=>br (Ag s0.2 (AW (AA x.1))) (λ_=>AO s0.2 λk1=>ix x.1 k1 λx2=>AO s0.2 λk3=>ix x.2 k3 λx4=>br (AV (BZ (seq x2.1 x4.1) (BZ (seq x2.2.1 x4.2.1) (BZ (beq x2.2.2.1 x4.2.2.1) (BZ (Bh x2.2.2.2 x4.2.2.2) true))))) (λ_=>some (.dn ((0,((false,s0.2),()))))) λ_=>some (.nx (s0.1,AH .i64 s0.2 1))) λ_=>some (.dn ((1,(s0,()))))) (false,0)) λr5=>br (neq r5.1 0) (λ_=>some r5.2.1.1) λ_=>some true
def Eh (x:(AS×((Bool×AQ)×((List AB)×Int)))):Option Int :=
 bd (DO x.1) λr0=>br (Aq r0.2 0) (λ_=>some r0.2) λ_=>bd (loop (λs1=>br (Ag s1.1 (AW (AA x.1.2.1))) (λ_=>AO s1.1 λk2=>ix x.1.2.1 k2 λx3=>some (.nx (AH .i64 s1.1 1,AH .i64 s1.2 x3))) λ_=>some (.dn ((0,(s1,()))))) (0,0)) λr4=>br (Bv (AW (AA x.2.2.1)) 20000) (λ_=>some 3) λ_=>br (Bv r4.2.1.2 20000) (λ_=>some 3) λ_=>br (Aq x.2.2.2 r4.2.1.2) (λ_=>some 7) λ_=>bd (G4 x.1.1) λr5=>br (Aq r5.2.2 0) (λ_=>some r5.2.2) λ_=>AO r4.2.1.2 λk6=>gd (A0 k6 (AA r5.1)) λ_=>gd (A0 0 k6) λ_=>bd (ED (B6 r5.1 0 k6,x.2.1.2.2)) λr7=>br (Aq r7.2.2 0) (λ_=>some r7.2.2) λ_=>bd (CS x.2.1.2.2) λr8=>br (Bv r4.2.1.2 0) (λ_=>AO (A9 .i64 r4.2.1.2 1) λk9=>ix r5.1 k9 λx10=>bd (Dl (x.2.2.1,r7.1)) λr11=>br (AV r11) (λ_=>some 6) λ_=>br (AV (BZ (beq x.2.1.1 true) (BZ (seq x.2.1.2.1 x10.1) (BZ (beq x.2.1.2.2 r8.2.2) true)))) (λ_=>some 6) λ_=>some 0) λ_=>bd (Dl (x.2.2.1,r7.1)) λr12=>br (AV r12) (λ_=>some 6) λ_=>br (AV (BZ (beq x.2.1.1 r8.1) (BZ (seq x.2.1.2.1 r8.2.1) (BZ (beq x.2.1.2.2 r8.2.2) true)))) (λ_=>some 6) λ_=>some 0
def F8 (x:AS):Option (Int×Int) :=
 bd (DO x) λr0=>br (Aq r0.2 0) (λ_=>some (0,r0.2)) λ_=>bd (loop (λs1=>br (Ag s1.1 (AW (AA x.1))) (λ_=>AO s1.1 λk2=>ix x.1 k2 λx3=>AO s1.1 λk4=>ix x.2.1 k4 λx5=>some (.nx ((AH .i64 s1.1 1,AH .i64 s1.2 (A9 .i64 (AW (AA x3)) x5))))) λ_=>some (.dn ((0,(s1,()))))) (0,0)) λr6=>some (r6.2.1.2,0)
def Bn (x:(AS×((Bool×AQ)×((List AB)×Int)))):Option (Int×Int) :=
 bd (Eh x) λr0=>br (Aq r0 0) (λ_=>some (0,r0)) λ_=>bd (F8 x.1) λr1=>some r1
def Bq (x:AS):Option (AB×(Int×(AS×Int))) :=
 bd (DO x) λr0=>br (Aq r0.2 0) (λ_=>br (Aq r0.2 0) (λ_=>some (((([],([],(false,0))):AB),(0,(([],([],([],([],0)))),r0.2))))) λ_=>none) λ_=>bd (Ai x.1) λr1=>bd (Aw x.2.1) λr2=>bd (CT x.2.2) λr3=>br (Aq r3.2.2 0) (λ_=>br (Aq r3.2.2 0) (λ_=>some (((([],([],(false,0))):AB),(0,(([],([],([],([],0)))),r3.2.2))))) λ_=>gd (CB 0 (AA r2)) λ_=>ix r2 0 λx4=>gd (CB 0 (AA r2)) λ_=>ix r2 0 λx5=>gd (CB 0 (AA r1)) λ_=>ix r1 0 λx6=>gd (CB 0 (AA (lset r2 0 (AH .i64 x4 1)))) λ_=>ix (lset r2 0 (AH .i64 x4 1)) 0 λx7=>bd (BD (x6,x7)) λr8=>bd (CE (x.2.2,r8)) λr9=>some (((([],([],(false,0))):AB),(0,((r1,(lset r2 0 (AH .i64 x4 1),r9.1)),0))))) λ_=>AO r3.1 λk10=>gd (CB k10 (AA r1)) λ_=>ix r1 k10 λx11=>AO r3.1 λk12=>gd (CB k12 (AA r2)) λ_=>ix r2 k12 λx13=>AO x13 λk14=>ix x11 k14 λx15=>AO r3.1 λk16=>gd (CB k16 (AA r2)) λ_=>ix r2 k16 λx17=>AO r3.1 λk18=>gd (CB k18 (AA r2)) λ_=>ix r2 k18 λx19=>AO r3.1 λk20=>gd (CB k20 (AA r1)) λ_=>ix r1 k20 λx21=>AO r3.1 λk22=>gd (CB k22 (AA (lset r2 k18 (AH .i64 x17 1)))) λ_=>ix (lset r2 k18 (AH .i64 x17 1)) k22 λx23=>bd (BD (x21,x23)) λr24=>bd (CE (x.2.2,r24)) λr25=>some ((x15,(r3.1,((r1,(lset r2 k18 (AH .i64 x17 1),r25.1)),0))))
def B0 (x:((Bool×AQ)×AB)):Option (Bool×((Bool×AQ)×Int)) :=
 bd (Dk x.1) λr0=>br (Aq r0 0) (λ_=>some ((false,((false,([],false)),r0)))) λ_=>bd (Ar x.2) λr1=>br (Aq r1 0) (λ_=>some ((false,((false,([],false)),r1)))) λ_=>br x.1.1 (λ_=>br (Bl x.2.1 x.1.2.1) (λ_=>some ((false,((false,([],false)),6)))) λ_=>br x.1.1 (λ_=>br (seq x.2.1 x.1.2.1) (λ_=>some ((false,((true,(x.2.1,x.1.2.2)),0)))) λ_=>br x.1.2.2 (λ_=>br x.2.2.2.1 (λ_=>some ((false,((true,(x.2.1,x.1.2.2)),0)))) λ_=>some ((true,((true,(x.2.1,x.1.2.2)),0)))) λ_=>some ((true,((true,(x.2.1,x.1.2.2)),0)))) λ_=>br x.1.2.2 (λ_=>br x.2.2.2.1 (λ_=>some ((false,((true,(x.2.1,x.1.2.2)),0)))) λ_=>some ((true,((true,(x.2.1,x.1.2.2)),0)))) λ_=>some ((true,((true,(x.2.1,x.1.2.2)),0)))) λ_=>br x.1.1 (λ_=>br (seq x.2.1 x.1.2.1) (λ_=>some ((false,((true,(x.2.1,x.1.2.2)),0)))) λ_=>br x.1.2.2 (λ_=>br x.2.2.2.1 (λ_=>some ((false,((true,(x.2.1,x.1.2.2)),0)))) λ_=>some ((true,((true,(x.2.1,x.1.2.2)),0)))) λ_=>some ((true,((true,(x.2.1,x.1.2.2)),0)))) λ_=>br x.1.2.2 (λ_=>br x.2.2.2.1 (λ_=>some ((false,((true,(x.2.1,x.1.2.2)),0)))) λ_=>some ((true,((true,(x.2.1,x.1.2.2)),0)))) λ_=>some ((true,((true,(x.2.1,x.1.2.2)),0)))
def CP (x:((AS×((Bool×AQ)×((List AB)×Int)))×Int)):Option ((AS×((Bool×AQ)×((List AB)×Int)))×(Int×Int)) :=
 bd (Bn x.1) λr0=>br (Aq r0.2 0) (λ_=>some (((([],([],([],([],0)))),((false,([],false)),([],0))),(0,r0.2)))) λ_=>br (Ag x.2 0) (λ_=>some (((([],([],([],([],0)))),((false,([],false)),([],0))),(0,7)))) λ_=>br (Bv (AH .i64 x.1.2.2.2 (NZ x.2 r0.1)) 20000) (λ_=>some (((([],([],([],([],0)))),((false,([],false)),([],0))),(0,3)))) λ_=>gd (A0 (AA x.1.2.2.1) 1048576) λ_=>gd (A0 (AA x.1.1.2.1) 1048576) λ_=>br (Ag 0 (NZ x.2 r0.1)) (λ_=>bd (Bq x.1.1) λr1=>br (Aq r1.2.2.2 0) (λ_=>br (Aq r1.2.2.2 0) (λ_=>br (Aq r1.2.2.2 0) (λ_=>some (((([],([],([],([],0)))),((false,([],false)),([],0))),(0,r1.2.2.2)))) λ_=>some ((x.1,(NZ x.2 r0.1,0)))) λ_=>none) λ_=>bd (B0 (x.1.2.1,r1.1)) λr2=>br (Aq r2.2.2 0) (λ_=>br (Aq r2.2.2 0) (λ_=>br (Aq r2.2.2 0) (λ_=>some (((([],([],([],([],0)))),((false,([],false)),([],0))),(0,r2.2.2)))) λ_=>some ((x.1,(NZ x.2 r0.1,0)))) λ_=>none) λ_=>br r2.1 (λ_=>gd (A0 (AK (AA x.1.2.2.1) (AA [r1.1])) 1048576) λ_=>bd (loop (λs3=>br (Ag s3.1 (NZ x.2 r0.1)) (λ_=>bd (Bq ((s3.2.2.1,(s3.2.2.2.1,(s3.2.2.2.2.1,(s3.2.2.2.2.2.1,s3.2.2.2.2.2.2.1)))))) λr4=>br (Aq r4.2.2.2 0) (λ_=>br (Aq r4.2.2.2 0) (λ_=>some (.dn ((0,((s3.1,(r4.2.2.2,s3.2.2)),()))))) λ_=>some (.nx (AH .i64 s3.1 1,s3.2))) λ_=>bd (B0 (((s3.2.2.2.2.2.2.2.1,(s3.2.2.2.2.2.2.2.2.1,s3.2.2.2.2.2.2.2.2.2.1)),r4.1))) λr5=>br (Aq r5.2.2 0) (λ_=>br (Aq r5.2.2 0) (λ_=>some (.dn ((0,((s3.1,(r5.2.2,s3.2.2)),()))))) λ_=>some (.nx (AH .i64 s3.1 1,s3.2))) λ_=>br r5.1 (λ_=>gd (A0 (AK (AA s3.2.2.2.2.2.2.2.2.2.2.1) (AA [r4.1])) 1048576) λ_=>some (.nx ((AH .i64 s3.1 1,(s3.2.1,(r4.2.2.1.1,(r4.2.2.1.2.1,(r4.2.2.1.2.2.1,(r4.2.2.1.2.2.2.1,(r4.2.2.1.2.2.2.2,(r5.2.1.1,(r5.2.1.2.1,(r5.2.1.2.2,(CC s3.2.2.2.2.2.2.2.2.2.2.1 [r4.1],AH .i64 s3.2.2.2.2.2.2.2.2.2.2.2 1)))))))))))))) λ_=>some (.nx ((AH .i64 s3.1 1,(s3.2.1,(r4.2.2.1.1,(r4.2.2.1.2.1,(r4.2.2.1.2.2.1,(r4.2.2.1.2.2.2.1,(r4.2.2.1.2.2.2.2,(r5.2.1.1,(r5.2.1.2.1,(r5.2.1.2.2,(s3.2.2.2.2.2.2.2.2.2.2.1,AH .i64 s3.2.2.2.2.2.2.2.2.2.2.2 1)))))))))))))) λ_=>some (.dn ((1,(s3,()))))) ((1,(0,(r1.2.2.1.1,(r1.2.2.1.2.1,(r1.2.2.1.2.2.1,(r1.2.2.1.2.2.2.1,(r1.2.2.1.2.2.2.2,(r2.2.1.1,(r2.2.1.2.1,(r2.2.1.2.2,(CC x.1.2.2.1 [r1.1],AH .i64 x.1.2.2.2 1))))))))))))) λr6=>br (neq r6.1 0) (λ_=>br (Aq r6.2.1.2.1 0) (λ_=>some (((([],([],([],([],0)))),((false,([],false)),([],0))),(0,r6.2.1.2.1)))) λ_=>some ((((r6.2.1.2.2.1,(r6.2.1.2.2.2.1,(r6.2.1.2.2.2.2.1,(r6.2.1.2.2.2.2.2.1,r6.2.1.2.2.2.2.2.2.1)))),((r6.2.1.2.2.2.2.2.2.2.1,(r6.2.1.2.2.2.2.2.2.2.2.1,r6.2.1.2.2.2.2.2.2.2.2.2.1)),r6.2.1.2.2.2.2.2.2.2.2.2.2)),(NZ x.2 r0.1,0)))) λ_=>some ((((r6.2.1.2.2.1,(r6.2.1.2.2.2.1,(r6.2.1.2.2.2.2.1,(r6.2.1.2.2.2.2.2.1,r6.2.1.2.2.2.2.2.2.1)))),((r6.2.1.2.2.2.2.2.2.2.1,(r6.2.1.2.2.2.2.2.2.2.2.1,r6.2.1.2.2.2.2.2.2.2.2.2.1)),r6.2.1.2.2.2.2.2.2.2.2.2.2)),(NZ x.2 r0.1,0)))) λ_=>bd (loop (λs7=>br (Ag s7.1 (NZ x.2 r0.1)) (λ_=>bd (Bq ((s7.2.2.1,(s7.2.2.2.1,(s7.2.2.2.2.1,(s7.2.2.2.2.2.1,s7.2.2.2.2.2.2.1)))))) λr8=>br (Aq r8.2.2.2 0) (λ_=>br (Aq r8.2.2.2 0) (λ_=>some (.dn ((0,((s7.1,(r8.2.2.2,s7.2.2)),()))))) λ_=>some (.nx (AH .i64 s7.1 1,s7.2))) λ_=>bd (B0 (((s7.2.2.2.2.2.2.2.1,(s7.2.2.2.2.2.2.2.2.1,s7.2.2.2.2.2.2.2.2.2.1)),r8.1))) λr9=>br (Aq r9.2.2 0) (λ_=>br (Aq r9.2.2 0) (λ_=>some (.dn ((0,((s7.1,(r9.2.2,s7.2.2)),()))))) λ_=>some (.nx (AH .i64 s7.1 1,s7.2))) λ_=>br r9.1 (λ_=>gd (A0 (AK (AA s7.2.2.2.2.2.2.2.2.2.2.1) (AA [r8.1])) 1048576) λ_=>some (.nx ((AH .i64 s7.1 1,(s7.2.1,(r8.2.2.1.1,(r8.2.2.1.2.1,(r8.2.2.1.2.2.1,(r8.2.2.1.2.2.2.1,(r8.2.2.1.2.2.2.2,(r9.2.1.1,(r9.2.1.2.1,(r9.2.1.2.2,(CC s7.2.2.2.2.2.2.2.2.2.2.1 [r8.1],AH .i64 s7.2.2.2.2.2.2.2.2.2.2.2 1)))))))))))))) λ_=>some (.nx ((AH .i64 s7.1 1,(s7.2.1,(r8.2.2.1.1,(r8.2.2.1.2.1,(r8.2.2.1.2.2.1,(r8.2.2.1.2.2.2.1,(r8.2.2.1.2.2.2.2,(r9.2.1.1,(r9.2.1.2.1,(r9.2.1.2.2,(s7.2.2.2.2.2.2.2.2.2.2.1,AH .i64 s7.2.2.2.2.2.2.2.2.2.2.2 1)))))))))))))) λ_=>some (.dn ((1,(s7,()))))) ((1,(0,(r1.2.2.1.1,(r1.2.2.1.2.1,(r1.2.2.1.2.2.1,(r1.2.2.1.2.2.2.1,(r1.2.2.1.2.2.2.2,(r2.2.1.1,(r2.2.1.2.1,(r2.2.1.2.2,(x.1.2.2.1,AH .i64 x.1.2.2.2 1))))))))))))) λr10=>br (neq r10.1 0) (λ_=>br (Aq r10.2.1.2.1 0) (λ_=>some (((([],([],([],([],0)))),((false,([],false)),([],0))),(0,r10.2.1.2.1)))) λ_=>some ((((r10.2.1.2.2.1,(r10.2.1.2.2.2.1,(r10.2.1.2.2.2.2.1,(r10.2.1.2.2.2.2.2.1,r10.2.1.2.2.2.2.2.2.1)))),((r10.2.1.2.2.2.2.2.2.2.1,(r10.2.1.2.2.2.2.2.2.2.2.1,r10.2.1.2.2.2.2.2.2.2.2.2.1)),r10.2.1.2.2.2.2.2.2.2.2.2.2)),(NZ x.2 r0.1,0)))) λ_=>some ((((r10.2.1.2.2.1,(r10.2.1.2.2.2.1,(r10.2.1.2.2.2.2.1,(r10.2.1.2.2.2.2.2.1,r10.2.1.2.2.2.2.2.2.1)))),((r10.2.1.2.2.2.2.2.2.2.1,(r10.2.1.2.2.2.2.2.2.2.2.1,r10.2.1.2.2.2.2.2.2.2.2.2.1)),r10.2.1.2.2.2.2.2.2.2.2.2.2)),(NZ x.2 r0.1,0)))) λ_=>some ((x.1,(NZ x.2 r0.1,0)))
def BL (x:((List AB)×(List AB))):Option Bool :=
 br (Aq (AW (AA x.1)) (AW (AA x.2))) (λ_=>some false) λ_=>bd (loop (λs0=>br (Ag s0.1 (AW (AA x.1))) (λ_=>AO s0.1 λk1=>ix x.1 k1 λx2=>AO s0.1 λk3=>ix x.2 k3 λx4=>br (AV (BZ (seq x2.1 x4.1) (BZ (seq x2.2.1 x4.2.1) (BZ (beq x2.2.2.1 x4.2.2.1) (BZ (Bh x2.2.2.2 x4.2.2.2) true))))) (λ_=>some (.dn ((0,((s0.1,false),()))))) λ_=>some (.nx (AH .i64 s0.1 1,s0.2))) λ_=>some (.dn ((1,(s0,()))))) (0,false)) λr5=>br (neq r5.1 0) (λ_=>some r5.2.1.2) λ_=>some true
def Bb (x:((List AB)×(List AB))):Option Bool :=
 bd (BL x) λr0=>some r0
def DJ (x:((AS×((Bool×AQ)×((List AB)×Int)))×(AS×((Bool×AQ)×((List AB)×Int))))):Option Bool :=
 br (Aq (AW (AA x.1.1.1)) (AW (AA x.2.1.1))) (λ_=>some false) λ_=>bd (loop (λs0=>br (Ag s0.1 (AW (AA x.1.1.1))) (λ_=>AO s0.1 λk1=>ix x.1.1.1 k1 λx2=>AO s0.1 λk3=>ix x.2.1.1 k3 λx4=>bd (Bb (x2,x4)) λr5=>br (AV r5) (λ_=>some (.dn ((0,((s0.1,false),()))))) λ_=>some (.nx (AH .i64 s0.1 1,s0.2))) λ_=>some (.dn ((1,(s0,()))))) (0,false)) λr6=>br (neq r6.1 0) (λ_=>br r6.2.1.2 (λ_=>bd (Af (x.1.1.2.1,x.2.1.2.1)) λr7=>br r7 (λ_=>bd (Ak (x.1.1.2.2.1,x.2.1.2.2.1)) λr8=>br r8 (λ_=>bd (Af (x.1.1.2.2.2.1,x.2.1.2.2.2.1)) λr9=>br r9 (λ_=>br (Bh x.1.1.2.2.2.2 x.2.1.2.2.2.2) (λ_=>br (BZ (beq x.1.2.1.1 x.2.2.1.1) (BZ (seq x.1.2.1.2.1 x.2.2.1.2.1) (BZ (beq x.1.2.1.2.2 x.2.2.1.2.2) true))) (λ_=>bd (Bb (x.1.2.2.1,x.2.2.2.1)) λr10=>br r10 (λ_=>some (Bh x.1.2.2.2 x.2.2.2.2)) λ_=>some false) λ_=>some false) λ_=>some false) λ_=>some false) λ_=>some false) λ_=>some false) λ_=>some false) λ_=>bd (Af (x.1.1.2.1,x.2.1.2.1)) λr11=>br r11 (λ_=>bd (Ak (x.1.1.2.2.1,x.2.1.2.2.1)) λr12=>br r12 (λ_=>bd (Af (x.1.1.2.2.2.1,x.2.1.2.2.2.1)) λr13=>br r13 (λ_=>br (Bh x.1.1.2.2.2.2 x.2.1.2.2.2.2) (λ_=>br (BZ (beq x.1.2.1.1 x.2.2.1.1) (BZ (seq x.1.2.1.2.1 x.2.2.1.2.1) (BZ (beq x.1.2.1.2.2 x.2.2.1.2.2) true))) (λ_=>bd (Bb (x.1.2.2.1,x.2.2.2.1)) λr14=>br r14 (λ_=>some (Bh x.1.2.2.2 x.2.2.2.2)) λ_=>some false) λ_=>some false) λ_=>some false) λ_=>some false) λ_=>some false) λ_=>some false
def Be (x:(AM×((List (Int×(AS×((Bool×AQ)×((List AB)×Int)))))×Int))):Option (Int×Int) :=
 bd (C2 x.1) λr0=>br (Aq r0.2.2 0) (λ_=>some (((-1),r0.2.2))) λ_=>br (Ag x.2.2 1) (λ_=>some (((-1),7))) λ_=>br (Bv x.2.2 1000001) (λ_=>some (((-1),7))) λ_=>bd (EB x.1) λr1=>br (PY x.2.2 r1) (λ_=>some (((-1),6))) λ_=>bd (loop (λs2=>br (Ag s2.1 (AW (AA x.1.2))) (λ_=>AO s2.1 λk3=>ix x.1.2 k3 λx4=>br (Bh (AW (AA x4)) 2) (λ_=>gd (A0 (AK (AA s2.2) (AA [s2.1])) 1048576) λ_=>some (.nx (AH .i64 s2.1 1,CC s2.2 [s2.1]))) λ_=>some (.nx (AH .i64 s2.1 1,s2.2))) λ_=>some (.dn ((0,(s2,()))))) (0,[])) λr5=>bd (loop (λs6=>br (Ag s6.2.2 (AW (AA x.2.1))) (λ_=>AO s6.2.2 λk7=>ix x.2.1 k7 λx8=>br (Iu s6.2.2 (AW (AA r5.2.1.2))) (λ_=>some (.dn ((0,((6,(s6.2.2,s6.2.2)),()))))) λ_=>AO s6.2.2 λk9=>gd (CB k9 (AA r5.2.1.2)) λ_=>ix r5.2.1.2 k9 λx10=>br (Aq x8.1 x10) (λ_=>some (.dn ((0,((6,(s6.2.2,s6.2.2)),()))))) λ_=>br x8.2.2.1.2.2 (λ_=>bd (EJ (x.1,x8.1)) λr11=>br (AV r11) (λ_=>some (.dn ((0,((6,(s6.2.2,s6.2.2)),()))))) λ_=>bd (CO ((x.1,(x8.1,x8.2.2.1.2.2)))) λr12=>bd (Bn r12.2) λr13=>br (Ag x8.2.2.2.2 0) (λ_=>some (.dn ((0,((6,(s6.2.2,s6.2.2)),()))))) λ_=>br (Bv x8.2.2.2.2 r13.1) (λ_=>some (.dn ((0,((6,(s6.2.2,s6.2.2)),()))))) λ_=>bd (CP (r12.2,x8.2.2.2.2)) λr14=>bd (DJ (r14.1,x8.2)) λr15=>br (AV r15) (λ_=>some (.dn ((0,((6,(s6.2.2,s6.2.2)),()))))) λ_=>some (.nx ((s6.1,(s6.2.1,AH .i64 s6.2.2 1))))) λ_=>bd (CO ((x.1,(x8.1,x8.2.2.1.2.2)))) λr16=>bd (Bn r16.2) λr17=>br (Ag x8.2.2.2.2 0) (λ_=>some (.dn ((0,((6,(s6.2.2,s6.2.2)),()))))) λ_=>br (Bv x8.2.2.2.2 r17.1) (λ_=>some (.dn ((0,((6,(s6.2.2,s6.2.2)),()))))) λ_=>bd (CP (r16.2,x8.2.2.2.2)) λr18=>bd (DJ (r18.1,x8.2)) λr19=>br (AV r19) (λ_=>some (.dn ((0,((6,(s6.2.2,s6.2.2)),()))))) λ_=>some (.nx ((s6.1,(s6.2.1,AH .i64 s6.2.2 1))))) λ_=>some (.dn ((1,(s6,()))))) ((r0.2.2,(0,0)))) λr20=>br (neq r20.1 0) (λ_=>some (r20.2.1.2.1,r20.2.1.1)) λ_=>br (Ag (AW (AA x.2.1)) (AW (AA r5.2.1.2))) (λ_=>some (((-1),4))) λ_=>some (0,0)
end Go.Proofs.YthpkjfabdccpdaaGreat.Pl
namespace Go.Proofs.YthpkjfabdccpdaaGreat.Pl
open Go Go.Proofs.YthpkjfabdccpdaaGreat.Sv
abbrev Hf:=List UInt8
theorem ML (a:Hf):Bl a []=false:=by unfold Bl;cases a<;>rfl
theorem Rd (b:UInt8) (y:Hf):Bl [] (b::y)=true:=rfl
theorem Ij (a b:UInt8) (x y:Hf):Bl (a::x) (b::y)=(decide (a<b)||(a == b&&Bl x y)):=rfl
theorem Fe : ∀ a:Hf,Bl a a=false
 | []=>rfl
 | a::x=>by rw [Ij,Fe x];simp
theorem DC : ∀ {a b c:Hf},Bl a b=true->Bl b c=true->Bl a c=true
 | [],b,[],h1,h2=>by rw [ML] at h2;cases h2
 | [],b,c::z,_,_=>rfl
 | a::x,[],c,h1,_=>by rw [ML] at h1;cases h1
 | a::x,b::y,[],_,h2=>by rw [ML] at h2;cases h2
 | a::x,b::y,c::z,h1,h2=>by
  rw [Ij] at h1 h2 ⊢;simp only [Bool.or_eq_true,decide_eq_true_eq,Bool.and_eq_true,beq_iff_eq] at h1 h2 ⊢;rcases h1 with h1 | ⟨rfl,h1⟩
  ·rcases h2 with h2 | ⟨rfl,h2⟩
   ·exact .inl (UInt8.lt_trans h1 h2)
   ·exact .inl h1
  ·rcases h2 with h2 | ⟨rfl,h2⟩
   ·exact .inl h2
   ·exact .inr ⟨rfl,DC h1 h2⟩
theorem Re : ∀ a b:Hf,Bl a b=true\/a=b\/Bl b a=true
 | [],[] => .inr (.inl rfl)
 | [],_::_ => .inl rfl
 | _::_,[] => .inr (.inr rfl)
 | a::x,b::y=>by
  rw [Ij,Ij];simp only [Bool.or_eq_true,decide_eq_true_eq,Bool.and_eq_true,beq_iff_eq,List.cons.injEq];rcases UInt8.lt_or_lt_of_ne (a:=a) (b:=b) |> λh=>Classical.em (a=b) |>.imp id h with h | h | h
  ·subst h;rcases Re x y with h | h | h
   ·exact .inl (.inr ⟨rfl,h⟩)
   ·exact .inr (.inl ⟨rfl,h⟩)
   ·exact .inr (.inr (.inr ⟨rfl,h⟩))
  ·exact .inl (.inl h)
  ·exact .inr (.inr (.inl h))
theorem Cs {a b:Hf} (h:Bl a b=true):Bl b a=false:=by
 cases h2:Bl b a with
 | false=>rfl
 | true=>have:=DC h h2;rw [Fe] at this;cases this
theorem Ua {a b:Hf} (h:Bl a b=true):a≠b:=λe=>by subst e;rw [Fe] at h;cases h
theorem LX {a b:Hf} (h:Bl a b=false) (hn:a≠b):Bl b a=true:=by
 rcases Re a b with h1 | h1 | h1
 ·rw [h] at h1;cases h1
 ·exact absurd h1 hn
 ·exact h1
theorem Ub {a b c:Hf} (h:Bl b a=false) (h2:Bl b c=true):Bl a c=true:=by
 rcases Re a b with h1 | h1 | h1
 ·exact DC h1 h2
 ·subst h1;exact h2
 ·rw [h] at h1;cases h1
theorem H4 {a b:Hf}:seq a b=true<->a=b:=by unfold seq;simp
theorem LY (a b:Hf):seq a b=decide (a=b):=by
 cases h:seq a b with
 | true=>rw [H4] at h;simp [h]
 | false =>
  have : ¬ a=b:=λe=>by rw [<- H4] at e;rw [h] at e;cases e
  simp [this]
section
variable {α β σ S:Type}
theorem Ei (a b:Hf) (x y:Unit->Option β):br (seq a b) x y=if a=b then x () else y ():=Ov H4 x y
theorem F9 (a b:Hf) (x y:Unit->Option β):br (Bl a b) x y=if Bl a b=true then x () else y ():=Ov Iff.rfl x y
theorem Cj (p:Prop) [Decidable p] (x y:Unit->Option β):br (decide p) x y=if p then x () else y ():=Ov (by simp) x y
theorem AF (k:Nat) (c:Nat->Option β):AO (k:Int) c=c k:=by rw [WX (by omega)];simp
theorem jO {l:List α} {k:Nat} {x:α} (h:l[k]? = some x):Ag (k:Int) (AW (AA l))=true:=by
 have:=(List.getElem?_eq_some_iff.1 h).1;unfold Ag AW AA;simp;omega
theorem gj (l:List α):Ag (l.length:Int) (AW (AA l))=false:=by unfold Ag AW AA;simp
theorem Ac {k:Nat} (h:k+1<=9223372036854775807):AH .i64 (k:Int) 1=((k+1:Nat):Int):=by
 rw [Ci (by omega)];omega
theorem A6 {l:List α} {k:Nat} {x:α} (h:l[k]? = some x) (hl:l.length<=9223372036854775807):AH .i64 (k:Int) 1=((k+1:Nat):Int):=by
 have:=(List.getElem?_eq_some_iff.1 h).1;exact Ac (by omega)
def Ow (step:Nat->α->σ->Option (LR σ β)) (fin:σ->Option β):List α->Nat->σ->Option β
 | [],_,s=>fin s
 | x::l,k,s=>match step k x s with
  | none=>none
  | some (.nx s')=>Ow step fin l (k+1) s'
  | some (.dn b)=>some b
def pw (mk:σ->S):Option (LR σ β)->Option (LR S β)
 | none=>none
 | some (.nx s)=>some (.nx (mk s))
 | some (.dn b)=>some (.dn b)
def kL:Option β->Option (LR S β)
 | none=>none
 | some b=>some (.dn b)
theorem Uc {l:List α} {mk:Nat->σ->S} {f:S->Option (LR S β)} {step:Nat->α->σ->Option (LR σ β)} {fin:σ->Option β}
  (hs : ∀ k x st,l[k]? = some x->f (mk k st)=pw (mk (k+1)) (step k x st)) (he : ∀ st,f (mk l.length st)=kL (fin st)) :
  ∀ (d n k:Nat) (st:σ),l.length-k=d->k<=l.length->d<n->D7 n f (mk k st)=Ow step fin (l.drop k) k st:=by
 intro d
 induction d with
 | zero =>
  intro n k st h1 h2 h3;have hk:k=l.length:=by omega
  obtain ⟨m,rfl⟩ : ∃ m,n=m+1:=⟨n-1,by omega⟩;subst hk;unfold D7;rw [he,List.drop_length];unfold kL Ow;cases fin st<;>rfl
 | succ d ih =>
  intro n k st h1 h2 h3;obtain ⟨m,rfl⟩ : ∃ m,n=m+1:=⟨n-1,by omega⟩;have hk:k<l.length:=by omega
  have hx:l[k]? = some l[k]:=by simp [hk]
  unfold D7;rw [hs k _ st hx,List.drop_eq_getElem_cons hk]
  show _=match step k l[k] st with
   | none=>none
   | some (.nx s')=>Ow step fin (l.drop (k+1)) (k+1) s'
   | some (.dn b)=>some b
  cases step k l[k] st with
  | none=>rfl
  | some r=>cases r with
   | nx s'=>exact ih m (k+1) s' (by omega) (by omega) (by omega)
   | dn b=>rfl
theorem Xb {l:List α} (mk:Nat->σ->S) (step:Nat->α->σ->Option (LR σ β)) (fin:σ->Option β) {f:S->Option (LR S β)} {s:S} (st:σ) (h0:s=mk 0 st) (hl:l.length<=9223372036854775807)
  (hs : ∀ k x st,l[k]? = some x->f (mk k st)=pw (mk (k+1)) (step k x st)) (he : ∀ st,f (mk l.length st)=kL (fin st)) :
  loop f s=Ow step fin l 0 st:=by
 subst h0;have:=Uc hs he l.length 18446744073709551616 0 st (by omega) (by omega) (by omega);rw [List.drop_zero] at this;exact this
theorem S2 {f:α->Option (LR α β)} {x:β} : ∀ {n m:Nat} {s:α},n<=m->D7 n f s=some x->D7 m f s=some x
 | 0,_,_,_,h=>by cases h
 | n+1,0,_,hl,_=>by omega
 | n+1,m+1,s,hl,h=>by
  unfold D7 at h ⊢;split at h
  ·cases h
  ·rename_i s' e;exact S2 (by omega) h
  ·exact h
theorem Dd {f:α->Option (LR α β)} {x:β} {n:Nat} {s:α} (hn:n<=18446744073709551616) (h:D7 n f s=some x):loop f s=some x:=S2 hn h
theorem BX {f:α->Option (LR α β)} {n:Nat} {s s':α} (h:f s=some (.nx s')):D7 (n+1) f s=D7 n f s':=by
 show (match f s with
  | none=>none
  | some (.nx s)=>D7 n f s
  | some (.dn x)=>some x)=_
 rw [h]
theorem Bo {f:α->Option (LR α β)} {n:Nat} {s:α} {x:β} (h:f s=some (.dn x)):D7 (n+1) f s=some x:=by
 show (match f s with
  | none=>none
  | some (.nx s)=>D7 n f s
  | some (.dn x)=>some x)=_
 rw [h]
theorem Ik {f : S -> Option (LR S β)} {r : β} (mk : Nat -> S) (n : Nat) {s : S} (h0 : s = mk 0) (hn : n < 18446744073709551616) (hs : ∀ k, k < n -> f (mk k) = some (.nx (mk (k + 1)))) (he : f (mk n) = some (.dn r)) : loop f s = some r := by
  subst h0
  have : ∀ d k, k + d = n -> D7 (d + 1) f (mk k) = some r := by
    intro d
    induction d with
    | zero => intro k hk; have : k = n := by omega
              subst this; exact Bo he
    | succ d ih => intro k hk; rw [BX (hs k (by omega))]; exact ih (k + 1) (by omega)
  exact Dd (n := n + 1) (by omega) (this n 0 (by omega))
end
end Go.Proofs.YthpkjfabdccpdaaGreat.Pl
namespace Go.Proofs.YthpkjfabdccpdaaGreat.Pl
open Go Go.Proofs.YthpkjfabdccpdaaGreat.Sv
def kE (x:AB):Int:=if x.1.length>32\/x.2.1.length>64 then 3 else if x.2.2.1=true/\x.2.1≠[] then 6 else if x.2.2.2<1\/x.2.2.2>1000000000 then 7 else 0
def JZ:Option Hf->Nat->List AB->Int×Int
 | _,_,[]=>(0,0)
 | p,k,x::l=>if kE x≠0 then ((k:Int),kE x) else match p with
  | some q=>if Bl q x.1=true then JZ (some x.1) (k+1) l else ((k:Int),6)
  | none=>JZ (some x.1) (k+1) l
def Ej (l:List AB):Int×Int:=if l.length>5000 then (-1,3) else JZ none 0 l
def Asc:Option Hf->List AB->Prop
 | _,[]=>True
 | p,x::l=>(∀ q,p=some q->Bl q x.1=true)/\Asc (some x.1) l
theorem N6 : ∀ {p k l},(JZ p k l).2=0<->(∀ x∈l,kE x=0)/\Asc p l
 | p,k,[]=>by simp [JZ,Asc]
 | p,k,x::l=>by
  unfold JZ;by_cases h:kE x=0
  ·rw [if_neg (by simp [h])];cases p with
   | none =>
    simp only [N6 (p:=some x.1) (l:=l),Asc,List.mem_cons,forall_eq_or_imp];constructor
    ·rintro ⟨h1,h2⟩;exact ⟨⟨h,h1⟩,(λq hq=>by cases hq),h2⟩
    ·rintro ⟨⟨_,h1⟩,_,h2⟩;exact ⟨h1,h2⟩
   | some q =>
    simp only;by_cases hq:Bl q x.1=true
    ·rw [if_pos hq];simp only [N6 (p:=some x.1) (l:=l),Asc,List.mem_cons,forall_eq_or_imp];constructor
     ·rintro ⟨h1,h2⟩;exact ⟨⟨h,h1⟩,(λq' hq'=>by cases hq';exact hq),h2⟩
     ·rintro ⟨⟨_,h1⟩,_,h2⟩;exact ⟨h1,h2⟩
    ·rw [if_neg hq];constructor
     ·intro h;cases h
     ·rintro ⟨_,h2⟩;exact absurd (h2.1 q rfl) hq
  ·rw [if_pos h];constructor
   ·intro h';exact absurd h' h
   ·rintro ⟨h1,_⟩;exact absurd (h1 x (by simp)) h
theorem M8 : ∀ {p k l},(JZ p k l).2=0->JZ p k l=(0,0)
 | p,k,[],_=>rfl
 | p,k,x::l,h=>by
  unfold JZ at h ⊢;by_cases hx:kE x=0
  ·rw [if_neg (by simp [hx])] at h ⊢;cases p with
   | none=>exact M8 h
   | some q =>
    simp only at h ⊢;by_cases hq:Bl q x.1=true
    ·rw [if_pos hq] at h ⊢;exact M8 h
    ·rw [if_neg hq] at h;cases h
  ·rw [if_pos hx] at h;exact absurd h hx
structure VL (l:List AB):Prop where
 len:l.length<=5000
 ok : ∀ x∈l,kE x=0
 asc:Asc none l
theorem M9 {l:List AB}:(Ej l).2=0<->VL l:=by
 unfold Ej;by_cases h:l.length>5000
 ·rw [if_pos h];constructor
  ·intro h;cases h
  ·intro h';have:=h'.len;omega
 ·rw [if_neg h];rw [N6];exact ⟨λ⟨a,b⟩=>⟨by omega,a,b⟩,λh=>⟨h.ok,h.asc⟩⟩
theorem J3 {l:List AB} (h:VL l):Ej l=(0,0):=by
 have h2:=M9.2 h;unfold Ej at h2 ⊢;rw [if_neg (by have:=h.len;omega)] at h2 ⊢;exact M8 h2
theorem Asc.lt : ∀ {p:Option Hf} {l:List AB},Asc p l -> ∀ {i:Nat} {x y:AB},l[i]? = some x->l[i+1]? = some y->Bl x.1 y.1=true
 | p,x::[],_,0,_,_,_,h2=>by simp at h2
 | p,a::b::l,h,0,x,y,h1,h2=>by
  simp at h1 h2;subst h1;subst h2;exact h.2.1 _ rfl
 | p,a::l,h,i+1,x,y,h1,h2=>by
  simp at h1 h2;exact Asc.lt h.2 h1 h2
theorem VL.lt {l:List AB} (h:VL l) {i:Nat} {x y:AB} (h1:l[i]? = some x) (h2:l[i+1]? = some y):Bl x.1 y.1=true:=h.asc.lt h1 h2
def kx (l:List AB) (i:Nat):AQ:=match l[i]? with
 | some x=>(x.1,false)
 | none=>([],true)
def w0 (p q:AQ):Bool:=if p.2≠q.2 then q.2 else if p.1≠q.1 then Bl p.1 q.1 else true
def Hr (a b:List AB) (i j:Nat):Bool:=w0 (kx a i) (kx b j)
def Am (a b:List AB):Nat->Nat×Nat
 | 0=>(0,0)
 | n+1=>if Hr a b (Am a b n).1 (Am a b n).2=true then ((Am a b n).1+1,(Am a b n).2) else ((Am a b n).1,(Am a b n).2+1)
def Nn (a b:List AB) (n:Nat):Option AB:=if Hr a b (Am a b n).1 (Am a b n).2=true then a[(Am a b n).1]? else b[(Am a b n).2]?
structure Inv (a b:List AB) (i j:Nat):Prop where
 ia:i<=a.length
 jb:j<=b.length
 pa : ∀ i',i=i'+1 -> ∀ x y,a[i']? = some x->b[j]? = some y->Bl y.1 x.1=false
 pb : ∀ j',j=j'+1 -> ∀ x y,b[j']? = some x->a[i]? = some y->Bl x.1 y.1=true
theorem Ox {a b:List AB} {i j:Nat} {x y:AB} (h1:a[i]? = some x) (h2:b[j]? = some y):Hr a b i j = !Bl y.1 x.1:=by
 unfold Hr w0 kx;rw [h1,h2];simp only [ne_eq,not_true,if_false];by_cases h:x.1=y.1
 ·rw [if_neg (by simp [h]),h,Fe];rfl
 ·rw [if_pos h];cases hs:Bl x.1 y.1 with
  | true=>rw [Cs hs];rfl
  | false=>rw [LX hs h];rfl
theorem WY {a b:List AB} {i j:Nat} {x:AB} (h1:a[i]? = some x) (h2:b[j]? = none):Hr a b i j=true:=by
 unfold Hr w0 kx;rw [h1,h2];rfl
theorem WZ {a b:List AB} {i j:Nat} {y:AB} (h1:a[i]? = none) (h2:b[j]? = some y):Hr a b i j=false:=by
 unfold Hr w0 kx;rw [h1,h2];rfl
theorem S3 {a b:List AB} {i j:Nat} (h1:a[i]? = none) (h2:b[j]? = none):Hr a b i j=true:=by
 unfold Hr w0 kx;rw [h1,h2];rfl
theorem Inv.zero (a b:List AB):Inv a b 0 0:=⟨by omega,by omega,λ_ h=>by omega,λ_ h=>by omega⟩
theorem Inv.stepA {a b:List AB} (va:VL a) {i j:Nat} (h:Inv a b i j) {x:AB} (hx:a[i]? = some x) (g:Hr a b i j=true):Inv a b (i+1) j:=by
 have hi:=(List.getElem?_eq_some_iff.1 hx).1;refine ⟨by omega,h.jb,λi' e x' y h1 h2 => ?_,λj' e x' y h1 h2 => ?_⟩
 ·have:i'=i:=by omega
  subst this;rw [hx] at h1;cases h1;rw [Ox hx h2] at g;simpa using g
 ·exact DC (h.pb j' e x' x h1 hx) (va.lt hx h2)
theorem Inv.stepB {a b:List AB} (vb:VL b) {i j:Nat} (h:Inv a b i j) {y:AB} (hy:b[j]? = some y) (g:Hr a b i j=false):Inv a b i (j+1):=by
 have hj:=(List.getElem?_eq_some_iff.1 hy).1;refine ⟨h.ia,by omega,λi' e x' y' h1 h2 => ?_,λj' e x' y' h1 h2 => ?_⟩
 ·have h3:=h.pa i' e x' y h1 hy;exact Cs (Ub h3 (vb.lt hy h2))
 ·have:j'=j:=by omega
  subst this;rw [hy] at h1;cases h1;rw [Ox h2 hy] at g;simpa using g
theorem Ff {a b:List AB} (va:VL a) (vb:VL b) : ∀ {n:Nat},n<=a.length+b.length->Inv a b (Am a b n).1 (Am a b n).2/\(Am a b n).1+(Am a b n).2=n
 | 0,_=>⟨Inv.zero a b,rfl⟩
 | n+1,h=>by
  obtain ⟨hI,hs⟩:=Ff va vb (n:=n) (by omega);rw [show Am a b (n+1)=if Hr a b (Am a b n).1 (Am a b n).2=true then ((Am a b n).1+1,(Am a b n).2) else ((Am a b n).1,(Am a b n).2+1) from rfl]
  revert hI hs;generalize (Am a b n).1=i;generalize (Am a b n).2=j;intro hI hs;cases g:Hr a b i j with
  | true =>
   have hi:i<a.length:=by
    refine Nat.lt_of_not_le λh' => ?_;have h1:a[i]? = none:=List.getElem?_eq_none h';have h2:j<b.length:=by have:=hI.ia;omega
    rw [WZ h1 (by simp [h2]:b[j]? = some b[j])] at g;cases g
   have:=hI.stepA va (by simp [hi]:a[i]? = some a[i]) g;rw [if_pos rfl];exact ⟨this,by omega⟩
  | false =>
   have hj:j<b.length:=by
    refine Nat.lt_of_not_le λh' => ?_;have h1:b[j]? = none:=List.getElem?_eq_none h';cases h2:a[i]? with
    | none=>rw [S3 h2 h1] at g;cases g
    | some x=>rw [WY h2 h1] at g;cases g
   have:=hI.stepB vb (by simp [hj]:b[j]? = some b[j]) g;rw [if_neg (by simp)];exact ⟨this,by omega⟩
end Go.Proofs.YthpkjfabdccpdaaGreat.Pl
namespace Go.Proofs.YthpkjfabdccpdaaGreat.Pl
open Go Go.Proofs.YthpkjfabdccpdaaGreat.Sv
def Tt (p q:AQ):D0:=([p,q],([0,if w0 p q=true then 1 else 0],if w0 p q=true then 0 else 1))
def Lf (a b:List AB) (i j:Nat):AS:=([a,b],([(i:Int),(j:Int)],Tt (kx a i) (kx b j)))
def io (a b:List AB) (n:Nat):Hf:=match Nn a b n with
 | some x=>x.1
 | none=>[]
def fresh (a b:List AB) (n:Nat) (x:AB):Bool:=decide (n=0)||decide (io a b (n-1)≠x.1)
def gk (a b:List AB) (bt:Bool):Nat->List AB
 | 0=>[]
 | n+1=>match Nn a b n with
  | some x=>if (fresh a b n x && !(bt&&x.2.2.1))=true then gk a b bt n++[x] else gk a b bt n
  | none=>gk a b bt n
def p8 (a b:List AB) (bt:Bool) (n:Nat):Bp:=(decide (n≠0),(if n=0 then [] else io a b (n-1),bt))
def p9 (a b:List AB) (bt:Bool) (n:Nat):JF:=(Lf a b (Am a b n).1 (Am a b n).2,(p8 a b bt n,(gk a b bt n,(n:Int))))
def Az (a b:List AB):Nat->List AB
 | 0=>[]
 | n+1=>match Nn a b n with
  | some x=>Az a b n++[x]
  | none=>Az a b n
section
variable {a b:List AB} (va:VL a) (vb:VL b)
include va vb
theorem EE {n:Nat} (h:n<a.length+b.length) : ∃ x,Nn a b n=some x/\(x∈a\/x∈b):=by
 obtain ⟨hI,hs⟩:=Ff va vb (n:=n) (by omega);unfold Nn;revert hI hs;generalize (Am a b n).1=i;generalize (Am a b n).2=j;intro hI hs;cases g:Hr a b i j with
 | true =>
  have hi:i<a.length:=by
   refine Nat.lt_of_not_le λh' => ?_;have h1:a[i]? = none:=List.getElem?_eq_none h';have h2:j<b.length:=by have:=hI.ia;omega
   rw [WZ h1 (by simp [h2]:b[j]? = some b[j])] at g;cases g
  exact ⟨a[i],by simp [hi],.inl (List.getElem_mem hi)⟩
 | false =>
  have hj:j<b.length:=by
   refine Nat.lt_of_not_le λh' => ?_;have h1:b[j]? = none:=List.getElem?_eq_none h';cases h2:a[i]? with
   | none=>rw [S3 h2 h1] at g;cases g
   | some x=>rw [WY h2 h1] at g;cases g
  exact ⟨b[j],by simp [hj],.inr (List.getElem_mem hj)⟩
theorem aI {n:Nat} {x:AB} (h:Nn a b n=some x):kE x=0:=by
 have:x∈a\/x∈b:=by
  unfold Nn at h;split at h
  ·exact .inl (List.mem_of_getElem? h)
  ·exact .inr (List.mem_of_getElem? h)
 rcases this with h | h
 ·exact va.ok x h
 ·exact vb.ok x h
theorem Wa {n:Nat} (hn:n+1<a.length+b.length) {x y:AB} (h1:Nn a b n=some x) (h2:Nn a b (n+1)=some y):Bl y.1 x.1=false:=by
 obtain ⟨hI,hs⟩:=Ff va vb (n:=n) (by omega);unfold Nn at h1 h2;rw [show Am a b (n+1)=if Hr a b (Am a b n).1 (Am a b n).2=true then ((Am a b n).1+1,(Am a b n).2) else ((Am a b n).1,(Am a b n).2+1) from rfl] at h2
 revert hI hs h1 h2;generalize (Am a b n).1=i;generalize (Am a b n).2=j;intro h1 h2 hI hs;cases g:Hr a b i j with
 | true =>
  rw [if_pos g] at h1;simp only [g,if_true] at h2;have hI':=hI.stepA va h1 g;cases g2:Hr a b (i+1) j with
  | true=>rw [if_pos g2] at h2;exact Cs (va.lt h1 h2)
  | false=>rw [if_neg (by simp [g2])] at h2;exact hI'.pa i rfl x y h1 h2
 | false =>
  rw [if_neg (by simp [g])] at h1;simp only [g,if_false,Bool.false_eq_true] at h2;have hI':=hI.stepB vb h1 g;cases g2:Hr a b i (j+1) with
  | true=>rw [if_pos g2] at h2;exact Cs (hI'.pb j rfl x y h1 h2)
  | false=>rw [if_neg (by simp [g2])] at h2;exact Cs (vb.lt h1 h2)
theorem Cb : ∀ {n:Nat},n<=a.length+b.length->(Az a b n).length=n
 | 0,_=>rfl
 | n+1,h=>by
  obtain ⟨x,hx,_⟩:=EE va vb (n:=n) (by omega);unfold Az;rw [hx];simp [Cb (n:=n) (by omega)]
theorem Il : ∀ {n k:Nat},n<=a.length+b.length->k<n->(Az a b n)[k]? = Nn a b k
 | n+1,k,h,hk=>by
  obtain ⟨x,hx,_⟩:=EE va vb (n:=n) (by omega);unfold Az;rw [hx];show (Az a b n++[x])[k]? = _;have hl:=Cb va vb (n:=n) (by omega);by_cases hkn:k<n
  ·rw [List.getElem?_append_left (by omega)];exact Il (by omega) hkn
  ·have:k=n:=by omega
   subst this;rw [List.getElem?_append_right (by omega),hl];simp [hx]
theorem Ud {n m:Nat} (hm:m<=a.length+b.length) (h:n<=m):(Az a b m).take n=Az a b n:=by
 apply List.ext_getElem?;intro k;rw [List.getElem?_take];by_cases hk:k<n
 ·rw [if_pos hk,Il va vb hm (by omega),Il va vb (by omega) hk]
 ·rw [if_neg hk,List.getElem?_eq_none];rw [Cb va vb (by omega)];omega
end
end Go.Proofs.YthpkjfabdccpdaaGreat.Pl
namespace Go.Proofs.YthpkjfabdccpdaaGreat.Pl
open Go Go.Proofs.YthpkjfabdccpdaaGreat.Sv
theorem AX (n:Nat):AW n=(n:Int):=rfl
theorem AR {α:Type} (l:List α):AA l=l.length:=rfl
theorem JG (l:List UInt8):Fb l=l.length:=rfl
theorem FC:AV true=false:=rfl
theorem Hg:AV false=true:=rfl
theorem Br {β:Type} (c:Bool) (x y:Unit->Option β):br (AV c) x y=br c y x:=jM c x y
theorem Bt {β:Type} {a b:Nat} (h:a<=b) (k:Unit->Option β):gd (A0 a b) k=k ():=by rw [jN,if_pos h]
theorem Kz (k:Hf):E3 k=some (if k.length>32 then 3 else 0):=by
 unfold E3;rw [Ap,AX,JG];by_cases h:k.length>32
 ·rw [if_pos (by omega),if_pos h]
 ·rw [if_neg (by omega),if_neg h]
theorem Ct (x:AB):Ar x=some (kE x):=by
 unfold Ar kE;rw [Kz,AD,AT];by_cases h1:x.1.length>32
 ·simp [h1]
 rw [if_neg h1,if_pos rfl,Ap,AX,JG];by_cases h2:x.2.1.length>64
 ·rw [if_pos (by omega),if_pos (.inr h2)]
 rw [if_neg (by omega : ¬ (x.2.1.length:Int)>64),if_neg (by omega),HL];by_cases h3:x.2.2.1=true
 ·rw [if_pos h3,Br,Ei];by_cases h4:x.2.1=[]
  ·rw [if_pos h4,if_neg (by simp [h4]),BB,Ap];by_cases h5:x.2.2.2<1
   ·simp [h5]
   ·by_cases h6:x.2.2.2>1000000000<;>simp [h5,h6]
  ·rw [if_neg h4,if_pos ⟨h3,h4⟩]
 ·rw [if_neg h3,if_neg (by simp [h3]),BB,Ap];by_cases h5:x.2.2.2<1
  ·simp [h5]
  ·by_cases h6:x.2.2.2>1000000000<;>simp [h5,h6]
theorem Ek (l:List AB) (hl:l.length<=9223372036854775807):A8 l=some (Ej l):=by
 unfold A8 Ej;rw [Ap,AX,AR];by_cases h:l.length>5000
 ·rw [if_pos (by omega),if_pos h]
 rw [if_neg (by omega),if_neg h]
 have key:=Xb (β:=Nat×(Int×Int×Int)×Unit) (l:=l) (λk (_:Int)=>((0:Int),((0:Int),(k:Int))))
  (λk x _=>if kE x≠0 then some (.dn (0,((kE x,((k:Int),(k:Int))),()))) else if k>0 then
    (match l[k-1]? with
    | some y=>if Bl y.1 x.1=true then some (.nx 0) else some (.dn (0,(((6:Int),((k:Int),(k:Int))),())))
    | none=>none) else some (.nx 0))
  (λ_=>some (1,((0,(0,(l.length:Int))),()))) (s:=(0,(0,0))) (0:Int) rfl hl (f:=(λs0=>br (Ag s0.2.2 (AW (AA l))) (λ_=>AO s0.2.2 λk1=>ix l k1 λx2=>bd (Ar x2) λr3=>br (Aq r3 0) (λ_=>some (.dn ((0,((r3,(s0.2.2,s0.2.2)),()))))) λ_=>br (Bv s0.2.2 0) (λ_=>AO (A9 .i64 s0.2.2 1) λk4=>ix l k4 λx5=>br (AV (Bl x5.1 x2.1)) (λ_=>some (.dn ((0,((6,(s0.2.2,s0.2.2)),()))))) λ_=>some (.nx ((s0.1,(s0.2.1,AH .i64 s0.2.2 1))))) λ_=>some (.nx ((s0.1,(s0.2.1,AH .i64 s0.2.2 1))))) λ_=>some (.dn ((1,(s0,()))))))
  (λk x st hx=>by
   simp only;rw [jO hx,AL,AF,AJ hx,Ct,AD,AT];by_cases h1:kE x=0
   ·have hk:k<l.length:=(List.getElem?_eq_some_iff.1 hx).1;simp only [h1,if_true,ne_eq,not_true,if_false];rw [Ap];by_cases h2:k>0
    ·rw [if_pos (by omega:(k:Int)>0),if_pos h2,CH (by omega),show ((k:Int)-1)=((k-1:Nat):Int) by omega,AF];have hy:l[k-1]? = some l[k-1]:=by rw [List.getElem?_eq_getElem (by omega)]
     rw [AJ hy,hy,Br,F9];simp only;by_cases h3:Bl l[k-1].1 x.1=true
     ·rw [if_pos h3,if_pos h3,A6 hx hl];rfl
     ·rw [if_neg h3,if_neg h3];rfl
    ·rw [if_neg (by omega : ¬ (k:Int)>0),if_neg h2,A6 hx hl];rfl
   ·simp only [h1,if_false,ne_eq,not_false_iff,if_true];rfl)
  (λst=>by
   simp only
   rw [gj,Aa];rfl)
 simp only [AX,AR] at key;rw [key]
 have main : ∀ (m:List AB) (k:Nat) (p:Option Hf),l.drop k=m->(p=if k=0 then none else (l[k-1]?).map (·.1)) -> ∀ st,bd (Ow (β:=Nat×(Int×Int×Int)×Unit) (λk x (_:Int)=>if kE x≠0 then some (.dn (0,((kE x,((k:Int),(k:Int))),()))) else if k>0 then
    (match l[k-1]? with
    | some y=>if Bl y.1 x.1=true then some (.nx 0) else some (.dn (0,(((6:Int),((k:Int),(k:Int))),())))
    | none=>none) else some (.nx (0:Int))) (λ_=>some (1,((0,(0,(l.length:Int))),()))) m k st) (λr6=>br (neq r6.1 0) (λ_=>some (r6.2.1.2.1,r6.2.1.1)) λ_=>some ((0:Int),(0:Int)))=some (JZ p k m):=by
  intro m
  induction m with
  | nil=>intro k p _ _ st;rfl
  | cons x m ih =>
   intro k p hm hp st
   have hx:l[k]? = some x:=by
    have:=congrArg List.head? hm;rw [List.head?_drop] at this;simpa using this
   have hk:k<l.length:=(List.getElem?_eq_some_iff.1 hx).1
   have hm2:l.drop (k+1)=m:=by
    have:=congrArg List.tail hm;rw [List.tail_drop] at this;simpa using this
   unfold Ow JZ;by_cases h1:kE x=0
   ·simp only [h1,ne_eq,not_true,if_false];by_cases h2:k>0
    ·have hy:l[k-1]? = some l[k-1]:=by rw [List.getElem?_eq_getElem (by omega)]
     rw [if_pos h2,hy];rw [if_neg (by omega : ¬ k=0),hy] at hp;subst hp;simp only [Option.map_some];by_cases h3:Bl l[k-1].1 x.1=true
     ·rw [if_pos h3,if_pos h3];exact ih (k+1) (some x.1) hm2 (by rw [if_neg (by omega)];simp [hx]) 0
     ·rw [if_neg h3,if_neg h3];rfl
    ·have hk0:k=0:=by omega
     subst hk0;rw [if_neg h2];simp only [if_true] at hp;subst hp;exact ih 1 (some x.1) hm2 (by simp [hx]) 0
   ·simp only [h1,ne_eq,not_false_iff,if_true];rfl
 exact main l 0 none (by simp) (by simp) 0
theorem MM {α β σ S:Type} {l:List α} (mk:Nat->σ->S) (F:List α->Nat->σ->Option β) {f:S->Option (LR S β)} {s:S} (st:σ) (h0:s=mk 0 st) (hl:l.length<=9223372036854775807)
  (hn : ∀ st,f (mk l.length st)=kL (F [] l.length st))
  (hc : ∀ k x m st,l.drop k=x::m->l[k]? = some x->k<l.length->(∃ st',f (mk k st)=some (.nx (mk (k+1) st'))/\F (x::m) k st=F m (k+1) st')\/f (mk k st)=kL (F (x::m) k st)):loop f s=F l 0 st:=by
 subst h0
 have main : ∀ (m:List α) (k n:Nat) (st:σ),l.drop k=m->k<=l.length->m.length<n->D7 n f (mk k st)=F m k st:=by
  intro m
  induction m with
  | nil =>
   intro k n st hm hk hn';obtain ⟨n,rfl⟩ : ∃ j,n=j+1:=⟨n-1,by omega⟩
   have hkl:k=l.length:=by
    have:=congrArg List.length hm;simp at this;omega
   subst hkl;unfold D7;rw [hn];cases F [] l.length st<;>rfl
  | cons x m ih =>
   intro k n st hm hk hn';obtain ⟨n,rfl⟩ : ∃ j,n=j+1:=⟨n-1,by omega⟩
   have hx:l[k]? = some x:=by
    have:=congrArg List.head? hm;rw [List.head?_drop] at this;simpa using this
   have hk':k<l.length:=(List.getElem?_eq_some_iff.1 hx).1
   have hm2:l.drop (k+1)=m:=by
    have:=congrArg List.tail hm;rw [List.tail_drop] at this;simpa using this
   rcases hc k x m st hm hx hk' with ⟨st',h1,h2⟩ | h1
   ·rw [BX h1,h2];exact ih (k+1) n st' hm2 (by omega) (by simp at hn';omega)
   ·unfold D7;rw [h1];cases F (x::m) k st<;>rfl
 exact main l 0 _ st (by simp) (by omega) (by omega)
theorem rl {α:Type} {l:List α} {k:Nat} (h:k<l.length):Ag (k:Int) (l.length:Int)=true:=by unfold Ag;simp;omega
theorem re {α:Type} (l:List α):Ag (l.length:Int) (l.length:Int)=false:=by unfold Ag;simp
theorem BC {α β:Type} {m:Option α} {x:α} {k:α->Option β} {r:Option β} (h:m=some x) (e:k x=r):bd m k=r:=by subst h;exact e
theorem NA (k:AQ):DB k=some (k.2&&decide (k.1≠[])):=by
 unfold DB;rw [HL];cases h:k.2 with
 | true=>rw [if_pos rfl,LY];simp [AV]
 | false=>rw [if_neg (by simp)];rfl
def EX (k:AQ):Prop:=k.2=true->k.1=[]
theorem gm {k:AQ} (h:EX k):DB k=some false:=by
 rw [NA];cases h2:k.2 with
 | true=>simp [h h2]
 | false=>rfl
theorem BW (l:List AB) (i:Nat):EX (kx l i):=by
 unfold kx EX;split<;>simp
theorem Gi {l:List AQ} (h : ∀ k∈l,EX k) (h0:l≠[]) (hl:l.length<=32):DN l=some 0:=by
 unfold DN;simp only [AX,AR];rw [By,Ap,if_neg (by have:=List.length_pos_iff.2 h0;omega),if_neg (by omega)]
 rw [MM (l:=l) (σ:=Unit) (s:=(0,0)) (λk _=>((0:Int),(k:Int))) (λ_ _ _=>some (1,((0,(l.length:Int)),()))) () rfl (by omega) (λst=>by
  simp only;rw [re];rfl) (λk x m st _ hx hk => .inl ⟨(),by
   simp only;rw [rl hk,AL,AF,AJ hx,gm (h x (List.mem_of_getElem? hx)),AD,Aa,A6 hx (by omega)],rfl⟩),AD]
 rfl
theorem J4 {α:Type} {l:List α} (h:l.length<=1048576):(gd (A0 (AA l) 1048576) λ_=>some l)=some l:=Bt h _
theorem S4 (p q:AQ):E5 [p,q]=some (Tt p q):=by
 have hw:w0 p q=(if p.2≠q.2 then q.2 else if p.1≠q.1 then Bl p.1 q.1 else true):=rfl
 unfold E5;simp only [AX,AR,List.length_cons,List.length_nil];rw [show Kh .i64 2 ((0+1+1:Nat):Int)=4 from rfl,show A9 .i64 4 1=3 from rfl];unfold Aj;rw [show AO 4=λk=>k 4 from rfl];simp only [Bt (show 4<=1048576 by omega),J4 (show [p,q].length<=1048576 by simp),AD];rw [show AO ((0+1+1:Nat):Int)=λk=>k 2 from rfl];simp only [Bt (show 2<=1048576 by omega)];have fin : ∀ {w l:Int} {x:Nat×((Int×(List Int×(List AQ×(List Int×Int))))×Unit)},x=(0,((0,([0,w,0,1],([p,q],([0,l],0)))),()))->(gd (CB 1 (AA x.2.1.2.1)) λ_=>ix x.2.1.2.1 1 λx41=>some ((x.2.1.2.2.1,(x.2.1.2.2.2.1,x41))))=some ([p,q],([0,l],w)):=λe=>by subst e;rfl
 have go : ∀ {f:(Int×(List Int×(List AQ×(List Int×Int))))->Option (LR (Int×(List Int×(List AQ×(List Int×Int)))) (Nat×((Int×(List Int×(List AQ×(List Int×Int))))×Unit)))} {w l:Int},f (3,([0,0,0,0],([p,q],([0,0],0))))=some (.nx (2,([0,0,0,1],([p,q],([0,0],0)))))->f (2,([0,0,0,1],([p,q],([0,0],0))))=some (.nx (1,([0,0,0,1],([p,q],([0,0],0))))) ->
   f (1,([0,0,0,1],([p,q],([0,0],0))))=some (.nx (0,([0,w,0,1],([p,q],([0,l],0)))))->f (0,([0,w,0,1],([p,q],([0,l],0))))=some (.dn (0,((0,([0,w,0,1],([p,q],([0,l],0)))),()))) ->
   loop f (3,([0,0,0,0],([p,q],([0,0],0))))=some (0,((0,([0,w,0,1],([p,q],([0,l],0)))),())):=λh1 h2 h3 h4 =>
  Dd (n:=4) (by omega) ((BX h1).trans ((BX h2).trans ((BX h3).trans (Bo h4))))
 have st : ∀ {β:Type} (A B:Option β),w0 p q=true->br (AV (beq p.2 q.2)) (λ_=>br (AV q.2) (λ_=>B) λ_=>A) (λ_=>br (AV (seq p.1 q.1)) (λ_=>br (AV (Bl p.1 q.1)) (λ_=>B) λ_=>A) λ_=>A)=A:=fun {β} A B h=>by
  rw [hw] at h;rw [Br (beq p.2 q.2),HL (beq p.2 q.2),Br q.2,HL q.2,Br (seq p.1 q.1),Ei,Br (Bl p.1 q.1),F9];by_cases h1:p.2=q.2
  ·rw [if_neg (by simp [h1])] at h;rw [if_pos (by simp [Sv.beq,h1])];by_cases h2:p.1=q.1
   ·rw [if_pos h2]
   ·rw [if_neg h2];rw [if_pos h2] at h;rw [if_pos h]
  ·rw [if_pos h1] at h;rw [if_neg (by simp [Sv.beq,h1]),if_pos h]
 have st2 : ∀ {β:Type} (A B:Option β),w0 p q≠true->br (AV (beq p.2 q.2)) (λ_=>br (AV q.2) (λ_=>B) λ_=>A) (λ_=>br (AV (seq p.1 q.1)) (λ_=>br (AV (Bl p.1 q.1)) (λ_=>B) λ_=>A) λ_=>A)=B:=fun {β} A B h=>by
  rw [hw] at h;rw [Br (beq p.2 q.2),HL (beq p.2 q.2),Br q.2,HL q.2,Br (seq p.1 q.1),Ei,Br (Bl p.1 q.1),F9];by_cases h1:p.2=q.2
  ·rw [if_neg (by simp [h1])] at h;rw [if_pos (by simp [Sv.beq,h1])];by_cases h2:p.1=q.1
   ·rw [if_neg (by simp [h2])] at h;exact absurd rfl h
   ·rw [if_neg h2];rw [if_pos h2] at h;rw [if_neg h]
  ·rw [if_pos h1] at h;rw [if_neg (by simp [Sv.beq,h1]),if_neg h]
 rw [show CW 4 (0:Int)=[0,0,0,0] from rfl,show CW 2 (0:Int)=[0,0] from rfl];by_cases h:w0 p q=true
 ·refine BC (x:=(0,((0,([0,0,0,1],([p,q],([0,1],0)))),()))) ?_ ?_;refine Dd (n:=4) (by omega) ?_;refine (BX (s':=(2,([0,0,0,1],([p,q],([0,0],0))))) ?_).trans ((BX (s':=(1,([0,0,0,1],([p,q],([0,0],0))))) ?_).trans ((BX (s':=(0,([0,0,0,1],([p,q],([0,1],0))))) ?_).trans (Bo ?_)))
  ·rfl
  ·rfl
  ·exact st _ _ h
  ·rfl
  ·show some ([p,q],([0,1],0))=_;unfold Tt;simp [h]
 ·refine BC (x:=(0,((0,([0,1,0,1],([p,q],([0,0],0)))),()))) ?_ ?_;refine Dd (n:=4) (by omega) ?_;refine (BX (s':=(2,([0,0,0,1],([p,q],([0,0],0))))) ?_).trans ((BX (s':=(1,([0,0,0,1],([p,q],([0,0],0))))) ?_).trans ((BX (s':=(0,([0,1,0,1],([p,q],([0,0],0))))) ?_).trans (Bo ?_)))
  ·rfl
  ·rfl
  ·exact st2 _ _ h
  ·rfl
  ·show some ([p,q],([0,0],1))=_;unfold Tt;simp [h]
theorem NB {p q:AQ} (hp:EX p) (hq:EX q):CN [p,q]=some (Tt p q,0):=by
 unfold CN;rw [Gi (by simp [hp,hq]) (by simp) (by simp),AD,AT,if_pos rfl,S4,AD]
theorem Ue {p q:AQ} (hp:EX p) (hq:EX q):FI (Tt p q)=some (0,0):=by
 unfold FI;rw [show (Tt p q).1=[p,q] from rfl,Gi (by simp [hp,hq]) (by simp) (by simp),AD,AT,if_pos rfl,AT,if_pos (show AW (AA (Tt p q).2.1)=AW (AA [p,q]) from rfl),S4,AD];simp only [AX,AR]
 rw [MM (l:=(Tt p q).2.1) (σ:=Unit) (s:=(0,(0,0))) (λk _=>((0:Int),((k:Int),(0:Int)))) (λ_ _ _=>some (1,((0,(((Tt p q).2.1.length:Int),0)),()))) () rfl (show 2<=9223372036854775807 by omega) (λst=>by
  simp only;rw [re];rfl) (λk x m st _ hx hk => .inl ⟨(),by
   simp only;rw [rl hk,AL,AF,AJ hx,AF,AJ hx,AT,if_pos rfl,A6 hx (show 2<=9223372036854775807 by omega)],rfl⟩),AD]
 rw [show neq 1 0=false from rfl,Aa,AT,if_pos rfl]
def wn (p q:AQ):Nat:=if w0 p q=true then 0 else 1
def wk (p q:AQ):AQ:=if w0 p q=true then p else q
theorem Uf (p q:AQ):(Tt p q).2.2=(wn p q:Int):=by unfold Tt wn;split<;>rfl
theorem Ug (p q:AQ):(Tt p q).1[wn p q]? = some (wk p q):=by unfold Tt wn wk;split<;>rfl
theorem S5 {p q:AQ} (hp:EX p) (hq:EX q):E6 (Tt p q)=some (if (wk p q).2=true then 12 else 0):=by
 unfold E6;rw [Ue hp hq,AD,AT,if_pos rfl,Uf,AF,AJ (Ug p q),HL];split<;>rfl
theorem Hh {p q:AQ} (hp:EX p) (hq:EX q):CT (Tt p q)=some (if (wk p q).2=true then (0,([],12)) else ((wn p q:Int),((wk p q).1,0))):=by
 unfold CT;rw [S5 hp hq,AD,AT,Uf,AF,AJ (Ug p q)];by_cases h:(wk p q).2=true<;>simp [h]
def rk (p q k:AQ):AQ×AQ:=if w0 p q=true then (k,q) else (p,k)
theorem aJ (p q:AQ):BU (0,(1,([p,q],())))=some (w0 p q):=by
 unfold BU w0;show br (AV (beq p.2 q.2)) (λ_=>some q.2) (λ_=>br (AV (seq p.1 q.1)) (λ_=>some (Bl p.1 q.1)) λ_=>some (Ag 0 1))=_;rw [Br (beq p.2 q.2),HL (beq p.2 q.2),Br (seq p.1 q.1),Ei];by_cases h1:p.2=q.2
 ·rw [if_pos (show Sv.beq p.2 q.2=true by simp [Sv.beq,h1]),if_neg (show ¬ p.2≠q.2 by simp [h1])];by_cases h2:p.1=q.1
  ·rw [if_pos h2,if_neg (show ¬ p.1≠q.1 by simp [h2])];rfl
  ·rw [if_neg h2,if_pos h2]
 ·rw [if_neg (show ¬ Sv.beq p.2 q.2=true by simp [Sv.beq,h1]),if_pos h1]
theorem aK (p q:AQ):BU (1,(0,([p,q],())))=some (!w0 p q):=by
 unfold BU w0;show br (AV (beq q.2 p.2)) (λ_=>some p.2) (λ_=>br (AV (seq q.1 p.1)) (λ_=>some (Bl q.1 p.1)) λ_=>some (Ag 1 0))=_;rw [Br (beq q.2 p.2),HL (beq q.2 p.2),Br (seq q.1 p.1),Ei];by_cases h1:p.2=q.2
 ·rw [if_pos (show Sv.beq q.2 p.2=true by simp [Sv.beq,h1]),if_neg (show ¬ p.2≠q.2 by simp [h1])];by_cases h2:p.1=q.1
  ·rw [if_pos h2.symm,if_neg (show ¬ p.1≠q.1 by simp [h2])];rfl
  ·rw [if_neg (show ¬ q.1=p.1 from λe=>h2 e.symm),if_pos h2];cases hs:Bl p.1 q.1 with
   | true=>rw [Cs hs];rfl
   | false=>rw [LX hs h2];rfl
 ·rw [if_neg (show ¬ Sv.beq q.2 p.2=true by simp [Sv.beq,Ne.symm h1]),if_pos h1];cases hp:p.2<;>cases hq:q.2<;>simp_all
theorem H5 {p q k:AQ} (hp:EX p) (hq:EX q) (hk:EX k) (hw:(wk p q).2=false) (hle:k.2=true\/Bl k.1 (wk p q).1=false) :
  ∃ n,CE (Tt p q,k)=some (Tt (rk p q k).1 (rk p q k).2,(n,0)):=by
 have hlen:(Tt p q).1.length<=1048576:=by show 2<=_;omega
 have hlen2:(Tt p q).2.1.length<=1048576:=by show 2<=_;omega
 have hset:lset (Tt p q).1 (wn p q) k=[(rk p q k).1,(rk p q k).2]:=by unfold Tt wn rk;split<;>rfl
 have hlose:(Tt p q).2.1=[0,(1-(wn p q:Int))]:=by unfold Tt wn;split<;>rfl
 have hwn:wn p q=0\/wn p q=1:=by unfold wn;split<;>simp
 have up : ∀ {f:(Int×(Int×(Unit×(List Int×Int))))->Option (LR (Int×(Int×(Unit×(List Int×Int)))) (Nat×((Int×(Int×(Unit×(List Int×Int))))×Unit)))},
   (f=λs8=>br (Bh (Hq .i64 s8.2.1 2) 0) (λ_=>some (.dn ((0,((s8.1,(Hq .i64 s8.2.1 2,((),s8.2.2.2))),()))))) λ_=>AO (Hq .i64 s8.2.1 2) λk9=>gd (CB k9 (AA s8.2.2.2.1)) λ_=>ix s8.2.2.2.1 k9 λx10=>bd (BU ((x10,(s8.2.2.2.2,([(rk p q k).1,(rk p q k).2],()))))) λr11=>br r11 (λ_=>AO (Hq .i64 s8.2.1 2) λk12=>gd (CB k12 (AA s8.2.2.2.1)) λ_=>ix s8.2.2.2.1 k12 λx13=>AO (Hq .i64 s8.2.1 2) λk14=>gd (CB k14 (AA s8.2.2.2.1)) λ_=>ix s8.2.2.2.1 k14 λx15=>some (.nx ((AH .i64 s8.1 1,(Hq .i64 s8.2.1 2,((),(lset s8.2.2.2.1 k14 s8.2.2.2.2,x13))))))) λ_=>some (.nx ((AH .i64 s8.1 1,(Hq .i64 s8.2.1 2,((),s8.2.2.2))))))
   -> loop f (0,((2:Int)+wn p q,((),([0,(1-(wn p q:Int))],(wn p q:Int)))))=some (0,((1,(0,((),(Tt (rk p q k).1 (rk p q k).2).2))),())):=by
  intro f hf;subst hf;refine Dd (n:=2) (by omega) ((BX (s':=(1,(1,((),(Tt (rk p q k).1 (rk p q k).2).2)))) ?_).trans (Bo rfl));rcases hwn with h | h
  ·rw [h]
   have hw0:w0 p q=true:=by
    unfold wn at h;by_cases hh:w0 p q=true
    ·exact hh
    ·rw [if_neg hh] at h;cases h
   show bd (BU (1,(0,([(rk p q k).1,(rk p q k).2],())))) _=_;rw [aK,AD];unfold Tt;cases hz:w0 (rk p q k).1 (rk p q k).2<;>rfl
  ·rw [h];show bd (BU (0,(1,([(rk p q k).1,(rk p q k).2],())))) _=_;rw [aJ,AD];unfold Tt;cases hz:w0 (rk p q k).1 (rk p q k).2<;>rfl
 unfold CE;simp only [S5 hp hq,hw,AD,AT,if_true,if_false,Bool.false_eq_true];rw [Gi (by simp [hk]) (by simp) (by simp),AD];simp only [if_true,Br];rw [HL];unfold Aj Aw;simp only [Uf,AF,AJ (Ug p q),Bt hlen,Bt hlen2,AD,F9,Rc,AR,AX,hset];have hlt:wn p q<(Tt p q).1.length:=by show wn p q<2;omega
 have hi:AH .i64 (([(rk p q k).1,(rk p q k).2].length:Nat):Int) (wn p q:Int)=(2:Int)+wn p q:=by
  rw [Ci (by simp;omega)];rfl
 rw [hi,hlose];simp only [AR,Rc] at up;have key:=up rfl;rw [if_pos hlt];by_cases hk2:k.2=true
 ·rw [if_pos hk2,key,AD];exact ⟨_,rfl⟩
 ·rw [if_neg hk2,if_neg (by rcases hle with h | h;exact absurd h hk2;rw [h];simp),key,AD]
  exact ⟨_,rfl⟩
end Go.Proofs.YthpkjfabdccpdaaGreat.Pl
namespace Go.Proofs.YthpkjfabdccpdaaGreat.Pl
open Go Go.Proofs.YthpkjfabdccpdaaGreat.Sv
theorem CV {S β:Type} {f:S->Option (LR S β)} {s0 s1 s2:S} {r:β} (h0:f s0=some (.nx s1)) (h1:f s1=some (.nx s2)) (h2:f s2=some (.dn r)):loop f s0=some r :=
 Dd (n:=3) (by omega) ((BX h0).trans ((BX h1).trans (Bo h2)))
theorem Np {α β:Type} {c:Bool} {n:Int} {l:List α} {K:Nat->α->Option β} {E:Unit->Option β} (k:Nat) {x:α} (hc:c=true) (hn:n=(k:Int)) (hx:l[k]? = some x):br c (λ_=>AO n λk1=>ix l k1 λx2=>K k1 x2) E=K k x:=by
 subst hc;subst hn;rw [AL,AF,AJ hx]
theorem El {α β:Type} {n:Int} {l:List α} {K:Nat->α->Option β} (k:Nat) {x:α} (hn:n=(k:Int)) (hx:l[k]? = some x):AO n (λk1=>ix l k1 λx2=>K k1 x2)=K k x:=by
 subst hn;rw [AF,AJ hx]
theorem Gs {l:List AB} {i:Nat} (h:i<=l.length):BD (l,(i:Int))=some (kx l i):=by
 unfold BD kx;simp only [AX,AR];rw [By];by_cases hi:i=l.length
 ·rw [if_pos (by omega),List.getElem?_eq_none (by omega)]
 ·have hx:l[i]? = some l[i]:=by rw [List.getElem?_eq_getElem (by omega)]
  rw [if_neg (by omega),AF,AJ hx,hx]
section
variable {a b:List AB} (va:VL a) (vb:VL b)
theorem aL {i j:Nat} (hi:i<=a.length) (hj:j<=b.length):F6 ([a,b],[(i:Int),(j:Int)])=some (Tt (kx a i) (kx b j)):=by
 unfold F6;refine BC (x:=(0,((2,[kx a i,kx b j]),()))) (CV (s1:=(1,[kx a i,([],false)])) (s2:=(2,[kx a i,kx b j])) ?_ ?_ rfl) ?_
 ·show bd (BD (a,(i:Int))) _=_;rw [Gs hi];rfl
 ·show bd (BD (b,(j:Int))) _=_;rw [Gs hj];rfl
 ·show bd (CN [kx a i,kx b j]) _=_;rw [NB (BW _ _) (BW _ _)];rfl
include va vb
theorem MN:A8 a=some (0,0):=by
 rw [Ek _ (by have:=va.len;omega),J3 va]
theorem LZ:DM [a,b]=some (0,0):=by
 unfold DM;refine BC (x:=(1,((0,(0,2)),()))) (CV (s1:=(0,(0,1))) (s2:=(0,(0,2))) ?_ ?_ rfl) rfl
 ·show bd (A8 a) _=_;rw [MN va va];rfl
 ·show bd (A8 b) _=_;rw [MN vb vb];rfl
theorem Xc (bt:Bool):Eg ([a,b],bt)=some (p9 a b bt 0,(0,0)):=by
 unfold Eg;rw [LZ va vb,AD,AT,if_pos rfl];refine BC (x:=(0,((2,[kx a 0,kx b 0]),()))) (CV (s1:=(1,[kx a 0,([],false)])) (s2:=(2,[kx a 0,kx b 0])) ?_ ?_ rfl) ?_
 ·show bd (BD (a,((0:Nat):Int))) _=_;rw [Gs (by omega)];rfl
 ·show bd (BD (b,((0:Nat):Int))) _=_;rw [Gs (by omega)];rfl
 ·show bd (CN [kx a 0,kx b 0]) _=_;rw [NB (BW _ _) (BW _ _)];rfl
end
theorem Gt (x:Bool):Sv.beq x x=true:=by cases x<;>rfl
theorem JH (x:Hf):seq x x=true:=by rw [H4]
theorem Uh (l:List AQ) (h:l.length<=1000):Ak (l,l)=some true:=by
 unfold Ak;simp only [AX,AR]
 rw [AT,if_pos rfl,MM (l:=l) (σ:=Unit) (s:=(0,false)) (λk _=>((k:Int),false)) (λ_ _ _=>some (1,(((l.length:Int),false),()))) () rfl (by omega) (λst=>by
  simp only;rw [re];rfl) (λk x m st _ hx hk => .inl ⟨(),by
   simp only;rw [rl hk,AL,AF,AJ hx,AF,AJ hx,JH,Gt,show AV (BZ true (BZ true true))=false from rfl,Aa,A6 hx (by omega)],rfl⟩),AD]
 rfl
theorem Ui (l:List Int) (h:l.length<=1000):Af (l,l)=some true:=by
 unfold Af;simp only [AX,AR]
 rw [AT,if_pos rfl,MM (l:=l) (σ:=Unit) (s:=(0,false)) (λk _=>((k:Int),false)) (λ_ _ _=>some (1,(((l.length:Int),false),()))) () rfl (by omega) (λst=>by
  simp only;rw [re];rfl) (λk x m st _ hx hk => .inl ⟨(),by
   simp only;rw [rl hk,AL,AF,AJ hx,AF,AJ hx,AT,if_pos rfl,A6 hx (by omega)],rfl⟩),AD]
 rfl
theorem Xd (t:D0) (h1:t.1.length<=1000) (h2:t.2.1.length<=1000):EK (t,t)=some true:=by
 unfold EK;rw [By,if_pos rfl,Uh _ h1,AD,AL,Ui _ h2];rfl
theorem Xe (p q:AQ):EK (Tt p q,Tt p q)=some true:=Xd _ (show 2<=1000 by omega) (show 2<=1000 by omega)
theorem Xf {a b:List AB} {i j:Nat} (h:Hr a b i j=true):wk (kx a i) (kx b j)=kx a i/\wn (kx a i) (kx b j)=0:=by
 unfold Hr at h;unfold wk wn;rw [if_pos h,if_pos h];exact ⟨rfl,rfl⟩
theorem Xg {a b:List AB} {i j:Nat} (h:Hr a b i j=false):wk (kx a i) (kx b j)=kx b j/\wn (kx a i) (kx b j)=1:=by
 unfold Hr at h;unfold wk wn;rw [if_neg (by simp [h]),if_neg (by simp [h])];exact ⟨rfl,rfl⟩
theorem Wb (x y:Hf):CU (x,y)=some (if Bl x y=true then -1 else if Bl y x=true then 1 else 0):=by
 unfold CU C3;simp only [JH,FC,AD,Aa];rw [F9,F9];split
 ·rfl
 ·split<;>rfl
theorem Wc (x y:Int):B8 (x,y)=some (if x<y then -1 else if x>y then 1 else 0):=by
 unfold B8 EC;simp only [AD,AT,if_true,BB,Ap];split
 ·rfl
 ·split<;>rfl
theorem aM (x y:Int):F7 [x,y]=some (if x≠0 then x else y):=by
 unfold F7;by_cases h:x=0
 ·rw [if_neg (by simp [h])];by_cases h2:y=0
  ·refine BC (x:=(1,((0,2),()))) (CV (s1:=(0,1)) (s2:=(0,2)) ?_ ?_ rfl) (by rw [h2];rfl)
   ·refine (Np 0 rfl rfl rfl).trans ?_;rw [AT,if_pos h];rfl
   ·refine (Np 1 rfl rfl rfl).trans ?_;rw [AT,if_pos h2];rfl
  ·refine BC (x:=(0,((y,1),()))) (Dd (n:=2) (by omega) ((BX (s':=(0,1)) ?_).trans (Bo ?_))) rfl
   ·refine (Np 0 rfl rfl rfl).trans ?_;rw [AT,if_pos h];rfl
   ·refine (Np 1 rfl rfl rfl).trans ?_;rw [AT,if_neg h2]
 ·rw [if_pos h];refine BC (x:=(0,((x,0),()))) (Dd (n:=1) (by omega) (Bo ?_)) rfl;refine (Np 0 rfl rfl rfl).trans ?_;rw [AT,if_neg h]
section
variable {a b:List AB} (va:VL a) (vb:VL b)
include va vb
theorem Kd {i j:Nat} (I:Inv a b i j):DO (Lf a b i j)=some (0,0):=by
 unfold DO;rw [show (Lf a b i j).1=[a,b] from rfl,LZ va vb,AD,AT,if_pos rfl];rw [show (Lf a b i j).2.1=[(i:Int),(j:Int)] from rfl,AT,if_pos (show AW (AA [(i:Int),(j:Int)])=AW (AA [a,b]) from rfl)];refine BC (x:=(1,((0,(0,2)),()))) (CV (s1:=(0,(0,1))) (s2:=(0,(0,2))) ?_ ?_ rfl) ?_
 ·refine (Np 0 rfl rfl rfl).trans ?_;rw [BB,if_neg (by omega),show AO (((0:Int),((0:Int),(0:Int))).2.2)=λ(k:Nat->Option (LR (Int×(Int×Int)) (Nat×((Int×(Int×Int))×Unit))))=>k 0 from rfl];simp only;rw [AJ (x:=a) rfl,Ap,if_neg (by have:=I.ia;simp only [AX,AR];omega)];rfl
 ·refine (Np 1 rfl rfl rfl).trans ?_;rw [BB,if_neg (by omega),show AO (((0:Int),((0:Int),(1:Int))).2.2)=λ(k:Nat->Option (LR (Int×(Int×Int)) (Nat×((Int×(Int×Int))×Unit))))=>k 1 from rfl];simp only;rw [AJ (x:=b) rfl,Ap,if_neg (by have:=I.jb;simp only [AX,AR];omega)];rfl
 rw [show neq ((1:Nat),(((0:Int),((0:Int),(2:Int))),())).1 0=false from rfl,Aa,aL I.ia I.jb,AD,show (Lf a b i j).2.2=Tt (kx a i) (kx b j) from rfl,Xe,AD,show AV true=false from rfl,Aa,Hh (BW _ _) (BW _ _),AD];by_cases hd:(wk (kx a i) (kx b j)).2=true
 ·rw [if_pos hd];rfl
 rw [if_neg hd,AT,if_pos rfl]
 have la : ∀ {x:AB} {i':Nat},i=i'+1->a[i']? = some x -> ¬ (if (if Bl x.1 (wk (kx a i) (kx b j)).1=true then (-1:Int) else if Bl (wk (kx a i) (kx b j)).1 x.1=true then 1 else 0)≠0 then (if Bl x.1 (wk (kx a i) (kx b j)).1=true then (-1:Int) else if Bl (wk (kx a i) (kx b j)).1 x.1=true then 1 else 0) else (if (0:Int)<(wn (kx a i) (kx b j):Int) then -1 else if (0:Int)>(wn (kx a i) (kx b j):Int) then 1 else 0))>0:=by
  intro x i' hi hx
  have hle:Bl (wk (kx a i) (kx b j)).1 x.1=false:=by
   cases g:Hr a b i j with
   | true =>
    rw [(Xf g).1] at hd ⊢;unfold kx at hd ⊢;cases hy:a[i]? with
    | none=>rw [hy] at hd;exact absurd rfl hd
    | some y=>rw [hi] at hy;exact Cs (va.lt hx hy)
   | false =>
    rw [(Xg g).1] at hd ⊢;unfold kx at hd ⊢;cases hy:b[j]? with
    | none=>rw [hy] at hd;exact absurd rfl hd
    | some y=>exact I.pa i' hi x y hx hy
  rw [hle];have : ¬ (0:Int)>(wn (kx a i) (kx b j):Int):=by omega
  by_cases hs:Bl x.1 (wk (kx a i) (kx b j)).1=true
  ·simp [hs]
  ·simp only [hs,Bool.false_eq_true,if_false,ne_eq,not_true,this];split<;>omega
 have lb : ∀ {y:AB} {j':Nat},j=j'+1->b[j']? = some y -> ¬ (if (if Bl y.1 (wk (kx a i) (kx b j)).1=true then (-1:Int) else if Bl (wk (kx a i) (kx b j)).1 y.1=true then 1 else 0)≠0 then (if Bl y.1 (wk (kx a i) (kx b j)).1=true then (-1:Int) else if Bl (wk (kx a i) (kx b j)).1 y.1=true then 1 else 0) else (if (1:Int)<(wn (kx a i) (kx b j):Int) then -1 else if (1:Int)>(wn (kx a i) (kx b j):Int) then 1 else 0))>0:=by
  intro y j' hj hy
  have hlt:Bl y.1 (wk (kx a i) (kx b j)).1=true:=by
   cases g:Hr a b i j with
   | true =>
    rw [(Xf g).1] at hd ⊢;unfold kx at hd ⊢;cases hx:a[i]? with
    | none=>rw [hx] at hd;exact absurd rfl hd
    | some x=>exact I.pb j' hj y x hy hx
   | false =>
    rw [(Xg g).1] at hd ⊢;unfold kx at hd ⊢;cases hx:b[j]? with
    | none=>rw [hx] at hd;exact absurd rfl hd
    | some x=>rw [hj] at hx;exact vb.lt hy hx
  rw [hlt];simp
 refine BC (x:=(1,((0,(0,2)),()))) (CV (s1:=(0,(0,1))) (s2:=(0,(0,2))) ?_ ?_ rfl) rfl
 ·refine (Np 0 rfl rfl rfl).trans ?_;rw [Ap];by_cases h0:(i:Int)>0
  ·rw [if_pos h0];obtain ⟨i',hi'⟩ : ∃ i',i=i'+1:=⟨i-1,by omega⟩;have hi2:i'<a.length:=by have:=I.ia;omega
   have hx:a[i']? = some a[i']:=by simp [hi2]
   refine (El 0 rfl (x:=a) rfl).trans ((El i' ?_ hx).trans ?_)
   ·rw [CH (by have:=va.len;have:=I.ia;omega)];omega
   rw [Wb,AD];show bd (B8 (0,(wn (kx a i) (kx b j):Int))) _=_;rw [Wc,AD,aM,AD,Ap,if_neg (la hi' hx)];rfl
  ·rw [if_neg h0];rfl
 ·refine (Np 1 rfl rfl rfl).trans ?_;rw [Ap];by_cases h0:(j:Int)>0
  ·rw [if_pos h0];obtain ⟨j',hj'⟩ : ∃ j',j=j'+1:=⟨j-1,by omega⟩;have hj2:j'<b.length:=by have:=I.jb;omega
   have hy:b[j']? = some b[j']:=by simp [hj2]
   refine (El 1 rfl (x:=b) rfl).trans ((El j' ?_ hy).trans ?_)
   ·rw [CH (by have:=vb.len;have:=I.jb;omega)];omega
   rw [Wb,AD];show bd (B8 (1,(wn (kx a i) (kx b j):Int))) _=_;rw [Wc,AD,aM,AD,Ap,if_neg (lb hj' hy)];rfl
  ·rw [if_neg h0];rfl
end
end Go.Proofs.YthpkjfabdccpdaaGreat.Pl
namespace Go.Proofs.YthpkjfabdccpdaaGreat.Pl
open Go Go.Proofs.YthpkjfabdccpdaaGreat.Sv
theorem GA {l:List AB} {i:Nat} {x:AB} (h:l[i]? = some x):kx l i=(x.1,false):=by unfold kx;rw [h]
theorem MO {l:List AB} {i:Nat} (h:l[i]? = none):kx l i=([],true):=by unfold kx;rw [h]
theorem N7 {l:List AB} (v:VL l) {i:Nat} {x:AB} (h:l[i]? = some x):(kx l (i+1)).2=true\/Bl (kx l (i+1)).1 x.1=false:=by
 cases hy:l[i+1]? with
 | none=>rw [MO hy];exact .inl rfl
 | some y=>rw [GA hy];exact .inr (Cs (v.lt h hy))
theorem J5 {α β:Type} {n:Int} {l:List α} {K:Nat->α->Option β} (k:Nat) {x:α} (hn:n=(k:Int)) (hx:l[k]? = some x):AO n (λk1=>gd (CB k1 (AA l)) λ_=>ix l k1 λx2=>K k1 x2)=K k x:=by
 subst hn;rw [AF,Rc,if_pos (show k<AA l from (List.getElem?_eq_some_iff.1 hx).1),AJ hx]
section
variable {a b:List AB} (va:VL a) (vb:VL b)
include va vb
theorem gn {i j:Nat} (I:Inv a b i j) {x:AB} (hx:a[i]? = some x) (g:Hr a b i j=true):Bq (Lf a b i j)=some (x,(0,(Lf a b (i+1) j,0))):=by
 obtain ⟨hk,hn⟩:=Xf g;have hi:=(List.getElem?_eq_some_iff.1 hx).1;have hl:=va.len;have hd:(wk (kx a i) (kx b j)).2=false:=by rw [hk,GA hx]
 obtain ⟨m,hr⟩:=H5 (p:=kx a i) (q:=kx b j) (k:=kx a (i+1)) (BW _ _) (BW _ _) (BW _ _) hd (by rw [hk,GA hx];exact N7 va hx)
 have hrk:rk (kx a i) (kx b j) (kx a (i+1))=(kx a (i+1),kx b j):=by
  unfold rk;unfold Hr at g;rw [if_pos g]
 rw [hrk] at hr;unfold Bq;rw [Kd va vb I,AD,AT,if_pos rfl];unfold Ai Aw;refine BC (J4 (show 2<=1048576 by omega)) (BC (J4 (show 2<=1048576 by omega)) ?_);rw [show (Lf a b i j).2.2=Tt (kx a i) (kx b j) from rfl,Hh (BW _ _) (BW _ _),if_neg (by simp [hd]),AD,AT,if_pos rfl,hn];refine (J5 0 rfl (x:=a) rfl).trans ((J5 0 rfl (x:=(i:Int)) rfl).trans ((El i rfl hx).trans ((J5 0 rfl (x:=(i:Int)) rfl).trans ((J5 0 rfl (x:=(i:Int)) rfl).trans ((J5 0 rfl (x:=a) rfl).trans ((J5 0 rfl (x:=AH .i64 (i:Int) 1) rfl).trans ?_))))));rw [Ac (by omega),Gs (show i+1<=a.length by omega),AD,hr,AD];rfl
theorem gp {i j:Nat} (I:Inv a b i j) {y:AB} (hy:b[j]? = some y) (g:Hr a b i j=false):Bq (Lf a b i j)=some (y,(1,(Lf a b i (j+1),0))):=by
 obtain ⟨hk,hn⟩:=Xg g;have hi:=(List.getElem?_eq_some_iff.1 hy).1;have hl:=vb.len;have hd:(wk (kx a i) (kx b j)).2=false:=by rw [hk,GA hy]
 obtain ⟨m,hr⟩:=H5 (p:=kx a i) (q:=kx b j) (k:=kx b (j+1)) (BW _ _) (BW _ _) (BW _ _) hd (by rw [hk,GA hy];exact N7 vb hy)
 have hrk:rk (kx a i) (kx b j) (kx b (j+1))=(kx a i,kx b (j+1)):=by
  unfold rk;unfold Hr at g;rw [if_neg (by simp [g])]
 rw [hrk] at hr;unfold Bq;rw [Kd va vb I,AD,AT,if_pos rfl];unfold Ai Aw;refine BC (J4 (show 2<=1048576 by omega)) (BC (J4 (show 2<=1048576 by omega)) ?_);rw [show (Lf a b i j).2.2=Tt (kx a i) (kx b j) from rfl,Hh (BW _ _) (BW _ _),if_neg (by simp [hd]),AD,AT,if_pos rfl,hn];refine (J5 1 rfl (x:=b) rfl).trans ((J5 1 rfl (x:=(j:Int)) rfl).trans ((El j rfl hy).trans ((J5 1 rfl (x:=(j:Int)) rfl).trans ((J5 1 rfl (x:=(j:Int)) rfl).trans ((J5 1 rfl (x:=b) rfl).trans ((J5 1 rfl (x:=AH .i64 (j:Int) 1) rfl).trans ?_))))));rw [Ac (by omega),Gs (show j+1<=b.length by omega),AD,hr,AD];rfl
def La (a b:List AB) (n:Nat):AS:=Lf a b (Am a b n).1 (Am a b n).2
def Oy (a b:List AB) (n:Nat):Nat:=if Hr a b (Am a b n).1 (Am a b n).2=true then 0 else 1
theorem Oz {n:Nat} {x:AB} (h:n<a.length+b.length) (hx:Nn a b n=some x):Bq (La a b n)=some (x,((Oy a b n:Int),(La a b (n+1),0))):=by
 obtain ⟨hI,hs⟩:=Ff va vb (n:=n) (by omega);unfold La Oy;rw [show Am a b (n+1)=if Hr a b (Am a b n).1 (Am a b n).2=true then ((Am a b n).1+1,(Am a b n).2) else ((Am a b n).1,(Am a b n).2+1) from rfl]
 unfold Nn at hx;cases g:Hr a b (Am a b n).1 (Am a b n).2 with
 | true=>rw [if_pos g] at hx;rw [gn va vb hI hx g];simp
 | false=>rw [if_neg (by simp [g])] at hx;rw [gp va vb hI hx g];simp
end
theorem O0 {s:Bp} (h1:s.2.1.length<=32) (h2:s.1=false->s.2.1=[]):Dk s=some 0:=by
 unfold Dk;rw [Kz,AD,if_neg (by omega),AT,if_pos rfl,Br,HL];cases h:s.1 with
 | true=>rfl
 | false=>rw [if_neg (by simp),Br,Ei,if_pos (h2 h)]
def keep (s:Bp) (x:AB):Bool := !(s.1&&decide (x.1=s.2.1)) && !(s.2.2&&x.2.2.1)
theorem Xh {s:Bp} {x:AB} (h1:s.2.1.length<=32) (h2:s.1=false->s.2.1=[]) (h3:kE x=0) (h4:s.1=true->Bl x.1 s.2.1=false):B0 (s,x)=some (keep s x,((true,(x.1,s.2.2)),0)):=by
 unfold B0 keep;rw [O0 h1 h2,AD,AT,if_pos rfl,Ct,h3,AD,AT,if_pos rfl];obtain ⟨s1,s2,s3⟩:=s;obtain ⟨x1,x2,x3,x4⟩:=x;simp only at h4 ⊢;cases s1 with
 | true =>
  have:=h4 rfl;simp only [AL,Aa,F9,Ei,this,Bool.false_eq_true,if_false];by_cases he:x1=s2
  ·simp [he]
  ·simp only [he,if_false,decide_false];cases s3<;>cases x3<;>rfl
 | false =>
  simp only [AL,Aa];cases s3<;>cases x3<;>rfl
def FJ:Bp->List AB->List AB
 | _,[]=>[]
 | s,x::l=>(if keep s x=true then [x] else [])++FJ (true,(x.1,s.2.2)) l
theorem Im : ∀ (s:Bp) (l:List AB),(FJ s l).length<=l.length
 | _,[]=>Nat.le_refl _
 | s,x::l=>by
  have:=Im (true,(x.1,s.2.2)) l;unfold FJ;by_cases h:keep s x=true
  ·rw [if_pos h];simp;omega
  ·rw [if_neg h];simp;omega
def O1:Bp->List AB->Prop
 | _,[]=>True
 | s,x::l=>kE x=0/\(s.1=true->Bl x.1 s.2.1=false)/\O1 (true,(x.1,s.2.2)) l
theorem O2 {x:AB} (h:kE x=0):x.1.length<=32:=by
 unfold kE at h;by_cases hh:x.1.length>32\/x.2.1.length>64
 ·rw [if_pos hh] at h;cases h
 ·omega
theorem GB {α β σ S:Type} {l:List α} (mk:Nat->σ->S) (Inv:List α->Nat->σ->Prop) (F:List α->Nat->σ->β) {f:S->Option (LR S β)} {s:S} (st:σ) (h0:s=mk 0 st) (hl:l.length<=9223372036854775807) (hi:Inv l 0 st)
  (hn : ∀ st,Inv [] l.length st->f (mk l.length st)=some (.dn (F [] l.length st)))
  (hc : ∀ k x m st,l.drop k=x::m->l[k]? = some x->k<l.length->Inv (x::m) k st -> ∃ st',f (mk k st)=some (.nx (mk (k+1) st'))/\Inv m (k+1) st'/\F (x::m) k st=F m (k+1) st'):loop f s=some (F l 0 st):=by
 subst h0
 have main : ∀ (m:List α) (k n:Nat) (st:σ),l.drop k=m->k<=l.length->m.length<n->Inv m k st->D7 n f (mk k st)=some (F m k st):=by
  intro m
  induction m with
  | nil =>
   intro k n st hm hk hn' hi;obtain ⟨n,rfl⟩ : ∃ j,n=j+1:=⟨n-1,by omega⟩
   have hkl:k=l.length:=by
    have:=congrArg List.length hm;simp at this;omega
   subst hkl;exact Bo (hn st hi)
  | cons x m ih =>
   intro k n st hm hk hn' hi;obtain ⟨n,rfl⟩ : ∃ j,n=j+1:=⟨n-1,by omega⟩
   have hx:l[k]? = some x:=by
    have:=congrArg List.head? hm;rw [List.head?_drop] at this;simpa using this
   have hk':k<l.length:=(List.getElem?_eq_some_iff.1 hx).1
   have hm2:l.drop (k+1)=m:=by
    have:=congrArg List.tail hm;rw [List.tail_drop] at this;simpa using this
   obtain ⟨st',h1,h2,h3⟩:=hc k x m st hm hx hk' hi;rw [BX h1,h3];exact ih (k+1) n st' hm2 (by omega) (by simp at hn';omega) h2
 exact main l 0 _ st (by simp) (by omega) (by omega) hi
def CK:Bp->List AB->Bp
 | s,[]=>s
 | s,x::l=>CK (true,(x.1,s.2.2)) l
theorem Rf {β:Type} {out:List AB} {n:Nat} (h:out.length<=n) (hn:n<=20000) (x:AB) (k:Unit->Option β):gd (A0 (AK (AA out) (AA [x])) 1048576) k=k ():=Bt (by simp only [AK,AA,List.length_cons,List.length_nil];omega) k
theorem Xi {l:List AB} {bt:Bool} (hl:l.length<=20000) (hr:O1 (false,([],bt)) l):ED (l,bt)=some (FJ (false,([],bt)) l,(0,0)):=by
 unfold ED CS;simp only [AX,AR];rw [Ap,if_neg (by omega),AD]
 rw [GB (l:=l) (σ:=Bp×List AB) (s:=(0,(0,(0,((false,([],bt)),[]))))) (λk st=>((0:Int),((k:Int),((0:Int),st))))
  (λm k st=>O1 st.1 m/\st.1.2.1.length<=32/\(st.1.1=false->st.1.2.1=[])/\st.2.length<=k/\k+m.length=l.length)
  (λm k st=>(1,((0,((l.length:Int),(0,(CK st.1 m,st.2++FJ st.1 m)))),()))) ((false,([],bt)),[]) rfl (by omega) ⟨hr,by simp,λ_=>rfl,by simp,by simp⟩ ?_ ?_,AD]
 ·simp;rfl
 ·intro st _;simp only;rw [re,Aa];simp [CK,FJ]
 ·rintro k x m ⟨s,out⟩ hm hx hk ⟨⟨h1,h2,h3⟩,h4,h5,h6,h7⟩;simp only at h1 h2 h3 h4 h5 h6 ⊢;refine ⟨((true,(x.1,s.2.2)),out++if keep s x=true then [x] else []),?_,⟨h3,O2 h1,(λh=>by cases h),?_,by simp at h7;omega⟩,?_⟩
  ·rw [rl hk,AL,AF,AJ hx,O0 h4 h5,AD,AT,if_pos rfl,Ct,h1,AD,AT,if_pos rfl];unfold keep A5;obtain ⟨s1,s2,s3⟩:=s;obtain ⟨x1,x2,x3,x4⟩:=x;simp only [AD,A6 hx (show l.length<=9223372036854775807 by omega)] at h2 ⊢;have hg : ∀ {β:Type} (k:Unit->Option β),gd (A0 (AK out.length [(x1,(x2,(x3,x4)))].length) 1048576) k=k ():=λk=>Rf h6 (by simp at h7;omega) (x1,(x2,(x3,x4))) k;cases s1 with
   | true =>
    have h8:=h2 rfl;simp only [AL,Aa,Ei,h8,hg];by_cases he:x1=s2
    ·simp [he]
    ·simp only [he,if_false,decide_false];cases s3<;>cases x3<;>simp [AL,Aa,CC]
   | false =>
    simp only [AL,Aa,hg];cases s3<;>cases x3<;>simp [AL,Aa,CC]
  ·split<;>simp<;>omega
  ·simp only [CK,FJ,List.append_assoc]
end Go.Proofs.YthpkjfabdccpdaaGreat.Pl
namespace Go.Proofs.YthpkjfabdccpdaaGreat.Pl
open Go Go.Proofs.YthpkjfabdccpdaaGreat.Sv
theorem S6 : ∀ (l:List AB) (s:Bp) (x:AB),FJ s (l++[x])=FJ s l++(if keep (CK s l) x=true then [x] else [])
 | [],s,x=>by
  show (if keep s x=true then [x] else [])++[]=[]++(if keep s x=true then [x] else [])
  rw [List.append_nil,List.nil_append]
 | y::l,s,x=>by
  show (if keep s y=true then [y] else [])++FJ _ (l++[x])=((if keep s y=true then [y] else [])++FJ _ l)++_
  rw [S6 l,List.append_assoc];rfl
theorem Ke : ∀ (l:List AB) (s:Bp) (x:AB),CK s (l++[x])=(true,(x.1,(CK s l).2.2))
 | [],s,x=>rfl
 | y::l,s,x=>by simp only [List.cons_append,CK,Ke l]
theorem GC : ∀ (l:List AB) (s:Bp),(CK s l).2.2=s.2.2
 | [],s=>rfl
 | y::l,s=>by rw [CK,GC l]
theorem S7 : ∀ (l:List AB) (s:Bp) (x:AB),O1 s l->kE x=0->((CK s l).1=true->Bl x.1 (CK s l).2.1=false)->O1 s (l++[x])
 | [],s,x,_,h1,h2=>⟨h1,h2,trivial⟩
 | y::l,s,x,⟨h1,h2,h3⟩,h4,h5=>⟨h1,h2,S7 l _ x h3 h4 h5⟩
theorem QR : ∀ (l:List AB) (s:Bp),O1 s l->s.2.1.length<=32->(s.1=false->s.2.1=[])->(CK s l).2.1.length<=32/\((CK s l).1=false->(CK s l).2.1=[])
 | [],s,_,h1,h2=>⟨h1,h2⟩
 | y::l,s,⟨h3,_,h4⟩,_,_=>QR l _ h4 (O2 h3) (λh=>by cases h)
abbrev s0 (bt:Bool):Bp:=(false,([],bt))
def EZ (a b:List AB) (bt:Bool) (n:Nat):JF:=(La a b n,(CK (s0 bt) (Az a b n),(FJ (s0 bt) (Az a b n),(n:Int))))
def Hi (a b:List AB):Nat->List Int
 | 0=>[]
 | n+1=>Hi a b n++[(Oy a b n:Int)]
theorem NC (a b:List AB) : ∀ n,(Hi a b n).length=n
 | 0=>rfl
 | n+1=>by simp [Hi,NC a b n]
theorem Io {S β:Type} {f:S->Option (LR S β)} {r:β} (mk:Nat->S) (k0 n:Nat) {s:S} (h0:s=mk k0) (hk:k0<=n) (hn:n<18446744073709551616) (hs : ∀ k,k0<=k->k<n->f (mk k)=some (.nx (mk (k+1)))) (he:f (mk n)=some (.dn r)):loop f s=some r:=by
 have h:=Ik (f:=f) (r:=r) (λk=>mk (k0+k)) (n-k0) (s:=s) h0 (by omega) (λk hk=>hs (k0+k) (by omega) (by omega)) (by show f (mk (k0+(n-k0)))=_;rw [show k0+(n-k0)=n by omega];exact he);exact h
theorem O3 (l:List AB) (h:l.length<=100000):Dl (l,l)=some true:=by
 unfold Dl;simp only [AX,AR]
 rw [AT,if_pos rfl,MM (l:=l) (σ:=Unit) (s:=(false,0)) (λk _=>(false,(k:Int))) (λ_ _ _=>some (1,((false,(l.length:Int)),()))) () rfl (by omega) (λst=>by
  simp only;rw [re];rfl) (λk x m st _ hx hk => .inl ⟨(),by
   simp only;rw [rl hk,AL,AF,AJ hx,AF,AJ hx,JH,JH,Gt,show Bh x.2.2.2 x.2.2.2=true by unfold Bh;simp,show AV (BZ true (BZ true (BZ true (BZ true true))))=false from rfl,Aa,A6 hx (by omega)],rfl⟩),AD]
 rfl
section
variable {a b:List AB} (va:VL a) (vb:VL b)
include va vb
theorem Gj {n:Nat} {x:AB} (hx:Nn a b n=some x):Az a b (n+1)=Az a b n++[x]:=by
 show (match Nn a b n with
  | some x=>Az a b n++[x]
  | none=>Az a b n)=_
 rw [hx]
theorem Hj (bt:Bool) : ∀ {n:Nat},n<=a.length+b.length->O1 (s0 bt) (Az a b n)
 | 0,_=>trivial
 | n+1,h=>by
  obtain ⟨x,hx,_⟩:=EE va vb (n:=n) (by omega);rw [Gj va vb hx];refine S7 _ _ _ (Hj bt (by omega)) (aI va vb hx) λ_ => ?_;cases n with
  | zero=>rename_i h1;cases h1
  | succ m =>
   obtain ⟨y,hy,_⟩:=EE va vb (n:=m) (by omega);rw [Gj va vb hy,Ke];exact Wa va vb (by omega) hy hx
theorem Uj (bt:Bool) {n:Nat} (h:n<=a.length+b.length):(CK (s0 bt) (Az a b n)).2.1.length<=32/\((CK (s0 bt) (Az a b n)).1=false->(CK (s0 bt) (Az a b n)).2.1=[]) :=
 QR _ _ (Hj va vb bt h) (by simp) (λ_=>rfl)
theorem gr {n:Nat} (h:n=a.length+b.length):(wk (kx a (Am a b n).1) (kx b (Am a b n).2)).2=true:=by
 obtain ⟨hI,hs⟩:=Ff va vb (n:=n) (by omega);have h1:=hI.ia;have h2:=hI.jb;rw [MO (List.getElem?_eq_none (by omega)),MO (List.getElem?_eq_none (by omega))];rfl
theorem gu {n:Nat} {x:AB} (hx:Nn a b n=some x):(wk (kx a (Am a b n).1) (kx b (Am a b n).2)).2=false/\wn (kx a (Am a b n).1) (kx b (Am a b n).2)=Oy a b n:=by
 unfold Nn at hx;unfold Oy;cases g:Hr a b (Am a b n).1 (Am a b n).2 with
 | true=>rw [if_pos g] at hx;rw [(Xf g).1,(Xf g).2,GA hx];exact ⟨rfl,rfl⟩
 | false=>rw [if_neg (by simp [g])] at hx;rw [(Xg g).1,(Xg g).2,GA hx];exact ⟨rfl,rfl⟩
theorem gv:G4 [a,b]=some (Az a b (a.length+b.length),(Hi a b (a.length+b.length),0)):=by
 have la:=va.len;have lb:=vb.len;unfold G4;rw [LZ va vb,AD,AT,if_pos rfl];refine Eq.trans (b:=bd (loop _ (0,[([],false),([],false)])) _) rfl ?_;refine BC (x:=(0,((2,[kx a 0,kx b 0]),()))) (CV (s1:=(1,[kx a 0,([],false)])) (s2:=(2,[kx a 0,kx b 0])) ?_ ?_ rfl) ?_
 ·show bd (BD (a,((0:Nat):Int))) _=_;rw [Gs (by omega)];rfl
 ·show bd (BD (b,((0:Nat):Int))) _=_;rw [Gs (by omega)];rfl
 rw [show ((0:Nat),(((2:Int),[kx a 0,kx b 0]),())).2.1.2=[kx a 0,kx b 0] from rfl,NB (BW _ _) (BW _ _),AD]
 refine BC (x:=(0,((Az a b (a.length+b.length),(Hi a b (a.length+b.length),((),([((Am a b (a.length+b.length)).1:Int),((Am a b (a.length+b.length)).2:Int)],Tt (kx a (Am a b (a.length+b.length)).1) (kx b (Am a b (a.length+b.length)).2))))),())))
  (Io (λk=>(Az a b k,(Hi a b k,((),([((Am a b k).1:Int),((Am a b k).2:Int)],Tt (kx a (Am a b k).1) (kx b (Am a b k).2)))))) 0 (a.length+b.length) rfl (by omega) (by omega) (λk _ hk => ?_) ?_) rfl
 ·obtain ⟨x,hx,_⟩:=EE va vb (n:=k) hk;obtain ⟨w1,w2⟩:=gu va vb hx;obtain ⟨hI,hs⟩:=Ff va vb (n:=k) (by omega);have hl1:(Az a b k).length=k:=Cb va vb (by omega);have hl2:=NC a b k;simp only;rw [Hh (BW _ _) (BW _ _),if_neg (by simp [w1]),AD,AT,if_pos rfl,w2];rw [Gj va vb hx];unfold Nn at hx;rw [show Hi a b (k+1)=Hi a b k++[(Oy a b k:Int)] from rfl];unfold Oy;rw [show Am a b (k+1)=if Hr a b (Am a b k).1 (Am a b k).2=true then ((Am a b k).1+1,(Am a b k).2) else ((Am a b k).1,(Am a b k).2+1) from rfl]
  have g1 : ∀ {β:Type} (y:AB) (q:Unit->Option β),gd (A0 (AK (AA (Az a b k)) (AA [y])) 1048576) q=q ():=λy q=>Bt (by simp only [AK,AA,hl1,List.length_cons,List.length_nil];omega) q;have g2 : ∀ {β:Type} (y:Int) (q:Unit->Option β),gd (A0 (AK (AA (Hi a b k)) (AA [y])) 1048576) q=q ():=λy q=>Bt (by simp only [AK,AA,hl2,List.length_cons,List.length_nil];omega) q;cases g:Hr a b (Am a b k).1 (Am a b k).2 with
  | true =>
   rw [if_pos g] at hx;obtain ⟨hkk,_⟩:=Xf g;obtain ⟨m,hr⟩:=H5 (p:=kx a (Am a b k).1) (q:=kx b (Am a b k).2) (k:=kx a ((Am a b k).1+1)) (BW _ _) (BW _ _) (BW _ _) w1 (by rw [hkk,GA hx];exact N7 va hx)
   have hrk:rk (kx a (Am a b k).1) (kx b (Am a b k).2) (kx a ((Am a b k).1+1))=(kx a ((Am a b k).1+1),kx b (Am a b k).2):=by
    unfold rk;unfold Hr at g;rw [if_pos g]
   rw [hrk] at hr;have hi:=(List.getElem?_eq_some_iff.1 hx).1;simp only [if_true];refine (J5 0 rfl (x:=a) rfl).trans ((J5 0 rfl (x:=((Am a b k).1:Int)) rfl).trans ((El _ rfl hx).trans ?_));rw [g1,g2];refine (J5 0 rfl (x:=((Am a b k).1:Int)) rfl).trans ((J5 0 rfl (x:=((Am a b k).1:Int)) rfl).trans ((J5 0 rfl (x:=a) rfl).trans ((J5 0 rfl (x:=AH .i64 ((Am a b k).1:Int) 1) rfl).trans ?_)));rw [Ac (by omega),Gs (by omega),AD,hr,AD];rfl
  | false =>
   rw [if_neg (by simp [g])] at hx;obtain ⟨hkk,_⟩:=Xg g;obtain ⟨m,hr⟩:=H5 (p:=kx a (Am a b k).1) (q:=kx b (Am a b k).2) (k:=kx b ((Am a b k).2+1)) (BW _ _) (BW _ _) (BW _ _) w1 (by rw [hkk,GA hx];exact N7 vb hx)
   have hrk:rk (kx a (Am a b k).1) (kx b (Am a b k).2) (kx b ((Am a b k).2+1))=(kx a (Am a b k).1,kx b ((Am a b k).2+1)):=by
    unfold rk;unfold Hr at g;rw [if_neg (by simp [g])]
   rw [hrk] at hr;have hi:=(List.getElem?_eq_some_iff.1 hx).1;simp only [Bool.false_eq_true,if_false];refine (J5 1 rfl (x:=b) rfl).trans ((J5 1 rfl (x:=((Am a b k).2:Int)) rfl).trans ((El _ rfl hx).trans ?_));rw [g1,g2];refine (J5 1 rfl (x:=((Am a b k).2:Int)) rfl).trans ((J5 1 rfl (x:=((Am a b k).2:Int)) rfl).trans ((J5 1 rfl (x:=b) rfl).trans ((J5 1 rfl (x:=AH .i64 ((Am a b k).2:Int) 1) rfl).trans ?_)));rw [Ac (by omega),Gs (by omega),AD,hr,AD];rfl
 ·simp only;rw [Hh (BW _ _) (BW _ _),if_pos (gr va vb rfl),AD,AT,if_neg (by decide),AT,if_neg (by decide)]
end
end Go.Proofs.YthpkjfabdccpdaaGreat.Pl
namespace Go.Proofs.YthpkjfabdccpdaaGreat.Pl
open Go Go.Proofs.YthpkjfabdccpdaaGreat.Sv
theorem Wd {β:Type} {out:List AB} {n:Nat} (h:out.length<=n) (hn:n<=20000) (x:AB) (k:Unit->Option β):gd (A0 (AK out.length [x].length) 1048576) k=k ():=Rf h hn x k
section
variable {a b:List AB} (va:VL a) (vb:VL b)
include va vb
theorem HD {n:Nat} (h:n<=a.length+b.length):(Az a b (a.length+b.length)).take n=Az a b n:=Ud va vb (Nat.le_refl _) h
theorem J6 {n:Nat} {x:AB} (bt:Bool) (hx:Nn a b n=some x):CK (s0 bt) (Az a b (n+1))=(true,(x.1,bt)):=by
 rw [Gj va vb hx,Ke,GC]
theorem Uk (bt:Bool) {n:Nat} (h:n<=a.length+b.length):Eh (EZ a b bt n)=some 0:=by
 obtain ⟨hI,hs⟩:=Ff va vb (n:=n) h;have la:=va.len;have lb:=vb.len;have hfl:=Im (s0 bt) (Az a b n);have hml:(Az a b n).length=n:=Cb va vb h;unfold Eh;rw [show (EZ a b bt n).1=Lf a b (Am a b n).1 (Am a b n).2 from rfl,Kd va vb hI,AD,AT,if_pos rfl];refine BC (x:=(0,((2,(n:Int)),()))) (CV (s1:=(1,((Am a b n).1:Int))) (s2:=(2,(n:Int))) ?_ ?_ rfl) ?_
 ·refine (Np 0 rfl rfl (x:=((Am a b n).1:Int)) rfl).trans ?_;show some (LR.nx ((1:Int),AH .i64 0 ((Am a b n).1:Int)))=_;rw [Ci (by omega),Int.zero_add]
 ·refine (Np 1 rfl rfl (x:=((Am a b n).2:Int)) rfl).trans ?_;show some (LR.nx ((2:Int),AH .i64 ((Am a b n).1:Int) ((Am a b n).2:Int)))=_;rw [Ci (by omega),show ((Am a b n).1:Int)+((Am a b n).2:Int)=(n:Int) by omega]
 simp only [AX,AR];rw [show (EZ a b bt n).2.2.1=FJ (s0 bt) (Az a b n) from rfl,show (EZ a b bt n).2.2.2=(n:Int) from rfl,show (EZ a b bt n).2.1=CK (s0 bt) (Az a b n) from rfl,Ap,if_neg (by omega),Ap,if_neg (by omega),AT,if_pos rfl];rw [show (Lf a b (Am a b n).1 (Am a b n).2).1=[a,b] from rfl,gv va vb,AD,AT,if_pos rfl,AF];rw [Bt (by rw [Cb va vb (Nat.le_refl _)];exact h),Bt (Nat.zero_le _)];rw [show B6 (Az a b (a.length+b.length)) 0 n=Az a b n from by unfold B6;rw [List.drop_zero,Nat.sub_zero];exact HD va vb h,GC];rw [show (s0 bt).2.2=bt from rfl,Xi (by omega) (Hj va vb bt h),AD,AT,if_pos rfl];unfold CS;rw [AD,Ap];cases n with
 | zero =>
  rw [if_neg (by omega),O3 _ (by omega),AD,FC,Aa];show br (AV (BZ (Sv.beq false false) (BZ (seq [] []) (BZ (Sv.beq bt bt) true)))) _ _=_;rw [Gt,Gt,JH];rfl
 | succ m =>
  obtain ⟨x,hx,_⟩:=EE va vb (n:=m) (by omega);rw [if_pos (by omega),show A9 .i64 ((m+1:Nat):Int) 1=(m:Int) by rw [CH (by omega)];omega,AF];rw [AJ (x:=x) (by rw [Il va vb (Nat.le_refl _) (by omega)];exact hx),O3 _ (by omega),AD,FC,Aa,J6 va vb bt hx];rw [Gt,Gt,JH];rfl
theorem aN {n:Nat} (h:n<=a.length+b.length):F8 (La a b n)=some (((a.length+b.length-n:Nat):Int),0):=by
 obtain ⟨hI,hs⟩:=Ff va vb (n:=n) h;have la:=va.len;have lb:=vb.len;have ha:=hI.ia;have hb:=hI.jb;unfold F8;rw [show La a b n=Lf a b (Am a b n).1 (Am a b n).2 from rfl,Kd va vb hI,AD,AT,if_pos rfl];refine BC (x:=(0,((2,((a.length+b.length-n:Nat):Int)),()))) (CV (s1:=(1,(a.length:Int)-((Am a b n).1:Int))) (s2:=(2,((a.length+b.length-n:Nat):Int))) ?_ ?_ rfl) rfl
 ·refine (Np 0 rfl rfl (x:=a) rfl).trans ((El 0 rfl (x:=((Am a b n).1:Int)) rfl).trans ?_);simp only [AX,AR];rw [CH (by omega)];show some (LR.nx ((1:Int),AH .i64 0 ((a.length:Int)-((Am a b n).1:Int))))=_;rw [Ci (by omega),Int.zero_add]
 ·refine (Np 1 rfl rfl (x:=b) rfl).trans ((El 1 rfl (x:=((Am a b n).2:Int)) rfl).trans ?_);simp only [AX,AR];rw [CH (by omega)];show some (LR.nx ((2:Int),AH .i64 ((a.length:Int)-((Am a b n).1:Int)) ((b.length:Int)-((Am a b n).2:Int))))=_;rw [Ci (by omega),show (a.length:Int)-((Am a b n).1:Int)+((b.length:Int)-((Am a b n).2:Int))=((a.length+b.length-n:Nat):Int) by omega]
theorem ND (bt:Bool) {n:Nat} (h:n<=a.length+b.length):Bn (EZ a b bt n)=some (((a.length+b.length-n:Nat):Int),0):=by
 unfold Bn;rw [Uk va vb bt h,AD,AT,if_pos rfl,show (EZ a b bt n).1=La a b n from rfl,aN va vb h];rfl
theorem O4 (bt:Bool) {n:Nat} {x:AB} (hx:Nn a b n=some x):EZ a b bt (n+1)=(La a b (n+1),((true,(x.1,bt)),(FJ (s0 bt) (Az a b n)++(if keep (CK (s0 bt) (Az a b n)) x=true then [x] else []),((n+1:Nat):Int)))):=by
 unfold EZ;rw [Gj va vb hx,Ke,GC,S6]
theorem JI (bt:Bool) {n:Nat} {x:AB} (hn:n<a.length+b.length) (hx:Nn a b n=some x):B0 (CK (s0 bt) (Az a b n),x)=some (keep (CK (s0 bt) (Az a b n)) x,((true,(x.1,bt)),0)):=by
 have hlm:=Uj va vb bt (n:=n) (by omega);rw [Xh hlm.1 hlm.2 (aI va vb hx),GC];intro h1;cases n with
 | zero=>cases h1
 | succ m =>
  obtain ⟨y,hy,_⟩:=EE va vb (n:=m) (by omega);rw [J6 va vb bt hy];exact Wa va vb (by omega) hy hx
def ip (k:Int) (s:JF):Int×(Int×(List (List AB)×(List Int×(List AQ×(List Int×(Int×(Bool×(Hf×(Bool×(List AB×Int)))))))))) :=
 (k,(0,(s.1.1,(s.1.2.1,(s.1.2.2.1,(s.1.2.2.2.1,(s.1.2.2.2.2,(s.2.1.1,(s.2.1.2.1,(s.2.1.2.2,(s.2.2.1,s.2.2.2)))))))))))
theorem Xj (bt:Bool) {n:Nat} (h:n<=a.length+b.length) {k:Nat}:CP (EZ a b bt n,(k:Int))=some (EZ a b bt (n+min k (a.length+b.length-n)),(((min k (a.length+b.length-n):Nat):Int),0)):=by
 have la:=va.len;have lb:=vb.len;have hml : ∀ m,m<=a.length+b.length->(FJ (s0 bt) (Az a b m)).length<=m:=λm hm=>by have:=Im (s0 bt) (Az a b m);have:=Cb va vb hm;omega
 obtain ⟨u,hu⟩ : ∃ u,u=min k (a.length+b.length-n):=⟨_,rfl⟩
 have him:NZ (k:Int) ((a.length+b.length-n:Nat):Int)=(u:Int):=by
  unfold NZ;split<;>omega
 rw [<- hu];unfold CP;rw [ND va vb bt h,AD,AT,if_pos rfl];simp only [him,AX,AR];rw [BB,if_neg (by omega),show (EZ a b bt n).2.2.2=(n:Int) from rfl,Ci (by omega),Ap,if_neg (by omega)];rw [show (EZ a b bt n).2.2.1=FJ (s0 bt) (Az a b n) from rfl,show (EZ a b bt n).1=La a b n from rfl,Bt (by have:=hml n h;omega),Bt (show (La a b n).2.1.length<=1048576 from (show 2<=1048576 by omega)),BB];by_cases h0:u=0
 ·rw [h0,if_neg (by omega)];rfl
 rw [if_pos (by omega)];obtain ⟨x,hx,_⟩:=EE va vb (n:=n) (by omega);rw [Oz va vb (by omega) hx,AD,AT,if_pos rfl,show (EZ a b bt n).2.1=CK (s0 bt) (Az a b n) from rfl,JI va vb bt (by omega) hx,AD,AT,if_pos rfl]
 have hl : ∀ j,1<=j->j<u -> ∃ y,Nn a b (n+j)=some y:=λj h1 h2=>by
  obtain ⟨y,hy,_⟩:=EE va vb (n:=n+j) (by omega);exact ⟨y,hy⟩
 rw [HL];have hS:=O4 va vb bt hx;cases hk:keep (CK (s0 bt) (Az a b n)) x with
 | true =>
  rw [hk] at hS;rw [if_pos rfl,Wd (hml n h) (by omega)];refine BC (x:=(1,(ip u (EZ a b bt (n+u)),()))) (Io (λj=>ip j (EZ a b bt (n+j))) 1 u ?_ (by omega) (by omega) (λj h1 h2 => ?_) ?_) ?_
  ·rw [hS,show AH .i64 (n:Int) 1=((n+1:Nat):Int) from Ac (by omega)];rfl
  ·obtain ⟨y,hy⟩:=hl j h1 h2;show br (Ag (j:Int) (u:Int)) _ _=_;rw [BB,if_pos (by omega)];show bd (Bq (La a b (n+j))) _=_;rw [Oz va vb (by omega) hy,AD,AT,if_pos rfl];show bd (B0 (CK (s0 bt) (Az a b (n+j)),y)) _=_;rw [JI va vb bt (by omega) hy,AD,AT,if_pos rfl,HL,show n+(j+1)=n+j+1 by omega,O4 va vb bt hy];cases hk2:keep (CK (s0 bt) (Az a b (n+j))) y with
   | true =>
    rw [if_pos rfl,if_pos rfl];show gd (A0 (AK (AA (FJ (s0 bt) (Az a b (n+j)))) (AA [y])) 1048576) _=_;rw [Rf (hml _ (by omega)) (by omega)];show some (LR.nx (AH .i64 (j:Int) 1,_))=_;unfold ip;simp only [Ac (show j+1<=9223372036854775807 by omega),CC];rw [show AH .i64 (EZ a b bt (n+j)).2.2.2 1=((n+j+1:Nat):Int) from Ac (by omega)];rfl
   | false =>
    rw [if_neg (by simp),if_neg (by simp)];show some (LR.nx (AH .i64 (j:Int) 1,_))=_;unfold ip;simp only [Ac (show j+1<=9223372036854775807 by omega)];rw [show AH .i64 (EZ a b bt (n+j)).2.2.2 1=((n+j+1:Nat):Int) from Ac (by omega),List.append_nil];rfl
  ·show br (Ag (u:Int) (u:Int)) _ _=_;rw [BB,if_neg (by omega)]
  ·rfl
 | false =>
  rw [hk] at hS;rw [if_neg (by simp)];refine BC (x:=(1,(ip u (EZ a b bt (n+u)),()))) (Io (λj=>ip j (EZ a b bt (n+j))) 1 u ?_ (by omega) (by omega) (λj h1 h2 => ?_) ?_) ?_
  ·rw [hS,show AH .i64 (n:Int) 1=((n+1:Nat):Int) from Ac (by omega),if_neg (by simp),List.append_nil];rfl
  ·obtain ⟨y,hy⟩:=hl j h1 h2;show br (Ag (j:Int) (u:Int)) _ _=_;rw [BB,if_pos (by omega)];show bd (Bq (La a b (n+j))) _=_;rw [Oz va vb (by omega) hy,AD,AT,if_pos rfl];show bd (B0 (CK (s0 bt) (Az a b (n+j)),y)) _=_;rw [JI va vb bt (by omega) hy,AD,AT,if_pos rfl,HL,show n+(j+1)=n+j+1 by omega,O4 va vb bt hy];cases hk2:keep (CK (s0 bt) (Az a b (n+j))) y with
   | true =>
    rw [if_pos rfl,if_pos rfl];show gd (A0 (AK (AA (FJ (s0 bt) (Az a b (n+j)))) (AA [y])) 1048576) _=_;rw [Rf (hml _ (by omega)) (by omega)];show some (LR.nx (AH .i64 (j:Int) 1,_))=_;unfold ip;simp only [Ac (show j+1<=9223372036854775807 by omega),CC];rw [show AH .i64 (EZ a b bt (n+j)).2.2.2 1=((n+j+1:Nat):Int) from Ac (by omega)];rfl
   | false =>
    rw [if_neg (by simp),if_neg (by simp)];show some (LR.nx (AH .i64 (j:Int) 1,_))=_;unfold ip;simp only [Ac (show j+1<=9223372036854775807 by omega)];rw [show AH .i64 (EZ a b bt (n+j)).2.2.2 1=((n+j+1:Nat):Int) from Ac (by omega),List.append_nil];rfl
  ·show br (Ag (u:Int) (u:Int)) _ _=_;rw [BB,if_neg (by omega)]
  ·rfl
end
end Go.Proofs.YthpkjfabdccpdaaGreat.Pl
namespace Go.Proofs.YthpkjfabdccpdaaGreat.Pl
open Go Go.Proofs.YthpkjfabdccpdaaGreat.Sv
theorem D1 {α β σ S:Type} {l:List α} (mk:Nat->σ->S) (I:List α->Nat->σ->Prop) (Q:β->Prop) {f:S->Option (LR S β)} {s:S} (st:σ) (h0:s=mk 0 st) (hl:l.length<=9223372036854775807) (hi:I l 0 st)
  (hn : ∀ st,I [] l.length st -> ∃ r,f (mk l.length st)=some (.dn r)/\Q r)
  (hc : ∀ k x m st,l.drop k=x::m->l[k]? = some x->k<l.length->I (x::m) k st->(∃ st',f (mk k st)=some (.nx (mk (k+1) st'))/\I m (k+1) st') \/ ∃ r,f (mk k st)=some (.dn r)/\Q r) : ∃ r,loop f s=some r/\Q r:=by
 subst h0
 have main : ∀ (m:List α) (k n:Nat) (st:σ),l.drop k=m->k<=l.length->m.length<n->I m k st -> ∃ r,D7 n f (mk k st)=some r/\Q r:=by
  intro m
  induction m with
  | nil =>
   intro k n st hm hk hn' hi;obtain ⟨n,rfl⟩ : ∃ j,n=j+1:=⟨n-1,by omega⟩
   have hkl:k=l.length:=by
    have:=congrArg List.length hm;simp at this;omega
   subst hkl;obtain ⟨r,h1,h2⟩:=hn st hi;exact ⟨r,Bo h1,h2⟩
  | cons x m ih =>
   intro k n st hm hk hn' hi;obtain ⟨n,rfl⟩ : ∃ j,n=j+1:=⟨n-1,by omega⟩
   have hx:l[k]? = some x:=by
    have:=congrArg List.head? hm;rw [List.head?_drop] at this;simpa using this
   have hk':k<l.length:=(List.getElem?_eq_some_iff.1 hx).1
   have hm2:l.drop (k+1)=m:=by
    have:=congrArg List.tail hm;rw [List.tail_drop] at this;simpa using this
   rcases hc k x m st hm hx hk' hi with ⟨st',h1,h2⟩ | ⟨r,h1,h2⟩
   ·rw [BX h1];exact ih (k+1) n st' hm2 (by omega) (by simp at hn';omega) h2
   ·exact ⟨r,Bo h1,h2⟩
 exact main l 0 _ st (by simp) (by omega) (by omega) hi
theorem Ip {α:Type} (l m:List α) (hl:l.length=m.length) (hb:l.length<=9223372036854775806) {f:(Int×Bool)->Option (LR (Int×Bool) (Nat×((Int×Bool)×Unit)))}
  (hs : ∀ (k:Nat) x y,l[k]? = some x->m[k]? = some y->(x=y->f ((k:Int),false)=some (.nx (((k+1:Nat):Int),false)))/\(x≠y->f ((k:Int),false)=some (.dn (0,(((k:Int),false),())))))
  (he:f ((l.length:Int),false)=some (.dn (1,(((l.length:Int),false),())))) :
  ∃ r,loop f (0,false)=some r/\((l=m/\r.1=1)\/(l≠m/\r.1=0/\r.2.1.2=false)):=by
 refine D1 (l:=l) (σ:=Unit) (λk _=>((k:Int),false)) (λt k _=>t=l.drop k/\l.take k=m.take k) _ () rfl (by omega) ⟨by simp,by simp⟩ (λst h => ?_) (λk x t st hd hx hk h => ?_)
 ·refine ⟨_,he,.inl ⟨?_,rfl⟩⟩;have:=h.2;rw [List.take_length,hl,List.take_length] at this;exact this
 ·have hk2:k<m.length:=by omega
  have hy:m[k]? = some m[k]:=by simp [hk2]
  by_cases e:x=m[k]
  ·refine .inl ⟨(),(hs k x m[k] hx hy).1 e,?_,?_⟩
   ·have:=congrArg List.tail hd;rw [List.tail_drop] at this;simp at this;exact this.symm
   ·rw [List.take_add_one,List.take_add_one,h.2,hx,hy,e]
  ·refine .inr ⟨_,(hs k x m[k] hx hy).2 e,.inr ⟨?_,rfl,rfl⟩⟩;intro e2;subst e2;rw [hx] at hy;exact e (Option.some.inj hy)
theorem beq_eq (a b:Bool):Sv.beq a b=decide (a=b):=by cases a<;>cases b<;>rfl
theorem IN (a b:Int):Bh a b=decide (a=b):=by
 unfold Bh;by_cases h:a=b<;>simp [h]
theorem JJ (p q:Prop) [Decidable p] [Decidable q]:BZ (decide p) (decide q)=decide (p/\q):=by unfold BZ;simp
theorem CQ (p:Prop) [Decidable p]:AV (decide p)=decide (¬ p):=by unfold AV;simp
theorem MP (a:Bool):BZ a true=a:=by cases a<;>rfl
theorem Xk (l m:List AQ) (hb:l.length<=9223372036854775806):Ak (l,m)=some (decide (l=m)):=by
 unfold Ak;simp only [AX,AR];rw [AT];by_cases hl:(l.length:Int)=(m.length:Int)
 ·rw [if_pos hl];have hl2:l.length=m.length:=by omega
  obtain ⟨r,h1,h2⟩:=Ip l m hl2 hb (f:=λs0=>br (Ag s0.1 (l.length:Int)) (λ_=>AO s0.1 λk1=>ix l k1 λx2=>AO s0.1 λk3=>ix m k3 λx4=>br (AV (BZ (seq x2.1 x4.1) (BZ (Sv.beq x2.2 x4.2) true))) (λ_=>some (.dn ((0,((s0.1,false),()))))) λ_=>some (.nx (AH .i64 s0.1 1,s0.2))) λ_=>some (.dn ((1,(s0,()))))) (λk x y hx hy=>by
    have hk:=(List.getElem?_eq_some_iff.1 hx).1
    have he : ∀ {β:Type} (u v:Unit->Option β),br (AV (BZ (seq x.1 y.1) (BZ (Sv.beq x.2 y.2) true))) u v=if x=y then v () else u ():=by
     intro β u v;rw [MP,LY,beq_eq,JJ,CQ,Cj];by_cases e:x=y
     ·subst e;simp
     ·rw [if_pos (λh=>e (Prod.ext h.1 h.2)),if_neg e]
    constructor
    ·intro e;simp only;rw [rl hk,AL,AF,AJ hx,AF,AJ hy,he,if_pos e,Ac (by omega)]
    ·intro e;simp only
     rw [rl hk,AL,AF,AJ hx,AF,AJ hy,he,if_neg e]) (by simp only;rw [re];rfl)
  refine BC h1 ?_;rcases h2 with ⟨e,h2⟩ | ⟨e,h2,h3⟩
  ·rw [CR,h2];simp [e]
  ·rw [CR,h2];simp [e,h3]
 ·rw [if_neg hl];have : ¬ l=m:=λe=>hl (by rw [e]);simp [this]
theorem Kf (l m:List Int) (hb:l.length<=9223372036854775806):Af (l,m)=some (decide (l=m)):=by
 unfold Af;simp only [AX,AR];rw [AT];by_cases hl:(l.length:Int)=(m.length:Int)
 ·rw [if_pos hl];have hl2:l.length=m.length:=by omega
  obtain ⟨r,h1,h2⟩:=Ip l m hl2 hb (f:=λs0=>br (Ag s0.1 (l.length:Int)) (λ_=>AO s0.1 λk1=>ix l k1 λx2=>AO s0.1 λk3=>ix m k3 λx4=>br (Aq x2 x4) (λ_=>some (.dn ((0,((s0.1,false),()))))) λ_=>some (.nx (AH .i64 s0.1 1,s0.2))) λ_=>some (.dn ((1,(s0,()))))) (λk x y hx hy=>by
    have hk:=(List.getElem?_eq_some_iff.1 hx).1;constructor
    ·intro e;simp only;rw [rl hk,AL,AF,AJ hx,AF,AJ hy,AT,if_pos e,Ac (by omega)]
    ·intro e;simp only
     rw [rl hk,AL,AF,AJ hx,AF,AJ hy,AT,if_neg e]) (by simp only;rw [re];rfl)
  refine BC h1 ?_;rcases h2 with ⟨e,h2⟩ | ⟨e,h2,h3⟩
  ·rw [CR,h2];simp [e]
  ·rw [CR,h2];simp [e,h3]
 ·rw [if_neg hl];have : ¬ l=m:=λe=>hl (by rw [e]);simp [this]
theorem O5 {β:Type} (x y:AB) (u v:Unit->Option β):br (AV (BZ (seq x.1 y.1) (BZ (seq x.2.1 y.2.1) (BZ (Sv.beq x.2.2.1 y.2.2.1) (BZ (Bh x.2.2.2 y.2.2.2) true))))) u v=if x=y then v () else u ():=by
 rw [MP,LY,LY,beq_eq,IN,JJ,JJ,JJ,CQ,Cj];by_cases e:x=y
 ·subst e;simp
 ·rw [if_pos (λh=>e (Prod.ext h.1 (Prod.ext h.2.1 (Prod.ext h.2.2.1 h.2.2.2)))),if_neg e]
theorem GD (l m:List AB) (hb:l.length<=9223372036854775806):BL (l,m)=some (decide (l=m)):=by
 unfold BL;simp only [AX,AR];rw [AT];by_cases hl:(l.length:Int)=(m.length:Int)
 ·rw [if_pos hl];have hl2:l.length=m.length:=by omega
  obtain ⟨r,h1,h2⟩:=Ip l m hl2 hb (f:=λs0=>br (Ag s0.1 (l.length:Int)) (λ_=>AO s0.1 λk1=>ix l k1 λx2=>AO s0.1 λk3=>ix m k3 λx4=>br (AV (BZ (seq x2.1 x4.1) (BZ (seq x2.2.1 x4.2.1) (BZ (Sv.beq x2.2.2.1 x4.2.2.1) (BZ (Bh x2.2.2.2 x4.2.2.2) true))))) (λ_=>some (.dn ((0,((s0.1,false),()))))) λ_=>some (.nx (AH .i64 s0.1 1,s0.2))) λ_=>some (.dn ((1,(s0,()))))) (λk x y hx hy=>by
    have hk:=(List.getElem?_eq_some_iff.1 hx).1;constructor
    ·intro e;simp only;rw [rl hk,AL,AF,AJ hx,AF,AJ hy,O5,if_pos e,Ac (by omega)]
    ·intro e;simp only
     rw [rl hk,AL,AF,AJ hx,AF,AJ hy,O5,if_neg e]) (by simp only;rw [re];rfl)
  refine BC h1 ?_;rcases h2 with ⟨e,h2⟩ | ⟨e,h2,h3⟩
  ·rw [CR,h2];simp [e]
  ·rw [CR,h2];simp [e,h3]
 ·rw [if_neg hl];have : ¬ l=m:=λe=>hl (by rw [e]);simp [this]
theorem Hk (l m:List AB) (hb:l.length<=9223372036854775806):Bb (l,m)=some (decide (l=m)):=by
 unfold Bb;rw [GD l m hb];rfl
instance:DecidableEq AB:=inferInstance
instance:DecidableEq (List AB):=inferInstance
instance:DecidableEq (List (List AB)):=inferInstance
instance:DecidableEq AQ:=inferInstance
instance:DecidableEq D0:=inferInstance
instance:DecidableEq AS:=inferInstance
instance:DecidableEq Bp:=inferInstance
instance:DecidableEq JF:=inferInstance
theorem S8 (x y:JF) (h1:x.1.1.length<=1000) (h2 : ∀ l∈x.1.1,l.length<=1000000) (h3:x.1.2.1.length<=1000) (h4:x.1.2.2.1.length<=1000) (h5:x.1.2.2.2.1.length<=1000) (h6:x.2.2.1.length<=1000000):DJ (x,y)=some (decide (x=y)):=by
 obtain ⟨⟨xr,xa,xk,xl,xw⟩,⟨xs,xt,xb⟩,xo,xn⟩:=x;obtain ⟨⟨yr,ya,yk,yl,yw⟩,⟨ys,yt,yb⟩,yo,yn⟩:=y;simp only at h1 h2 h3 h4 h5 h6;unfold DJ;simp only [AX,AR];rw [AT];by_cases hl:(xr.length:Int)=(yr.length:Int)
 ·rw [if_pos hl];have hl2:xr.length=yr.length:=by omega
  obtain ⟨r,q1,q2⟩:=Ip xr yr hl2 (by omega) (f:=λs0=>br (Ag s0.1 (xr.length:Int)) (λ_=>AO s0.1 λk1=>ix xr k1 λx2=>AO s0.1 λk3=>ix yr k3 λx4=>bd (Bb (x2,x4)) λr5=>br (AV r5) (λ_=>some (.dn ((0,((s0.1,false),()))))) λ_=>some (.nx (AH .i64 s0.1 1,s0.2))) λ_=>some (.dn ((1,(s0,()))))) (λk x y hx hy=>by
    have hk:=(List.getElem?_eq_some_iff.1 hx).1;have hx1:=h2 x (List.mem_of_getElem? hx);constructor
    ·intro e;simp only;rw [rl hk,AL,AF,AJ hx,AF,AJ hy,Hk _ _ (by omega),AD,CQ,Cj,if_neg (by simp [e]),Ac (by omega)]
    ·intro e;simp only
     rw [rl hk,AL,AF,AJ hx,AF,AJ hy,Hk _ _ (by omega),AD,CQ,Cj,if_pos e]) (by simp only;rw [re];rfl)
  refine BC q1 ?_;simp only [Kf _ _ (show xa.length<=9223372036854775806 by omega),Kf _ _ (show xl.length<=9223372036854775806 by omega),Xk _ _ (show xk.length<=9223372036854775806 by omega),Hk _ _ (show xo.length<=9223372036854775806 by omega),AD,Cj,IN,LY,beq_eq,MP,JJ,CR];rw [HL];rcases q2 with ⟨e,q2⟩ | ⟨e,q2,q3⟩
  ·rw [if_neg (show ¬ r.1=0 by omega)]
   repeat' split
   all_goals simp_all
  ·rw [if_pos q2,if_neg (show ¬ r.2.1.2=true by simp [q3])];simp [e]
 ·rw [if_neg hl];have : ¬ xr=yr:=λe=>hl (by rw [e]);simp [this]
end Go.Proofs.YthpkjfabdccpdaaGreat.Pl
namespace Go.Proofs.YthpkjfabdccpdaaGreat.Pl
open Go Go.Proofs.YthpkjfabdccpdaaGreat.Sv
def kR (ids:List Int) (most:Int) (r:BI):Int :=
 if r.1<1\/r.1>1000000 then 7 else if (Ej r.2).2≠0 then (Ej r.2).2 else if r.2.length=0 then 4 else if (r.2.length:Int)>most then 3 else if r.1∈ids then 8 else 0
def Kj (most:Int):Nat->List Int->List BI->Option (Nat×Int)
 | _,_,[]=>none
 | k,ids,r::rs=>if kR ids most r≠0 then some (k,kR ids most r) else Kj most (k+1) (ids++[r.1]) rs
def C8 (B:Int) (i:Nat):Int:=B*2 ^ i
def Kk (B:Int):Nat->List Int->List (List BI)->Option (Nat×(Nat×Int))
 | _,_,[]=>none
 | i,ids,rs::ls=>if rs.length>2 then some (i,(0,3)) else match Kj (C8 B i) 0 ids rs with
  | some (k,e)=>some (i,(k,e))
  | none=>Kk B (i+1) (ids++rs.map (·.1)) ls
def EY (L:AM):Int×(Int×Int) :=
 if L.1<1\/L.1>16 then (0,(0,7)) else if L.2.length>12 then (0,(0,3)) else match Kk L.1 0 [] L.2 with
  | some (i,(k,e))=>((i:Int),((k:Int),e))
  | none=>if L.2.getLast? = some [] then (((L.2.length-1:Nat):Int),(0,6)) else (0,(0,0))
theorem We {most:Int} : ∀ {rs:List BI} {k:Nat} {ids:List Int} {k':Nat} {e:Int},Kj most k ids rs=some (k',e)->e≠0
 | [],_,_,_,_,h=>by cases h
 | r::rs,k,ids,k',e,h=>by
  unfold Kj at h;by_cases hk:kR ids most r≠0
  ·rw [if_pos hk] at h;cases h;exact hk
  ·rw [if_neg hk] at h;exact We h
theorem Rg {B:Int} : ∀ {ls:List (List BI)} {i:Nat} {ids:List Int} {i' k':Nat} {e:Int},Kk B i ids ls=some (i',(k',e))->e≠0
 | [],_,_,_,_,_,h=>by cases h
 | rs::ls,i,ids,i',k',e,h=>by
  unfold Kk at h;by_cases hk:rs.length>2
  ·rw [if_pos hk] at h;cases h;decide
  ·rw [if_neg hk] at h;cases hr:Kj (C8 B i) 0 ids rs with
   | none=>rw [hr] at h;exact Rg h
   | some x=>rw [hr] at h;cases h;exact We hr
def Pe (ids:List Int):List (Int×Bool):=ids.map λi=>(i,true)
theorem aO (ids:List Int) (i:Int):PZ (LB (λa b=>Bh a b) (Pe ids) i) false=decide (i∈ids):=by
 induction ids with
 | nil=>rfl
 | cons j ids ih =>
  show PZ (bif Bh i j then some true else LB (λa b=>Bh a b) (Pe ids) i) false=_
  rw [IN];by_cases h:i=j
  ·simp [h,PZ]
  ·simp only [h,decide_false,cond_false,List.mem_cons,false_or];exact ih
theorem aQ {ids:List Int} {i:Int} (h:i ∉ ids):IU (λa b=>Bh a b) (Pe ids) i true=Pe (ids++[i]):=by
 induction ids with
 | nil=>rfl
 | cons j ids ih =>
  show (bif Bh i j then (i,true)::Pe ids else (j,true)::IU (λa b=>Bh a b) (Pe ids) i true)=_
  rw [IN];have h1 : ¬ i=j:=λe=>h (by simp [e]);rw [ih (λe=>h (by simp [e]))];simp only [h1,decide_false,cond_false];rfl
theorem Rh (r:BI) (hl:r.2.length<=9223372036854775807):E4 r=some (if r.1<1\/r.1>1000000 then (-1,7) else Ej r.2):=by
 unfold E4;rw [BB,Ap,Ek _ hl,AD];by_cases h:r.1<1
 ·rw [if_pos h,if_pos (.inl h)]
 ·rw [if_neg h];by_cases h2:r.1>1000000
  ·rw [if_pos h2,if_pos (.inr h2)]
  ·rw [if_neg h2,if_neg (by omega)]
theorem Xl (r:BI) (most:Int) (hl:r.2.length<=9223372036854775807):Cn (r,most)=some (kR [] most r):=by
 unfold Cn kR;rw [Rh r hl,AD];simp only [AX,AR];by_cases h:r.1<1\/r.1>1000000
 ·rw [if_pos h,if_pos h];rfl
 ·rw [if_neg h,if_neg h,AT];by_cases h2:(Ej r.2).2=0
  ·rw [if_pos h2,if_neg (by simp [h2]),By,Ap]
   repeat' split
   all_goals first | rfl | (exfalso;omega) | simp_all
  ·rw [if_neg h2,if_pos h2]
theorem jP (ids:List Int) (most:Int) (r:BI):kR ids most r=if kR [] most r=0 then (if r.1∈ids then 8 else 0) else kR [] most r:=by
 unfold kR
 repeat' split
 all_goals simp_all
theorem jQ (i:Nat) (h:i<=12):(2:Int) ^ i<=4096/\1<=(2:Int) ^ i:=by
 have h1:(2:Nat) ^ i<=2 ^ 12:=Nat.pow_le_pow_right (by omega) h;have h2:1<=(2:Nat) ^ i:=Nat.one_le_two_pow;have h3:((2 ^ i:Nat):Int)=(2:Int) ^ i:=by simp
 omega
theorem S9 {B:Int} {i:Nat} (h1:1<=B) (h2:B<=16) (hi:i<=12):1<=C8 B i/\C8 B i<=65536:=by
 obtain ⟨h3,h4⟩:=jQ i hi;unfold C8;constructor
 ·have:=Int.mul_le_mul h1 h4 (by omega) (by omega);omega
 ·have:=Int.mul_le_mul h2 h3 (by omega) (by omega);omega
theorem Xm {B:Int} {i:Nat} (h1:1<=B) (h2:B<=16) (hi:i<=12):To .i64 B (i:Int)=C8 B i:=by
 have h3:=S9 h1 h2 hi;unfold To;rw [show min ((i:Int).toNat) IntKind.i64.bits=i by rw [Int.toNat_natCast];exact Nat.min_eq_left (Nat.le_trans hi (by decide))];unfold C8 at h3 ⊢;exact IntWalk.i64_in _ (by omega)
def Q1:Option (Nat×(Nat×Int))->Int->Int->Int->Prop
 | some (i,(k,e)),a,b,c=>a=(k:Int)/\b=(i:Int)/\c=e
 | none,_,_,c=>c=0
def Q2 (m:List (Int×Bool)):Option (Nat×Int)->Nat->Int->Int->List (Int×Bool)->Prop
 | some (k,e),r,a,c,_=>r=0/\a=(k:Int)/\c=e
 | none,r,_,c,m'=>r=1/\c=0/\m'=m
theorem O6 (L:AM) (hb:L.2.length<=1048576) (hr : ∀ rs∈L.2,rs.length<=1048576 /\ ∀ r∈rs,r.2.length<=9223372036854775807):C2 L=some (EY L):=by
 unfold C2 EY;simp only [AX,AR];rw [BB,Ap,Ap];by_cases hB1:L.1<1
 ·rw [if_pos hB1,if_pos (.inl hB1)]
 rw [if_neg hB1];by_cases hB2:L.1>16
 ·rw [if_pos hB2,if_pos (.inr hB2)]
 rw [if_neg hB2,if_neg (show ¬ (L.1<1\/L.1>16) by omega)];by_cases hl:(L.2.length:Int)>12
 ·rw [if_pos hl,if_pos (by omega)]
 rw [if_neg hl,if_neg (by omega)];have hl2:L.2.length<=12:=by omega
 obtain ⟨T,hT⟩ : ∃ T,T=Kk L.1 0 [] L.2:=⟨_,rfl⟩;rw [<- hT]
 have hlast : ∀ r2:Int,r2=0->T=none->(br (Aq r2 0) (λ_=>(none:Option (Int×(Int×Int)))) λ_=>br (Bv (L.2.length:Int) 0) (λ_=>AO (A9 .i64 (L.2.length:Int) 1) λk15=>ix L.2 k15 λx16=>br (Bh (x16.length:Int) 0) (λ_=>some ((A9 .i64 (L.2.length:Int) 1,(0,6)))) λ_=>some ((0,(0,0)))) λ_=>some ((0,(0,0))))=some (if L.2.getLast? = some [] then (((L.2.length-1:Nat):Int),(0,6)) else (0,(0,0))):=by
  intro r2 h0 _;rw [AT,if_pos h0,Ap];by_cases hn:L.2=[]
  ·rw [hn];rfl
  ·have hp:=List.length_pos_iff.2 hn;rw [if_pos (by omega),show A9 .i64 (L.2.length:Int) 1=((L.2.length-1:Nat):Int) by rw [CH (by omega)];omega,AF,List.getLast?_eq_getElem?];have hx:L.2[L.2.length-1]? = some (L.2[L.2.length-1]'(by omega)):=by simp
   rw [AJ hx,hx,By];by_cases he:L.2[L.2.length-1]'(by omega)=[]
   ·rw [he];simp
   ·rw [if_neg (by have:=List.length_pos_iff.2 he;omega),if_neg (by simp [he])]
 obtain ⟨r,q1,q2⟩:=D1 (l:=L.2) (σ:=Int×(Int×List Int)) (λi st=>(st.1,(st.2.1,((0:Int),((i:Int),Pe st.2.2)))))
  (λm i st=>Kk L.1 i st.2.2 m=T) (λ(r:Nat×((Int×(Int×(Int×(Int×List (Int×Bool)))))×Unit))=>Q1 T r.2.1.1 r.2.1.2.1 r.2.1.2.2.1)
  (f:=λs0=>br (Ag s0.2.2.2.1 (L.2.length:Int)) (λ_=>AO s0.2.2.2.1 λk1=>ix L.2 k1 λx2=>br (Bv (x2.length:Int) 2) (λ_=>some (.dn ((0,((0,(s0.2.2.2.1,(3,s0.2.2.2))),()))))) λ_=>bd (loop (λs3=>br (Ag s3.2.1 (x2.length:Int)) (λ_=>AO s3.2.1 λk4=>ix x2 k4 λx5=>gd (Iu s0.2.2.2.1 0) λ_=>bd (Cn (x5,To .i64 L.1 s0.2.2.2.1)) λr6=>br (Bh r6 0) (λ_=>br (PZ (LB ((λa7=>(λa8=>Bh a7 a8))) s3.2.2.2 x5.1) false) (λ_=>some (.dn ((0,((s3.2.1,(s3.2.1,(8,s3.2.2.2))),()))))) λ_=>br (Aq r6 0) (λ_=>some (.dn ((0,((s3.2.1,(s3.2.1,(r6,s3.2.2.2))),()))))) λ_=>some (.nx ((s3.2.1,(AH .i64 s3.2.1 1,(r6,IU ((λa9=>(λa10=>Bh a9 a10))) s3.2.2.2 x5.1 true)))))) λ_=>br (Aq r6 0) (λ_=>some (.dn ((0,((s3.2.1,(s3.2.1,(r6,s3.2.2.2))),()))))) λ_=>some (.nx ((s3.2.1,(AH .i64 s3.2.1 1,(r6,IU ((λa11=>(λa12=>Bh a11 a12))) s3.2.2.2 x5.1 true)))))) λ_=>some (.dn ((1,(s3,()))))) ((0,(0,(s0.2.2.1,s0.2.2.2.2))))) λr13=>br (neq r13.1 0) (λ_=>some (.dn ((0,((r13.2.1.1,(s0.2.2.2.1,(r13.2.1.2.2.1,(s0.2.2.2.1,r13.2.1.2.2.2)))),()))))) λ_=>some (.nx ((r13.2.1.1,(s0.2.2.2.1,(r13.2.1.2.2.1,(AH .i64 s0.2.2.2.1 1,r13.2.1.2.2.2))))))) λ_=>some (.dn ((0,(s0,())))))
  (s:=(0,(0,(0,(0,[]))))) (0,(0,[])) rfl (by omega) hT.symm (λst h=>by
   refine ⟨_,by simp only;rw [re];rfl,?_⟩;simp only at h ⊢;rw [<- h];exact rfl) (λi rs m st hd hx hi h=>by
   obtain ⟨s1,s2,ids⟩:=st;simp only at h ⊢;obtain ⟨hrs1,hrs2⟩:=hr rs (List.mem_of_getElem? hx);rw [rl hi,AL,AF,AJ hx,Ap];unfold Kk at h;by_cases h3:rs.length>2
   ·rw [if_pos (by omega)];rw [if_pos h3] at h;refine .inr ⟨_,rfl,?_⟩;rw [<- h];exact ⟨rfl,rfl,rfl⟩
   rw [if_neg (by omega)];rw [if_neg h3] at h;obtain ⟨U,hU⟩ : ∃ U,U=Kj (C8 L.1 i) 0 ids rs:=⟨_,rfl⟩;rw [<- hU] at h
   obtain ⟨r,q1,q2⟩:=D1 (l:=rs) (σ:=Int) (λk st=>(st,((k:Int),((0:Int),Pe (ids++(rs.take k).map (·.1))))))
    (λm k _=>Kj (C8 L.1 i) k (ids++(rs.take k).map (·.1)) m=U) (λ(r:Nat×((Int×(Int×(Int×List (Int×Bool))))×Unit))=>Q2 (Pe (ids++rs.map (·.1))) U r.1 r.2.1.1 r.2.1.2.2.1 r.2.1.2.2.2)
    (f:=λs3=>br (Ag s3.2.1 (rs.length:Int)) (λ_=>AO s3.2.1 λk4=>ix rs k4 λx5=>gd (Iu (i:Int) 0) λ_=>bd (Cn (x5,To .i64 L.1 (i:Int))) λr6=>br (Bh r6 0) (λ_=>br (PZ (LB ((λa7=>(λa8=>Bh a7 a8))) s3.2.2.2 x5.1) false) (λ_=>some (.dn ((0,((s3.2.1,(s3.2.1,(8,s3.2.2.2))),()))))) λ_=>br (Aq r6 0) (λ_=>some (.dn ((0,((s3.2.1,(s3.2.1,(r6,s3.2.2.2))),()))))) λ_=>some (.nx ((s3.2.1,(AH .i64 s3.2.1 1,(r6,IU ((λa9=>(λa10=>Bh a9 a10))) s3.2.2.2 x5.1 true)))))) λ_=>br (Aq r6 0) (λ_=>some (.dn ((0,((s3.2.1,(s3.2.1,(r6,s3.2.2.2))),()))))) λ_=>some (.nx ((s3.2.1,(AH .i64 s3.2.1 1,(r6,IU ((λa11=>(λa12=>Bh a11 a12))) s3.2.2.2 x5.1 true)))))) λ_=>some (.dn ((1,(s3,())))))
    (s:=(0,(0,(0,Pe ids)))) 0 (by simp) (by omega) (by simp [hU]) (λst h=>by
     refine ⟨_,by simp only;rw [re];rfl,?_⟩;rw [<- h];exact ⟨rfl,rfl,by simp⟩) (λk r m st hd hx hk h=>by
     simp only at h ⊢;have hr2:=hrs2 r (List.mem_of_getElem? hx);have htk:(rs.take (k+1)).map (·.1)=(rs.take k).map (·.1)++[r.1]:=by rw [List.take_add_one,hx];simp
     rw [rl hk,AL,AF,AJ hx,show gd (Iu (i:Int) 0)=λ(q:Unit->Option (LR (Int×(Int×(Int×List (Int×Bool)))) (Nat×((Int×(Int×(Int×List (Int×Bool))))×Unit))))=>q () from by unfold Iu;simp [gd];rfl,Xm (by omega) (by omega) (by omega)];simp only;rw [Xl _ _ (by omega),AD,By,aO,AT];unfold Kj at h;rw [jP] at h;by_cases h0:kR [] (C8 L.1 i) r=0
     ·rw [if_pos h0] at h;rw [if_pos h0,if_pos h0,Cj];by_cases hm:r.1∈ids++(rs.take k).map (·.1)
      ·rw [if_pos hm];rw [if_pos hm,if_pos (by decide)] at h;refine .inr ⟨_,rfl,?_⟩;rw [<- h];exact ⟨rfl,rfl,rfl⟩
      ·rw [if_neg hm];rw [if_neg hm,if_neg (by decide)] at h;refine .inl ⟨(k:Int),?_,?_⟩
       ·rw [aQ hm,h0,A6 hx (by omega),htk,List.append_assoc]
       ·rw [htk,<- List.append_assoc];exact h
     ·rw [if_neg h0,if_pos h0] at h;rw [if_neg h0,if_neg h0];refine .inr ⟨_,rfl,?_⟩;rw [<- h]
      exact ⟨rfl,rfl,rfl⟩)
   rw [q1,AD,CR];cases hUc:U with
   | some u =>
    obtain ⟨k,e⟩:=u;rw [hUc] at q2 h;rw [if_pos q2.1];refine .inr ⟨_,rfl,?_⟩;rw [<- h];exact ⟨q2.2.1,rfl,q2.2.2⟩
   | none =>
    rw [hUc] at q2 h;rw [if_neg (show ¬ r.1=0 by have:=q2.1;omega)];refine .inl ⟨(r.2.1.1,((i:Int),ids++rs.map (·.1))),?_,h⟩
    rw [q2.2.1,q2.2.2,A6 hx (by omega)])
 refine BC q1 ?_;cases hTc:T with
 | some t =>
  obtain ⟨i,k,e⟩:=t;rw [hTc] at q2 hT;rw [AT,if_neg (by rw [q2.2.2];exact Rg hT.symm),q2.1,q2.2.1,q2.2.2]
 | none =>
  rw [hTc] at q2;have h:=hlast _ q2 hTc;have q3:r.2.1.2.2.1=0:=q2;rw [AT,if_pos q3] at h ⊢;exact h
end Go.Proofs.YthpkjfabdccpdaaGreat.Pl
namespace Go.Proofs.YthpkjfabdccpdaaGreat.Pl
open Go Go.Proofs.YthpkjfabdccpdaaGreat.Sv
structure VR (most:Int) (r:BI):Prop where
 id1:1<=r.1
 id2:r.1<=1000000
 vl:VL r.2
 ne:r.2≠[]
 le:(r.2.length:Int)<=most
theorem iq {ids:List Int} {most:Int} {r:BI}:kR ids most r=0<->VR most r/\r.1 ∉ ids:=by
 unfold kR;constructor
 ·intro h;by_cases h1:r.1<1\/r.1>1000000
  ·rw [if_pos h1] at h;cases h
  rw [if_neg h1] at h;by_cases h2:(Ej r.2).2≠0
  ·rw [if_pos h2] at h;exact absurd h h2
  rw [if_neg h2] at h;by_cases h3:r.2.length=0
  ·rw [if_pos h3] at h;cases h
  rw [if_neg h3] at h;by_cases h4:(r.2.length:Int)>most
  ·rw [if_pos h4] at h;cases h
  rw [if_neg h4] at h;by_cases h5:r.1∈ids
  ·rw [if_pos h5] at h;cases h
  exact ⟨⟨by omega,by omega,M9.1 (by simpa using h2),by intro e;rw [e] at h3;exact h3 rfl,by omega⟩,h5⟩
 ·rintro ⟨h,h5⟩;rw [if_neg (by have:=h.id1;have:=h.id2;omega),if_neg (by simp [M9.2 h.vl]),if_neg (by have:=List.length_pos_iff.2 h.ne;omega),if_neg (by have:=h.le;omega),if_neg h5]
def jR (r:BI):Int:=r.1
theorem NE {most:Int} : ∀ {rs:List BI} {k:Nat} {ids:List Int},Kj most k ids rs=none<->(∀ r∈rs,VR most r/\r.1 ∉ ids)/\(rs.map jR).Nodup
 | [],k,ids=>by simp [Kj]
 | r::rs,k,ids=>by
  unfold Kj;by_cases h:kR ids most r=0
  ·rw [if_neg (by simp [h]),NE (rs:=rs)];have h1:=iq.1 h;simp only [List.mem_cons,forall_eq_or_imp,List.map_cons,List.nodup_cons,List.mem_append,List.not_mem_nil,or_false,List.mem_map,not_exists,not_and,not_or];constructor
   ·rintro ⟨h2,h3⟩;exact ⟨⟨h1,λx hx=>⟨(h2 x hx).1,(h2 x hx).2.1⟩⟩,λx hx e=>(h2 x hx).2.2 e,h3⟩
   ·rintro ⟨⟨_,h2⟩,h3,h4⟩;exact ⟨λx hx=>⟨(h2 x hx).1,(h2 x hx).2,h3 x hx⟩,h4⟩
  ·rw [if_pos h];simp only [reduceCtorEq,false_iff,not_and];intro h2;exact absurd (iq.2 (h2 r (by simp))) h
theorem Kg {B:Int} : ∀ {ls:List (List BI)} {i:Nat} {ids:List Int},Kk B i ids ls=none<->(∀ k rs,ls[k]? = some rs->rs.length<=2 /\ ∀ r∈rs,VR (C8 B (i+k)) r/\r.1 ∉ ids)/\(ls.flatten.map jR).Nodup
 | [],i,ids=>by simp [Kk]
 | rs::ls,i,ids=>by
  unfold Kk;by_cases h:rs.length>2
  ·rw [if_pos h];simp only [reduceCtorEq,false_iff,not_and];intro h2;have:=(h2 0 rs rfl).1;omega
  ·rw [if_neg h];cases hr:Kj (C8 B i) 0 ids rs with
   | some x =>
    simp only [reduceCtorEq,false_iff,not_and];intro h2 h3
    have h4:Kj (C8 B i) 0 ids rs=none:=NE.2 ⟨(h2 0 rs rfl).2,by
     simp only [List.flatten_cons,List.map_append] at h3
     exact (List.nodup_append.1 h3).1⟩
    rw [hr] at h4;cases h4
   | none =>
    have h1:=NE.1 hr;simp only;rw [Kg (ls:=ls)];simp only [List.flatten_cons,List.map_append,List.mem_append,not_or,List.mem_map];constructor
    ·rintro ⟨h2,h3⟩;refine ⟨λk rs' hk => ?_,?_⟩
     ·cases k with
      | zero=>cases hk;exact ⟨by omega,h1.1⟩
      | succ k =>
       have h4:=h2 k rs' hk
       exact ⟨h4.1,λr hr=>by
        have:=h4.2 r hr;rw [show i+(k+1)=i+1+k by omega]
        exact ⟨this.1,this.2.1⟩⟩
     ·rw [List.nodup_append];refine ⟨h1.2,h3,?_⟩;intro a ha b hb e;subst e;obtain ⟨r,hr,e1⟩:=List.mem_map.1 ha;obtain ⟨r',hr',e2⟩:=List.mem_map.1 hb;obtain ⟨rs',hrs,hr'⟩:=List.mem_flatten.1 hr';obtain ⟨k,hk⟩:=List.getElem?_of_mem hrs;exact ((h2 k rs' hk).2 r' hr').2.2 ⟨r,hr,by unfold jR at e1 e2;omega⟩
    ·rintro ⟨h2,h3⟩;rw [List.nodup_append] at h3;refine ⟨λk rs' hk => ?_,h3.2.1⟩;have h4:=h2 (k+1) rs' hk;refine ⟨h4.1,λr hr => ?_⟩;have:=h4.2 r hr;rw [show i+(k+1)=i+1+k by omega] at this;refine ⟨this.1,this.2,?_⟩;rintro ⟨r',hr',e⟩;exact h3.2.2 (jR r') (List.mem_map_of_mem hr') (jR r) (List.mem_map_of_mem (List.mem_flatten.2 ⟨rs',List.mem_of_getElem? hk,hr⟩)) e
structure VLev (L:AM):Prop where
 B1:1<=L.1
 B2:L.1<=16
 len:L.2.length<=12
 lev : ∀ i rs,L.2[i]? = some rs->rs.length<=2 /\ ∀ r∈rs,VR (C8 L.1 i) r
 ids:(L.2.flatten.map jR).Nodup
 last:L.2.getLast? ≠ some []
theorem H6 {L:AM}:(EY L).2.2=0<->VLev L:=by
 unfold EY;constructor
 ·intro h;by_cases h1:L.1<1\/L.1>16
  ·rw [if_pos h1] at h;cases h
  rw [if_neg h1] at h;by_cases h2:L.2.length>12
  ·rw [if_pos h2] at h;cases h
  rw [if_neg h2] at h;cases hg:Kk L.1 0 [] L.2 with
  | some x =>
   obtain ⟨i,k,e⟩:=x;rw [hg] at h;exact absurd h (Rg hg)
  | none =>
   rw [hg] at h;simp only at h;by_cases h3:L.2.getLast? = some []
   ·rw [if_pos h3] at h;cases h
   ·have h4:=Kg.1 hg
    exact ⟨by omega,by omega,by omega,λi rs hi=>by
     have:=h4.1 i rs hi;rw [Nat.zero_add] at this
     exact ⟨this.1,λr hr=>(this.2 r hr).1⟩,h4.2,h3⟩
 ·intro h
  have hg:Kk L.1 0 [] L.2=none:=Kg.2 ⟨λk rs hk=>by
   have:=h.lev k rs hk;rw [Nat.zero_add]
   exact ⟨this.1,λr hr=>⟨this.2 r hr,by simp⟩⟩,h.ids⟩
  rw [if_neg (by have:=h.B1;have:=h.B2;omega),if_neg (by have:=h.len;omega),hg];simp only;rw [if_neg h.last]
theorem JK {L:AM} (h:VLev L):EY L=(0,(0,0)):=by
 have hg:Kk L.1 0 [] L.2=none:=Kg.2 ⟨λk rs hk=>by
  have:=h.lev k rs hk;rw [Nat.zero_add]
  exact ⟨this.1,λr hr=>⟨this.2 r hr,by simp⟩⟩,h.ids⟩
 unfold EY;rw [if_neg (by have:=h.B1;have:=h.B2;omega),if_neg (by have:=h.len;omega),hg];simp only;rw [if_neg h.last]
def Fk (l:List (List BI)):Int:=l.foldl (λm rs=>rs.foldl (λm r=>Nl m r.1) m) 0
def Co:Nat->List (List BI)->List Int
 | _,[]=>[]
 | i,rs::ls=>(if rs.length=2 then [(i:Int)] else [])++Co (i+1) ls
theorem TA (L:AM) (hb:L.2.length<=1048576) (hr : ∀ rs∈L.2,rs.length<=1048576):EB L=some (Fk L.2):=by
 unfold EB;simp only [AX,AR]
 rw [GB (l:=L.2) (σ:=Int) (s:=((0:Int),(0:Int))) (λi m=>(m,(i:Int))) (λ_ _ _=>True) (λls _ m=>(0,((ls.foldl (λm rs=>rs.foldl (λm r=>Nl m r.1) m) m,(L.2.length:Int)),()))) 0 rfl (by omega) trivial (λm _=>by
  simp only;rw [re];rfl) (λi rs ls m hd hx hi _=>by
   refine ⟨rs.foldl (λm r=>Nl m r.1) m,?_,trivial,rfl⟩;have h1:=hr rs (List.mem_of_getElem? hx);simp only
   rw [rl hi,AL,AF,AJ hx,GB (l:=rs) (σ:=Int) (s:=((0:Int),m)) (λi m=>((i:Int),m)) (λ_ _ _=>True) (λl _ m=>(0,(((rs.length:Int),l.foldl (λm r=>Nl m r.1) m),()))) m rfl (by omega) trivial (λm _=>by
    simp only;rw [re];rfl) (λk r l m hd hx hk _=>by
     refine ⟨Nl m r.1,?_,trivial,rfl⟩;simp only
     rw [rl hk,AL,AF,AJ hx,A6 hx (by omega)]),AD,A6 hx (by omega)]),AD]
 rfl
def Kl (L:AM) (due:List Int) (i:Nat) (j:Rr):Bool:=match due[i]? with
 | none=>true
 | some d=>if j.1≠d then true else if j.2.2.1.2.2=true/\j.1≠(L.2.length:Int)-1 then true else match L.2[d.toNat]? with
  | some [r0,r1]=>if j.2.2.2.2<0\/j.2.2.2.2>((r1.2.length+r0.2.length:Nat):Int) then true else decide (EZ r1.2 r0.2 j.2.2.1.2.2 j.2.2.2.2.toNat≠j.2)
  | _=>true
def Fg (L:AM) (due:List Int):Nat->List Rr->Option Nat
 | _,[]=>none
 | i,j::js=>if Kl L due i j=true then some i else Fg L due (i+1) js
def Bs (s:CM):Int×Int :=
 if (EY s.1).2.2≠0 then (-1,(EY s.1).2.2) else if s.2.2<1\/s.2.2>1000001 then (-1,7) else if s.2.2<=Fk s.1.2 then (-1,6) else match Fg s.1 (Co 0 s.1.2) 0 s.2.1 with
  | some i=>((i:Int),6)
  | none=>if s.2.1.length<(Co 0 s.1.2).length then (-1,4) else (0,0)
theorem Iq : ∀ {ls:List (List BI)} {i k:Nat} {d:Int},(Co i ls)[k]? = some d -> ∃ n:Nat,d=((i+n:Nat):Int) /\ ∃ r0 r1,ls[n]? = some [r0,r1]
 | [],i,k,d,h=>by cases h
 | rs::ls,i,k,d,h=>by
  unfold Co at h;by_cases h2:rs.length=2
  ·rw [if_pos h2] at h;cases k with
   | zero =>
    simp at h;refine ⟨0,by simp [<- h],?_⟩
    match rs,h2 with
    | [r0,r1],_=>exact ⟨r0,r1,rfl⟩
   | succ k =>
    simp at h;obtain ⟨n,h3,h4⟩:=Iq h;exact ⟨n+1,by rw [h3];congr 1;omega,h4⟩
  ·rw [if_neg h2] at h;simp at h;obtain ⟨n,h3,h4⟩:=Iq h;exact ⟨n+1,by rw [h3];congr 1;omega,h4⟩
theorem HT : ∀ (ls:List (List BI)) (i:Nat),(Co i ls).length<=ls.length
 | [],i=>Nat.le_refl _
 | rs::ls,i=>by
  have:=HT ls (i+1);unfold Co;split<;>simp<;>omega
theorem aR {L:AM} {n:Nat} {r0 r1:BI} (bt:Bool) (h:L.2[n]? = some [r0,r1]) (v0:VL r0.2) (v1:VL r1.2):CO (L,((n:Int),bt))=some ((n:Int),EZ r1.2 r0.2 bt 0):=by
 unfold CO;simp only;rw [AF,AJ h,AJ (x:=r1) rfl,AJ (x:=r0) rfl,Xc v1 v0];rfl
theorem NF {a b:List AB} (va:VL a) (vb:VL b) (bt:Bool) {n:Nat} (h:n<=a.length+b.length):(EZ a b bt n).1.1.length<=1000/\(∀ l∈(EZ a b bt n).1.1,l.length<=1000000)/\(EZ a b bt n).1.2.1.length<=1000/\(EZ a b bt n).1.2.2.1.length<=1000/\(EZ a b bt n).1.2.2.2.1.length<=1000/\(EZ a b bt n).2.2.1.length<=1000000:=by
 have la:=va.len;have lb:=vb.len;refine ⟨show 2<=1000 by omega,λl hl => ?_,show 2<=1000 by omega,show 2<=1000 by omega,show 2<=1000 by omega,?_⟩
 ·have:l=a\/l=b:=by simpa [EZ,La,Lf] using hl
  rcases this with e | e<;>subst e<;>omega
 ·have h1:=Im (s0 bt) (Az a b n);have h2:=Cb va vb h;show (FJ (s0 bt) (Az a b n)).length<=_;omega
theorem jS {L:AM} {n:Nat} {r0 r1:BI} {j:Rr} (h:L.2[n]? = some [r0,r1]) (v0:VL r0.2) (v1:VL r1.2) {β:Type} (A B:Option β) :
  (bd (CO (L,((n:Int),j.2.2.1.2.2))) λr16=>bd (Bn r16.2) λr17=>br (Ag j.2.2.2.2 0) (λ_=>A) λ_=>br (Bv j.2.2.2.2 r17.1) (λ_=>A) λ_=>bd (CP (r16.2,j.2.2.2.2)) λr18=>bd (DJ (r18.1,j.2)) λr19=>br (AV r19) (λ_=>A) λ_=>B)
  = if j.2.2.2.2<0\/j.2.2.2.2>((r1.2.length+r0.2.length:Nat):Int) then A else if EZ r1.2 r0.2 j.2.2.1.2.2 j.2.2.2.2.toNat=j.2 then B else A:=by
 rw [aR _ h v0 v1,AD,ND v1 v0 _ (Nat.zero_le _),AD,BB,Ap,Nat.sub_zero];by_cases h1:j.2.2.2.2<0
 ·rw [if_pos h1,if_pos (.inl h1)]
 rw [if_neg h1];by_cases h2:j.2.2.2.2>((r1.2.length+r0.2.length:Nat):Int)
 ·rw [if_pos h2,if_pos (.inr h2)]
 rw [if_neg h2,if_neg (show ¬ (j.2.2.2.2<0\/j.2.2.2.2>((r1.2.length+r0.2.length:Nat):Int)) by omega)];obtain ⟨k,hk⟩ : ∃ k:Nat,j.2.2.2.2=(k:Int):=⟨j.2.2.2.2.toNat,by omega⟩;rw [hk,Xj v1 v0 _ (Nat.zero_le _),AD,Nat.sub_zero,Nat.zero_add,Nat.min_eq_left (by omega),Int.toNat_natCast];obtain ⟨s1,s2,s3,s4,s5,s6⟩:=NF v1 v0 j.2.2.1.2.2 (n:=k) (by omega);rw [S8 _ _ s1 s2 s3 s4 s5 s6,AD,CQ,Cj];by_cases he:EZ r1.2 r0.2 j.2.2.1.2.2 k=j.2
 ·rw [if_neg (by simp [he]),if_pos he]
 ·rw [if_pos he,if_neg he]
theorem Ul (s:CM) (hb:s.1.2.length<=1048576) (hr : ∀ rs∈s.1.2,rs.length<=1048576 /\ ∀ r∈rs,r.2.length<=9223372036854775807) (hj:s.2.1.length<=1048576):Be s=some (Bs s):=by
 unfold Be Bs;simp only [AX,AR];rw [O6 _ hb hr,AD,AT];by_cases h0:(EY s.1).2.2=0;rotate_left
 ·rw [if_neg h0,if_pos h0]
 rw [if_pos h0,if_neg (by simp [h0]),BB,Ap,TA _ hb (λrs h=>(hr rs h).1),AD];have v:=H6.1 h0;by_cases h1:s.2.2<1
 ·rw [if_pos h1,if_pos (.inl h1)]
 rw [if_neg h1];by_cases h2:s.2.2>1000001
 ·rw [if_pos h2,if_pos (.inr h2)]
 rw [if_neg h2,if_neg (show ¬ (s.2.2<1\/s.2.2>1000001) by omega),im];by_cases h3:s.2.2<=Fk s.1.2
 ·rw [if_pos h3,if_pos h3]
 rw [if_neg h3,if_neg h3]
 rw [GB (l:=s.1.2) (σ:=List Int) (s:=((0:Int),([]:List Int))) (λi m=>((i:Int),m)) (λls i m=>m++Co i ls=Co 0 s.1.2) (λ_ _ _=>(0,(((s.1.2.length:Int),Co 0 s.1.2),()))) [] rfl (by omega) rfl (λm h=>by
  simp only;rw [re,Aa,<- h];simp [Co]) (λi rs ls m hd hx hi h=>by
   refine ⟨m++(if rs.length=2 then [(i:Int)] else []),?_,?_,rfl⟩
   ·simp only;rw [rl hi,AL,AF,AJ hx,By]
    have hm:m.length<=1048575:=by
     have h4:=congrArg List.length h;have h5:=HT s.1.2 0;have h6:=v.len;rw [List.length_append] at h4;omega
    by_cases h4:rs.length=2
    ·rw [if_pos (by omega),if_pos h4,Bt (by simp only [AK,AA,List.length_cons,List.length_nil];omega),A6 hx (by omega)];rfl
    ·rw [if_neg (by omega),if_neg h4,List.append_nil,A6 hx (by omega)]
   ·rw [List.append_assoc];exact h),AD]
 simp only;obtain ⟨due,hdue⟩ : ∃ due,due=Co 0 s.1.2:=⟨_,rfl⟩;have hdl:due.length<=12:=by have:=HT s.1.2 0;have:=v.len;rw [hdue];omega
 rw [<- hdue];obtain ⟨T,hT⟩ : ∃ T,T=Fg s.1 due 0 s.2.1:=⟨_,rfl⟩;rw [<- hT]
 obtain ⟨r,q1,q2⟩:=D1 (l:=s.2.1) (σ:=Unit) (λi _=>((0:Int),((0:Int),(i:Int)))) (λjs i _=>Fg s.1 due i js=T) (λ(r:Nat×((Int×(Int×Int))×Unit))=>(T=none/\r.1=1)\/(∃ i:Nat,T=some i/\r.1=0/\r.2.1.1=6/\r.2.1.2.1=(i:Int)))
  (f:=λs6=>br (Ag s6.2.2 (s.2.1.length:Int)) (λ_=>AO s6.2.2 λk7=>ix s.2.1 k7 λx8=>br (Iu s6.2.2 (due.length:Int)) (λ_=>some (.dn ((0,((6,(s6.2.2,s6.2.2)),()))))) λ_=>AO s6.2.2 λk9=>gd (CB k9 due.length) λ_=>ix due k9 λx10=>br (Aq x8.1 x10) (λ_=>some (.dn ((0,((6,(s6.2.2,s6.2.2)),()))))) λ_=>br x8.2.2.1.2.2 (λ_=>bd (EJ (s.1,x8.1)) λr11=>br (AV r11) (λ_=>some (.dn ((0,((6,(s6.2.2,s6.2.2)),()))))) λ_=>bd (CO ((s.1,(x8.1,x8.2.2.1.2.2)))) λr12=>bd (Bn r12.2) λr13=>br (Ag x8.2.2.2.2 0) (λ_=>some (.dn ((0,((6,(s6.2.2,s6.2.2)),()))))) λ_=>br (Bv x8.2.2.2.2 r13.1) (λ_=>some (.dn ((0,((6,(s6.2.2,s6.2.2)),()))))) λ_=>bd (CP (r12.2,x8.2.2.2.2)) λr14=>bd (DJ (r14.1,x8.2)) λr15=>br (AV r15) (λ_=>some (.dn ((0,((6,(s6.2.2,s6.2.2)),()))))) λ_=>some (.nx ((s6.1,(s6.2.1,AH .i64 s6.2.2 1))))) λ_=>bd (CO ((s.1,(x8.1,x8.2.2.1.2.2)))) λr16=>bd (Bn r16.2) λr17=>br (Ag x8.2.2.2.2 0) (λ_=>some (.dn ((0,((6,(s6.2.2,s6.2.2)),()))))) λ_=>br (Bv x8.2.2.2.2 r17.1) (λ_=>some (.dn ((0,((6,(s6.2.2,s6.2.2)),()))))) λ_=>bd (CP (r16.2,x8.2.2.2.2)) λr18=>bd (DJ (r18.1,x8.2)) λr19=>br (AV r19) (λ_=>some (.dn ((0,((6,(s6.2.2,s6.2.2)),()))))) λ_=>some (.nx ((s6.1,(s6.2.1,AH .i64 s6.2.2 1))))) λ_=>some (.dn ((1,(s6,())))))
  (s:=(0,(0,0))) () rfl (by omega) hT.symm (λ_ h=>by
   refine ⟨_,by simp only;rw [re];rfl,.inl ⟨by rw [<- h];rfl,rfl⟩⟩) (λi j js _ hd hx hi h=>by
   simp only;rw [rl hi,AL,AF,AJ hx,G3];unfold Fg at h
   have hbad:Kl s.1 due i j=true -> ∃ r:Nat×((Int×(Int×Int))×Unit),(some (LR.dn ((0,((6,((i:Int),(i:Int))),()))):LR (Int×(Int×Int)) _))=some (.dn r)/\((T=none/\r.1=1)\/(∃ i:Nat,T=some i/\r.1=0/\r.2.1.1=6/\r.2.1.2.1=(i:Int))):=λhb=>by
    rw [if_pos hb] at h;exact ⟨_,rfl,.inr ⟨i,h.symm,rfl,rfl,rfl⟩⟩
   have hgood:Kl s.1 due i j=false -> ∃ st':Unit,(some (LR.nx ((0:Int),((0:Int),AH .i64 (i:Int) 1))):Option (LR _ (Nat×((Int×(Int×Int))×Unit))))=some (.nx ((0:Int),((0:Int),((i+1:Nat):Int))))/\Fg s.1 due (i+1) js=T:=λhg=>by
    rw [if_neg (by simp [hg])] at h;exact ⟨(),by rw [A6 hx (by omega)],h⟩
   by_cases h1:(i:Int)>=(due.length:Int)
   ·rw [if_pos h1];exact .inr (hbad (by unfold Kl;rw [List.getElem?_eq_none (by omega)]))
   rw [if_neg h1,AF,Rc,if_pos (by omega)];have hd2:due[i]? = some (due[i]'(by omega)):=by simp
   rw [AJ hd2,AT];obtain ⟨n,hn,r0,r1,hlv⟩:=Iq (ls:=s.1.2) (i:=0) (k:=i) (d:=due[i]'(by omega)) (by rw [<- hdue];exact hd2);rw [Nat.zero_add] at hn
   have hE:Kl s.1 due i j=(if j.1≠(due[i]'(by omega)) then true else if j.2.2.1.2.2=true/\j.1≠(s.1.2.length:Int)-1 then true else if j.2.2.2.2<0\/j.2.2.2.2>((r1.2.length+r0.2.length:Nat):Int) then true else decide (EZ r1.2 r0.2 j.2.2.1.2.2 j.2.2.2.2.toNat≠j.2)):=by
    unfold Kl;rw [hd2];simp only;rw [hn,Int.toNat_natCast,hlv]
   by_cases h2:j.1=(due[i]'(by omega));rotate_left
   ·rw [if_neg h2];exact .inr (hbad (by rw [hE,if_pos h2]))
   rw [if_pos h2];rw [if_neg (by simp [h2])] at hE;have hjn:j.1=(n:Int):=by rw [h2,hn]
   have hv:=(v.lev n _ hlv).2;have v0:=(hv r0 (by simp)).vl;have v1:=(hv r1 (by simp)).vl;have hlow:A9 .i64 (s.1.2.length:Int) 1=(s.1.2.length:Int)-1:=CH (by omega);unfold EJ;simp only [AX,AR];rw [AD,hlow,IN,CQ,Cj,hjn,jS hlv v0 v1,HL];rw [hjn] at hE;by_cases h3:j.2.2.1.2.2=true/\(n:Int)≠(s.1.2.length:Int)-1
   ·rw [if_pos h3.1,if_pos h3.2];exact .inr (hbad (by rw [hE,if_pos h3]))
   rw [if_neg h3] at hE
   have h4 : ∀ {γ:Type} (A B:γ),(if j.2.2.1.2.2=true then if ¬(n:Int)=(s.1.2.length:Int)-1 then A else B else B)=B:=by
    intro γ A B;by_cases h5:j.2.2.1.2.2=true
    ·rw [if_pos h5,if_neg (λh6=>h3 ⟨h5,h6⟩)]
    ·rw [if_neg h5]
   rw [h4];by_cases h5:j.2.2.2.2<0\/j.2.2.2.2>((r1.2.length+r0.2.length:Nat):Int)
   ·rw [if_pos h5];exact .inr (hbad (by rw [hE,if_pos h5]))
   rw [if_neg h5];rw [if_neg h5] at hE;by_cases h6:EZ r1.2 r0.2 j.2.2.1.2.2 j.2.2.2.2.toNat=j.2
   ·rw [if_pos h6];exact .inl (hgood (by rw [hE];simp [h6]))
   ·rw [if_neg h6]
    exact .inr (hbad (by rw [hE];simp [h6])))
 rw [h0];refine BC q1 ?_;rw [CR];rcases q2 with ⟨q2,q3⟩ | ⟨i,q2,q3,q4,q5⟩
 ·rw [if_neg (show ¬ r.1=0 by omega),q2,BB];simp only;by_cases h7:s.2.1.length<due.length
  ·rw [if_pos (by omega),if_pos h7]
  ·rw [if_neg (by omega),if_neg h7]
 ·rw [if_pos q3,q2,q4,q5]
end Go.Proofs.YthpkjfabdccpdaaGreat.Pl
