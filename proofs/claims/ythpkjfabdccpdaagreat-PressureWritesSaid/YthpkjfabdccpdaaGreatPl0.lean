/- Functions of the program and of the specification as plain functions, and laws about them. No condition. -/
import Derived.Test.YthpkjfabdccpdaaGreatPs3
set_option linter.all false
namespace Go.Proofs.YthpkjfabdccpdaaGreat.Pl
open Go Go.Proofs.YthpkjfabdccpdaaGreat.Sv
set_option linter.unusedVariables false
abbrev AB:=((List UInt8)×((List UInt8)×(Bool×Int)))
abbrev Ao:=(Int×(List AB))
abbrev AL:=(Int×(List (List Ao)))
abbrev AR:=((List UInt8)×Bool)
abbrev EE:=((List AR)×((List Int)×Int))
abbrev AT:=((List (List AB))×((List Int)×EE))
abbrev B7:=(Bool×((List UInt8)×Bool))
abbrev JV:=(AT×(B7×((List AB)×Int)))
abbrev Hj:=(Int×JV)
abbrev BC:=(AL×((List Hj)×Int))
abbrev CB:=(Ao×BC)
def FJ (x:(List UInt8)):Option Int :=
 br (B6 (AW (Fx x)) 32) (λ_=>some 3) λ_=>some 0
def Aw (x:AB):Option Int :=
 bd (FJ x.1) λr0=>br (Ai r0 0) (λ_=>some 3) λ_=>br (B6 (AW (Fx x.2.1)) 64) (λ_=>some 3) λ_=>br x.2.2.1 (λ_=>br (AY (seq x.2.1 [])) (λ_=>some 6) λ_=>br (Ae x.2.2.2 1) (λ_=>some 7) λ_=>br (B6 x.2.2.2 1000000000) (λ_=>some 7) λ_=>some 0) λ_=>br (Ae x.2.2.2 1) (λ_=>some 7) λ_=>br (B6 x.2.2.2 1000000000) (λ_=>some 7) λ_=>some 0
def BH (x:(List AB)):Option (Int×Int) :=
 br (B6 (AW (AA x)) 5000) (λ_=>some (((-1),3))) λ_=>bd (loop (λs0=>br (Ae s0.2.2 (AW (AA x))) (λ_=>AP s0.2.2 λk1=>ix x k1 λx2=>bd (Aw x2) λr3=>br (Ai r3 0) (λ_=>some (.dn ((0,((r3,(s0.2.2,s0.2.2)),()))))) λ_=>br (B6 s0.2.2 0) (λ_=>AP (BF .i64 s0.2.2 1) λk4=>ix x k4 λx5=>br (AY (B3 x5.1 x2.1)) (λ_=>some (.dn ((0,((6,(s0.2.2,s0.2.2)),()))))) λ_=>some (.nx ((s0.1,(s0.2.1,AH .i64 s0.2.2 1))))) λ_=>some (.nx ((s0.1,(s0.2.1,AH .i64 s0.2.2 1))))) λ_=>some (.dn ((1,(s0,()))))) ((0,(0,0)))) λr6=>br (neq r6.1 0) (λ_=>some (r6.2.1.2.1,r6.2.1.1)) λ_=>some (0,0)
def FK (x:Ao):Option (Int×Int) :=
 br (Ae x.1 1) (λ_=>some (((-1),7))) λ_=>br (B6 x.1 1000000) (λ_=>some (((-1),7))) λ_=>bd (BH x.2) λr0=>some r0
def Cu (x:(Ao×Int)):Option Int :=
 bd (FK x.1) λr0=>br (Ai r0.2 0) (λ_=>some r0.2) λ_=>br (BJ (AW (AA x.1.2)) 0) (λ_=>some 4) λ_=>br (B6 (AW (AA x.1.2)) x.2) (λ_=>some 3) λ_=>some 0
def DA (x:AL):Option (Int×(Int×Int)) :=
 br (Ae x.1 1) (λ_=>some ((0,(0,7)))) λ_=>br (B6 x.1 16) (λ_=>some ((0,(0,7)))) λ_=>br (B6 (AW (AA x.2)) 12) (λ_=>some ((0,(0,3)))) λ_=>bd (loop (λs0=>br (Ae s0.2.2.2.1 (AW (AA x.2))) (λ_=>AP s0.2.2.2.1 λk1=>ix x.2 k1 λx2=>br (B6 (AW (AA x2)) 2) (λ_=>some (.dn ((0,((0,(s0.2.2.2.1,(3,s0.2.2.2))),()))))) λ_=>bd (loop (λs3=>br (Ae s3.2.1 (AW (AA x2))) (λ_=>AP s3.2.1 λk4=>ix x2 k4 λx5=>gd (Hf s0.2.2.2.1 0) λ_=>bd (Cu (x5,Ur .i64 x.1 s0.2.2.2.1)) λr6=>br (BJ r6 0) (λ_=>br (P8 (Is ((λa7=>(λa8=>BJ a7 a8))) s3.2.2.2 x5.1) false) (λ_=>some (.dn ((0,((s3.2.1,(s3.2.1,(8,s3.2.2.2))),()))))) λ_=>br (Ai r6 0) (λ_=>some (.dn ((0,((s3.2.1,(s3.2.1,(r6,s3.2.2.2))),()))))) λ_=>some (.nx ((s3.2.1,(AH .i64 s3.2.1 1,(r6,IA ((λa9=>(λa10=>BJ a9 a10))) s3.2.2.2 x5.1 true)))))) λ_=>br (Ai r6 0) (λ_=>some (.dn ((0,((s3.2.1,(s3.2.1,(r6,s3.2.2.2))),()))))) λ_=>some (.nx ((s3.2.1,(AH .i64 s3.2.1 1,(r6,IA ((λa11=>(λa12=>BJ a11 a12))) s3.2.2.2 x5.1 true)))))) λ_=>some (.dn ((1,(s3,()))))) ((0,(0,(s0.2.2.1,s0.2.2.2.2))))) λr13=>br (neq r13.1 0) (λ_=>some (.dn ((0,((r13.2.1.1,(s0.2.2.2.1,(r13.2.1.2.2.1,(s0.2.2.2.1,r13.2.1.2.2.2)))),()))))) λ_=>some (.nx ((r13.2.1.1,(s0.2.2.2.1,(r13.2.1.2.2.1,(AH .i64 s0.2.2.2.1 1,r13.2.1.2.2.2))))))) λ_=>some (.dn ((0,(s0,()))))) ((0,(0,(0,(0,[])))))) λr14=>br (Ai r14.2.1.2.2.1 0) (λ_=>some ((r14.2.1.2.1,(r14.2.1.1,r14.2.1.2.2.1)))) λ_=>br (B6 (AW (AA x.2)) 0) (λ_=>AP (BF .i64 (AW (AA x.2)) 1) λk15=>ix x.2 k15 λx16=>br (BJ (AW (AA x16)) 0) (λ_=>some ((BF .i64 (AW (AA x.2)) 1,(0,6)))) λ_=>some ((0,(0,0)))) λ_=>some ((0,(0,0)))
def EM (x:AL):Option Int :=
 bd (loop (λs0=>br (Ae s0.2 (AW (AA x.2))) (λ_=>AP s0.2 λk1=>ix x.2 k1 λx2=>bd (loop (λs3=>br (Ae s3.1 (AW (AA x2))) (λ_=>AP s3.1 λk4=>ix x2 k4 λx5=>some (.nx (AH .i64 s3.1 1,Kq s3.2 x5.1))) λ_=>some (.dn ((0,(s3,()))))) (0,s0.1)) λr6=>some (.nx (r6.2.1.2,AH .i64 s0.2 1))) λ_=>some (.dn ((0,(s0,()))))) (0,0)) λr7=>some r7.2.1.1
def Cv (x:(AL×Int)):Option Bool :=
 some (BJ x.2 (BF .i64 (AW (AA x.1.2)) 1))
def De (x:(List (List AB))):Option (Int×Int) :=
 br (BJ (AW (AA x)) 0) (λ_=>some (((-1),6))) λ_=>br (B6 (AW (AA x)) 32) (λ_=>some (((-1),3))) λ_=>bd (loop (λs0=>br (Ae s0.2.2 (AW (AA x))) (λ_=>AP s0.2.2 λk1=>ix x k1 λx2=>bd (BH x2) λr3=>br (Ai r3.2 0) (λ_=>some (.dn ((0,((r3.2,(s0.2.2,s0.2.2)),()))))) λ_=>some (.nx ((s0.1,(s0.2.1,AH .i64 s0.2.2 1))))) λ_=>some (.dn ((1,(s0,()))))) ((0,(0,0)))) λr4=>br (neq r4.1 0) (λ_=>some (r4.2.1.2.1,r4.2.1.1)) λ_=>some (0,0)
def Ca (x:Bool):Option (Bool×AR) :=
 some ((false,([],x)))
def Ak (x:(List (List AB))):Option (List (List AB)) :=
 gd (Aj (AA x) 1048576) λ_=>some x
def BK (x:((List AB)×Int)):Option AR :=
 br (BJ x.2 (AW (AA x.1))) (λ_=>some ([],true)) λ_=>AP x.2 λk0=>ix x.1 k0 λx1=>some (x1.1,false)
def DQ (x:AR):Option Bool :=
 br x.2 (λ_=>some (AY (seq x.1 []))) λ_=>some false
def Df (x:(List AR)):Option Int :=
 br (BJ (AW (AA x)) 0) (λ_=>some 6) λ_=>br (B6 (AW (AA x)) 32) (λ_=>some 3) λ_=>bd (loop (λs0=>br (Ae s0.2 (AW (AA x))) (λ_=>AP s0.2 λk1=>ix x k1 λx2=>bd (DQ x2) λr3=>br r3 (λ_=>some (.dn ((0,((s0.2,s0.2),()))))) λ_=>some (.nx (s0.1,AH .i64 s0.2 1))) λ_=>some (.dn ((1,(s0,()))))) (0,0)) λr4=>br (neq r4.1 0) (λ_=>br (Hf r4.2.1.1 0) (λ_=>some 2) λ_=>some 0) λ_=>br (Hf (-1) 0) (λ_=>some 2) λ_=>some 0
def Al (x:(List AR)):Option (List AR) :=
 gd (Aj (AA x) 1048576) λ_=>some x
def FL (x:(List AR)):Option EE :=
 AP (NF .i64 2 (AW (AA x))) λk0=>AP (NF .i64 2 (AW (AA x))) λk1=>gd (Aj k1 1048576) λ_=>bd (Al x) λr2=>AP (AW (AA x)) λk3=>AP (AW (AA x)) λk4=>gd (Aj k4 1048576) λ_=>bd (loop (λs5=>br (B6 s5.1 0) (λ_=>br (Hf s5.1 (AW (AA x))) (λ_=>AP s5.1 λk6=>gd (CD k6 (AA s5.2.1)) λ_=>ix s5.2.1 k6 λx7=>some (.nx ((BF .i64 s5.1 1,(lset s5.2.1 k6 (BF .i64 s5.1 (AW (AA x))),s5.2.2))))) λ_=>AP (NF .i64 2 s5.1) λk8=>gd (CD k8 (AA s5.2.1)) λ_=>ix s5.2.1 k8 λx9=>AP (AH .i64 (NF .i64 2 s5.1) 1) λk10=>gd (CD k10 (AA s5.2.1)) λ_=>ix s5.2.1 k10 λx11=>AP x9 λk12=>ix x k12 λx13=>AP x11 λk14=>ix x k14 λx15=>br (AY (beq x13.2 x15.2)) (λ_=>br (AY x15.2) (λ_=>AP s5.1 λk16=>gd (CD k16 (AA s5.2.1)) λ_=>ix s5.2.1 k16 λx17=>AP s5.1 λk18=>gd (CD k18 (AA s5.2.2.2.1)) λ_=>ix s5.2.2.2.1 k18 λx19=>some (.nx ((BF .i64 s5.1 1,(lset s5.2.1 k16 x11,(s5.2.2.1,(lset s5.2.2.2.1 k18 x9,s5.2.2.2.2))))))) λ_=>AP s5.1 λk20=>gd (CD k20 (AA s5.2.1)) λ_=>ix s5.2.1 k20 λx21=>AP s5.1 λk22=>gd (CD k22 (AA s5.2.2.2.1)) λ_=>ix s5.2.2.2.1 k22 λx23=>some (.nx ((BF .i64 s5.1 1,(lset s5.2.1 k20 x9,(s5.2.2.1,(lset s5.2.2.2.1 k22 x11,s5.2.2.2.2))))))) λ_=>br (AY (seq x13.1 x15.1)) (λ_=>br (AY (B3 x13.1 x15.1)) (λ_=>AP s5.1 λk24=>gd (CD k24 (AA s5.2.1)) λ_=>ix s5.2.1 k24 λx25=>AP s5.1 λk26=>gd (CD k26 (AA s5.2.2.2.1)) λ_=>ix s5.2.2.2.1 k26 λx27=>some (.nx ((BF .i64 s5.1 1,(lset s5.2.1 k24 x11,(s5.2.2.1,(lset s5.2.2.2.1 k26 x9,s5.2.2.2.2))))))) λ_=>AP s5.1 λk28=>gd (CD k28 (AA s5.2.1)) λ_=>ix s5.2.1 k28 λx29=>AP s5.1 λk30=>gd (CD k30 (AA s5.2.2.2.1)) λ_=>ix s5.2.2.2.1 k30 λx31=>some (.nx ((BF .i64 s5.1 1,(lset s5.2.1 k28 x9,(s5.2.2.1,(lset s5.2.2.2.1 k30 x11,s5.2.2.2.2))))))) λ_=>br (AY (Ae x9 x11)) (λ_=>AP s5.1 λk32=>gd (CD k32 (AA s5.2.1)) λ_=>ix s5.2.1 k32 λx33=>AP s5.1 λk34=>gd (CD k34 (AA s5.2.2.2.1)) λ_=>ix s5.2.2.2.1 k34 λx35=>some (.nx ((BF .i64 s5.1 1,(lset s5.2.1 k32 x11,(s5.2.2.1,(lset s5.2.2.2.1 k34 x9,s5.2.2.2.2))))))) λ_=>AP s5.1 λk36=>gd (CD k36 (AA s5.2.1)) λ_=>ix s5.2.1 k36 λx37=>AP s5.1 λk38=>gd (CD k38 (AA s5.2.2.2.1)) λ_=>ix s5.2.2.2.1 k38 λx39=>some (.nx ((BF .i64 s5.1 1,(lset s5.2.1 k36 x9,(s5.2.2.1,(lset s5.2.2.2.1 k38 x11,s5.2.2.2.2))))))) λ_=>some (.dn ((0,(s5,()))))) ((BF .i64 (NF .i64 2 (AW (AA x))) 1,(CO k1 0,(r2,(CO k4 0,(0:Int))))))) λr40=>gd (CD 1 (AA r40.2.1.2.1)) λ_=>ix r40.2.1.2.1 1 λx41=>some ((r40.2.1.2.2.1,(r40.2.1.2.2.2.1,x41)))
def CW (x:(List AR)):Option (EE×Int) :=
 bd (Df x) λr0=>br (Ai r0 0) (λ_=>some ((([],([],0)),r0))) λ_=>bd (FL x) λr1=>some (r1,0)
def Eu (x:((List (List AB))×Bool)):Option ((AT×((Bool×AR)×((List AB)×Int)))×(Int×Int)) :=
 bd (De x.1) λr0=>br (Ai r0.2 0) (λ_=>br (Ai r0.2 0) (λ_=>some (((([],([],([],([],0)))),((false,([],false)),([],0))),r0))) λ_=>bd (Ca x.2) λr1=>some (((([],([],([],([],0)))),(r1,([],0))),(0,0)))) λ_=>AP (AW (AA x.1)) λk2=>AP (AW (AA x.1)) λk3=>gd (Aj k3 1048576) λ_=>bd (Ak x.1) λr4=>AP (AW (AA x.1)) λk5=>AP (AW (AA x.1)) λk6=>gd (Aj k6 1048576) λ_=>bd (loop (λs7=>br (Ae s7.1 (AW (AA x.1))) (λ_=>AP s7.1 λk8=>ix x.1 k8 λx9=>AP s7.1 λk10=>gd (CD k10 (AA (CO k3 (0:Int)))) λ_=>ix (CO k3 0) k10 λx11=>bd (BK (x9,x11)) λr12=>AP s7.1 λk13=>gd (CD k13 (AA s7.2)) λ_=>ix s7.2 k13 λx14=>some (.nx (AH .i64 s7.1 1,lset s7.2 k13 r12))) λ_=>some (.dn ((0,(s7,()))))) ((0,CO k6 ([],false)))) λr15=>bd (CW r15.2.1.2) λr16=>bd (Ca x.2) λr17=>some ((((r4,(CO k3 0,r16.1)),(r17,([],0))),(0,0)))
def CX (x:(AL×(Int×Bool))):Option (Int×(AT×((Bool×AR)×((List AB)×Int)))) :=
 AP x.2.1 λk0=>ix x.1.2 k0 λx1=>ix x1 1 λx2=>ix x1 0 λx3=>bd (Eu ([x2.2,x3.2],x.2.2)) λr4=>some (x.2.1,r4.1)
def GT (x:((List (List AB))×(List Int))):Option EE :=
 AP (AW (AA x.1)) λk0=>AP (AW (AA x.1)) λk1=>gd (Aj k1 1048576) λ_=>bd (loop (λs2=>br (Ae s2.1 (AW (AA x.1))) (λ_=>AP s2.1 λk3=>ix x.1 k3 λx4=>AP s2.1 λk5=>ix x.2 k5 λx6=>bd (BK (x4,x6)) λr7=>AP s2.1 λk8=>gd (CD k8 (AA s2.2)) λ_=>ix s2.2 k8 λx9=>some (.nx (AH .i64 s2.1 1,lset s2.2 k8 r7))) λ_=>some (.dn ((0,(s2,()))))) ((0,CO k1 ([],false)))) λr10=>bd (CW r10.2.1.2) λr11=>some r11.1
def Am (x:((List AR)×(List AR))):Option Bool :=
 br (Ai (AW (AA x.1)) (AW (AA x.2))) (λ_=>some false) λ_=>bd (loop (λs0=>br (Ae s0.1 (AW (AA x.1))) (λ_=>AP s0.1 λk1=>ix x.1 k1 λx2=>AP s0.1 λk3=>ix x.2 k3 λx4=>br (AY (Bo (seq x2.1 x4.1) (Bo (beq x2.2 x4.2) true))) (λ_=>some (.dn ((0,((s0.1,false),()))))) λ_=>some (.nx (AH .i64 s0.1 1,s0.2))) λ_=>some (.dn ((1,(s0,()))))) (0,false)) λr5=>br (neq r5.1 0) (λ_=>some r5.2.1.2) λ_=>some true
def Ag (x:((List Int)×(List Int))):Option Bool :=
 br (Ai (AW (AA x.1)) (AW (AA x.2))) (λ_=>some false) λ_=>bd (loop (λs0=>br (Ae s0.1 (AW (AA x.1))) (λ_=>AP s0.1 λk1=>ix x.1 k1 λx2=>AP s0.1 λk3=>ix x.2 k3 λx4=>br (Ai x2 x4) (λ_=>some (.dn ((0,((s0.1,false),()))))) λ_=>some (.nx (AH .i64 s0.1 1,s0.2))) λ_=>some (.dn ((1,(s0,()))))) (0,false)) λr5=>br (neq r5.1 0) (λ_=>some r5.2.1.2) λ_=>some true
def EW (x:(EE×EE)):Option Bool :=
 br (BJ x.1.2.2 x.2.2.2) (λ_=>bd (Am (x.1.1,x.2.1)) λr0=>br r0 (λ_=>bd (Ag (x.1.2.1,x.2.2.1)) λr1=>some r1) λ_=>some false) λ_=>some false
def Fe (x:EE):Option (Int×Int) :=
 bd (Df x.1) λr0=>br (Ai r0 0) (λ_=>some (0,r0)) λ_=>br (Ai (AW (AA x.2.1)) (AW (AA x.1))) (λ_=>some (0,6)) λ_=>bd (FL x.1) λr1=>bd (loop (λs2=>br (Ae s2.2.1 (AW (AA r1.2.1))) (λ_=>AP s2.2.1 λk3=>ix r1.2.1 k3 λx4=>AP s2.2.1 λk5=>ix x.2.1 k5 λx6=>br (Ai x6 x4) (λ_=>some (.dn ((0,((6,(s2.2.1,s2.2.1)),()))))) λ_=>some (.nx ((s2.1,(AH .i64 s2.2.1 1,s2.2.2))))) λ_=>some (.dn ((1,(s2,()))))) ((0,(0,0)))) λr7=>br (neq r7.1 0) (λ_=>some (r7.2.1.2.2,r7.2.1.1)) λ_=>br (Ai x.2.2 r1.2.2) (λ_=>some (0,6)) λ_=>some (0,0)
def FM (x:EE):Option Int :=
 bd (Fe x) λr0=>br (Ai r0.2 0) (λ_=>some r0.2) λ_=>AP x.2.2 λk1=>ix x.1 k1 λx2=>br x2.2 (λ_=>some 12) λ_=>some 0
def Cb (x:EE):Option (Int×((List UInt8)×Int)) :=
 bd (FM x) λr0=>br (Ai r0 0) (λ_=>some ((0,([],r0)))) λ_=>AP x.2.2 λk1=>ix x.1 k1 λx2=>some ((x.2.2,(x2.1,0)))
def DB (x:(List UInt8)):Option Bool :=
 some (AY (seq x x))
def Cc (x:((List UInt8)×(List UInt8))):Option Int :=
 bd (DB x.1) λr0=>bd (DB x.2) λr1=>br r0 (λ_=>br r1 (λ_=>some 0) λ_=>some (-1)) λ_=>br r1 (λ_=>some 1) λ_=>br (B3 x.1 x.2) (λ_=>some (-1)) λ_=>br (B3 x.2 x.1) (λ_=>some 1) λ_=>some 0
def EN (x:Int):Option Bool :=
 some (Ai x x)
def CK (x:(Int×Int)):Option Int :=
 bd (EN x.1) λr0=>bd (EN x.2) λr1=>br r0 (λ_=>br r1 (λ_=>some 0) λ_=>some (-1)) λ_=>br r1 (λ_=>some 1) λ_=>br (Ae x.1 x.2) (λ_=>some (-1)) λ_=>br (B6 x.1 x.2) (λ_=>some 1) λ_=>some 0
def GU (x:(List Int)):Option Int :=
 bd (loop (λs0=>br (Ae s0.2 (AW (AA x))) (λ_=>AP s0.2 λk1=>ix x k1 λx2=>br (Ai x2 0) (λ_=>some (.dn ((0,((x2,s0.2),()))))) λ_=>some (.nx (s0.1,AH .i64 s0.2 1))) λ_=>some (.dn ((1,(s0,()))))) (0,0)) λr3=>br (neq r3.1 0) (λ_=>some r3.2.1.1) λ_=>some 0
def Dg (x:AT):Option (Int×Int) :=
 bd (De x.1) λr0=>br (Ai r0.2 0) (λ_=>some r0) λ_=>br (Ai (AW (AA x.2.1)) (AW (AA x.1))) (λ_=>some (((-1),6))) λ_=>bd (loop (λs1=>br (Ae s1.2.2 (AW (AA x.2.1))) (λ_=>AP s1.2.2 λk2=>ix x.2.1 k2 λx3=>br (Ae x3 0) (λ_=>some (.dn ((0,((6,(s1.2.2,s1.2.2)),()))))) λ_=>AP s1.2.2 λk4=>ix x.1 k4 λx5=>br (B6 x3 (AW (AA x5))) (λ_=>some (.dn ((0,((6,(s1.2.2,s1.2.2)),()))))) λ_=>some (.nx ((s1.1,(s1.2.1,AH .i64 s1.2.2 1))))) λ_=>some (.dn ((1,(s1,()))))) ((0,(0,0)))) λr6=>br (neq r6.1 0) (λ_=>some (r6.2.1.2.1,r6.2.1.1)) λ_=>bd (GT (x.1,x.2.1)) λr7=>bd (EW (x.2.2,r7)) λr8=>br (AY r8) (λ_=>some (((-1),6))) λ_=>bd (Cb x.2.2) λr9=>br (Ai r9.2.2 0) (λ_=>some (0,0)) λ_=>bd (loop (λs10=>br (Ae s10.2.2 (AW (AA x.2.1))) (λ_=>AP s10.2.2 λk11=>ix x.2.1 k11 λx12=>br (B6 x12 0) (λ_=>AP s10.2.2 λk13=>ix x.1 k13 λx14=>AP (BF .i64 x12 1) λk15=>ix x14 k15 λx16=>bd (Cc (x16.1,r9.2.1)) λr17=>bd (CK (s10.2.2,r9.1)) λr18=>bd (GU ([r17,r18])) λr19=>br (B6 r19 0) (λ_=>some (.dn ((0,((6,(r9.1,s10.2.2)),()))))) λ_=>some (.nx ((s10.1,(s10.2.1,AH .i64 s10.2.2 1))))) λ_=>some (.nx ((s10.1,(s10.2.1,AH .i64 s10.2.2 1))))) λ_=>some (.dn ((1,(s10,()))))) ((r9.2.2,(r6.2.1.2.1,0)))) λr20=>br (neq r20.1 0) (λ_=>some (r20.2.1.2.1,r20.2.1.1)) λ_=>some (0,0)
def A0 (x:(List Int)):Option (List Int) :=
 gd (Aj (AA x) 1048576) λ_=>some x
def Bg (x:(Int×(Int×((List AR)×Unit)))):Option Bool :=
 AP x.1 λk0=>ix x.2.2.1 k0 λx1=>AP x.2.1 λk2=>ix x.2.2.1 k2 λx3=>br (AY (beq x1.2 x3.2)) (λ_=>some x3.2) λ_=>br (AY (seq x1.1 x3.1)) (λ_=>some (B3 x1.1 x3.1)) λ_=>some (Ae x.1 x.2.1)
def CN (x:(EE×AR)):Option (EE×(Int×Int)) :=
 bd (FM x.1) λr0=>br (Ai r0 0) (λ_=>some ((([],([],0)),(0,r0)))) λ_=>bd (Df [x.2]) λr1=>br (Ai r1 0) (λ_=>some ((([],([],0)),(0,r1)))) λ_=>br (AY x.2.2) (λ_=>AP x.1.2.2 λk2=>ix x.1.1 k2 λx3=>br (B3 x.2.1 x3.1) (λ_=>some ((([],([],0)),(0,6)))) λ_=>bd (Al x.1.1) λr4=>bd (A0 x.1.2.1) λr5=>AP x.1.2.2 λk6=>gd (CD k6 (AA r4)) λ_=>ix r4 k6 λx7=>bd (loop (λs8=>br (BJ (IC .i64 s8.2.1 2) 0) (λ_=>some (.dn ((0,((s8.1,(IC .i64 s8.2.1 2,((),s8.2.2.2))),()))))) λ_=>AP (IC .i64 s8.2.1 2) λk9=>gd (CD k9 (AA s8.2.2.2.1)) λ_=>ix s8.2.2.2.1 k9 λx10=>bd (Bg ((x10,(s8.2.2.2.2,(lset r4 k6 x.2,()))))) λr11=>br r11 (λ_=>AP (IC .i64 s8.2.1 2) λk12=>gd (CD k12 (AA s8.2.2.2.1)) λ_=>ix s8.2.2.2.1 k12 λx13=>AP (IC .i64 s8.2.1 2) λk14=>gd (CD k14 (AA s8.2.2.2.1)) λ_=>ix s8.2.2.2.1 k14 λx15=>some (.nx ((AH .i64 s8.1 1,(IC .i64 s8.2.1 2,((),(lset s8.2.2.2.1 k14 s8.2.2.2.2,x13))))))) λ_=>some (.nx ((AH .i64 s8.1 1,(IC .i64 s8.2.1 2,((),s8.2.2.2)))))) ((0,(AH .i64 (AW (AA (lset r4 k6 x.2))) x.1.2.2,((),(r5,x.1.2.2)))))) λr16=>some (((lset r4 k6 x.2,r16.2.1.2.2.2),(r16.2.1.1,0)))) λ_=>bd (Al x.1.1) λr17=>bd (A0 x.1.2.1) λr18=>AP x.1.2.2 λk19=>gd (CD k19 (AA r17)) λ_=>ix r17 k19 λx20=>bd (loop (λs21=>br (BJ (IC .i64 s21.2.1 2) 0) (λ_=>some (.dn ((0,((s21.1,(IC .i64 s21.2.1 2,((),s21.2.2.2))),()))))) λ_=>AP (IC .i64 s21.2.1 2) λk22=>gd (CD k22 (AA s21.2.2.2.1)) λ_=>ix s21.2.2.2.1 k22 λx23=>bd (Bg ((x23,(s21.2.2.2.2,(lset r17 k19 x.2,()))))) λr24=>br r24 (λ_=>AP (IC .i64 s21.2.1 2) λk25=>gd (CD k25 (AA s21.2.2.2.1)) λ_=>ix s21.2.2.2.1 k25 λx26=>AP (IC .i64 s21.2.1 2) λk27=>gd (CD k27 (AA s21.2.2.2.1)) λ_=>ix s21.2.2.2.1 k27 λx28=>some (.nx ((AH .i64 s21.1 1,(IC .i64 s21.2.1 2,((),(lset s21.2.2.2.1 k27 s21.2.2.2.2,x26))))))) λ_=>some (.nx ((AH .i64 s21.1 1,(IC .i64 s21.2.1 2,((),s21.2.2.2)))))) ((0,(AH .i64 (AW (AA (lset r17 k19 x.2))) x.1.2.2,((),(r18,x.1.2.2)))))) λr29=>some (((lset r17 k19 x.2,r29.2.1.2.2.2),(r29.2.1.1,0)))
def HQ (x:(List (List AB))):Option ((List AB)×((List Int)×Int)) :=
 bd (De x) λr0=>br (Ai r0.2 0) (λ_=>br (Ai r0.2 0) (λ_=>some (([],([],r0.2)))) λ_=>bd (loop (λs1=>bd (Cb (([],([],0)))) λr2=>br (Ai r2.2.2 0) (λ_=>br (Ai r2.2.2 0) (λ_=>some (.dn ((0,(s1,()))))) λ_=>gd (Aj (AK (AA s1.1) (AA ([(([],([],(false,0))):AB)]))) 1048576) λ_=>gd (Aj (AK (AA s1.2) (AA [0])) 1048576) λ_=>none) λ_=>AP r2.1 λk3=>none) ([],[])) λr4=>some ((r4.2.1.1,(r4.2.1.2,0)))) λ_=>AP (AW (AA x)) λk5=>AP (AW (AA x)) λk6=>gd (Aj k6 1048576) λ_=>bd (Ak x) λr7=>AP (AW (AA x)) λk8=>AP (AW (AA x)) λk9=>gd (Aj k9 1048576) λ_=>bd (loop (λs10=>br (Ae s10.1 (AW (AA x))) (λ_=>AP s10.1 λk11=>ix x k11 λx12=>AP s10.1 λk13=>gd (CD k13 (AA (CO k6 (0:Int)))) λ_=>ix (CO k6 0) k13 λx14=>bd (BK (x12,x14)) λr15=>AP s10.1 λk16=>gd (CD k16 (AA s10.2)) λ_=>ix s10.2 k16 λx17=>some (.nx (AH .i64 s10.1 1,lset s10.2 k16 r15))) λ_=>some (.dn ((0,(s10,()))))) ((0,CO k9 ([],false)))) λr18=>bd (CW r18.2.1.2) λr19=>bd (loop (λs20=>bd (Cb s20.2.2.2.2) λr21=>br (Ai r21.2.2 0) (λ_=>br (Ai r21.2.2 0) (λ_=>some (.dn ((0,((s20.1,(s20.2.1,((),s20.2.2.2))),()))))) λ_=>gd (Aj (AK (AA s20.1) (AA ([(([],([],(false,0))):AB)]))) 1048576) λ_=>gd (Aj (AK (AA s20.2.1) (AA [0])) 1048576) λ_=>gd (CD 0 (AA s20.2.2.2.1)) λ_=>ix s20.2.2.2.1 0 λx22=>gd (CD 0 (AA s20.2.2.2.1)) λ_=>ix s20.2.2.2.1 0 λx23=>gd (CD 0 (AA r7)) λ_=>ix r7 0 λx24=>gd (CD 0 (AA (lset s20.2.2.2.1 0 (AH .i64 x22 1)))) λ_=>ix (lset s20.2.2.2.1 0 (AH .i64 x22 1)) 0 λx25=>bd (BK (x24,x25)) λr26=>bd (CN (s20.2.2.2.2,r26)) λr27=>some (.nx ((Bl s20.1 ([(([],([],(false,0))):AB)]),(Bl s20.2.1 [0],((),(lset s20.2.2.2.1 0 (AH .i64 x22 1),r27.1))))))) λ_=>AP r21.1 λk28=>gd (CD k28 (AA r7)) λ_=>ix r7 k28 λx29=>AP r21.1 λk30=>gd (CD k30 (AA s20.2.2.2.1)) λ_=>ix s20.2.2.2.1 k30 λx31=>AP x31 λk32=>ix x29 k32 λx33=>gd (Aj (AK (AA s20.1) (AA [x33])) 1048576) λ_=>gd (Aj (AK (AA s20.2.1) (AA [r21.1])) 1048576) λ_=>AP r21.1 λk34=>gd (CD k34 (AA s20.2.2.2.1)) λ_=>ix s20.2.2.2.1 k34 λx35=>AP r21.1 λk36=>gd (CD k36 (AA s20.2.2.2.1)) λ_=>ix s20.2.2.2.1 k36 λx37=>AP r21.1 λk38=>gd (CD k38 (AA r7)) λ_=>ix r7 k38 λx39=>AP r21.1 λk40=>gd (CD k40 (AA (lset s20.2.2.2.1 k36 (AH .i64 x35 1)))) λ_=>ix (lset s20.2.2.2.1 k36 (AH .i64 x35 1)) k40 λx41=>bd (BK (x39,x41)) λr42=>bd (CN (s20.2.2.2.2,r42)) λr43=>some (.nx ((Bl s20.1 [x33],(Bl s20.2.1 [r21.1],((),(lset s20.2.2.2.1 k36 (AH .i64 x35 1),r43.1))))))) (([],([],((),(CO k6 0,r19.1)))))) λr44=>some ((r44.2.1.1,(r44.2.1.2.1,0)))
def D1 (x:(Bool×AR)):Option Int :=
 bd (FJ x.2.1) λr0=>br (Ai r0 0) (λ_=>some r0) λ_=>br (AY x.1) (λ_=>br (AY (seq x.2.1 [])) (λ_=>some 6) λ_=>some 0) λ_=>some 0
def BB (x:AB):Option AB :=
 some x
def EO (x:((List AB)×Bool)):Option ((List AB)×(Int×Int)) :=
 br (B6 (AW (AA x.1)) 20000) (λ_=>some (([],((-1),3)))) λ_=>bd (Ca x.2) λr0=>bd (loop (λs1=>br (Ae s1.2.1 (AW (AA x.1))) (λ_=>AP s1.2.1 λk2=>ix x.1 k2 λx3=>bd (D1 s1.2.2.2.1) λr4=>br (Ai r4 0) (λ_=>br (Ai r4 0) (λ_=>some (.dn ((0,((r4,(s1.2.1,(s1.2.1,s1.2.2.2))),()))))) λ_=>some (.nx ((s1.1,(AH .i64 s1.2.1 1,(s1.2.2.1,((false,([],false)),s1.2.2.2.2))))))) λ_=>bd (Aw x3) λr5=>br (Ai r5 0) (λ_=>br (Ai r5 0) (λ_=>some (.dn ((0,((r5,(s1.2.1,(s1.2.1,s1.2.2.2))),()))))) λ_=>some (.nx ((s1.1,(AH .i64 s1.2.1 1,(s1.2.2.1,((false,([],false)),s1.2.2.2.2))))))) λ_=>br s1.2.2.2.1.1 (λ_=>br (B3 x3.1 s1.2.2.2.1.2.1) (λ_=>some (.dn ((0,((6,(s1.2.1,(s1.2.1,s1.2.2.2))),()))))) λ_=>br s1.2.2.2.1.1 (λ_=>br (seq x3.1 s1.2.2.2.1.2.1) (λ_=>some (.nx ((s1.1,(AH .i64 s1.2.1 1,(s1.2.2.1,((true,(x3.1,s1.2.2.2.1.2.2)),s1.2.2.2.2))))))) λ_=>br s1.2.2.2.1.2.2 (λ_=>br x3.2.2.1 (λ_=>some (.nx ((s1.1,(AH .i64 s1.2.1 1,(s1.2.2.1,((true,(x3.1,s1.2.2.2.1.2.2)),s1.2.2.2.2))))))) λ_=>bd (BB x3) λr6=>gd (Aj (AK (AA s1.2.2.2.2) (AA [r6])) 1048576) λ_=>some (.nx ((s1.1,(AH .i64 s1.2.1 1,(s1.2.2.1,((true,(x3.1,s1.2.2.2.1.2.2)),Bl s1.2.2.2.2 [r6]))))))) λ_=>bd (BB x3) λr7=>gd (Aj (AK (AA s1.2.2.2.2) (AA [r7])) 1048576) λ_=>some (.nx ((s1.1,(AH .i64 s1.2.1 1,(s1.2.2.1,((true,(x3.1,s1.2.2.2.1.2.2)),Bl s1.2.2.2.2 [r7]))))))) λ_=>br s1.2.2.2.1.2.2 (λ_=>br x3.2.2.1 (λ_=>some (.nx ((s1.1,(AH .i64 s1.2.1 1,(s1.2.2.1,((true,(x3.1,s1.2.2.2.1.2.2)),s1.2.2.2.2))))))) λ_=>bd (BB x3) λr8=>gd (Aj (AK (AA s1.2.2.2.2) (AA [r8])) 1048576) λ_=>some (.nx ((s1.1,(AH .i64 s1.2.1 1,(s1.2.2.1,((true,(x3.1,s1.2.2.2.1.2.2)),Bl s1.2.2.2.2 [r8]))))))) λ_=>bd (BB x3) λr9=>gd (Aj (AK (AA s1.2.2.2.2) (AA [r9])) 1048576) λ_=>some (.nx ((s1.1,(AH .i64 s1.2.1 1,(s1.2.2.1,((true,(x3.1,s1.2.2.2.1.2.2)),Bl s1.2.2.2.2 [r9]))))))) λ_=>br s1.2.2.2.1.1 (λ_=>br (seq x3.1 s1.2.2.2.1.2.1) (λ_=>some (.nx ((s1.1,(AH .i64 s1.2.1 1,(s1.2.2.1,((true,(x3.1,s1.2.2.2.1.2.2)),s1.2.2.2.2))))))) λ_=>br s1.2.2.2.1.2.2 (λ_=>br x3.2.2.1 (λ_=>some (.nx ((s1.1,(AH .i64 s1.2.1 1,(s1.2.2.1,((true,(x3.1,s1.2.2.2.1.2.2)),s1.2.2.2.2))))))) λ_=>bd (BB x3) λr10=>gd (Aj (AK (AA s1.2.2.2.2) (AA [r10])) 1048576) λ_=>some (.nx ((s1.1,(AH .i64 s1.2.1 1,(s1.2.2.1,((true,(x3.1,s1.2.2.2.1.2.2)),Bl s1.2.2.2.2 [r10]))))))) λ_=>bd (BB x3) λr11=>gd (Aj (AK (AA s1.2.2.2.2) (AA [r11])) 1048576) λ_=>some (.nx ((s1.1,(AH .i64 s1.2.1 1,(s1.2.2.1,((true,(x3.1,s1.2.2.2.1.2.2)),Bl s1.2.2.2.2 [r11]))))))) λ_=>br s1.2.2.2.1.2.2 (λ_=>br x3.2.2.1 (λ_=>some (.nx ((s1.1,(AH .i64 s1.2.1 1,(s1.2.2.1,((true,(x3.1,s1.2.2.2.1.2.2)),s1.2.2.2.2))))))) λ_=>bd (BB x3) λr12=>gd (Aj (AK (AA s1.2.2.2.2) (AA [r12])) 1048576) λ_=>some (.nx ((s1.1,(AH .i64 s1.2.1 1,(s1.2.2.1,((true,(x3.1,s1.2.2.2.1.2.2)),Bl s1.2.2.2.2 [r12]))))))) λ_=>bd (BB x3) λr13=>gd (Aj (AK (AA s1.2.2.2.2) (AA [r13])) 1048576) λ_=>some (.nx ((s1.1,(AH .i64 s1.2.1 1,(s1.2.2.1,((true,(x3.1,s1.2.2.2.1.2.2)),Bl s1.2.2.2.2 [r13]))))))) λ_=>some (.dn ((1,(s1,()))))) ((0,(0,(0,(r0,[])))))) λr14=>br (neq r14.1 0) (λ_=>br (Ai r14.2.1.1 0) (λ_=>some (([],(r14.2.1.2.2.1,r14.2.1.1)))) λ_=>some ((r14.2.1.2.2.2.2,(0,0)))) λ_=>some ((r14.2.1.2.2.2.2,(0,0)))
def D2 (x:((List AB)×(List AB))):Option Bool :=
 br (Ai (AW (AA x.1)) (AW (AA x.2))) (λ_=>some false) λ_=>bd (loop (λs0=>br (Ae s0.2 (AW (AA x.1))) (λ_=>AP s0.2 λk1=>ix x.1 k1 λx2=>AP s0.2 λk3=>ix x.2 k3 λx4=>br (AY (Bo (seq x2.1 x4.1) (Bo (seq x2.2.1 x4.2.1) (Bo (beq x2.2.2.1 x4.2.2.1) (Bo (BJ x2.2.2.2 x4.2.2.2) true))))) (λ_=>some (.dn ((0,((false,s0.2),()))))) λ_=>some (.nx (s0.1,AH .i64 s0.2 1))) λ_=>some (.dn ((1,(s0,()))))) (false,0)) λr5=>br (neq r5.1 0) (λ_=>some r5.2.1.1) λ_=>some true
def Ev (x:(AT×((Bool×AR)×((List AB)×Int)))):Option Int :=
 bd (Dg x.1) λr0=>br (Ai r0.2 0) (λ_=>some r0.2) λ_=>bd (loop (λs1=>br (Ae s1.1 (AW (AA x.1.2.1))) (λ_=>AP s1.1 λk2=>ix x.1.2.1 k2 λx3=>some (.nx (AH .i64 s1.1 1,AH .i64 s1.2 x3))) λ_=>some (.dn ((0,(s1,()))))) (0,0)) λr4=>br (B6 (AW (AA x.2.2.1)) 20000) (λ_=>some 3) λ_=>br (B6 r4.2.1.2 20000) (λ_=>some 3) λ_=>br (Ai x.2.2.2 r4.2.1.2) (λ_=>some 7) λ_=>bd (HQ x.1.1) λr5=>br (Ai r5.2.2 0) (λ_=>some r5.2.2) λ_=>AP r4.2.1.2 λk6=>gd (Aj k6 (AA r5.1)) λ_=>gd (Aj 0 k6) λ_=>bd (EO (B0 r5.1 0 k6,x.2.1.2.2)) λr7=>br (Ai r7.2.2 0) (λ_=>some r7.2.2) λ_=>bd (Ca x.2.1.2.2) λr8=>br (B6 r4.2.1.2 0) (λ_=>AP (BF .i64 r4.2.1.2 1) λk9=>ix r5.1 k9 λx10=>bd (D2 (x.2.2.1,r7.1)) λr11=>br (AY r11) (λ_=>some 6) λ_=>br (AY (Bo (beq x.2.1.1 true) (Bo (seq x.2.1.2.1 x10.1) (Bo (beq x.2.1.2.2 r8.2.2) true)))) (λ_=>some 6) λ_=>some 0) λ_=>bd (D2 (x.2.2.1,r7.1)) λr12=>br (AY r12) (λ_=>some 6) λ_=>br (AY (Bo (beq x.2.1.1 r8.1) (Bo (seq x.2.1.2.1 r8.2.1) (Bo (beq x.2.1.2.2 r8.2.2) true)))) (λ_=>some 6) λ_=>some 0
def GV (x:AT):Option (Int×Int) :=
 bd (Dg x) λr0=>br (Ai r0.2 0) (λ_=>some (0,r0.2)) λ_=>bd (loop (λs1=>br (Ae s1.1 (AW (AA x.1))) (λ_=>AP s1.1 λk2=>ix x.1 k2 λx3=>AP s1.1 λk4=>ix x.2.1 k4 λx5=>some (.nx ((AH .i64 s1.1 1,AH .i64 s1.2 (BF .i64 (AW (AA x3)) x5))))) λ_=>some (.dn ((0,(s1,()))))) (0,0)) λr6=>some (r6.2.1.2,0)
def B5 (x:(AT×((Bool×AR)×((List AB)×Int)))):Option (Int×Int) :=
 bd (Ev x) λr0=>br (Ai r0 0) (λ_=>some (0,r0)) λ_=>bd (GV x.1) λr1=>some r1
def B8 (x:AT):Option (AB×(Int×(AT×Int))) :=
 bd (Dg x) λr0=>br (Ai r0.2 0) (λ_=>br (Ai r0.2 0) (λ_=>some (((([],([],(false,0))):AB),(0,(([],([],([],([],0)))),r0.2))))) λ_=>none) λ_=>bd (Ak x.1) λr1=>bd (A0 x.2.1) λr2=>bd (Cb x.2.2) λr3=>br (Ai r3.2.2 0) (λ_=>br (Ai r3.2.2 0) (λ_=>some (((([],([],(false,0))):AB),(0,(([],([],([],([],0)))),r3.2.2))))) λ_=>gd (CD 0 (AA r2)) λ_=>ix r2 0 λx4=>gd (CD 0 (AA r2)) λ_=>ix r2 0 λx5=>gd (CD 0 (AA r1)) λ_=>ix r1 0 λx6=>gd (CD 0 (AA (lset r2 0 (AH .i64 x4 1)))) λ_=>ix (lset r2 0 (AH .i64 x4 1)) 0 λx7=>bd (BK (x6,x7)) λr8=>bd (CN (x.2.2,r8)) λr9=>some (((([],([],(false,0))):AB),(0,((r1,(lset r2 0 (AH .i64 x4 1),r9.1)),0))))) λ_=>AP r3.1 λk10=>gd (CD k10 (AA r1)) λ_=>ix r1 k10 λx11=>AP r3.1 λk12=>gd (CD k12 (AA r2)) λ_=>ix r2 k12 λx13=>AP x13 λk14=>ix x11 k14 λx15=>AP r3.1 λk16=>gd (CD k16 (AA r2)) λ_=>ix r2 k16 λx17=>AP r3.1 λk18=>gd (CD k18 (AA r2)) λ_=>ix r2 k18 λx19=>AP r3.1 λk20=>gd (CD k20 (AA r1)) λ_=>ix r1 k20 λx21=>AP r3.1 λk22=>gd (CD k22 (AA (lset r2 k18 (AH .i64 x17 1)))) λ_=>ix (lset r2 k18 (AH .i64 x17 1)) k22 λx23=>bd (BK (x21,x23)) λr24=>bd (CN (x.2.2,r24)) λr25=>some ((x15,(r3.1,((r1,(lset r2 k18 (AH .i64 x17 1),r25.1)),0))))
def CE (x:((Bool×AR)×AB)):Option (Bool×((Bool×AR)×Int)) :=
 bd (D1 x.1) λr0=>br (Ai r0 0) (λ_=>some ((false,((false,([],false)),r0)))) λ_=>bd (Aw x.2) λr1=>br (Ai r1 0) (λ_=>some ((false,((false,([],false)),r1)))) λ_=>br x.1.1 (λ_=>br (B3 x.2.1 x.1.2.1) (λ_=>some ((false,((false,([],false)),6)))) λ_=>br x.1.1 (λ_=>br (seq x.2.1 x.1.2.1) (λ_=>some ((false,((true,(x.2.1,x.1.2.2)),0)))) λ_=>br x.1.2.2 (λ_=>br x.2.2.2.1 (λ_=>some ((false,((true,(x.2.1,x.1.2.2)),0)))) λ_=>some ((true,((true,(x.2.1,x.1.2.2)),0)))) λ_=>some ((true,((true,(x.2.1,x.1.2.2)),0)))) λ_=>br x.1.2.2 (λ_=>br x.2.2.2.1 (λ_=>some ((false,((true,(x.2.1,x.1.2.2)),0)))) λ_=>some ((true,((true,(x.2.1,x.1.2.2)),0)))) λ_=>some ((true,((true,(x.2.1,x.1.2.2)),0)))) λ_=>br x.1.1 (λ_=>br (seq x.2.1 x.1.2.1) (λ_=>some ((false,((true,(x.2.1,x.1.2.2)),0)))) λ_=>br x.1.2.2 (λ_=>br x.2.2.2.1 (λ_=>some ((false,((true,(x.2.1,x.1.2.2)),0)))) λ_=>some ((true,((true,(x.2.1,x.1.2.2)),0)))) λ_=>some ((true,((true,(x.2.1,x.1.2.2)),0)))) λ_=>br x.1.2.2 (λ_=>br x.2.2.2.1 (λ_=>some ((false,((true,(x.2.1,x.1.2.2)),0)))) λ_=>some ((true,((true,(x.2.1,x.1.2.2)),0)))) λ_=>some ((true,((true,(x.2.1,x.1.2.2)),0)))
def CY (x:((AT×((Bool×AR)×((List AB)×Int)))×Int)):Option ((AT×((Bool×AR)×((List AB)×Int)))×(Int×Int)) :=
 bd (B5 x.1) λr0=>br (Ai r0.2 0) (λ_=>some (((([],([],([],([],0)))),((false,([],false)),([],0))),(0,r0.2)))) λ_=>br (Ae x.2 0) (λ_=>some (((([],([],([],([],0)))),((false,([],false)),([],0))),(0,7)))) λ_=>br (B6 (AH .i64 x.1.2.2.2 (N8 x.2 r0.1)) 20000) (λ_=>some (((([],([],([],([],0)))),((false,([],false)),([],0))),(0,3)))) λ_=>gd (Aj (AA x.1.2.2.1) 1048576) λ_=>gd (Aj (AA x.1.1.2.1) 1048576) λ_=>br (Ae 0 (N8 x.2 r0.1)) (λ_=>bd (B8 x.1.1) λr1=>br (Ai r1.2.2.2 0) (λ_=>br (Ai r1.2.2.2 0) (λ_=>br (Ai r1.2.2.2 0) (λ_=>some (((([],([],([],([],0)))),((false,([],false)),([],0))),(0,r1.2.2.2)))) λ_=>some ((x.1,(N8 x.2 r0.1,0)))) λ_=>none) λ_=>bd (CE (x.1.2.1,r1.1)) λr2=>br (Ai r2.2.2 0) (λ_=>br (Ai r2.2.2 0) (λ_=>br (Ai r2.2.2 0) (λ_=>some (((([],([],([],([],0)))),((false,([],false)),([],0))),(0,r2.2.2)))) λ_=>some ((x.1,(N8 x.2 r0.1,0)))) λ_=>none) λ_=>br r2.1 (λ_=>gd (Aj (AK (AA x.1.2.2.1) (AA [r1.1])) 1048576) λ_=>bd (loop (λs3=>br (Ae s3.1 (N8 x.2 r0.1)) (λ_=>bd (B8 ((s3.2.2.1,(s3.2.2.2.1,(s3.2.2.2.2.1,(s3.2.2.2.2.2.1,s3.2.2.2.2.2.2.1)))))) λr4=>br (Ai r4.2.2.2 0) (λ_=>br (Ai r4.2.2.2 0) (λ_=>some (.dn ((0,((s3.1,(r4.2.2.2,s3.2.2)),()))))) λ_=>some (.nx (AH .i64 s3.1 1,s3.2))) λ_=>bd (CE (((s3.2.2.2.2.2.2.2.1,(s3.2.2.2.2.2.2.2.2.1,s3.2.2.2.2.2.2.2.2.2.1)),r4.1))) λr5=>br (Ai r5.2.2 0) (λ_=>br (Ai r5.2.2 0) (λ_=>some (.dn ((0,((s3.1,(r5.2.2,s3.2.2)),()))))) λ_=>some (.nx (AH .i64 s3.1 1,s3.2))) λ_=>br r5.1 (λ_=>gd (Aj (AK (AA s3.2.2.2.2.2.2.2.2.2.2.1) (AA [r4.1])) 1048576) λ_=>some (.nx ((AH .i64 s3.1 1,(s3.2.1,(r4.2.2.1.1,(r4.2.2.1.2.1,(r4.2.2.1.2.2.1,(r4.2.2.1.2.2.2.1,(r4.2.2.1.2.2.2.2,(r5.2.1.1,(r5.2.1.2.1,(r5.2.1.2.2,(Bl s3.2.2.2.2.2.2.2.2.2.2.1 [r4.1],AH .i64 s3.2.2.2.2.2.2.2.2.2.2.2 1)))))))))))))) λ_=>some (.nx ((AH .i64 s3.1 1,(s3.2.1,(r4.2.2.1.1,(r4.2.2.1.2.1,(r4.2.2.1.2.2.1,(r4.2.2.1.2.2.2.1,(r4.2.2.1.2.2.2.2,(r5.2.1.1,(r5.2.1.2.1,(r5.2.1.2.2,(s3.2.2.2.2.2.2.2.2.2.2.1,AH .i64 s3.2.2.2.2.2.2.2.2.2.2.2 1)))))))))))))) λ_=>some (.dn ((1,(s3,()))))) ((1,(0,(r1.2.2.1.1,(r1.2.2.1.2.1,(r1.2.2.1.2.2.1,(r1.2.2.1.2.2.2.1,(r1.2.2.1.2.2.2.2,(r2.2.1.1,(r2.2.1.2.1,(r2.2.1.2.2,(Bl x.1.2.2.1 [r1.1],AH .i64 x.1.2.2.2 1))))))))))))) λr6=>br (neq r6.1 0) (λ_=>br (Ai r6.2.1.2.1 0) (λ_=>some (((([],([],([],([],0)))),((false,([],false)),([],0))),(0,r6.2.1.2.1)))) λ_=>some ((((r6.2.1.2.2.1,(r6.2.1.2.2.2.1,(r6.2.1.2.2.2.2.1,(r6.2.1.2.2.2.2.2.1,r6.2.1.2.2.2.2.2.2.1)))),((r6.2.1.2.2.2.2.2.2.2.1,(r6.2.1.2.2.2.2.2.2.2.2.1,r6.2.1.2.2.2.2.2.2.2.2.2.1)),r6.2.1.2.2.2.2.2.2.2.2.2.2)),(N8 x.2 r0.1,0)))) λ_=>some ((((r6.2.1.2.2.1,(r6.2.1.2.2.2.1,(r6.2.1.2.2.2.2.1,(r6.2.1.2.2.2.2.2.1,r6.2.1.2.2.2.2.2.2.1)))),((r6.2.1.2.2.2.2.2.2.2.1,(r6.2.1.2.2.2.2.2.2.2.2.1,r6.2.1.2.2.2.2.2.2.2.2.2.1)),r6.2.1.2.2.2.2.2.2.2.2.2.2)),(N8 x.2 r0.1,0)))) λ_=>bd (loop (λs7=>br (Ae s7.1 (N8 x.2 r0.1)) (λ_=>bd (B8 ((s7.2.2.1,(s7.2.2.2.1,(s7.2.2.2.2.1,(s7.2.2.2.2.2.1,s7.2.2.2.2.2.2.1)))))) λr8=>br (Ai r8.2.2.2 0) (λ_=>br (Ai r8.2.2.2 0) (λ_=>some (.dn ((0,((s7.1,(r8.2.2.2,s7.2.2)),()))))) λ_=>some (.nx (AH .i64 s7.1 1,s7.2))) λ_=>bd (CE (((s7.2.2.2.2.2.2.2.1,(s7.2.2.2.2.2.2.2.2.1,s7.2.2.2.2.2.2.2.2.2.1)),r8.1))) λr9=>br (Ai r9.2.2 0) (λ_=>br (Ai r9.2.2 0) (λ_=>some (.dn ((0,((s7.1,(r9.2.2,s7.2.2)),()))))) λ_=>some (.nx (AH .i64 s7.1 1,s7.2))) λ_=>br r9.1 (λ_=>gd (Aj (AK (AA s7.2.2.2.2.2.2.2.2.2.2.1) (AA [r8.1])) 1048576) λ_=>some (.nx ((AH .i64 s7.1 1,(s7.2.1,(r8.2.2.1.1,(r8.2.2.1.2.1,(r8.2.2.1.2.2.1,(r8.2.2.1.2.2.2.1,(r8.2.2.1.2.2.2.2,(r9.2.1.1,(r9.2.1.2.1,(r9.2.1.2.2,(Bl s7.2.2.2.2.2.2.2.2.2.2.1 [r8.1],AH .i64 s7.2.2.2.2.2.2.2.2.2.2.2 1)))))))))))))) λ_=>some (.nx ((AH .i64 s7.1 1,(s7.2.1,(r8.2.2.1.1,(r8.2.2.1.2.1,(r8.2.2.1.2.2.1,(r8.2.2.1.2.2.2.1,(r8.2.2.1.2.2.2.2,(r9.2.1.1,(r9.2.1.2.1,(r9.2.1.2.2,(s7.2.2.2.2.2.2.2.2.2.2.1,AH .i64 s7.2.2.2.2.2.2.2.2.2.2.2 1)))))))))))))) λ_=>some (.dn ((1,(s7,()))))) ((1,(0,(r1.2.2.1.1,(r1.2.2.1.2.1,(r1.2.2.1.2.2.1,(r1.2.2.1.2.2.2.1,(r1.2.2.1.2.2.2.2,(r2.2.1.1,(r2.2.1.2.1,(r2.2.1.2.2,(x.1.2.2.1,AH .i64 x.1.2.2.2 1))))))))))))) λr10=>br (neq r10.1 0) (λ_=>br (Ai r10.2.1.2.1 0) (λ_=>some (((([],([],([],([],0)))),((false,([],false)),([],0))),(0,r10.2.1.2.1)))) λ_=>some ((((r10.2.1.2.2.1,(r10.2.1.2.2.2.1,(r10.2.1.2.2.2.2.1,(r10.2.1.2.2.2.2.2.1,r10.2.1.2.2.2.2.2.2.1)))),((r10.2.1.2.2.2.2.2.2.2.1,(r10.2.1.2.2.2.2.2.2.2.2.1,r10.2.1.2.2.2.2.2.2.2.2.2.1)),r10.2.1.2.2.2.2.2.2.2.2.2.2)),(N8 x.2 r0.1,0)))) λ_=>some ((((r10.2.1.2.2.1,(r10.2.1.2.2.2.1,(r10.2.1.2.2.2.2.1,(r10.2.1.2.2.2.2.2.1,r10.2.1.2.2.2.2.2.2.1)))),((r10.2.1.2.2.2.2.2.2.2.1,(r10.2.1.2.2.2.2.2.2.2.2.1,r10.2.1.2.2.2.2.2.2.2.2.2.1)),r10.2.1.2.2.2.2.2.2.2.2.2.2)),(N8 x.2 r0.1,0)))) λ_=>some ((x.1,(N8 x.2 r0.1,0)))
def BQ (x:((List AB)×(List AB))):Option Bool :=
 br (Ai (AW (AA x.1)) (AW (AA x.2))) (λ_=>some false) λ_=>bd (loop (λs0=>br (Ae s0.1 (AW (AA x.1))) (λ_=>AP s0.1 λk1=>ix x.1 k1 λx2=>AP s0.1 λk3=>ix x.2 k3 λx4=>br (AY (Bo (seq x2.1 x4.1) (Bo (seq x2.2.1 x4.2.1) (Bo (beq x2.2.2.1 x4.2.2.1) (Bo (BJ x2.2.2.2 x4.2.2.2) true))))) (λ_=>some (.dn ((0,((s0.1,false),()))))) λ_=>some (.nx (AH .i64 s0.1 1,s0.2))) λ_=>some (.dn ((1,(s0,()))))) (0,false)) λr5=>br (neq r5.1 0) (λ_=>some r5.2.1.2) λ_=>some true
def Br (x:((List AB)×(List AB))):Option Bool :=
 bd (BQ x) λr0=>some r0
def DW (x:((AT×((Bool×AR)×((List AB)×Int)))×(AT×((Bool×AR)×((List AB)×Int))))):Option Bool :=
 br (Ai (AW (AA x.1.1.1)) (AW (AA x.2.1.1))) (λ_=>some false) λ_=>bd (loop (λs0=>br (Ae s0.1 (AW (AA x.1.1.1))) (λ_=>AP s0.1 λk1=>ix x.1.1.1 k1 λx2=>AP s0.1 λk3=>ix x.2.1.1 k3 λx4=>bd (Br (x2,x4)) λr5=>br (AY r5) (λ_=>some (.dn ((0,((s0.1,false),()))))) λ_=>some (.nx (AH .i64 s0.1 1,s0.2))) λ_=>some (.dn ((1,(s0,()))))) (0,false)) λr6=>br (neq r6.1 0) (λ_=>br r6.2.1.2 (λ_=>bd (Ag (x.1.1.2.1,x.2.1.2.1)) λr7=>br r7 (λ_=>bd (Am (x.1.1.2.2.1,x.2.1.2.2.1)) λr8=>br r8 (λ_=>bd (Ag (x.1.1.2.2.2.1,x.2.1.2.2.2.1)) λr9=>br r9 (λ_=>br (BJ x.1.1.2.2.2.2 x.2.1.2.2.2.2) (λ_=>br (Bo (beq x.1.2.1.1 x.2.2.1.1) (Bo (seq x.1.2.1.2.1 x.2.2.1.2.1) (Bo (beq x.1.2.1.2.2 x.2.2.1.2.2) true))) (λ_=>bd (Br (x.1.2.2.1,x.2.2.2.1)) λr10=>br r10 (λ_=>some (BJ x.1.2.2.2 x.2.2.2.2)) λ_=>some false) λ_=>some false) λ_=>some false) λ_=>some false) λ_=>some false) λ_=>some false) λ_=>some false) λ_=>bd (Ag (x.1.1.2.1,x.2.1.2.1)) λr11=>br r11 (λ_=>bd (Am (x.1.1.2.2.1,x.2.1.2.2.1)) λr12=>br r12 (λ_=>bd (Ag (x.1.1.2.2.2.1,x.2.1.2.2.2.1)) λr13=>br r13 (λ_=>br (BJ x.1.1.2.2.2.2 x.2.1.2.2.2.2) (λ_=>br (Bo (beq x.1.2.1.1 x.2.2.1.1) (Bo (seq x.1.2.1.2.1 x.2.2.1.2.1) (Bo (beq x.1.2.1.2.2 x.2.2.1.2.2) true))) (λ_=>bd (Br (x.1.2.2.1,x.2.2.2.1)) λr14=>br r14 (λ_=>some (BJ x.1.2.2.2 x.2.2.2.2)) λ_=>some false) λ_=>some false) λ_=>some false) λ_=>some false) λ_=>some false) λ_=>some false
def Bv (x:(AL×((List (Int×(AT×((Bool×AR)×((List AB)×Int)))))×Int))):Option (Int×Int) :=
 bd (DA x.1) λr0=>br (Ai r0.2.2 0) (λ_=>some (((-1),r0.2.2))) λ_=>br (Ae x.2.2 1) (λ_=>some (((-1),7))) λ_=>br (B6 x.2.2 1000001) (λ_=>some (((-1),7))) λ_=>bd (EM x.1) λr1=>br (Pu x.2.2 r1) (λ_=>some (((-1),6))) λ_=>bd (loop (λs2=>br (Ae s2.1 (AW (AA x.1.2))) (λ_=>AP s2.1 λk3=>ix x.1.2 k3 λx4=>br (BJ (AW (AA x4)) 2) (λ_=>gd (Aj (AK (AA s2.2) (AA [s2.1])) 1048576) λ_=>some (.nx (AH .i64 s2.1 1,Bl s2.2 [s2.1]))) λ_=>some (.nx (AH .i64 s2.1 1,s2.2))) λ_=>some (.dn ((0,(s2,()))))) (0,[])) λr5=>bd (loop (λs6=>br (Ae s6.2.2 (AW (AA x.2.1))) (λ_=>AP s6.2.2 λk7=>ix x.2.1 k7 λx8=>br (Hf s6.2.2 (AW (AA r5.2.1.2))) (λ_=>some (.dn ((0,((6,(s6.2.2,s6.2.2)),()))))) λ_=>AP s6.2.2 λk9=>gd (CD k9 (AA r5.2.1.2)) λ_=>ix r5.2.1.2 k9 λx10=>br (Ai x8.1 x10) (λ_=>some (.dn ((0,((6,(s6.2.2,s6.2.2)),()))))) λ_=>br x8.2.2.1.2.2 (λ_=>bd (Cv (x.1,x8.1)) λr11=>br (AY r11) (λ_=>some (.dn ((0,((6,(s6.2.2,s6.2.2)),()))))) λ_=>bd (CX ((x.1,(x8.1,x8.2.2.1.2.2)))) λr12=>bd (B5 r12.2) λr13=>br (Ae x8.2.2.2.2 0) (λ_=>some (.dn ((0,((6,(s6.2.2,s6.2.2)),()))))) λ_=>br (B6 x8.2.2.2.2 r13.1) (λ_=>some (.dn ((0,((6,(s6.2.2,s6.2.2)),()))))) λ_=>bd (CY (r12.2,x8.2.2.2.2)) λr14=>bd (DW (r14.1,x8.2)) λr15=>br (AY r15) (λ_=>some (.dn ((0,((6,(s6.2.2,s6.2.2)),()))))) λ_=>some (.nx ((s6.1,(s6.2.1,AH .i64 s6.2.2 1))))) λ_=>bd (CX ((x.1,(x8.1,x8.2.2.1.2.2)))) λr16=>bd (B5 r16.2) λr17=>br (Ae x8.2.2.2.2 0) (λ_=>some (.dn ((0,((6,(s6.2.2,s6.2.2)),()))))) λ_=>br (B6 x8.2.2.2.2 r17.1) (λ_=>some (.dn ((0,((6,(s6.2.2,s6.2.2)),()))))) λ_=>bd (CY (r16.2,x8.2.2.2.2)) λr18=>bd (DW (r18.1,x8.2)) λr19=>br (AY r19) (λ_=>some (.dn ((0,((6,(s6.2.2,s6.2.2)),()))))) λ_=>some (.nx ((s6.1,(s6.2.1,AH .i64 s6.2.2 1))))) λ_=>some (.dn ((1,(s6,()))))) ((r0.2.2,(0,0)))) λr20=>br (neq r20.1 0) (λ_=>some (r20.2.1.2.1,r20.2.1.1)) λ_=>br (Ae (AW (AA x.2.1)) (AW (AA r5.2.1.2))) (λ_=>some (((-1),4))) λ_=>some (0,0)
end Go.Proofs.YthpkjfabdccpdaaGreat.Pl
namespace Go.Proofs.YthpkjfabdccpdaaGreat.Pl
open Go Go.Proofs.YthpkjfabdccpdaaGreat.Sv
abbrev H1:=List UInt8
theorem Mh (a:H1):B3 a []=false:=by unfold B3;cases a<;>rfl
theorem SG (b:UInt8) (y:H1):B3 [] (b::y)=true:=rfl
theorem I3 (a b:UInt8) (x y:H1):B3 (a::x) (b::y)=(decide (a<b)||(a == b&&B3 x y)):=rfl
theorem Fz : ∀ a:H1,B3 a a=false
 | []=>rfl
 | a::x=>by rw [I3,Fz x];simp
theorem DS : ∀ {a b c:H1},B3 a b=true->B3 b c=true->B3 a c=true
 | [],b,[],h1,h2=>by rw [Mh] at h2;cases h2
 | [],b,c::z,_,_=>rfl
 | a::x,[],c,h1,_=>by rw [Mh] at h1;cases h1
 | a::x,b::y,[],_,h2=>by rw [Mh] at h2;cases h2
 | a::x,b::y,c::z,h1,h2=>by
  rw [I3] at h1 h2 ⊢;simp only [Bool.or_eq_true,decide_eq_true_eq,Bool.and_eq_true,beq_iff_eq] at h1 h2 ⊢;rcases h1 with h1 | ⟨rfl,h1⟩
  ·rcases h2 with h2 | ⟨rfl,h2⟩
   ·exact .inl (UInt8.lt_trans h1 h2)
   ·exact .inl h1
  ·rcases h2 with h2 | ⟨rfl,h2⟩
   ·exact .inl h2
   ·exact .inr ⟨rfl,DS h1 h2⟩
theorem SH : ∀ a b:H1,B3 a b=true\/a=b\/B3 b a=true
 | [],[] => .inr (.inl rfl)
 | [],_::_ => .inl rfl
 | _::_,[] => .inr (.inr rfl)
 | a::x,b::y=>by
  rw [I3,I3];simp only [Bool.or_eq_true,decide_eq_true_eq,Bool.and_eq_true,beq_iff_eq,List.cons.injEq];rcases UInt8.lt_or_lt_of_ne (a:=a) (b:=b) |> λh=>Classical.em (a=b) |>.imp id h with h | h | h
  ·subst h;rcases SH x y with h | h | h
   ·exact .inl (.inr ⟨rfl,h⟩)
   ·exact .inr (.inl ⟨rfl,h⟩)
   ·exact .inr (.inr (.inr ⟨rfl,h⟩))
  ·exact .inl (.inl h)
  ·exact .inr (.inr (.inl h))
theorem C1 {a b:H1} (h:B3 a b=true):B3 b a=false:=by
 cases h2:B3 b a with
 | false=>rfl
 | true=>have:=DS h h2;rw [Fz] at this;cases this
theorem VT {a b:H1} (h:B3 a b=true):a≠b:=λe=>by subst e;rw [Fz] at h;cases h
theorem Lp {a b:H1} (h:B3 a b=false) (hn:a≠b):B3 b a=true:=by
 rcases SH a b with h1 | h1 | h1
 ·rw [h] at h1;cases h1
 ·exact absurd h1 hn
 ·exact h1
theorem VU {a b c:H1} (h:B3 b a=false) (h2:B3 b c=true):B3 a c=true:=by
 rcases SH a b with h1 | h1 | h1
 ·exact DS h1 h2
 ·subst h1;exact h2
 ·rw [h] at h1;cases h1
theorem IS {a b:H1}:seq a b=true<->a=b:=by unfold seq;simp
theorem Lq (a b:H1):seq a b=decide (a=b):=by
 cases h:seq a b with
 | true=>rw [IS] at h;simp [h]
 | false =>
  have : ¬ a=b:=λe=>by rw [<- IS] at e;rw [h] at e;cases e
  simp [this]
section
variable {α β σ S:Type}
theorem Ew (a b:H1) (x y:Unit->Option β):br (seq a b) x y=if a=b then x () else y ():=OL IS x y
theorem GW (a b:H1) (x y:Unit->Option β):br (B3 a b) x y=if B3 a b=true then x () else y ():=OL Iff.rfl x y
theorem Cn (p:Prop) [Decidable p] (x y:Unit->Option β):br (decide p) x y=if p then x () else y ():=OL (by simp) x y
theorem AE (k:Nat) (c:Nat->Option β):AP (k:Int) c=c k:=by rw [XS (by omega)];simp
theorem ki {l:List α} {k:Nat} {x:α} (h:l[k]? = some x):Ae (k:Int) (AW (AA l))=true:=by
 have:=(List.getElem?_eq_some_iff.1 h).1;unfold Ae AW AA;simp;omega
theorem jE (l:List α):Ae (l.length:Int) (AW (AA l))=false:=by unfold Ae AW AA;simp
theorem AZ {k:Nat} (h:k+1<=9223372036854775807):AH .i64 (k:Int) 1=((k+1:Nat):Int):=by
 rw [CV (by omega)];omega
theorem As {l:List α} {k:Nat} {x:α} (h:l[k]? = some x) (hl:l.length<=9223372036854775807):AH .i64 (k:Int) 1=((k+1:Nat):Int):=by
 have:=(List.getElem?_eq_some_iff.1 h).1;exact AZ (by omega)
def PR (step:Nat->α->σ->Option (LR σ β)) (fin:σ->Option β):List α->Nat->σ->Option β
 | [],_,s=>fin s
 | x::l,k,s=>match step k x s with
  | none=>none
  | some (.nx s')=>PR step fin l (k+1) s'
  | some (.dn b)=>some b
def rM (mk:σ->S):Option (LR σ β)->Option (LR S β)
 | none=>none
 | some (.nx s)=>some (.nx (mk s))
 | some (.dn b)=>some (.dn b)
def lw:Option β->Option (LR S β)
 | none=>none
 | some b=>some (.dn b)
theorem VV {l:List α} {mk:Nat->σ->S} {f:S->Option (LR S β)} {step:Nat->α->σ->Option (LR σ β)} {fin:σ->Option β}
  (hs : ∀ k x st,l[k]? = some x->f (mk k st)=rM (mk (k+1)) (step k x st)) (he : ∀ st,f (mk l.length st)=lw (fin st)) :
  ∀ (d n k:Nat) (st:σ),l.length-k=d->k<=l.length->d<n->Dp n f (mk k st)=PR step fin (l.drop k) k st:=by
 intro d
 induction d with
 | zero =>
  intro n k st h1 h2 h3;have hk:k=l.length:=by omega
  obtain ⟨m,rfl⟩ : ∃ m,n=m+1:=⟨n-1,by omega⟩;subst hk;unfold Dp;rw [he,List.drop_length];unfold lw PR;cases fin st<;>rfl
 | succ d ih =>
  intro n k st h1 h2 h3;obtain ⟨m,rfl⟩ : ∃ m,n=m+1:=⟨n-1,by omega⟩;have hk:k<l.length:=by omega
  have hx:l[k]? = some l[k]:=by simp [hk]
  unfold Dp;rw [hs k _ st hx,List.drop_eq_getElem_cons hk]
  show _=match step k l[k] st with
   | none=>none
   | some (.nx s')=>PR step fin (l.drop (k+1)) (k+1) s'
   | some (.dn b)=>some b
  cases step k l[k] st with
  | none=>rfl
  | some r=>cases r with
   | nx s'=>exact ih m (k+1) s' (by omega) (by omega) (by omega)
   | dn b=>rfl
theorem Yb {l:List α} (mk:Nat->σ->S) (step:Nat->α->σ->Option (LR σ β)) (fin:σ->Option β) {f:S->Option (LR S β)} {s:S} (st:σ) (h0:s=mk 0 st) (hl:l.length<=9223372036854775807)
  (hs : ∀ k x st,l[k]? = some x->f (mk k st)=rM (mk (k+1)) (step k x st)) (he : ∀ st,f (mk l.length st)=lw (fin st)) :
  loop f s=PR step fin l 0 st:=by
 subst h0;have:=VV hs he l.length 18446744073709551616 0 st (by omega) (by omega) (by omega);rw [List.drop_zero] at this;exact this
theorem Tf {f:α->Option (LR α β)} {x:β} : ∀ {n m:Nat} {s:α},n<=m->Dp n f s=some x->Dp m f s=some x
 | 0,_,_,_,h=>by cases h
 | n+1,0,_,hl,_=>by omega
 | n+1,m+1,s,hl,h=>by
  unfold Dp at h ⊢;split at h
  ·cases h
  ·rename_i s' e;exact Tf (by omega) h
  ·exact h
theorem Cq {f:α->Option (LR α β)} {x:β} {n:Nat} {s:α} (hn:n<=18446744073709551616) (h:Dp n f s=some x):loop f s=some x:=Tf hn h
theorem BS {f:α->Option (LR α β)} {n:Nat} {s s':α} (h:f s=some (.nx s')):Dp (n+1) f s=Dp n f s':=by
 show (match f s with
  | none=>none
  | some (.nx s)=>Dp n f s
  | some (.dn x)=>some x)=_
 rw [h]
theorem BX {f:α->Option (LR α β)} {n:Nat} {s:α} {x:β} (h:f s=some (.dn x)):Dp (n+1) f s=some x:=by
 show (match f s with
  | none=>none
  | some (.nx s)=>Dp n f s
  | some (.dn x)=>some x)=_
 rw [h]
theorem H2 {f : S -> Option (LR S β)} {r : β} (mk : Nat -> S) (n : Nat) {s : S} (h0 : s = mk 0) (hn : n < 18446744073709551616) (hs : ∀ k, k < n -> f (mk k) = some (.nx (mk (k + 1)))) (he : f (mk n) = some (.dn r)) : loop f s = some r := by
  subst h0
  have : ∀ d k, k + d = n -> Dp (d + 1) f (mk k) = some r := by
    intro d
    induction d with
    | zero => intro k hk; have : k = n := by omega
              subst this; exact BX he
    | succ d ih => intro k hk; rw [BS (hs k (by omega))]; exact ih (k + 1) (by omega)
  exact Cq (n := n + 1) (by omega) (this n 0 (by omega))
end
end Go.Proofs.YthpkjfabdccpdaaGreat.Pl
namespace Go.Proofs.YthpkjfabdccpdaaGreat.Pl
open Go Go.Proofs.YthpkjfabdccpdaaGreat.Sv
def kE (x:AB):Int:=if x.1.length>32\/x.2.1.length>64 then 3 else if x.2.2.1=true/\x.2.1≠[] then 6 else if x.2.2.2<1\/x.2.2.2>1000000000 then 7 else 0
def Jt:Option H1->Nat->List AB->Int×Int
 | _,_,[]=>(0,0)
 | p,k,x::l=>if kE x≠0 then ((k:Int),kE x) else match p with
  | some q=>if B3 q x.1=true then Jt (some x.1) (k+1) l else ((k:Int),6)
  | none=>Jt (some x.1) (k+1) l
def Cd (l:List AB):Int×Int:=if l.length>5000 then (-1,3) else Jt none 0 l
def Asc:Option H1->List AB->Prop
 | _,[]=>True
 | p,x::l=>(∀ q,p=some q->B3 q x.1=true)/\Asc (some x.1) l
theorem OY : ∀ {p k l},(Jt p k l).2=0<->(∀ x∈l,kE x=0)/\Asc p l
 | p,k,[]=>by simp [Jt,Asc]
 | p,k,x::l=>by
  unfold Jt;by_cases h:kE x=0
  ·rw [if_neg (by simp [h])];cases p with
   | none =>
    simp only [OY (p:=some x.1) (l:=l),Asc,List.mem_cons,forall_eq_or_imp];constructor
    ·rintro ⟨h1,h2⟩;exact ⟨⟨h,h1⟩,(λq hq=>by cases hq),h2⟩
    ·rintro ⟨⟨_,h1⟩,_,h2⟩;exact ⟨h1,h2⟩
   | some q =>
    simp only;by_cases hq:B3 q x.1=true
    ·rw [if_pos hq];simp only [OY (p:=some x.1) (l:=l),Asc,List.mem_cons,forall_eq_or_imp];constructor
     ·rintro ⟨h1,h2⟩;exact ⟨⟨h,h1⟩,(λq' hq'=>by cases hq';exact hq),h2⟩
     ·rintro ⟨⟨_,h1⟩,_,h2⟩;exact ⟨h1,h2⟩
    ·rw [if_neg hq];constructor
     ·intro h;cases h
     ·rintro ⟨_,h2⟩;exact absurd (h2.1 q rfl) hq
  ·rw [if_pos h];constructor
   ·intro h';exact absurd h' h
   ·rintro ⟨h1,_⟩;exact absurd (h1 x (by simp)) h
theorem NZ : ∀ {p k l},(Jt p k l).2=0->Jt p k l=(0,0)
 | p,k,[],_=>rfl
 | p,k,x::l,h=>by
  unfold Jt at h ⊢;by_cases hx:kE x=0
  ·rw [if_neg (by simp [hx])] at h ⊢;cases p with
   | none=>exact NZ h
   | some q =>
    simp only at h ⊢;by_cases hq:B3 q x.1=true
    ·rw [if_pos hq] at h ⊢;exact NZ h
    ·rw [if_neg hq] at h;cases h
  ·rw [if_pos hx] at h;exact absurd h hx
structure VL (l:List AB):Prop where
 len:l.length<=5000
 ok : ∀ x∈l,kE x=0
 asc:Asc none l
theorem Na {l:List AB}:(Cd l).2=0<->VL l:=by
 unfold Cd;by_cases h:l.length>5000
 ·rw [if_pos h];constructor
  ·intro h;cases h
  ·intro h';have:=h'.len;omega
 ·rw [if_neg h];rw [OY];exact ⟨λ⟨a,b⟩=>⟨by omega,a,b⟩,λh=>⟨h.ok,h.asc⟩⟩
theorem KQ {l:List AB} (h:VL l):Cd l=(0,0):=by
 have h2:=Na.2 h;unfold Cd at h2 ⊢;rw [if_neg (by have:=h.len;omega)] at h2 ⊢;exact NZ h2
theorem Asc.lt : ∀ {p:Option H1} {l:List AB},Asc p l -> ∀ {i:Nat} {x y:AB},l[i]? = some x->l[i+1]? = some y->B3 x.1 y.1=true
 | p,x::[],_,0,_,_,_,h2=>by simp at h2
 | p,a::b::l,h,0,x,y,h1,h2=>by
  simp at h1 h2;subst h1;subst h2;exact h.2.1 _ rfl
 | p,a::l,h,i+1,x,y,h1,h2=>by
  simp at h1 h2;exact Asc.lt h.2 h1 h2
theorem VL.lt {l:List AB} (h:VL l) {i:Nat} {x y:AB} (h1:l[i]? = some x) (h2:l[i+1]? = some y):B3 x.1 y.1=true:=h.asc.lt h1 h2
def kx (l:List AB) (i:Nat):AR:=match l[i]? with
 | some x=>(x.1,false)
 | none=>([],true)
def w0 (p q:AR):Bool:=if p.2≠q.2 then q.2 else if p.1≠q.1 then B3 p.1 q.1 else true
def IE (a b:List AB) (i j:Nat):Bool:=w0 (kx a i) (kx b j)
def Aq (a b:List AB):Nat->Nat×Nat
 | 0=>(0,0)
 | n+1=>if IE a b (Aq a b n).1 (Aq a b n).2=true then ((Aq a b n).1+1,(Aq a b n).2) else ((Aq a b n).1,(Aq a b n).2+1)
def OM (a b:List AB) (n:Nat):Option AB:=if IE a b (Aq a b n).1 (Aq a b n).2=true then a[(Aq a b n).1]? else b[(Aq a b n).2]?
structure Inv (a b:List AB) (i j:Nat):Prop where
 ia:i<=a.length
 jb:j<=b.length
 pa : ∀ i',i=i'+1 -> ∀ x y,a[i']? = some x->b[j]? = some y->B3 y.1 x.1=false
 pb : ∀ j',j=j'+1 -> ∀ x y,b[j']? = some x->a[i]? = some y->B3 x.1 y.1=true
theorem PS {a b:List AB} {i j:Nat} {x y:AB} (h1:a[i]? = some x) (h2:b[j]? = some y):IE a b i j = !B3 y.1 x.1:=by
 unfold IE w0 kx;rw [h1,h2];simp only [ne_eq,not_true,if_false];by_cases h:x.1=y.1
 ·rw [if_neg (by simp [h]),h,Fz];rfl
 ·rw [if_pos h];cases hs:B3 x.1 y.1 with
  | true=>rw [C1 hs];rfl
  | false=>rw [Lp hs h];rfl
theorem XT {a b:List AB} {i j:Nat} {x:AB} (h1:a[i]? = some x) (h2:b[j]? = none):IE a b i j=true:=by
 unfold IE w0 kx;rw [h1,h2];rfl
theorem XU {a b:List AB} {i j:Nat} {y:AB} (h1:a[i]? = none) (h2:b[j]? = some y):IE a b i j=false:=by
 unfold IE w0 kx;rw [h1,h2];rfl
theorem Th {a b:List AB} {i j:Nat} (h1:a[i]? = none) (h2:b[j]? = none):IE a b i j=true:=by
 unfold IE w0 kx;rw [h1,h2];rfl
theorem Inv.zero (a b:List AB):Inv a b 0 0:=⟨by omega,by omega,λ_ h=>by omega,λ_ h=>by omega⟩
theorem Inv.stepA {a b:List AB} (va:VL a) {i j:Nat} (h:Inv a b i j) {x:AB} (hx:a[i]? = some x) (g:IE a b i j=true):Inv a b (i+1) j:=by
 have hi:=(List.getElem?_eq_some_iff.1 hx).1;refine ⟨by omega,h.jb,λi' e x' y h1 h2 => ?_,λj' e x' y h1 h2 => ?_⟩
 ·have:i'=i:=by omega
  subst this;rw [hx] at h1;cases h1;rw [PS hx h2] at g;simpa using g
 ·exact DS (h.pb j' e x' x h1 hx) (va.lt hx h2)
theorem Inv.stepB {a b:List AB} (vb:VL b) {i j:Nat} (h:Inv a b i j) {y:AB} (hy:b[j]? = some y) (g:IE a b i j=false):Inv a b i (j+1):=by
 have hj:=(List.getElem?_eq_some_iff.1 hy).1;refine ⟨h.ia,by omega,λi' e x' y' h1 h2 => ?_,λj' e x' y' h1 h2 => ?_⟩
 ·have h3:=h.pa i' e x' y h1 hy;exact C1 (VU h3 (vb.lt hy h2))
 ·have:j'=j:=by omega
  subst this;rw [hy] at h1;cases h1;rw [PS h2 hy] at g;simpa using g
theorem F1 {a b:List AB} (va:VL a) (vb:VL b) : ∀ {n:Nat},n<=a.length+b.length->Inv a b (Aq a b n).1 (Aq a b n).2/\(Aq a b n).1+(Aq a b n).2=n
 | 0,_=>⟨Inv.zero a b,rfl⟩
 | n+1,h=>by
  obtain ⟨hI,hs⟩:=F1 va vb (n:=n) (by omega);rw [show Aq a b (n+1)=if IE a b (Aq a b n).1 (Aq a b n).2=true then ((Aq a b n).1+1,(Aq a b n).2) else ((Aq a b n).1,(Aq a b n).2+1) from rfl]
  revert hI hs;generalize (Aq a b n).1=i;generalize (Aq a b n).2=j;intro hI hs;cases g:IE a b i j with
  | true =>
   have hi:i<a.length:=by
    refine Nat.lt_of_not_le λh' => ?_;have h1:a[i]? = none:=List.getElem?_eq_none h';have h2:j<b.length:=by have:=hI.ia;omega
    rw [XU h1 (by simp [h2]:b[j]? = some b[j])] at g;cases g
   have:=hI.stepA va (by simp [hi]:a[i]? = some a[i]) g;rw [if_pos rfl];exact ⟨this,by omega⟩
  | false =>
   have hj:j<b.length:=by
    refine Nat.lt_of_not_le λh' => ?_;have h1:b[j]? = none:=List.getElem?_eq_none h';cases h2:a[i]? with
    | none=>rw [Th h2 h1] at g;cases g
    | some x=>rw [XT h2 h1] at g;cases g
   have:=hI.stepB vb (by simp [hj]:b[j]? = some b[j]) g;rw [if_neg (by simp)];exact ⟨this,by omega⟩
end Go.Proofs.YthpkjfabdccpdaaGreat.Pl
namespace Go.Proofs.YthpkjfabdccpdaaGreat.Pl
open Go Go.Proofs.YthpkjfabdccpdaaGreat.Sv
def Tt (p q:AR):EE:=([p,q],([0,if w0 p q=true then 1 else 0],if w0 p q=true then 0 else 1))
def Lz (a b:List AB) (i j:Nat):AT:=([a,b],([(i:Int),(j:Int)],Tt (kx a i) (kx b j)))
def jy (a b:List AB) (n:Nat):H1:=match OM a b n with
 | some x=>x.1
 | none=>[]
def fresh (a b:List AB) (n:Nat) (x:AB):Bool:=decide (n=0)||decide (jy a b (n-1)≠x.1)
def jF (a b:List AB) (bt:Bool):Nat->List AB
 | 0=>[]
 | n+1=>match OM a b n with
  | some x=>if (fresh a b n x && !(bt&&x.2.2.1))=true then jF a b bt n++[x] else jF a b bt n
  | none=>jF a b bt n
def rR (a b:List AB) (bt:Bool) (n:Nat):B7:=(decide (n≠0),(if n=0 then [] else jy a b (n-1),bt))
def rS (a b:List AB) (bt:Bool) (n:Nat):JV:=(Lz a b (Aq a b n).1 (Aq a b n).2,(rR a b bt n,(jF a b bt n,(n:Int))))
def A4 (a b:List AB):Nat->List AB
 | 0=>[]
 | n+1=>match OM a b n with
  | some x=>A4 a b n++[x]
  | none=>A4 a b n
section
variable {a b:List AB} (va:VL a) (vb:VL b)
include va vb
theorem EQ {n:Nat} (h:n<a.length+b.length) : ∃ x,OM a b n=some x/\(x∈a\/x∈b):=by
 obtain ⟨hI,hs⟩:=F1 va vb (n:=n) (by omega);unfold OM;revert hI hs;generalize (Aq a b n).1=i;generalize (Aq a b n).2=j;intro hI hs;cases g:IE a b i j with
 | true =>
  have hi:i<a.length:=by
   refine Nat.lt_of_not_le λh' => ?_;have h1:a[i]? = none:=List.getElem?_eq_none h';have h2:j<b.length:=by have:=hI.ia;omega
   rw [XU h1 (by simp [h2]:b[j]? = some b[j])] at g;cases g
  exact ⟨a[i],by simp [hi],.inl (List.getElem_mem hi)⟩
 | false =>
  have hj:j<b.length:=by
   refine Nat.lt_of_not_le λh' => ?_;have h1:b[j]? = none:=List.getElem?_eq_none h';cases h2:a[i]? with
   | none=>rw [Th h2 h1] at g;cases g
   | some x=>rw [XT h2 h1] at g;cases g
  exact ⟨b[j],by simp [hj],.inr (List.getElem_mem hj)⟩
theorem bZ {n:Nat} {x:AB} (h:OM a b n=some x):kE x=0:=by
 have:x∈a\/x∈b:=by
  unfold OM at h;split at h
  ·exact .inl (List.mem_of_getElem? h)
  ·exact .inr (List.mem_of_getElem? h)
 rcases this with h | h
 ·exact va.ok x h
 ·exact vb.ok x h
theorem XV {n:Nat} (hn:n+1<a.length+b.length) {x y:AB} (h1:OM a b n=some x) (h2:OM a b (n+1)=some y):B3 y.1 x.1=false:=by
 obtain ⟨hI,hs⟩:=F1 va vb (n:=n) (by omega);unfold OM at h1 h2;rw [show Aq a b (n+1)=if IE a b (Aq a b n).1 (Aq a b n).2=true then ((Aq a b n).1+1,(Aq a b n).2) else ((Aq a b n).1,(Aq a b n).2+1) from rfl] at h2
 revert hI hs h1 h2;generalize (Aq a b n).1=i;generalize (Aq a b n).2=j;intro h1 h2 hI hs;cases g:IE a b i j with
 | true =>
  rw [if_pos g] at h1;simp only [g,if_true] at h2;have hI':=hI.stepA va h1 g;cases g2:IE a b (i+1) j with
  | true=>rw [if_pos g2] at h2;exact C1 (va.lt h1 h2)
  | false=>rw [if_neg (by simp [g2])] at h2;exact hI'.pa i rfl x y h1 h2
 | false =>
  rw [if_neg (by simp [g])] at h1;simp only [g,if_false,Bool.false_eq_true] at h2;have hI':=hI.stepB vb h1 g;cases g2:IE a b i (j+1) with
  | true=>rw [if_pos g2] at h2;exact C1 (hI'.pb j rfl x y h1 h2)
  | false=>rw [if_neg (by simp [g2])] at h2;exact C1 (vb.lt h1 h2)
theorem Cj : ∀ {n:Nat},n<=a.length+b.length->(A4 a b n).length=n
 | 0,_=>rfl
 | n+1,h=>by
  obtain ⟨x,hx,_⟩:=EQ va vb (n:=n) (by omega);unfold A4;rw [hx];simp [Cj (n:=n) (by omega)]
theorem I4 : ∀ {n k:Nat},n<=a.length+b.length->k<n->(A4 a b n)[k]? = OM a b k
 | n+1,k,h,hk=>by
  obtain ⟨x,hx,_⟩:=EQ va vb (n:=n) (by omega);unfold A4;rw [hx];show (A4 a b n++[x])[k]? = _;have hl:=Cj va vb (n:=n) (by omega);by_cases hkn:k<n
  ·rw [List.getElem?_append_left (by omega)];exact I4 (by omega) hkn
  ·have:k=n:=by omega
   subst this;rw [List.getElem?_append_right (by omega),hl];simp [hx]
theorem VW {n m:Nat} (hm:m<=a.length+b.length) (h:n<=m):(A4 a b m).take n=A4 a b n:=by
 apply List.ext_getElem?;intro k;rw [List.getElem?_take];by_cases hk:k<n
 ·rw [if_pos hk,I4 va vb hm (by omega),I4 va vb (by omega) hk]
 ·rw [if_neg hk,List.getElem?_eq_none];rw [Cj va vb (by omega)];omega
end
end Go.Proofs.YthpkjfabdccpdaaGreat.Pl
namespace Go.Proofs.YthpkjfabdccpdaaGreat.Pl
open Go Go.Proofs.YthpkjfabdccpdaaGreat.Sv
theorem AU (n:Nat):AW n=(n:Int):=rfl
theorem AO {α:Type} (l:List α):AA l=l.length:=rfl
theorem JW (l:List UInt8):Fx l=l.length:=rfl
theorem DM:AY true=false:=rfl
theorem Ey:AY false=true:=rfl
theorem Bp {β:Type} (c:Bool) (x y:Unit->Option β):br (AY c) x y=br c y x:=ke c x y
theorem BE {β:Type} {a b:Nat} (h:a<=b) (k:Unit->Option β):gd (Aj a b) k=k ():=by rw [VS,if_pos h]
theorem LJ (k:H1):FJ k=some (if k.length>32 then 3 else 0):=by
 unfold FJ;rw [Av,AU,JW];by_cases h:k.length>32
 ·rw [if_pos (by omega),if_pos h]
 ·rw [if_neg (by omega),if_neg h]
theorem C2 (x:AB):Aw x=some (kE x):=by
 unfold Aw kE;rw [LJ,AC,AN];by_cases h1:x.1.length>32
 ·simp [h1]
 rw [if_neg h1,if_pos rfl,Av,AU,JW];by_cases h2:x.2.1.length>64
 ·rw [if_pos (by omega),if_pos (.inr h2)]
 rw [if_neg (by omega : ¬ (x.2.1.length:Int)>64),if_neg (by omega),HP];by_cases h3:x.2.2.1=true
 ·rw [if_pos h3,Bp,Ew];by_cases h4:x.2.1=[]
  ·rw [if_pos h4,if_neg (by simp [h4]),BD,Av];by_cases h5:x.2.2.2<1
   ·simp [h5]
   ·by_cases h6:x.2.2.2>1000000000<;>simp [h5,h6]
  ·rw [if_neg h4,if_pos ⟨h3,h4⟩]
 ·rw [if_neg h3,if_neg (by simp [h3]),BD,Av];by_cases h5:x.2.2.2<1
  ·simp [h5]
  ·by_cases h6:x.2.2.2>1000000000<;>simp [h5,h6]
theorem Ez (l:List AB) (hl:l.length<=9223372036854775807):BH l=some (Cd l):=by
 unfold BH Cd;rw [Av,AU,AO];by_cases h:l.length>5000
 ·rw [if_pos (by omega),if_pos h]
 rw [if_neg (by omega),if_neg h]
 have key:=Yb (β:=Nat×(Int×Int×Int)×Unit) (l:=l) (λk (_:Int)=>((0:Int),((0:Int),(k:Int))))
  (λk x _=>if kE x≠0 then some (.dn (0,((kE x,((k:Int),(k:Int))),()))) else if k>0 then
    (match l[k-1]? with
    | some y=>if B3 y.1 x.1=true then some (.nx 0) else some (.dn (0,(((6:Int),((k:Int),(k:Int))),())))
    | none=>none) else some (.nx 0))
  (λ_=>some (1,((0,(0,(l.length:Int))),()))) (s:=(0,(0,0))) (0:Int) rfl hl (f:=(λs0=>br (Ae s0.2.2 (AW (AA l))) (λ_=>AP s0.2.2 λk1=>ix l k1 λx2=>bd (Aw x2) λr3=>br (Ai r3 0) (λ_=>some (.dn ((0,((r3,(s0.2.2,s0.2.2)),()))))) λ_=>br (B6 s0.2.2 0) (λ_=>AP (BF .i64 s0.2.2 1) λk4=>ix l k4 λx5=>br (AY (B3 x5.1 x2.1)) (λ_=>some (.dn ((0,((6,(s0.2.2,s0.2.2)),()))))) λ_=>some (.nx ((s0.1,(s0.2.1,AH .i64 s0.2.2 1))))) λ_=>some (.nx ((s0.1,(s0.2.1,AH .i64 s0.2.2 1))))) λ_=>some (.dn ((1,(s0,()))))))
  (λk x st hx=>by
   simp only;rw [ki hx,AM,AE,AI hx,C2,AC,AN];by_cases h1:kE x=0
   ·have hk:k<l.length:=(List.getElem?_eq_some_iff.1 hx).1;simp only [h1,if_true,ne_eq,not_true,if_false];rw [Av];by_cases h2:k>0
    ·rw [if_pos (by omega:(k:Int)>0),if_pos h2,Bu (by omega),show ((k:Int)-1)=((k-1:Nat):Int) by omega,AE];have hy:l[k-1]? = some l[k-1]:=by rw [List.getElem?_eq_getElem (by omega)]
     rw [AI hy,hy,Bp,GW];simp only;by_cases h3:B3 l[k-1].1 x.1=true
     ·rw [if_pos h3,if_pos h3,As hx hl];rfl
     ·rw [if_neg h3,if_neg h3];rfl
    ·rw [if_neg (by omega : ¬ (k:Int)>0),if_neg h2,As hx hl];rfl
   ·simp only [h1,if_false,ne_eq,not_false_iff,if_true];rfl)
  (λst=>by
   simp only
   rw [jE,AV];rfl)
 simp only [AU,AO] at key;rw [key]
 have main : ∀ (m:List AB) (k:Nat) (p:Option H1),l.drop k=m->(p=if k=0 then none else (l[k-1]?).map (·.1)) -> ∀ st,bd (PR (β:=Nat×(Int×Int×Int)×Unit) (λk x (_:Int)=>if kE x≠0 then some (.dn (0,((kE x,((k:Int),(k:Int))),()))) else if k>0 then
    (match l[k-1]? with
    | some y=>if B3 y.1 x.1=true then some (.nx 0) else some (.dn (0,(((6:Int),((k:Int),(k:Int))),())))
    | none=>none) else some (.nx (0:Int))) (λ_=>some (1,((0,(0,(l.length:Int))),()))) m k st) (λr6=>br (neq r6.1 0) (λ_=>some (r6.2.1.2.1,r6.2.1.1)) λ_=>some ((0:Int),(0:Int)))=some (Jt p k m):=by
  intro m
  induction m with
  | nil=>intro k p _ _ st;rfl
  | cons x m ih =>
   intro k p hm hp st
   have hx:l[k]? = some x:=by
    have:=congrArg List.head? hm;rw [List.head?_drop] at this;simpa using this
   have hk:k<l.length:=(List.getElem?_eq_some_iff.1 hx).1
   have hm2:l.drop (k+1)=m:=by
    have:=congrArg List.tail hm;rw [List.tail_drop] at this;simpa using this
   unfold PR Jt;by_cases h1:kE x=0
   ·simp only [h1,ne_eq,not_true,if_false];by_cases h2:k>0
    ·have hy:l[k-1]? = some l[k-1]:=by rw [List.getElem?_eq_getElem (by omega)]
     rw [if_pos h2,hy];rw [if_neg (by omega : ¬ k=0),hy] at hp;subst hp;simp only [Option.map_some];by_cases h3:B3 l[k-1].1 x.1=true
     ·rw [if_pos h3,if_pos h3];exact ih (k+1) (some x.1) hm2 (by rw [if_neg (by omega)];simp [hx]) 0
     ·rw [if_neg h3,if_neg h3];rfl
    ·have hk0:k=0:=by omega
     subst hk0;rw [if_neg h2];simp only [if_true] at hp;subst hp;exact ih 1 (some x.1) hm2 (by simp [hx]) 0
   ·simp only [h1,ne_eq,not_false_iff,if_true];rfl
 exact main l 0 none (by simp) (by simp) 0
theorem Mi {α β σ S:Type} {l:List α} (mk:Nat->σ->S) (F:List α->Nat->σ->Option β) {f:S->Option (LR S β)} {s:S} (st:σ) (h0:s=mk 0 st) (hl:l.length<=9223372036854775807)
  (hn : ∀ st,f (mk l.length st)=lw (F [] l.length st))
  (hc : ∀ k x m st,l.drop k=x::m->l[k]? = some x->k<l.length->(∃ st',f (mk k st)=some (.nx (mk (k+1) st'))/\F (x::m) k st=F m (k+1) st')\/f (mk k st)=lw (F (x::m) k st)):loop f s=F l 0 st:=by
 subst h0
 have main : ∀ (m:List α) (k n:Nat) (st:σ),l.drop k=m->k<=l.length->m.length<n->Dp n f (mk k st)=F m k st:=by
  intro m
  induction m with
  | nil =>
   intro k n st hm hk hn';obtain ⟨n,rfl⟩ : ∃ j,n=j+1:=⟨n-1,by omega⟩
   have hkl:k=l.length:=by
    have:=congrArg List.length hm;simp at this;omega
   subst hkl;unfold Dp;rw [hn];cases F [] l.length st<;>rfl
  | cons x m ih =>
   intro k n st hm hk hn';obtain ⟨n,rfl⟩ : ∃ j,n=j+1:=⟨n-1,by omega⟩
   have hx:l[k]? = some x:=by
    have:=congrArg List.head? hm;rw [List.head?_drop] at this;simpa using this
   have hk':k<l.length:=(List.getElem?_eq_some_iff.1 hx).1
   have hm2:l.drop (k+1)=m:=by
    have:=congrArg List.tail hm;rw [List.tail_drop] at this;simpa using this
   rcases hc k x m st hm hx hk' with ⟨st',h1,h2⟩ | h1
   ·rw [BS h1,h2];exact ih (k+1) n st' hm2 (by omega) (by simp at hn';omega)
   ·unfold Dp;rw [h1];cases F (x::m) k st<;>rfl
 exact main l 0 _ st (by simp) (by omega) (by omega)
theorem rl {α:Type} {l:List α} {k:Nat} (h:k<l.length):Ae (k:Int) (l.length:Int)=true:=by unfold Ae;simp;omega
theorem re {α:Type} (l:List α):Ae (l.length:Int) (l.length:Int)=false:=by unfold Ae;simp
theorem A7 {α β:Type} {m:Option α} {x:α} {k:α->Option β} {r:Option β} (h:m=some x) (e:k x=r):bd m k=r:=by subst h;exact e
theorem Nb (k:AR):DQ k=some (k.2&&decide (k.1≠[])):=by
 unfold DQ;rw [HP];cases h:k.2 with
 | true=>rw [if_pos rfl,Lq];simp [AY]
 | false=>rw [if_neg (by simp)];rfl
def Ek (k:AR):Prop:=k.2=true->k.1=[]
theorem jG {k:AR} (h:Ek k):DQ k=some false:=by
 rw [Nb];cases h2:k.2 with
 | true=>simp [h h2]
 | false=>rfl
theorem Bi (l:List AB) (i:Nat):Ek (kx l i):=by
 unfold kx Ek;split<;>simp
theorem G5 {l:List AR} (h : ∀ k∈l,Ek k) (h0:l≠[]) (hl:l.length<=32):Df l=some 0:=by
 unfold Df;simp only [AU,AO];rw [BI,Av,if_neg (by have:=List.length_pos_iff.2 h0;omega),if_neg (by omega)]
 rw [Mi (l:=l) (σ:=Unit) (s:=(0,0)) (λk _=>((0:Int),(k:Int))) (λ_ _ _=>some (1,((0,(l.length:Int)),()))) () rfl (by omega) (λst=>by
  simp only;rw [re];rfl) (λk x m st _ hx hk => .inl ⟨(),by
   simp only;rw [rl hk,AM,AE,AI hx,jG (h x (List.mem_of_getElem? hx)),AC,AV,As hx (by omega)],rfl⟩),AC]
 rfl
theorem KR {α:Type} {l:List α} (h:l.length<=1048576):(gd (Aj (AA l) 1048576) λ_=>some l)=some l:=BE h _
theorem Ti (p q:AR):FL [p,q]=some (Tt p q):=by
 have hw:w0 p q=(if p.2≠q.2 then q.2 else if p.1≠q.1 then B3 p.1 q.1 else true):=rfl
 unfold FL;simp only [AU,AO,List.length_cons,List.length_nil];rw [show NF .i64 2 ((0+1+1:Nat):Int)=4 from rfl,show BF .i64 4 1=3 from rfl];unfold Al;rw [show AP 4=λk=>k 4 from rfl];simp only [BE (show 4<=1048576 by omega),KR (show [p,q].length<=1048576 by simp),AC];rw [show AP ((0+1+1:Nat):Int)=λk=>k 2 from rfl];simp only [BE (show 2<=1048576 by omega)];have fin : ∀ {w l:Int} {x:Nat×((Int×(List Int×(List AR×(List Int×Int))))×Unit)},x=(0,((0,([0,w,0,1],([p,q],([0,l],0)))),()))->(gd (CD 1 (AA x.2.1.2.1)) λ_=>ix x.2.1.2.1 1 λx41=>some ((x.2.1.2.2.1,(x.2.1.2.2.2.1,x41))))=some ([p,q],([0,l],w)):=λe=>by subst e;rfl
 have go : ∀ {f:(Int×(List Int×(List AR×(List Int×Int))))->Option (LR (Int×(List Int×(List AR×(List Int×Int)))) (Nat×((Int×(List Int×(List AR×(List Int×Int))))×Unit)))} {w l:Int},f (3,([0,0,0,0],([p,q],([0,0],0))))=some (.nx (2,([0,0,0,1],([p,q],([0,0],0)))))->f (2,([0,0,0,1],([p,q],([0,0],0))))=some (.nx (1,([0,0,0,1],([p,q],([0,0],0))))) ->
   f (1,([0,0,0,1],([p,q],([0,0],0))))=some (.nx (0,([0,w,0,1],([p,q],([0,l],0)))))->f (0,([0,w,0,1],([p,q],([0,l],0))))=some (.dn (0,((0,([0,w,0,1],([p,q],([0,l],0)))),()))) ->
   loop f (3,([0,0,0,0],([p,q],([0,0],0))))=some (0,((0,([0,w,0,1],([p,q],([0,l],0)))),())):=λh1 h2 h3 h4 =>
  Cq (n:=4) (by omega) ((BS h1).trans ((BS h2).trans ((BS h3).trans (BX h4))))
 have st : ∀ {β:Type} (A B:Option β),w0 p q=true->br (AY (beq p.2 q.2)) (λ_=>br (AY q.2) (λ_=>B) λ_=>A) (λ_=>br (AY (seq p.1 q.1)) (λ_=>br (AY (B3 p.1 q.1)) (λ_=>B) λ_=>A) λ_=>A)=A:=fun {β} A B h=>by
  rw [hw] at h;rw [Bp (beq p.2 q.2),HP (beq p.2 q.2),Bp q.2,HP q.2,Bp (seq p.1 q.1),Ew,Bp (B3 p.1 q.1),GW];by_cases h1:p.2=q.2
  ·rw [if_neg (by simp [h1])] at h;rw [if_pos (by simp [Sv.beq,h1])];by_cases h2:p.1=q.1
   ·rw [if_pos h2]
   ·rw [if_neg h2];rw [if_pos h2] at h;rw [if_pos h]
  ·rw [if_pos h1] at h;rw [if_neg (by simp [Sv.beq,h1]),if_pos h]
 have st2 : ∀ {β:Type} (A B:Option β),w0 p q≠true->br (AY (beq p.2 q.2)) (λ_=>br (AY q.2) (λ_=>B) λ_=>A) (λ_=>br (AY (seq p.1 q.1)) (λ_=>br (AY (B3 p.1 q.1)) (λ_=>B) λ_=>A) λ_=>A)=B:=fun {β} A B h=>by
  rw [hw] at h;rw [Bp (beq p.2 q.2),HP (beq p.2 q.2),Bp q.2,HP q.2,Bp (seq p.1 q.1),Ew,Bp (B3 p.1 q.1),GW];by_cases h1:p.2=q.2
  ·rw [if_neg (by simp [h1])] at h;rw [if_pos (by simp [Sv.beq,h1])];by_cases h2:p.1=q.1
   ·rw [if_neg (by simp [h2])] at h;exact absurd rfl h
   ·rw [if_neg h2];rw [if_pos h2] at h;rw [if_neg h]
  ·rw [if_pos h1] at h;rw [if_neg (by simp [Sv.beq,h1]),if_neg h]
 rw [show CO 4 (0:Int)=[0,0,0,0] from rfl,show CO 2 (0:Int)=[0,0] from rfl];by_cases h:w0 p q=true
 ·refine A7 (x:=(0,((0,([0,0,0,1],([p,q],([0,1],0)))),()))) ?_ ?_;refine Cq (n:=4) (by omega) ?_;refine (BS (s':=(2,([0,0,0,1],([p,q],([0,0],0))))) ?_).trans ((BS (s':=(1,([0,0,0,1],([p,q],([0,0],0))))) ?_).trans ((BS (s':=(0,([0,0,0,1],([p,q],([0,1],0))))) ?_).trans (BX ?_)))
  ·rfl
  ·rfl
  ·exact st _ _ h
  ·rfl
  ·show some ([p,q],([0,1],0))=_;unfold Tt;simp [h]
 ·refine A7 (x:=(0,((0,([0,1,0,1],([p,q],([0,0],0)))),()))) ?_ ?_;refine Cq (n:=4) (by omega) ?_;refine (BS (s':=(2,([0,0,0,1],([p,q],([0,0],0))))) ?_).trans ((BS (s':=(1,([0,0,0,1],([p,q],([0,0],0))))) ?_).trans ((BS (s':=(0,([0,1,0,1],([p,q],([0,0],0))))) ?_).trans (BX ?_)))
  ·rfl
  ·rfl
  ·exact st2 _ _ h
  ·rfl
  ·show some ([p,q],([0,0],1))=_;unfold Tt;simp [h]
theorem Nc {p q:AR} (hp:Ek p) (hq:Ek q):CW [p,q]=some (Tt p q,0):=by
 unfold CW;rw [G5 (by simp [hp,hq]) (by simp) (by simp),AC,AN,if_pos rfl,Ti,AC]
theorem VX {p q:AR} (hp:Ek p) (hq:Ek q):Fe (Tt p q)=some (0,0):=by
 unfold Fe;rw [show (Tt p q).1=[p,q] from rfl,G5 (by simp [hp,hq]) (by simp) (by simp),AC,AN,if_pos rfl,AN,if_pos (show AW (AA (Tt p q).2.1)=AW (AA [p,q]) from rfl),Ti,AC];simp only [AU,AO]
 rw [Mi (l:=(Tt p q).2.1) (σ:=Unit) (s:=(0,(0,0))) (λk _=>((0:Int),((k:Int),(0:Int)))) (λ_ _ _=>some (1,((0,(((Tt p q).2.1.length:Int),0)),()))) () rfl (show 2<=9223372036854775807 by omega) (λst=>by
  simp only;rw [re];rfl) (λk x m st _ hx hk => .inl ⟨(),by
   simp only;rw [rl hk,AM,AE,AI hx,AE,AI hx,AN,if_pos rfl,As hx (show 2<=9223372036854775807 by omega)],rfl⟩),AC]
 rw [show neq 1 0=false from rfl,AV,AN,if_pos rfl]
def wn (p q:AR):Nat:=if w0 p q=true then 0 else 1
def wk (p q:AR):AR:=if w0 p q=true then p else q
theorem VY (p q:AR):(Tt p q).2.2=(wn p q:Int):=by unfold Tt wn;split<;>rfl
theorem VZ (p q:AR):(Tt p q).1[wn p q]? = some (wk p q):=by unfold Tt wn wk;split<;>rfl
theorem Tj {p q:AR} (hp:Ek p) (hq:Ek q):FM (Tt p q)=some (if (wk p q).2=true then 12 else 0):=by
 unfold FM;rw [VX hp hq,AC,AN,if_pos rfl,VY,AE,AI (VZ p q),HP];split<;>rfl
theorem H3 {p q:AR} (hp:Ek p) (hq:Ek q):Cb (Tt p q)=some (if (wk p q).2=true then (0,([],12)) else ((wn p q:Int),((wk p q).1,0))):=by
 unfold Cb;rw [Tj hp hq,AC,AN,VY,AE,AI (VZ p q)];by_cases h:(wk p q).2=true<;>simp [h]
def rk (p q k:AR):AR×AR:=if w0 p q=true then (k,q) else (p,k)
theorem ba (p q:AR):Bg (0,(1,([p,q],())))=some (w0 p q):=by
 unfold Bg w0;show br (AY (beq p.2 q.2)) (λ_=>some q.2) (λ_=>br (AY (seq p.1 q.1)) (λ_=>some (B3 p.1 q.1)) λ_=>some (Ae 0 1))=_;rw [Bp (beq p.2 q.2),HP (beq p.2 q.2),Bp (seq p.1 q.1),Ew];by_cases h1:p.2=q.2
 ·rw [if_pos (show Sv.beq p.2 q.2=true by simp [Sv.beq,h1]),if_neg (show ¬ p.2≠q.2 by simp [h1])];by_cases h2:p.1=q.1
  ·rw [if_pos h2,if_neg (show ¬ p.1≠q.1 by simp [h2])];rfl
  ·rw [if_neg h2,if_pos h2]
 ·rw [if_neg (show ¬ Sv.beq p.2 q.2=true by simp [Sv.beq,h1]),if_pos h1]
theorem bc (p q:AR):Bg (1,(0,([p,q],())))=some (!w0 p q):=by
 unfold Bg w0;show br (AY (beq q.2 p.2)) (λ_=>some p.2) (λ_=>br (AY (seq q.1 p.1)) (λ_=>some (B3 q.1 p.1)) λ_=>some (Ae 1 0))=_;rw [Bp (beq q.2 p.2),HP (beq q.2 p.2),Bp (seq q.1 p.1),Ew];by_cases h1:p.2=q.2
 ·rw [if_pos (show Sv.beq q.2 p.2=true by simp [Sv.beq,h1]),if_neg (show ¬ p.2≠q.2 by simp [h1])];by_cases h2:p.1=q.1
  ·rw [if_pos h2.symm,if_neg (show ¬ p.1≠q.1 by simp [h2])];rfl
  ·rw [if_neg (show ¬ q.1=p.1 from λe=>h2 e.symm),if_pos h2];cases hs:B3 p.1 q.1 with
   | true=>rw [C1 hs];rfl
   | false=>rw [Lp hs h2];rfl
 ·rw [if_neg (show ¬ Sv.beq q.2 p.2=true by simp [Sv.beq,Ne.symm h1]),if_pos h1];cases hp:p.2<;>cases hq:q.2<;>simp_all
theorem IT {p q k:AR} (hp:Ek p) (hq:Ek q) (hk:Ek k) (hw:(wk p q).2=false) (hle:k.2=true\/B3 k.1 (wk p q).1=false) :
  ∃ n,CN (Tt p q,k)=some (Tt (rk p q k).1 (rk p q k).2,(n,0)):=by
 have hlen:(Tt p q).1.length<=1048576:=by show 2<=_;omega
 have hlen2:(Tt p q).2.1.length<=1048576:=by show 2<=_;omega
 have hset:lset (Tt p q).1 (wn p q) k=[(rk p q k).1,(rk p q k).2]:=by unfold Tt wn rk;split<;>rfl
 have hlose:(Tt p q).2.1=[0,(1-(wn p q:Int))]:=by unfold Tt wn;split<;>rfl
 have hwn:wn p q=0\/wn p q=1:=by unfold wn;split<;>simp
 have up : ∀ {f:(Int×(Int×(Unit×(List Int×Int))))->Option (LR (Int×(Int×(Unit×(List Int×Int)))) (Nat×((Int×(Int×(Unit×(List Int×Int))))×Unit)))},
   (f=λs8=>br (BJ (IC .i64 s8.2.1 2) 0) (λ_=>some (.dn ((0,((s8.1,(IC .i64 s8.2.1 2,((),s8.2.2.2))),()))))) λ_=>AP (IC .i64 s8.2.1 2) λk9=>gd (CD k9 (AA s8.2.2.2.1)) λ_=>ix s8.2.2.2.1 k9 λx10=>bd (Bg ((x10,(s8.2.2.2.2,([(rk p q k).1,(rk p q k).2],()))))) λr11=>br r11 (λ_=>AP (IC .i64 s8.2.1 2) λk12=>gd (CD k12 (AA s8.2.2.2.1)) λ_=>ix s8.2.2.2.1 k12 λx13=>AP (IC .i64 s8.2.1 2) λk14=>gd (CD k14 (AA s8.2.2.2.1)) λ_=>ix s8.2.2.2.1 k14 λx15=>some (.nx ((AH .i64 s8.1 1,(IC .i64 s8.2.1 2,((),(lset s8.2.2.2.1 k14 s8.2.2.2.2,x13))))))) λ_=>some (.nx ((AH .i64 s8.1 1,(IC .i64 s8.2.1 2,((),s8.2.2.2))))))
   -> loop f (0,((2:Int)+wn p q,((),([0,(1-(wn p q:Int))],(wn p q:Int)))))=some (0,((1,(0,((),(Tt (rk p q k).1 (rk p q k).2).2))),())):=by
  intro f hf;subst hf;refine Cq (n:=2) (by omega) ((BS (s':=(1,(1,((),(Tt (rk p q k).1 (rk p q k).2).2)))) ?_).trans (BX rfl));rcases hwn with h | h
  ·rw [h]
   have hw0:w0 p q=true:=by
    unfold wn at h;by_cases hh:w0 p q=true
    ·exact hh
    ·rw [if_neg hh] at h;cases h
   show bd (Bg (1,(0,([(rk p q k).1,(rk p q k).2],())))) _=_;rw [bc,AC];unfold Tt;cases hz:w0 (rk p q k).1 (rk p q k).2<;>rfl
  ·rw [h];show bd (Bg (0,(1,([(rk p q k).1,(rk p q k).2],())))) _=_;rw [ba,AC];unfold Tt;cases hz:w0 (rk p q k).1 (rk p q k).2<;>rfl
 unfold CN;simp only [Tj hp hq,hw,AC,AN,if_true,if_false,Bool.false_eq_true];rw [G5 (by simp [hk]) (by simp) (by simp),AC];simp only [if_true,Bp];rw [HP];unfold Al A0;simp only [VY,AE,AI (VZ p q),BE hlen,BE hlen2,AC,GW,NY,AO,AU,hset];have hlt:wn p q<(Tt p q).1.length:=by show wn p q<2;omega
 have hi:AH .i64 (([(rk p q k).1,(rk p q k).2].length:Nat):Int) (wn p q:Int)=(2:Int)+wn p q:=by
  rw [CV (by simp;omega)];rfl
 rw [hi,hlose];simp only [AO,NY] at up;have key:=up rfl;rw [if_pos hlt];by_cases hk2:k.2=true
 ·rw [if_pos hk2,key,AC];exact ⟨_,rfl⟩
 ·rw [if_neg hk2,if_neg (by rcases hle with h | h;exact absurd h hk2;rw [h];simp),key,AC]
  exact ⟨_,rfl⟩
end Go.Proofs.YthpkjfabdccpdaaGreat.Pl
namespace Go.Proofs.YthpkjfabdccpdaaGreat.Pl
open Go Go.Proofs.YthpkjfabdccpdaaGreat.Sv
theorem Ce {S β:Type} {f:S->Option (LR S β)} {s0 s1 s2:S} {r:β} (h0:f s0=some (.nx s1)) (h1:f s1=some (.nx s2)) (h2:f s2=some (.dn r)):loop f s0=some r :=
 Cq (n:=3) (by omega) ((BS h0).trans ((BS h1).trans (BX h2)))
theorem ON {α β:Type} {c:Bool} {n:Int} {l:List α} {K:Nat->α->Option β} {E:Unit->Option β} (k:Nat) {x:α} (hc:c=true) (hn:n=(k:Int)) (hx:l[k]? = some x):br c (λ_=>AP n λk1=>ix l k1 λx2=>K k1 x2) E=K k x:=by
 subst hc;subst hn;rw [AM,AE,AI hx]
theorem E0 {α β:Type} {n:Int} {l:List α} {K:Nat->α->Option β} (k:Nat) {x:α} (hn:n=(k:Int)) (hx:l[k]? = some x):AP n (λk1=>ix l k1 λx2=>K k1 x2)=K k x:=by
 subst hn;rw [AE,AI hx]
theorem HF {l:List AB} {i:Nat} (h:i<=l.length):BK (l,(i:Int))=some (kx l i):=by
 unfold BK kx;simp only [AU,AO];rw [BI];by_cases hi:i=l.length
 ·rw [if_pos (by omega),List.getElem?_eq_none (by omega)]
 ·have hx:l[i]? = some l[i]:=by rw [List.getElem?_eq_getElem (by omega)]
  rw [if_neg (by omega),AE,AI hx,hx]
section
variable {a b:List AB} (va:VL a) (vb:VL b)
theorem bf {i j:Nat} (hi:i<=a.length) (hj:j<=b.length):GT ([a,b],[(i:Int),(j:Int)])=some (Tt (kx a i) (kx b j)):=by
 unfold GT;refine A7 (x:=(0,((2,[kx a i,kx b j]),()))) (Ce (s1:=(1,[kx a i,([],false)])) (s2:=(2,[kx a i,kx b j])) ?_ ?_ rfl) ?_
 ·show bd (BK (a,(i:Int))) _=_;rw [HF hi];rfl
 ·show bd (BK (b,(j:Int))) _=_;rw [HF hj];rfl
 ·show bd (CW [kx a i,kx b j]) _=_;rw [Nc (Bi _ _) (Bi _ _)];rfl
include va vb
theorem Mj:BH a=some (0,0):=by
 rw [Ez _ (by have:=va.len;omega),KQ va]
theorem Lr:De [a,b]=some (0,0):=by
 unfold De;refine A7 (x:=(1,((0,(0,2)),()))) (Ce (s1:=(0,(0,1))) (s2:=(0,(0,2))) ?_ ?_ rfl) rfl
 ·show bd (BH a) _=_;rw [Mj va va];rfl
 ·show bd (BH b) _=_;rw [Mj vb vb];rfl
theorem Yc (bt:Bool):Eu ([a,b],bt)=some (rS a b bt 0,(0,0)):=by
 unfold Eu;rw [Lr va vb,AC,AN,if_pos rfl];refine A7 (x:=(0,((2,[kx a 0,kx b 0]),()))) (Ce (s1:=(1,[kx a 0,([],false)])) (s2:=(2,[kx a 0,kx b 0])) ?_ ?_ rfl) ?_
 ·show bd (BK (a,((0:Nat):Int))) _=_;rw [HF (by omega)];rfl
 ·show bd (BK (b,((0:Nat):Int))) _=_;rw [HF (by omega)];rfl
 ·show bd (CW [kx a 0,kx b 0]) _=_;rw [Nc (Bi _ _) (Bi _ _)];rfl
end
theorem IU (x:Bool):Sv.beq x x=true:=by cases x<;>rfl
theorem JX (x:H1):seq x x=true:=by rw [IS]
theorem Va (l:List AR) (h:l.length<=1000):Am (l,l)=some true:=by
 unfold Am;simp only [AU,AO]
 rw [AN,if_pos rfl,Mi (l:=l) (σ:=Unit) (s:=(0,false)) (λk _=>((k:Int),false)) (λ_ _ _=>some (1,(((l.length:Int),false),()))) () rfl (by omega) (λst=>by
  simp only;rw [re];rfl) (λk x m st _ hx hk => .inl ⟨(),by
   simp only;rw [rl hk,AM,AE,AI hx,AE,AI hx,JX,IU,show AY (Bo true (Bo true true))=false from rfl,AV,As hx (by omega)],rfl⟩),AC]
 rfl
theorem Vb (l:List Int) (h:l.length<=1000):Ag (l,l)=some true:=by
 unfold Ag;simp only [AU,AO]
 rw [AN,if_pos rfl,Mi (l:=l) (σ:=Unit) (s:=(0,false)) (λk _=>((k:Int),false)) (λ_ _ _=>some (1,(((l.length:Int),false),()))) () rfl (by omega) (λst=>by
  simp only;rw [re];rfl) (λk x m st _ hx hk => .inl ⟨(),by
   simp only;rw [rl hk,AM,AE,AI hx,AE,AI hx,AN,if_pos rfl,As hx (by omega)],rfl⟩),AC]
 rfl
theorem Yd (t:EE) (h1:t.1.length<=1000) (h2:t.2.1.length<=1000):EW (t,t)=some true:=by
 unfold EW;rw [BI,if_pos rfl,Va _ h1,AC,AM,Vb _ h2];rfl
theorem Ye (p q:AR):EW (Tt p q,Tt p q)=some true:=Yd _ (show 2<=1000 by omega) (show 2<=1000 by omega)
theorem Yf {a b:List AB} {i j:Nat} (h:IE a b i j=true):wk (kx a i) (kx b j)=kx a i/\wn (kx a i) (kx b j)=0:=by
 unfold IE at h;unfold wk wn;rw [if_pos h,if_pos h];exact ⟨rfl,rfl⟩
theorem Yg {a b:List AB} {i j:Nat} (h:IE a b i j=false):wk (kx a i) (kx b j)=kx b j/\wn (kx a i) (kx b j)=1:=by
 unfold IE at h;unfold wk wn;rw [if_neg (by simp [h]),if_neg (by simp [h])];exact ⟨rfl,rfl⟩
theorem XW (x y:H1):Cc (x,y)=some (if B3 x y=true then -1 else if B3 y x=true then 1 else 0):=by
 unfold Cc DB;simp only [JX,DM,AC,AV];rw [GW,GW];split
 ·rfl
 ·split<;>rfl
theorem XX (x y:Int):CK (x,y)=some (if x<y then -1 else if x>y then 1 else 0):=by
 unfold CK EN;simp only [AC,AN,if_true,BD,Av];split
 ·rfl
 ·split<;>rfl
theorem bg (x y:Int):GU [x,y]=some (if x≠0 then x else y):=by
 unfold GU;by_cases h:x=0
 ·rw [if_neg (by simp [h])];by_cases h2:y=0
  ·refine A7 (x:=(1,((0,2),()))) (Ce (s1:=(0,1)) (s2:=(0,2)) ?_ ?_ rfl) (by rw [h2];rfl)
   ·refine (ON 0 rfl rfl rfl).trans ?_;rw [AN,if_pos h];rfl
   ·refine (ON 1 rfl rfl rfl).trans ?_;rw [AN,if_pos h2];rfl
  ·refine A7 (x:=(0,((y,1),()))) (Cq (n:=2) (by omega) ((BS (s':=(0,1)) ?_).trans (BX ?_))) rfl
   ·refine (ON 0 rfl rfl rfl).trans ?_;rw [AN,if_pos h];rfl
   ·refine (ON 1 rfl rfl rfl).trans ?_;rw [AN,if_neg h2]
 ·rw [if_pos h];refine A7 (x:=(0,((x,0),()))) (Cq (n:=1) (by omega) (BX ?_)) rfl;refine (ON 0 rfl rfl rfl).trans ?_;rw [AN,if_neg h]
section
variable {a b:List AB} (va:VL a) (vb:VL b)
include va vb
theorem Kz {i j:Nat} (I:Inv a b i j):Dg (Lz a b i j)=some (0,0):=by
 unfold Dg;rw [show (Lz a b i j).1=[a,b] from rfl,Lr va vb,AC,AN,if_pos rfl];rw [show (Lz a b i j).2.1=[(i:Int),(j:Int)] from rfl,AN,if_pos (show AW (AA [(i:Int),(j:Int)])=AW (AA [a,b]) from rfl)];refine A7 (x:=(1,((0,(0,2)),()))) (Ce (s1:=(0,(0,1))) (s2:=(0,(0,2))) ?_ ?_ rfl) ?_
 ·refine (ON 0 rfl rfl rfl).trans ?_;rw [BD,if_neg (by omega),show AP (((0:Int),((0:Int),(0:Int))).2.2)=λ(k:Nat->Option (LR (Int×(Int×Int)) (Nat×((Int×(Int×Int))×Unit))))=>k 0 from rfl];simp only;rw [AI (x:=a) rfl,Av,if_neg (by have:=I.ia;simp only [AU,AO];omega)];rfl
 ·refine (ON 1 rfl rfl rfl).trans ?_;rw [BD,if_neg (by omega),show AP (((0:Int),((0:Int),(1:Int))).2.2)=λ(k:Nat->Option (LR (Int×(Int×Int)) (Nat×((Int×(Int×Int))×Unit))))=>k 1 from rfl];simp only;rw [AI (x:=b) rfl,Av,if_neg (by have:=I.jb;simp only [AU,AO];omega)];rfl
 rw [show neq ((1:Nat),(((0:Int),((0:Int),(2:Int))),())).1 0=false from rfl,AV,bf I.ia I.jb,AC,show (Lz a b i j).2.2=Tt (kx a i) (kx b j) from rfl,Ye,AC,show AY true=false from rfl,AV,H3 (Bi _ _) (Bi _ _),AC];by_cases hd:(wk (kx a i) (kx b j)).2=true
 ·rw [if_pos hd];rfl
 rw [if_neg hd,AN,if_pos rfl]
 have la : ∀ {x:AB} {i':Nat},i=i'+1->a[i']? = some x -> ¬ (if (if B3 x.1 (wk (kx a i) (kx b j)).1=true then (-1:Int) else if B3 (wk (kx a i) (kx b j)).1 x.1=true then 1 else 0)≠0 then (if B3 x.1 (wk (kx a i) (kx b j)).1=true then (-1:Int) else if B3 (wk (kx a i) (kx b j)).1 x.1=true then 1 else 0) else (if (0:Int)<(wn (kx a i) (kx b j):Int) then -1 else if (0:Int)>(wn (kx a i) (kx b j):Int) then 1 else 0))>0:=by
  intro x i' hi hx
  have hle:B3 (wk (kx a i) (kx b j)).1 x.1=false:=by
   cases g:IE a b i j with
   | true =>
    rw [(Yf g).1] at hd ⊢;unfold kx at hd ⊢;cases hy:a[i]? with
    | none=>rw [hy] at hd;exact absurd rfl hd
    | some y=>rw [hi] at hy;exact C1 (va.lt hx hy)
   | false =>
    rw [(Yg g).1] at hd ⊢;unfold kx at hd ⊢;cases hy:b[j]? with
    | none=>rw [hy] at hd;exact absurd rfl hd
    | some y=>exact I.pa i' hi x y hx hy
  rw [hle];have : ¬ (0:Int)>(wn (kx a i) (kx b j):Int):=by omega
  by_cases hs:B3 x.1 (wk (kx a i) (kx b j)).1=true
  ·simp [hs]
  ·simp only [hs,Bool.false_eq_true,if_false,ne_eq,not_true,this];split<;>omega
 have lb : ∀ {y:AB} {j':Nat},j=j'+1->b[j']? = some y -> ¬ (if (if B3 y.1 (wk (kx a i) (kx b j)).1=true then (-1:Int) else if B3 (wk (kx a i) (kx b j)).1 y.1=true then 1 else 0)≠0 then (if B3 y.1 (wk (kx a i) (kx b j)).1=true then (-1:Int) else if B3 (wk (kx a i) (kx b j)).1 y.1=true then 1 else 0) else (if (1:Int)<(wn (kx a i) (kx b j):Int) then -1 else if (1:Int)>(wn (kx a i) (kx b j):Int) then 1 else 0))>0:=by
  intro y j' hj hy
  have hlt:B3 y.1 (wk (kx a i) (kx b j)).1=true:=by
   cases g:IE a b i j with
   | true =>
    rw [(Yf g).1] at hd ⊢;unfold kx at hd ⊢;cases hx:a[i]? with
    | none=>rw [hx] at hd;exact absurd rfl hd
    | some x=>exact I.pb j' hj y x hy hx
   | false =>
    rw [(Yg g).1] at hd ⊢;unfold kx at hd ⊢;cases hx:b[j]? with
    | none=>rw [hx] at hd;exact absurd rfl hd
    | some x=>rw [hj] at hx;exact vb.lt hy hx
  rw [hlt];simp
 refine A7 (x:=(1,((0,(0,2)),()))) (Ce (s1:=(0,(0,1))) (s2:=(0,(0,2))) ?_ ?_ rfl) rfl
 ·refine (ON 0 rfl rfl rfl).trans ?_;rw [Av];by_cases h0:(i:Int)>0
  ·rw [if_pos h0];obtain ⟨i',hi'⟩ : ∃ i',i=i'+1:=⟨i-1,by omega⟩;have hi2:i'<a.length:=by have:=I.ia;omega
   have hx:a[i']? = some a[i']:=by simp [hi2]
   refine (E0 0 rfl (x:=a) rfl).trans ((E0 i' ?_ hx).trans ?_)
   ·rw [Bu (by have:=va.len;have:=I.ia;omega)];omega
   rw [XW,AC];show bd (CK (0,(wn (kx a i) (kx b j):Int))) _=_;rw [XX,AC,bg,AC,Av,if_neg (la hi' hx)];rfl
  ·rw [if_neg h0];rfl
 ·refine (ON 1 rfl rfl rfl).trans ?_;rw [Av];by_cases h0:(j:Int)>0
  ·rw [if_pos h0];obtain ⟨j',hj'⟩ : ∃ j',j=j'+1:=⟨j-1,by omega⟩;have hj2:j'<b.length:=by have:=I.jb;omega
   have hy:b[j']? = some b[j']:=by simp [hj2]
   refine (E0 1 rfl (x:=b) rfl).trans ((E0 j' ?_ hy).trans ?_)
   ·rw [Bu (by have:=vb.len;have:=I.jb;omega)];omega
   rw [XW,AC];show bd (CK (1,(wn (kx a i) (kx b j):Int))) _=_;rw [XX,AC,bg,AC,Av,if_neg (lb hj' hy)];rfl
  ·rw [if_neg h0];rfl
end
end Go.Proofs.YthpkjfabdccpdaaGreat.Pl
namespace Go.Proofs.YthpkjfabdccpdaaGreat.Pl
open Go Go.Proofs.YthpkjfabdccpdaaGreat.Sv
theorem GX {l:List AB} {i:Nat} {x:AB} (h:l[i]? = some x):kx l i=(x.1,false):=by unfold kx;rw [h]
theorem Ml {l:List AB} {i:Nat} (h:l[i]? = none):kx l i=([],true):=by unfold kx;rw [h]
theorem OZ {l:List AB} (v:VL l) {i:Nat} {x:AB} (h:l[i]? = some x):(kx l (i+1)).2=true\/B3 (kx l (i+1)).1 x.1=false:=by
 cases hy:l[i+1]? with
 | none=>rw [Ml hy];exact .inl rfl
 | some y=>rw [GX hy];exact .inr (C1 (v.lt h hy))
theorem KS {α β:Type} {n:Int} {l:List α} {K:Nat->α->Option β} (k:Nat) {x:α} (hn:n=(k:Int)) (hx:l[k]? = some x):AP n (λk1=>gd (CD k1 (AA l)) λ_=>ix l k1 λx2=>K k1 x2)=K k x:=by
 subst hn;rw [AE,NY,if_pos (show k<AA l from (List.getElem?_eq_some_iff.1 hx).1),AI hx]
section
variable {a b:List AB} (va:VL a) (vb:VL b)
include va vb
theorem jH {i j:Nat} (I:Inv a b i j) {x:AB} (hx:a[i]? = some x) (g:IE a b i j=true):B8 (Lz a b i j)=some (x,(0,(Lz a b (i+1) j,0))):=by
 obtain ⟨hk,hn⟩:=Yf g;have hi:=(List.getElem?_eq_some_iff.1 hx).1;have hl:=va.len;have hd:(wk (kx a i) (kx b j)).2=false:=by rw [hk,GX hx]
 obtain ⟨m,hr⟩:=IT (p:=kx a i) (q:=kx b j) (k:=kx a (i+1)) (Bi _ _) (Bi _ _) (Bi _ _) hd (by rw [hk,GX hx];exact OZ va hx)
 have hrk:rk (kx a i) (kx b j) (kx a (i+1))=(kx a (i+1),kx b j):=by
  unfold rk;unfold IE at g;rw [if_pos g]
 rw [hrk] at hr;unfold B8;rw [Kz va vb I,AC,AN,if_pos rfl];unfold Ak A0;refine A7 (KR (show 2<=1048576 by omega)) (A7 (KR (show 2<=1048576 by omega)) ?_);rw [show (Lz a b i j).2.2=Tt (kx a i) (kx b j) from rfl,H3 (Bi _ _) (Bi _ _),if_neg (by simp [hd]),AC,AN,if_pos rfl,hn];refine (KS 0 rfl (x:=a) rfl).trans ((KS 0 rfl (x:=(i:Int)) rfl).trans ((E0 i rfl hx).trans ((KS 0 rfl (x:=(i:Int)) rfl).trans ((KS 0 rfl (x:=(i:Int)) rfl).trans ((KS 0 rfl (x:=a) rfl).trans ((KS 0 rfl (x:=AH .i64 (i:Int) 1) rfl).trans ?_))))));rw [AZ (by omega),HF (show i+1<=a.length by omega),AC,hr,AC];rfl
theorem jI {i j:Nat} (I:Inv a b i j) {y:AB} (hy:b[j]? = some y) (g:IE a b i j=false):B8 (Lz a b i j)=some (y,(1,(Lz a b i (j+1),0))):=by
 obtain ⟨hk,hn⟩:=Yg g;have hi:=(List.getElem?_eq_some_iff.1 hy).1;have hl:=vb.len;have hd:(wk (kx a i) (kx b j)).2=false:=by rw [hk,GX hy]
 obtain ⟨m,hr⟩:=IT (p:=kx a i) (q:=kx b j) (k:=kx b (j+1)) (Bi _ _) (Bi _ _) (Bi _ _) hd (by rw [hk,GX hy];exact OZ vb hy)
 have hrk:rk (kx a i) (kx b j) (kx b (j+1))=(kx a i,kx b (j+1)):=by
  unfold rk;unfold IE at g;rw [if_neg (by simp [g])]
 rw [hrk] at hr;unfold B8;rw [Kz va vb I,AC,AN,if_pos rfl];unfold Ak A0;refine A7 (KR (show 2<=1048576 by omega)) (A7 (KR (show 2<=1048576 by omega)) ?_);rw [show (Lz a b i j).2.2=Tt (kx a i) (kx b j) from rfl,H3 (Bi _ _) (Bi _ _),if_neg (by simp [hd]),AC,AN,if_pos rfl,hn];refine (KS 1 rfl (x:=b) rfl).trans ((KS 1 rfl (x:=(j:Int)) rfl).trans ((E0 j rfl hy).trans ((KS 1 rfl (x:=(j:Int)) rfl).trans ((KS 1 rfl (x:=(j:Int)) rfl).trans ((KS 1 rfl (x:=b) rfl).trans ((KS 1 rfl (x:=AH .i64 (j:Int) 1) rfl).trans ?_))))));rw [AZ (by omega),HF (show j+1<=b.length by omega),AC,hr,AC];rfl
def Ls (a b:List AB) (n:Nat):AT:=Lz a b (Aq a b n).1 (Aq a b n).2
def PT (a b:List AB) (n:Nat):Nat:=if IE a b (Aq a b n).1 (Aq a b n).2=true then 0 else 1
theorem PU {n:Nat} {x:AB} (h:n<a.length+b.length) (hx:OM a b n=some x):B8 (Ls a b n)=some (x,((PT a b n:Int),(Ls a b (n+1),0))):=by
 obtain ⟨hI,hs⟩:=F1 va vb (n:=n) (by omega);unfold Ls PT;rw [show Aq a b (n+1)=if IE a b (Aq a b n).1 (Aq a b n).2=true then ((Aq a b n).1+1,(Aq a b n).2) else ((Aq a b n).1,(Aq a b n).2+1) from rfl]
 unfold OM at hx;cases g:IE a b (Aq a b n).1 (Aq a b n).2 with
 | true=>rw [if_pos g] at hx;rw [jH va vb hI hx g];simp
 | false=>rw [if_neg (by simp [g])] at hx;rw [jI va vb hI hx g];simp
end
theorem PW {s:B7} (h1:s.2.1.length<=32) (h2:s.1=false->s.2.1=[]):D1 s=some 0:=by
 unfold D1;rw [LJ,AC,if_neg (by omega),AN,if_pos rfl,Bp,HP];cases h:s.1 with
 | true=>rfl
 | false=>rw [if_neg (by simp),Bp,Ew,if_pos (h2 h)]
def keep (s:B7) (x:AB):Bool := !(s.1&&decide (x.1=s.2.1)) && !(s.2.2&&x.2.2.1)
theorem Yh {s:B7} {x:AB} (h1:s.2.1.length<=32) (h2:s.1=false->s.2.1=[]) (h3:kE x=0) (h4:s.1=true->B3 x.1 s.2.1=false):CE (s,x)=some (keep s x,((true,(x.1,s.2.2)),0)):=by
 unfold CE keep;rw [PW h1 h2,AC,AN,if_pos rfl,C2,h3,AC,AN,if_pos rfl];obtain ⟨s1,s2,s3⟩:=s;obtain ⟨x1,x2,x3,x4⟩:=x;simp only at h4 ⊢;cases s1 with
 | true =>
  have:=h4 rfl;simp only [AM,AV,GW,Ew,this,Bool.false_eq_true,if_false];by_cases he:x1=s2
  ·simp [he]
  ·simp only [he,if_false,decide_false];cases s3<;>cases x3<;>rfl
 | false =>
  simp only [AM,AV];cases s3<;>cases x3<;>rfl
def Ff:B7->List AB->List AB
 | _,[]=>[]
 | s,x::l=>(if keep s x=true then [x] else [])++Ff (true,(x.1,s.2.2)) l
theorem I5 : ∀ (s:B7) (l:List AB),(Ff s l).length<=l.length
 | _,[]=>Nat.le_refl _
 | s,x::l=>by
  have:=I5 (true,(x.1,s.2.2)) l;unfold Ff;by_cases h:keep s x=true
  ·rw [if_pos h];simp;omega
  ·rw [if_neg h];simp;omega
def PY:B7->List AB->Prop
 | _,[]=>True
 | s,x::l=>kE x=0/\(s.1=true->B3 x.1 s.2.1=false)/\PY (true,(x.1,s.2.2)) l
theorem PZ {x:AB} (h:kE x=0):x.1.length<=32:=by
 unfold kE at h;by_cases hh:x.1.length>32\/x.2.1.length>64
 ·rw [if_pos hh] at h;cases h
 ·omega
theorem DC {α β σ S:Type} {l:List α} (mk:Nat->σ->S) (Inv:List α->Nat->σ->Prop) (F:List α->Nat->σ->β) {f:S->Option (LR S β)} {s:S} (st:σ) (h0:s=mk 0 st) (hl:l.length<=9223372036854775807) (hi:Inv l 0 st)
  (hn : ∀ st,Inv [] l.length st->f (mk l.length st)=some (.dn (F [] l.length st)))
  (hc : ∀ k x m st,l.drop k=x::m->l[k]? = some x->k<l.length->Inv (x::m) k st -> ∃ st',f (mk k st)=some (.nx (mk (k+1) st'))/\Inv m (k+1) st'/\F (x::m) k st=F m (k+1) st'):loop f s=some (F l 0 st):=by
 subst h0
 have main : ∀ (m:List α) (k n:Nat) (st:σ),l.drop k=m->k<=l.length->m.length<n->Inv m k st->Dp n f (mk k st)=some (F m k st):=by
  intro m
  induction m with
  | nil =>
   intro k n st hm hk hn' hi;obtain ⟨n,rfl⟩ : ∃ j,n=j+1:=⟨n-1,by omega⟩
   have hkl:k=l.length:=by
    have:=congrArg List.length hm;simp at this;omega
   subst hkl;exact BX (hn st hi)
  | cons x m ih =>
   intro k n st hm hk hn' hi;obtain ⟨n,rfl⟩ : ∃ j,n=j+1:=⟨n-1,by omega⟩
   have hx:l[k]? = some x:=by
    have:=congrArg List.head? hm;rw [List.head?_drop] at this;simpa using this
   have hk':k<l.length:=(List.getElem?_eq_some_iff.1 hx).1
   have hm2:l.drop (k+1)=m:=by
    have:=congrArg List.tail hm;rw [List.tail_drop] at this;simpa using this
   obtain ⟨st',h1,h2,h3⟩:=hc k x m st hm hx hk' hi;rw [BS h1,h3];exact ih (k+1) n st' hm2 (by omega) (by simp at hn';omega) h2
 exact main l 0 _ st (by simp) (by omega) (by omega) hi
def CT:B7->List AB->B7
 | s,[]=>s
 | s,x::l=>CT (true,(x.1,s.2.2)) l
theorem SI {β:Type} {out:List AB} {n:Nat} (h:out.length<=n) (hn:n<=20000) (x:AB) (k:Unit->Option β):gd (Aj (AK (AA out) (AA [x])) 1048576) k=k ():=BE (by simp only [AK,AA,List.length_cons,List.length_nil];omega) k
theorem Yi {l:List AB} {bt:Bool} (hl:l.length<=20000) (hr:PY (false,([],bt)) l):EO (l,bt)=some (Ff (false,([],bt)) l,(0,0)):=by
 unfold EO Ca;simp only [AU,AO];rw [Av,if_neg (by omega),AC]
 rw [DC (l:=l) (σ:=B7×List AB) (s:=(0,(0,(0,((false,([],bt)),[]))))) (λk st=>((0:Int),((k:Int),((0:Int),st))))
  (λm k st=>PY st.1 m/\st.1.2.1.length<=32/\(st.1.1=false->st.1.2.1=[])/\st.2.length<=k/\k+m.length=l.length)
  (λm k st=>(1,((0,((l.length:Int),(0,(CT st.1 m,st.2++Ff st.1 m)))),()))) ((false,([],bt)),[]) rfl (by omega) ⟨hr,by simp,λ_=>rfl,by simp,by simp⟩ ?_ ?_,AC]
 ·simp;rfl
 ·intro st _;simp only;rw [re,AV];simp [CT,Ff]
 ·rintro k x m ⟨s,out⟩ hm hx hk ⟨⟨h1,h2,h3⟩,h4,h5,h6,h7⟩;simp only at h1 h2 h3 h4 h5 h6 ⊢;refine ⟨((true,(x.1,s.2.2)),out++if keep s x=true then [x] else []),?_,⟨h3,PZ h1,(λh=>by cases h),?_,by simp at h7;omega⟩,?_⟩
  ·rw [rl hk,AM,AE,AI hx,PW h4 h5,AC,AN,if_pos rfl,C2,h1,AC,AN,if_pos rfl];unfold keep BB;obtain ⟨s1,s2,s3⟩:=s;obtain ⟨x1,x2,x3,x4⟩:=x;simp only [AC,As hx (show l.length<=9223372036854775807 by omega)] at h2 ⊢;have hg : ∀ {β:Type} (k:Unit->Option β),gd (Aj (AK out.length [(x1,(x2,(x3,x4)))].length) 1048576) k=k ():=λk=>SI h6 (by simp at h7;omega) (x1,(x2,(x3,x4))) k;cases s1 with
   | true =>
    have h8:=h2 rfl;simp only [AM,AV,Ew,h8,hg];by_cases he:x1=s2
    ·simp [he]
    ·simp only [he,if_false,decide_false];cases s3<;>cases x3<;>simp [AM,AV,Bl]
   | false =>
    simp only [AM,AV,hg];cases s3<;>cases x3<;>simp [AM,AV,Bl]
  ·split<;>simp<;>omega
  ·simp only [CT,Ff,List.append_assoc]
end Go.Proofs.YthpkjfabdccpdaaGreat.Pl
namespace Go.Proofs.YthpkjfabdccpdaaGreat.Pl
open Go Go.Proofs.YthpkjfabdccpdaaGreat.Sv
theorem Tk : ∀ (l:List AB) (s:B7) (x:AB),Ff s (l++[x])=Ff s l++(if keep (CT s l) x=true then [x] else [])
 | [],s,x=>by
  show (if keep s x=true then [x] else [])++[]=[]++(if keep s x=true then [x] else [])
  rw [List.append_nil,List.nil_append]
 | y::l,s,x=>by
  show (if keep s y=true then [y] else [])++Ff _ (l++[x])=((if keep s y=true then [y] else [])++Ff _ l)++_
  rw [Tk l,List.append_assoc];rfl
theorem K0 : ∀ (l:List AB) (s:B7) (x:AB),CT s (l++[x])=(true,(x.1,(CT s l).2.2))
 | [],s,x=>rfl
 | y::l,s,x=>by simp only [List.cons_append,CT,K0 l]
theorem GY : ∀ (l:List AB) (s:B7),(CT s l).2.2=s.2.2
 | [],s=>rfl
 | y::l,s=>by rw [CT,GY l]
theorem Tl : ∀ (l:List AB) (s:B7) (x:AB),PY s l->kE x=0->((CT s l).1=true->B3 x.1 (CT s l).2.1=false)->PY s (l++[x])
 | [],s,x,_,h1,h2=>⟨h1,h2,trivial⟩
 | y::l,s,x,⟨h1,h2,h3⟩,h4,h5=>⟨h1,h2,Tl l _ x h3 h4 h5⟩
theorem Qv : ∀ (l:List AB) (s:B7),PY s l->s.2.1.length<=32->(s.1=false->s.2.1=[])->(CT s l).2.1.length<=32/\((CT s l).1=false->(CT s l).2.1=[])
 | [],s,_,h1,h2=>⟨h1,h2⟩
 | y::l,s,⟨h3,_,h4⟩,_,_=>Qv l _ h4 (PZ h3) (λh=>by cases h)
abbrev s0 (bt:Bool):B7:=(false,([],bt))
def El (a b:List AB) (bt:Bool) (n:Nat):JV:=(Ls a b n,(CT (s0 bt) (A4 a b n),(Ff (s0 bt) (A4 a b n),(n:Int))))
def H4 (a b:List AB):Nat->List Int
 | 0=>[]
 | n+1=>H4 a b n++[(PT a b n:Int)]
theorem Nd (a b:List AB) : ∀ n,(H4 a b n).length=n
 | 0=>rfl
 | n+1=>by simp [H4,Nd a b n]
theorem I6 {S β:Type} {f:S->Option (LR S β)} {r:β} (mk:Nat->S) (k0 n:Nat) {s:S} (h0:s=mk k0) (hk:k0<=n) (hn:n<18446744073709551616) (hs : ∀ k,k0<=k->k<n->f (mk k)=some (.nx (mk (k+1)))) (he:f (mk n)=some (.dn r)):loop f s=some r:=by
 have h:=H2 (f:=f) (r:=r) (λk=>mk (k0+k)) (n-k0) (s:=s) h0 (by omega) (λk hk=>hs (k0+k) (by omega) (by omega)) (by show f (mk (k0+(n-k0)))=_;rw [show k0+(n-k0)=n by omega];exact he);exact h
theorem Pa (l:List AB) (h:l.length<=100000):D2 (l,l)=some true:=by
 unfold D2;simp only [AU,AO]
 rw [AN,if_pos rfl,Mi (l:=l) (σ:=Unit) (s:=(false,0)) (λk _=>(false,(k:Int))) (λ_ _ _=>some (1,((false,(l.length:Int)),()))) () rfl (by omega) (λst=>by
  simp only;rw [re];rfl) (λk x m st _ hx hk => .inl ⟨(),by
   simp only;rw [rl hk,AM,AE,AI hx,AE,AI hx,JX,JX,IU,show BJ x.2.2.2 x.2.2.2=true by unfold BJ;simp,show AY (Bo true (Bo true (Bo true (Bo true true))))=false from rfl,AV,As hx (by omega)],rfl⟩),AC]
 rfl
section
variable {a b:List AB} (va:VL a) (vb:VL b)
include va vb
theorem G6 {n:Nat} {x:AB} (hx:OM a b n=some x):A4 a b (n+1)=A4 a b n++[x]:=by
 show (match OM a b n with
  | some x=>A4 a b n++[x]
  | none=>A4 a b n)=_
 rw [hx]
theorem H5 (bt:Bool) : ∀ {n:Nat},n<=a.length+b.length->PY (s0 bt) (A4 a b n)
 | 0,_=>trivial
 | n+1,h=>by
  obtain ⟨x,hx,_⟩:=EQ va vb (n:=n) (by omega);rw [G6 va vb hx];refine Tl _ _ _ (H5 bt (by omega)) (bZ va vb hx) λ_ => ?_;cases n with
  | zero=>rename_i h1;cases h1
  | succ m =>
   obtain ⟨y,hy,_⟩:=EQ va vb (n:=m) (by omega);rw [G6 va vb hy,K0];exact XV va vb (by omega) hy hx
theorem Vc (bt:Bool) {n:Nat} (h:n<=a.length+b.length):(CT (s0 bt) (A4 a b n)).2.1.length<=32/\((CT (s0 bt) (A4 a b n)).1=false->(CT (s0 bt) (A4 a b n)).2.1=[]) :=
 Qv _ _ (H5 va vb bt h) (by simp) (λ_=>rfl)
theorem jJ {n:Nat} (h:n=a.length+b.length):(wk (kx a (Aq a b n).1) (kx b (Aq a b n).2)).2=true:=by
 obtain ⟨hI,hs⟩:=F1 va vb (n:=n) (by omega);have h1:=hI.ia;have h2:=hI.jb;rw [Ml (List.getElem?_eq_none (by omega)),Ml (List.getElem?_eq_none (by omega))];rfl
theorem jK {n:Nat} {x:AB} (hx:OM a b n=some x):(wk (kx a (Aq a b n).1) (kx b (Aq a b n).2)).2=false/\wn (kx a (Aq a b n).1) (kx b (Aq a b n).2)=PT a b n:=by
 unfold OM at hx;unfold PT;cases g:IE a b (Aq a b n).1 (Aq a b n).2 with
 | true=>rw [if_pos g] at hx;rw [(Yf g).1,(Yf g).2,GX hx];exact ⟨rfl,rfl⟩
 | false=>rw [if_neg (by simp [g])] at hx;rw [(Yg g).1,(Yg g).2,GX hx];exact ⟨rfl,rfl⟩
theorem jL:HQ [a,b]=some (A4 a b (a.length+b.length),(H4 a b (a.length+b.length),0)):=by
 have la:=va.len;have lb:=vb.len;unfold HQ;rw [Lr va vb,AC,AN,if_pos rfl];refine Eq.trans (b:=bd (loop _ (0,[([],false),([],false)])) _) rfl ?_;refine A7 (x:=(0,((2,[kx a 0,kx b 0]),()))) (Ce (s1:=(1,[kx a 0,([],false)])) (s2:=(2,[kx a 0,kx b 0])) ?_ ?_ rfl) ?_
 ·show bd (BK (a,((0:Nat):Int))) _=_;rw [HF (by omega)];rfl
 ·show bd (BK (b,((0:Nat):Int))) _=_;rw [HF (by omega)];rfl
 rw [show ((0:Nat),(((2:Int),[kx a 0,kx b 0]),())).2.1.2=[kx a 0,kx b 0] from rfl,Nc (Bi _ _) (Bi _ _),AC]
 refine A7 (x:=(0,((A4 a b (a.length+b.length),(H4 a b (a.length+b.length),((),([((Aq a b (a.length+b.length)).1:Int),((Aq a b (a.length+b.length)).2:Int)],Tt (kx a (Aq a b (a.length+b.length)).1) (kx b (Aq a b (a.length+b.length)).2))))),())))
  (I6 (λk=>(A4 a b k,(H4 a b k,((),([((Aq a b k).1:Int),((Aq a b k).2:Int)],Tt (kx a (Aq a b k).1) (kx b (Aq a b k).2)))))) 0 (a.length+b.length) rfl (by omega) (by omega) (λk _ hk => ?_) ?_) rfl
 ·obtain ⟨x,hx,_⟩:=EQ va vb (n:=k) hk;obtain ⟨w1,w2⟩:=jK va vb hx;obtain ⟨hI,hs⟩:=F1 va vb (n:=k) (by omega);have hl1:(A4 a b k).length=k:=Cj va vb (by omega);have hl2:=Nd a b k;simp only;rw [H3 (Bi _ _) (Bi _ _),if_neg (by simp [w1]),AC,AN,if_pos rfl,w2];rw [G6 va vb hx];unfold OM at hx;rw [show H4 a b (k+1)=H4 a b k++[(PT a b k:Int)] from rfl];unfold PT;rw [show Aq a b (k+1)=if IE a b (Aq a b k).1 (Aq a b k).2=true then ((Aq a b k).1+1,(Aq a b k).2) else ((Aq a b k).1,(Aq a b k).2+1) from rfl]
  have g1 : ∀ {β:Type} (y:AB) (q:Unit->Option β),gd (Aj (AK (AA (A4 a b k)) (AA [y])) 1048576) q=q ():=λy q=>BE (by simp only [AK,AA,hl1,List.length_cons,List.length_nil];omega) q;have g2 : ∀ {β:Type} (y:Int) (q:Unit->Option β),gd (Aj (AK (AA (H4 a b k)) (AA [y])) 1048576) q=q ():=λy q=>BE (by simp only [AK,AA,hl2,List.length_cons,List.length_nil];omega) q;cases g:IE a b (Aq a b k).1 (Aq a b k).2 with
  | true =>
   rw [if_pos g] at hx;obtain ⟨hkk,_⟩:=Yf g;obtain ⟨m,hr⟩:=IT (p:=kx a (Aq a b k).1) (q:=kx b (Aq a b k).2) (k:=kx a ((Aq a b k).1+1)) (Bi _ _) (Bi _ _) (Bi _ _) w1 (by rw [hkk,GX hx];exact OZ va hx)
   have hrk:rk (kx a (Aq a b k).1) (kx b (Aq a b k).2) (kx a ((Aq a b k).1+1))=(kx a ((Aq a b k).1+1),kx b (Aq a b k).2):=by
    unfold rk;unfold IE at g;rw [if_pos g]
   rw [hrk] at hr;have hi:=(List.getElem?_eq_some_iff.1 hx).1;simp only [if_true];refine (KS 0 rfl (x:=a) rfl).trans ((KS 0 rfl (x:=((Aq a b k).1:Int)) rfl).trans ((E0 _ rfl hx).trans ?_));rw [g1,g2];refine (KS 0 rfl (x:=((Aq a b k).1:Int)) rfl).trans ((KS 0 rfl (x:=((Aq a b k).1:Int)) rfl).trans ((KS 0 rfl (x:=a) rfl).trans ((KS 0 rfl (x:=AH .i64 ((Aq a b k).1:Int) 1) rfl).trans ?_)));rw [AZ (by omega),HF (by omega),AC,hr,AC];rfl
  | false =>
   rw [if_neg (by simp [g])] at hx;obtain ⟨hkk,_⟩:=Yg g;obtain ⟨m,hr⟩:=IT (p:=kx a (Aq a b k).1) (q:=kx b (Aq a b k).2) (k:=kx b ((Aq a b k).2+1)) (Bi _ _) (Bi _ _) (Bi _ _) w1 (by rw [hkk,GX hx];exact OZ vb hx)
   have hrk:rk (kx a (Aq a b k).1) (kx b (Aq a b k).2) (kx b ((Aq a b k).2+1))=(kx a (Aq a b k).1,kx b ((Aq a b k).2+1)):=by
    unfold rk;unfold IE at g;rw [if_neg (by simp [g])]
   rw [hrk] at hr;have hi:=(List.getElem?_eq_some_iff.1 hx).1;simp only [Bool.false_eq_true,if_false];refine (KS 1 rfl (x:=b) rfl).trans ((KS 1 rfl (x:=((Aq a b k).2:Int)) rfl).trans ((E0 _ rfl hx).trans ?_));rw [g1,g2];refine (KS 1 rfl (x:=((Aq a b k).2:Int)) rfl).trans ((KS 1 rfl (x:=((Aq a b k).2:Int)) rfl).trans ((KS 1 rfl (x:=b) rfl).trans ((KS 1 rfl (x:=AH .i64 ((Aq a b k).2:Int) 1) rfl).trans ?_)));rw [AZ (by omega),HF (by omega),AC,hr,AC];rfl
 ·simp only;rw [H3 (Bi _ _) (Bi _ _),if_pos (jJ va vb rfl),AC,AN,if_neg (by decide),AN,if_neg (by decide)]
end
end Go.Proofs.YthpkjfabdccpdaaGreat.Pl
namespace Go.Proofs.YthpkjfabdccpdaaGreat.Pl
open Go Go.Proofs.YthpkjfabdccpdaaGreat.Sv
theorem XY {β:Type} {out:List AB} {n:Nat} (h:out.length<=n) (hn:n<=20000) (x:AB) (k:Unit->Option β):gd (Aj (AK out.length [x].length) 1048576) k=k ():=SI h hn x k
section
variable {a b:List AB} (va:VL a) (vb:VL b)
include va vb
theorem HY {n:Nat} (h:n<=a.length+b.length):(A4 a b (a.length+b.length)).take n=A4 a b n:=VW va vb (Nat.le_refl _) h
theorem KT {n:Nat} {x:AB} (bt:Bool) (hx:OM a b n=some x):CT (s0 bt) (A4 a b (n+1))=(true,(x.1,bt)):=by
 rw [G6 va vb hx,K0,GY]
theorem Vd (bt:Bool) {n:Nat} (h:n<=a.length+b.length):Ev (El a b bt n)=some 0:=by
 obtain ⟨hI,hs⟩:=F1 va vb (n:=n) h;have la:=va.len;have lb:=vb.len;have hfl:=I5 (s0 bt) (A4 a b n);have hml:(A4 a b n).length=n:=Cj va vb h;unfold Ev;rw [show (El a b bt n).1=Lz a b (Aq a b n).1 (Aq a b n).2 from rfl,Kz va vb hI,AC,AN,if_pos rfl];refine A7 (x:=(0,((2,(n:Int)),()))) (Ce (s1:=(1,((Aq a b n).1:Int))) (s2:=(2,(n:Int))) ?_ ?_ rfl) ?_
 ·refine (ON 0 rfl rfl (x:=((Aq a b n).1:Int)) rfl).trans ?_;show some (LR.nx ((1:Int),AH .i64 0 ((Aq a b n).1:Int)))=_;rw [CV (by omega),Int.zero_add]
 ·refine (ON 1 rfl rfl (x:=((Aq a b n).2:Int)) rfl).trans ?_;show some (LR.nx ((2:Int),AH .i64 ((Aq a b n).1:Int) ((Aq a b n).2:Int)))=_;rw [CV (by omega),show ((Aq a b n).1:Int)+((Aq a b n).2:Int)=(n:Int) by omega]
 simp only [AU,AO];rw [show (El a b bt n).2.2.1=Ff (s0 bt) (A4 a b n) from rfl,show (El a b bt n).2.2.2=(n:Int) from rfl,show (El a b bt n).2.1=CT (s0 bt) (A4 a b n) from rfl,Av,if_neg (by omega),Av,if_neg (by omega),AN,if_pos rfl];rw [show (Lz a b (Aq a b n).1 (Aq a b n).2).1=[a,b] from rfl,jL va vb,AC,AN,if_pos rfl,AE];rw [BE (by rw [Cj va vb (Nat.le_refl _)];exact h),BE (Nat.zero_le _)];rw [show B0 (A4 a b (a.length+b.length)) 0 n=A4 a b n from by unfold B0;rw [List.drop_zero,Nat.sub_zero];exact HY va vb h,GY];rw [show (s0 bt).2.2=bt from rfl,Yi (by omega) (H5 va vb bt h),AC,AN,if_pos rfl];unfold Ca;rw [AC,Av];cases n with
 | zero =>
  rw [if_neg (by omega),Pa _ (by omega),AC,DM,AV];show br (AY (Bo (Sv.beq false false) (Bo (seq [] []) (Bo (Sv.beq bt bt) true)))) _ _=_;rw [IU,IU,JX];rfl
 | succ m =>
  obtain ⟨x,hx,_⟩:=EQ va vb (n:=m) (by omega);rw [if_pos (by omega),show BF .i64 ((m+1:Nat):Int) 1=(m:Int) by rw [Bu (by omega)];omega,AE];rw [AI (x:=x) (by rw [I4 va vb (Nat.le_refl _) (by omega)];exact hx),Pa _ (by omega),AC,DM,AV,KT va vb bt hx];rw [IU,IU,JX];rfl
theorem bh {n:Nat} (h:n<=a.length+b.length):GV (Ls a b n)=some (((a.length+b.length-n:Nat):Int),0):=by
 obtain ⟨hI,hs⟩:=F1 va vb (n:=n) h;have la:=va.len;have lb:=vb.len;have ha:=hI.ia;have hb:=hI.jb;unfold GV;rw [show Ls a b n=Lz a b (Aq a b n).1 (Aq a b n).2 from rfl,Kz va vb hI,AC,AN,if_pos rfl];refine A7 (x:=(0,((2,((a.length+b.length-n:Nat):Int)),()))) (Ce (s1:=(1,(a.length:Int)-((Aq a b n).1:Int))) (s2:=(2,((a.length+b.length-n:Nat):Int))) ?_ ?_ rfl) rfl
 ·refine (ON 0 rfl rfl (x:=a) rfl).trans ((E0 0 rfl (x:=((Aq a b n).1:Int)) rfl).trans ?_);simp only [AU,AO];rw [Bu (by omega)];show some (LR.nx ((1:Int),AH .i64 0 ((a.length:Int)-((Aq a b n).1:Int))))=_;rw [CV (by omega),Int.zero_add]
 ·refine (ON 1 rfl rfl (x:=b) rfl).trans ((E0 1 rfl (x:=((Aq a b n).2:Int)) rfl).trans ?_);simp only [AU,AO];rw [Bu (by omega)];show some (LR.nx ((2:Int),AH .i64 ((a.length:Int)-((Aq a b n).1:Int)) ((b.length:Int)-((Aq a b n).2:Int))))=_;rw [CV (by omega),show (a.length:Int)-((Aq a b n).1:Int)+((b.length:Int)-((Aq a b n).2:Int))=((a.length+b.length-n:Nat):Int) by omega]
theorem Nf (bt:Bool) {n:Nat} (h:n<=a.length+b.length):B5 (El a b bt n)=some (((a.length+b.length-n:Nat):Int),0):=by
 unfold B5;rw [Vd va vb bt h,AC,AN,if_pos rfl,show (El a b bt n).1=Ls a b n from rfl,bh va vb h];rfl
theorem Pb (bt:Bool) {n:Nat} {x:AB} (hx:OM a b n=some x):El a b bt (n+1)=(Ls a b (n+1),((true,(x.1,bt)),(Ff (s0 bt) (A4 a b n)++(if keep (CT (s0 bt) (A4 a b n)) x=true then [x] else []),((n+1:Nat):Int)))):=by
 unfold El;rw [G6 va vb hx,K0,GY,Tk]
theorem JY (bt:Bool) {n:Nat} {x:AB} (hn:n<a.length+b.length) (hx:OM a b n=some x):CE (CT (s0 bt) (A4 a b n),x)=some (keep (CT (s0 bt) (A4 a b n)) x,((true,(x.1,bt)),0)):=by
 have hlm:=Vc va vb bt (n:=n) (by omega);rw [Yh hlm.1 hlm.2 (bZ va vb hx),GY];intro h1;cases n with
 | zero=>cases h1
 | succ m =>
  obtain ⟨y,hy,_⟩:=EQ va vb (n:=m) (by omega);rw [KT va vb bt hy];exact XV va vb (by omega) hy hx
def jz (k:Int) (s:JV):Int×(Int×(List (List AB)×(List Int×(List AR×(List Int×(Int×(Bool×(H1×(Bool×(List AB×Int)))))))))) :=
 (k,(0,(s.1.1,(s.1.2.1,(s.1.2.2.1,(s.1.2.2.2.1,(s.1.2.2.2.2,(s.2.1.1,(s.2.1.2.1,(s.2.1.2.2,(s.2.2.1,s.2.2.2)))))))))))
theorem Yj (bt:Bool) {n:Nat} (h:n<=a.length+b.length) {k:Nat}:CY (El a b bt n,(k:Int))=some (El a b bt (n+min k (a.length+b.length-n)),(((min k (a.length+b.length-n):Nat):Int),0)):=by
 have la:=va.len;have lb:=vb.len;have hml : ∀ m,m<=a.length+b.length->(Ff (s0 bt) (A4 a b m)).length<=m:=λm hm=>by have:=I5 (s0 bt) (A4 a b m);have:=Cj va vb hm;omega
 obtain ⟨u,hu⟩ : ∃ u,u=min k (a.length+b.length-n):=⟨_,rfl⟩
 have him:N8 (k:Int) ((a.length+b.length-n:Nat):Int)=(u:Int):=by
  unfold N8;split<;>omega
 rw [<- hu];unfold CY;rw [Nf va vb bt h,AC,AN,if_pos rfl];simp only [him,AU,AO];rw [BD,if_neg (by omega),show (El a b bt n).2.2.2=(n:Int) from rfl,CV (by omega),Av,if_neg (by omega)];rw [show (El a b bt n).2.2.1=Ff (s0 bt) (A4 a b n) from rfl,show (El a b bt n).1=Ls a b n from rfl,BE (by have:=hml n h;omega),BE (show (Ls a b n).2.1.length<=1048576 from (show 2<=1048576 by omega)),BD];by_cases h0:u=0
 ·rw [h0,if_neg (by omega)];rfl
 rw [if_pos (by omega)];obtain ⟨x,hx,_⟩:=EQ va vb (n:=n) (by omega);rw [PU va vb (by omega) hx,AC,AN,if_pos rfl,show (El a b bt n).2.1=CT (s0 bt) (A4 a b n) from rfl,JY va vb bt (by omega) hx,AC,AN,if_pos rfl]
 have hl : ∀ j,1<=j->j<u -> ∃ y,OM a b (n+j)=some y:=λj h1 h2=>by
  obtain ⟨y,hy,_⟩:=EQ va vb (n:=n+j) (by omega);exact ⟨y,hy⟩
 rw [HP];have hS:=Pb va vb bt hx;cases hk:keep (CT (s0 bt) (A4 a b n)) x with
 | true =>
  rw [hk] at hS;rw [if_pos rfl,XY (hml n h) (by omega)];refine A7 (x:=(1,(jz u (El a b bt (n+u)),()))) (I6 (λj=>jz j (El a b bt (n+j))) 1 u ?_ (by omega) (by omega) (λj h1 h2 => ?_) ?_) ?_
  ·rw [hS,show AH .i64 (n:Int) 1=((n+1:Nat):Int) from AZ (by omega)];rfl
  ·obtain ⟨y,hy⟩:=hl j h1 h2;show br (Ae (j:Int) (u:Int)) _ _=_;rw [BD,if_pos (by omega)];show bd (B8 (Ls a b (n+j))) _=_;rw [PU va vb (by omega) hy,AC,AN,if_pos rfl];show bd (CE (CT (s0 bt) (A4 a b (n+j)),y)) _=_;rw [JY va vb bt (by omega) hy,AC,AN,if_pos rfl,HP,show n+(j+1)=n+j+1 by omega,Pb va vb bt hy];cases hk2:keep (CT (s0 bt) (A4 a b (n+j))) y with
   | true =>
    rw [if_pos rfl,if_pos rfl];show gd (Aj (AK (AA (Ff (s0 bt) (A4 a b (n+j)))) (AA [y])) 1048576) _=_;rw [SI (hml _ (by omega)) (by omega)];show some (LR.nx (AH .i64 (j:Int) 1,_))=_;unfold jz;simp only [AZ (show j+1<=9223372036854775807 by omega),Bl];rw [show AH .i64 (El a b bt (n+j)).2.2.2 1=((n+j+1:Nat):Int) from AZ (by omega)];rfl
   | false =>
    rw [if_neg (by simp),if_neg (by simp)];show some (LR.nx (AH .i64 (j:Int) 1,_))=_;unfold jz;simp only [AZ (show j+1<=9223372036854775807 by omega)];rw [show AH .i64 (El a b bt (n+j)).2.2.2 1=((n+j+1:Nat):Int) from AZ (by omega),List.append_nil];rfl
  ·show br (Ae (u:Int) (u:Int)) _ _=_;rw [BD,if_neg (by omega)]
  ·rfl
 | false =>
  rw [hk] at hS;rw [if_neg (by simp)];refine A7 (x:=(1,(jz u (El a b bt (n+u)),()))) (I6 (λj=>jz j (El a b bt (n+j))) 1 u ?_ (by omega) (by omega) (λj h1 h2 => ?_) ?_) ?_
  ·rw [hS,show AH .i64 (n:Int) 1=((n+1:Nat):Int) from AZ (by omega),if_neg (by simp),List.append_nil];rfl
  ·obtain ⟨y,hy⟩:=hl j h1 h2;show br (Ae (j:Int) (u:Int)) _ _=_;rw [BD,if_pos (by omega)];show bd (B8 (Ls a b (n+j))) _=_;rw [PU va vb (by omega) hy,AC,AN,if_pos rfl];show bd (CE (CT (s0 bt) (A4 a b (n+j)),y)) _=_;rw [JY va vb bt (by omega) hy,AC,AN,if_pos rfl,HP,show n+(j+1)=n+j+1 by omega,Pb va vb bt hy];cases hk2:keep (CT (s0 bt) (A4 a b (n+j))) y with
   | true =>
    rw [if_pos rfl,if_pos rfl];show gd (Aj (AK (AA (Ff (s0 bt) (A4 a b (n+j)))) (AA [y])) 1048576) _=_;rw [SI (hml _ (by omega)) (by omega)];show some (LR.nx (AH .i64 (j:Int) 1,_))=_;unfold jz;simp only [AZ (show j+1<=9223372036854775807 by omega),Bl];rw [show AH .i64 (El a b bt (n+j)).2.2.2 1=((n+j+1:Nat):Int) from AZ (by omega)];rfl
   | false =>
    rw [if_neg (by simp),if_neg (by simp)];show some (LR.nx (AH .i64 (j:Int) 1,_))=_;unfold jz;simp only [AZ (show j+1<=9223372036854775807 by omega)];rw [show AH .i64 (El a b bt (n+j)).2.2.2 1=((n+j+1:Nat):Int) from AZ (by omega),List.append_nil];rfl
  ·show br (Ae (u:Int) (u:Int)) _ _=_;rw [BD,if_neg (by omega)]
  ·rfl
end
end Go.Proofs.YthpkjfabdccpdaaGreat.Pl
namespace Go.Proofs.YthpkjfabdccpdaaGreat.Pl
open Go Go.Proofs.YthpkjfabdccpdaaGreat.Sv
theorem EF {α β σ S:Type} {l:List α} (mk:Nat->σ->S) (I:List α->Nat->σ->Prop) (Q:β->Prop) {f:S->Option (LR S β)} {s:S} (st:σ) (h0:s=mk 0 st) (hl:l.length<=9223372036854775807) (hi:I l 0 st)
  (hn : ∀ st,I [] l.length st -> ∃ r,f (mk l.length st)=some (.dn r)/\Q r)
  (hc : ∀ k x m st,l.drop k=x::m->l[k]? = some x->k<l.length->I (x::m) k st->(∃ st',f (mk k st)=some (.nx (mk (k+1) st'))/\I m (k+1) st') \/ ∃ r,f (mk k st)=some (.dn r)/\Q r) : ∃ r,loop f s=some r/\Q r:=by
 subst h0
 have main : ∀ (m:List α) (k n:Nat) (st:σ),l.drop k=m->k<=l.length->m.length<n->I m k st -> ∃ r,Dp n f (mk k st)=some r/\Q r:=by
  intro m
  induction m with
  | nil =>
   intro k n st hm hk hn' hi;obtain ⟨n,rfl⟩ : ∃ j,n=j+1:=⟨n-1,by omega⟩
   have hkl:k=l.length:=by
    have:=congrArg List.length hm;simp at this;omega
   subst hkl;obtain ⟨r,h1,h2⟩:=hn st hi;exact ⟨r,BX h1,h2⟩
  | cons x m ih =>
   intro k n st hm hk hn' hi;obtain ⟨n,rfl⟩ : ∃ j,n=j+1:=⟨n-1,by omega⟩
   have hx:l[k]? = some x:=by
    have:=congrArg List.head? hm;rw [List.head?_drop] at this;simpa using this
   have hk':k<l.length:=(List.getElem?_eq_some_iff.1 hx).1
   have hm2:l.drop (k+1)=m:=by
    have:=congrArg List.tail hm;rw [List.tail_drop] at this;simpa using this
   rcases hc k x m st hm hx hk' hi with ⟨st',h1,h2⟩ | ⟨r,h1,h2⟩
   ·rw [BS h1];exact ih (k+1) n st' hm2 (by omega) (by simp at hn';omega) h2
   ·exact ⟨r,BX h1,h2⟩
 exact main l 0 _ st (by simp) (by omega) (by omega) hi
theorem I7 {α:Type} (l m:List α) (hl:l.length=m.length) (hb:l.length<=9223372036854775806) {f:(Int×Bool)->Option (LR (Int×Bool) (Nat×((Int×Bool)×Unit)))}
  (hs : ∀ (k:Nat) x y,l[k]? = some x->m[k]? = some y->(x=y->f ((k:Int),false)=some (.nx (((k+1:Nat):Int),false)))/\(x≠y->f ((k:Int),false)=some (.dn (0,(((k:Int),false),())))))
  (he:f ((l.length:Int),false)=some (.dn (1,(((l.length:Int),false),())))) :
  ∃ r,loop f (0,false)=some r/\((l=m/\r.1=1)\/(l≠m/\r.1=0/\r.2.1.2=false)):=by
 refine EF (l:=l) (σ:=Unit) (λk _=>((k:Int),false)) (λt k _=>t=l.drop k/\l.take k=m.take k) _ () rfl (by omega) ⟨by simp,by simp⟩ (λst h => ?_) (λk x t st hd hx hk h => ?_)
 ·refine ⟨_,he,.inl ⟨?_,rfl⟩⟩;have:=h.2;rw [List.take_length,hl,List.take_length] at this;exact this
 ·have hk2:k<m.length:=by omega
  have hy:m[k]? = some m[k]:=by simp [hk2]
  by_cases e:x=m[k]
  ·refine .inl ⟨(),(hs k x m[k] hx hy).1 e,?_,?_⟩
   ·have:=congrArg List.tail hd;rw [List.tail_drop] at this;simp at this;exact this.symm
   ·rw [List.take_add_one,List.take_add_one,h.2,hx,hy,e]
  ·refine .inr ⟨_,(hs k x m[k] hx hy).2 e,.inr ⟨?_,rfl,rfl⟩⟩;intro e2;subst e2;rw [hx] at hy;exact e (Option.some.inj hy)
theorem beq_eq (a b:Bool):Sv.beq a b=decide (a=b):=by cases a<;>cases b<;>rfl
theorem DN (a b:Int):BJ a b=decide (a=b):=by
 unfold BJ;by_cases h:a=b<;>simp [h]
theorem JZ (p q:Prop) [Decidable p] [Decidable q]:Bo (decide p) (decide q)=decide (p/\q):=by unfold Bo;simp
theorem CZ (p:Prop) [Decidable p]:AY (decide p)=decide (¬ p):=by unfold AY;simp
theorem Mm (a:Bool):Bo a true=a:=by cases a<;>rfl
theorem Yk (l m:List AR) (hb:l.length<=9223372036854775806):Am (l,m)=some (decide (l=m)):=by
 unfold Am;simp only [AU,AO];rw [AN];by_cases hl:(l.length:Int)=(m.length:Int)
 ·rw [if_pos hl];have hl2:l.length=m.length:=by omega
  obtain ⟨r,h1,h2⟩:=I7 l m hl2 hb (f:=λs0=>br (Ae s0.1 (l.length:Int)) (λ_=>AP s0.1 λk1=>ix l k1 λx2=>AP s0.1 λk3=>ix m k3 λx4=>br (AY (Bo (seq x2.1 x4.1) (Bo (Sv.beq x2.2 x4.2) true))) (λ_=>some (.dn ((0,((s0.1,false),()))))) λ_=>some (.nx (AH .i64 s0.1 1,s0.2))) λ_=>some (.dn ((1,(s0,()))))) (λk x y hx hy=>by
    have hk:=(List.getElem?_eq_some_iff.1 hx).1
    have he : ∀ {β:Type} (u v:Unit->Option β),br (AY (Bo (seq x.1 y.1) (Bo (Sv.beq x.2 y.2) true))) u v=if x=y then v () else u ():=by
     intro β u v;rw [Mm,Lq,beq_eq,JZ,CZ,Cn];by_cases e:x=y
     ·subst e;simp
     ·rw [if_pos (λh=>e (Prod.ext h.1 h.2)),if_neg e]
    constructor
    ·intro e;simp only;rw [rl hk,AM,AE,AI hx,AE,AI hy,he,if_pos e,AZ (by omega)]
    ·intro e;simp only
     rw [rl hk,AM,AE,AI hx,AE,AI hy,he,if_neg e]) (by simp only;rw [re];rfl)
  refine A7 h1 ?_;rcases h2 with ⟨e,h2⟩ | ⟨e,h2,h3⟩
  ·rw [CS,h2];simp [e]
  ·rw [CS,h2];simp [e,h3]
 ·rw [if_neg hl];have : ¬ l=m:=λe=>hl (by rw [e]);simp [this]
theorem K1 (l m:List Int) (hb:l.length<=9223372036854775806):Ag (l,m)=some (decide (l=m)):=by
 unfold Ag;simp only [AU,AO];rw [AN];by_cases hl:(l.length:Int)=(m.length:Int)
 ·rw [if_pos hl];have hl2:l.length=m.length:=by omega
  obtain ⟨r,h1,h2⟩:=I7 l m hl2 hb (f:=λs0=>br (Ae s0.1 (l.length:Int)) (λ_=>AP s0.1 λk1=>ix l k1 λx2=>AP s0.1 λk3=>ix m k3 λx4=>br (Ai x2 x4) (λ_=>some (.dn ((0,((s0.1,false),()))))) λ_=>some (.nx (AH .i64 s0.1 1,s0.2))) λ_=>some (.dn ((1,(s0,()))))) (λk x y hx hy=>by
    have hk:=(List.getElem?_eq_some_iff.1 hx).1;constructor
    ·intro e;simp only;rw [rl hk,AM,AE,AI hx,AE,AI hy,AN,if_pos e,AZ (by omega)]
    ·intro e;simp only
     rw [rl hk,AM,AE,AI hx,AE,AI hy,AN,if_neg e]) (by simp only;rw [re];rfl)
  refine A7 h1 ?_;rcases h2 with ⟨e,h2⟩ | ⟨e,h2,h3⟩
  ·rw [CS,h2];simp [e]
  ·rw [CS,h2];simp [e,h3]
 ·rw [if_neg hl];have : ¬ l=m:=λe=>hl (by rw [e]);simp [this]
theorem Pc {β:Type} (x y:AB) (u v:Unit->Option β):br (AY (Bo (seq x.1 y.1) (Bo (seq x.2.1 y.2.1) (Bo (Sv.beq x.2.2.1 y.2.2.1) (Bo (BJ x.2.2.2 y.2.2.2) true))))) u v=if x=y then v () else u ():=by
 rw [Mm,Lq,Lq,beq_eq,DN,JZ,JZ,JZ,CZ,Cn];by_cases e:x=y
 ·subst e;simp
 ·rw [if_pos (λh=>e (Prod.ext h.1 (Prod.ext h.2.1 (Prod.ext h.2.2.1 h.2.2.2)))),if_neg e]
theorem GZ (l m:List AB) (hb:l.length<=9223372036854775806):BQ (l,m)=some (decide (l=m)):=by
 unfold BQ;simp only [AU,AO];rw [AN];by_cases hl:(l.length:Int)=(m.length:Int)
 ·rw [if_pos hl];have hl2:l.length=m.length:=by omega
  obtain ⟨r,h1,h2⟩:=I7 l m hl2 hb (f:=λs0=>br (Ae s0.1 (l.length:Int)) (λ_=>AP s0.1 λk1=>ix l k1 λx2=>AP s0.1 λk3=>ix m k3 λx4=>br (AY (Bo (seq x2.1 x4.1) (Bo (seq x2.2.1 x4.2.1) (Bo (Sv.beq x2.2.2.1 x4.2.2.1) (Bo (BJ x2.2.2.2 x4.2.2.2) true))))) (λ_=>some (.dn ((0,((s0.1,false),()))))) λ_=>some (.nx (AH .i64 s0.1 1,s0.2))) λ_=>some (.dn ((1,(s0,()))))) (λk x y hx hy=>by
    have hk:=(List.getElem?_eq_some_iff.1 hx).1;constructor
    ·intro e;simp only;rw [rl hk,AM,AE,AI hx,AE,AI hy,Pc,if_pos e,AZ (by omega)]
    ·intro e;simp only
     rw [rl hk,AM,AE,AI hx,AE,AI hy,Pc,if_neg e]) (by simp only;rw [re];rfl)
  refine A7 h1 ?_;rcases h2 with ⟨e,h2⟩ | ⟨e,h2,h3⟩
  ·rw [CS,h2];simp [e]
  ·rw [CS,h2];simp [e,h3]
 ·rw [if_neg hl];have : ¬ l=m:=λe=>hl (by rw [e]);simp [this]
theorem H6 (l m:List AB) (hb:l.length<=9223372036854775806):Br (l,m)=some (decide (l=m)):=by
 unfold Br;rw [GZ l m hb];rfl
instance:DecidableEq AB:=inferInstance
instance:DecidableEq (List AB):=inferInstance
instance:DecidableEq (List (List AB)):=inferInstance
instance:DecidableEq AR:=inferInstance
instance:DecidableEq EE:=inferInstance
instance:DecidableEq AT:=inferInstance
instance:DecidableEq B7:=inferInstance
instance:DecidableEq JV:=inferInstance
theorem Tn (x y:JV) (h1:x.1.1.length<=1000) (h2 : ∀ l∈x.1.1,l.length<=1000000) (h3:x.1.2.1.length<=1000) (h4:x.1.2.2.1.length<=1000) (h5:x.1.2.2.2.1.length<=1000) (h6:x.2.2.1.length<=1000000):DW (x,y)=some (decide (x=y)):=by
 obtain ⟨⟨xr,xa,xk,xl,xw⟩,⟨xs,xt,xb⟩,xo,xn⟩:=x;obtain ⟨⟨yr,ya,yk,yl,yw⟩,⟨ys,yt,yb⟩,yo,yn⟩:=y;simp only at h1 h2 h3 h4 h5 h6;unfold DW;simp only [AU,AO];rw [AN];by_cases hl:(xr.length:Int)=(yr.length:Int)
 ·rw [if_pos hl];have hl2:xr.length=yr.length:=by omega
  obtain ⟨r,q1,q2⟩:=I7 xr yr hl2 (by omega) (f:=λs0=>br (Ae s0.1 (xr.length:Int)) (λ_=>AP s0.1 λk1=>ix xr k1 λx2=>AP s0.1 λk3=>ix yr k3 λx4=>bd (Br (x2,x4)) λr5=>br (AY r5) (λ_=>some (.dn ((0,((s0.1,false),()))))) λ_=>some (.nx (AH .i64 s0.1 1,s0.2))) λ_=>some (.dn ((1,(s0,()))))) (λk x y hx hy=>by
    have hk:=(List.getElem?_eq_some_iff.1 hx).1;have hx1:=h2 x (List.mem_of_getElem? hx);constructor
    ·intro e;simp only;rw [rl hk,AM,AE,AI hx,AE,AI hy,H6 _ _ (by omega),AC,CZ,Cn,if_neg (by simp [e]),AZ (by omega)]
    ·intro e;simp only
     rw [rl hk,AM,AE,AI hx,AE,AI hy,H6 _ _ (by omega),AC,CZ,Cn,if_pos e]) (by simp only;rw [re];rfl)
  refine A7 q1 ?_;simp only [K1 _ _ (show xa.length<=9223372036854775806 by omega),K1 _ _ (show xl.length<=9223372036854775806 by omega),Yk _ _ (show xk.length<=9223372036854775806 by omega),H6 _ _ (show xo.length<=9223372036854775806 by omega),AC,Cn,DN,Lq,beq_eq,Mm,JZ,CS];rw [HP];rcases q2 with ⟨e,q2⟩ | ⟨e,q2,q3⟩
  ·rw [if_neg (show ¬ r.1=0 by omega)]
   repeat' split
   all_goals simp_all
  ·rw [if_pos q2,if_neg (show ¬ r.2.1.2=true by simp [q3])];simp [e]
 ·rw [if_neg hl];have : ¬ xr=yr:=λe=>hl (by rw [e]);simp [this]
end Go.Proofs.YthpkjfabdccpdaaGreat.Pl
namespace Go.Proofs.YthpkjfabdccpdaaGreat.Pl
open Go Go.Proofs.YthpkjfabdccpdaaGreat.Sv
def kR (ids:List Int) (most:Int) (r:Ao):Int :=
 if r.1<1\/r.1>1000000 then 7 else if (Cd r.2).2≠0 then (Cd r.2).2 else if r.2.length=0 then 4 else if (r.2.length:Int)>most then 3 else if r.1∈ids then 8 else 0
def K4 (most:Int):Nat->List Int->List Ao->Option (Nat×Int)
 | _,_,[]=>none
 | k,ids,r::rs=>if kR ids most r≠0 then some (k,kR ids most r) else K4 most (k+1) (ids++[r.1]) rs
def Bn (B:Int) (i:Nat):Int:=B*2 ^ i
def K5 (B:Int):Nat->List Int->List (List Ao)->Option (Nat×(Nat×Int))
 | _,_,[]=>none
 | i,ids,rs::ls=>if rs.length>2 then some (i,(0,3)) else match K4 (Bn B i) 0 ids rs with
  | some (k,e)=>some (i,(k,e))
  | none=>K5 B (i+1) (ids++rs.map (·.1)) ls
def Em (L:AL):Int×(Int×Int) :=
 if L.1<1\/L.1>16 then (0,(0,7)) else if L.2.length>12 then (0,(0,3)) else match K5 L.1 0 [] L.2 with
  | some (i,(k,e))=>((i:Int),((k:Int),e))
  | none=>if L.2.getLast? = some [] then (((L.2.length-1:Nat):Int),(0,6)) else (0,(0,0))
theorem XZ {most:Int} : ∀ {rs:List Ao} {k:Nat} {ids:List Int} {k':Nat} {e:Int},K4 most k ids rs=some (k',e)->e≠0
 | [],_,_,_,_,h=>by cases h
 | r::rs,k,ids,k',e,h=>by
  unfold K4 at h;by_cases hk:kR ids most r≠0
  ·rw [if_pos hk] at h;cases h;exact hk
  ·rw [if_neg hk] at h;exact XZ h
theorem SJ {B:Int} : ∀ {ls:List (List Ao)} {i:Nat} {ids:List Int} {i' k':Nat} {e:Int},K5 B i ids ls=some (i',(k',e))->e≠0
 | [],_,_,_,_,_,h=>by cases h
 | rs::ls,i,ids,i',k',e,h=>by
  unfold K5 at h;by_cases hk:rs.length>2
  ·rw [if_pos hk] at h;cases h;decide
  ·rw [if_neg hk] at h;cases hr:K4 (Bn B i) 0 ids rs with
   | none=>rw [hr] at h;exact SJ h
   | some x=>rw [hr] at h;cases h;exact XZ hr
def QC (ids:List Int):List (Int×Bool):=ids.map λi=>(i,true)
theorem bj (ids:List Int) (i:Int):P8 (Is (λa b=>BJ a b) (QC ids) i) false=decide (i∈ids):=by
 induction ids with
 | nil=>rfl
 | cons j ids ih =>
  show P8 (bif BJ i j then some true else Is (λa b=>BJ a b) (QC ids) i) false=_
  rw [DN];by_cases h:i=j
  ·simp [h,P8]
  ·simp only [h,decide_false,cond_false,List.mem_cons,false_or];exact ih
theorem bm {ids:List Int} {i:Int} (h:i ∉ ids):IA (λa b=>BJ a b) (QC ids) i true=QC (ids++[i]):=by
 induction ids with
 | nil=>rfl
 | cons j ids ih =>
  show (bif BJ i j then (i,true)::QC ids else (j,true)::IA (λa b=>BJ a b) (QC ids) i true)=_
  rw [DN];have h1 : ¬ i=j:=λe=>h (by simp [e]);rw [ih (λe=>h (by simp [e]))];simp only [h1,decide_false,cond_false];rfl
theorem Mn (r:Ao) (hl:r.2.length<=9223372036854775807):FK r=some (if r.1<1\/r.1>1000000 then (-1,7) else Cd r.2):=by
 unfold FK;rw [BD,Av,Ez _ hl,AC];by_cases h:r.1<1
 ·rw [if_pos h,if_pos (.inl h)]
 ·rw [if_neg h];by_cases h2:r.1>1000000
  ·rw [if_pos h2,if_pos (.inr h2)]
  ·rw [if_neg h2,if_neg (by omega)]
theorem Qw (r:Ao) (most:Int) (hl:r.2.length<=9223372036854775807):Cu (r,most)=some (kR [] most r):=by
 unfold Cu kR;rw [Mn r hl,AC];simp only [AU,AO];by_cases h:r.1<1\/r.1>1000000
 ·rw [if_pos h,if_pos h];rfl
 ·rw [if_neg h,if_neg h,AN];by_cases h2:(Cd r.2).2=0
  ·rw [if_pos h2,if_neg (by simp [h2]),BI,Av]
   repeat' split
   all_goals first | rfl | (exfalso;omega) | simp_all
  ·rw [if_neg h2,if_pos h2]
theorem bn (ids:List Int) (most:Int) (r:Ao):kR ids most r=if kR [] most r=0 then (if r.1∈ids then 8 else 0) else kR [] most r:=by
 unfold kR
 repeat' split
 all_goals simp_all
theorem kj (i:Nat) (h:i<=12):(2:Int) ^ i<=4096/\1<=(2:Int) ^ i:=by
 have h1:(2:Nat) ^ i<=2 ^ 12:=Nat.pow_le_pow_right (by omega) h;have h2:1<=(2:Nat) ^ i:=Nat.one_le_two_pow;have h3:((2 ^ i:Nat):Int)=(2:Int) ^ i:=by simp
 omega
theorem To {B:Int} {i:Nat} (h1:1<=B) (h2:B<=16) (hi:i<=12):1<=Bn B i/\Bn B i<=65536:=by
 obtain ⟨h3,h4⟩:=kj i hi;unfold Bn;constructor
 ·have:=Int.mul_le_mul h1 h4 (by omega) (by omega);omega
 ·have:=Int.mul_le_mul h2 h3 (by omega) (by omega);omega
theorem Qx {B:Int} {i:Nat} (h1:1<=B) (h2:B<=16) (hi:i<=12):Ur .i64 B (i:Int)=Bn B i:=by
 have h3:=To h1 h2 hi;unfold Ur;rw [show min ((i:Int).toNat) IntKind.i64.bits=i by rw [Int.toNat_natCast];exact Nat.min_eq_left (Nat.le_trans hi (by decide))];unfold Bn at h3 ⊢;exact IntWalk.i64_in _ (by omega)
def Q1:Option (Nat×(Nat×Int))->Int->Int->Int->Prop
 | some (i,(k,e)),a,b,c=>a=(k:Int)/\b=(i:Int)/\c=e
 | none,_,_,c=>c=0
def Q2 (m:List (Int×Bool)):Option (Nat×Int)->Nat->Int->Int->List (Int×Bool)->Prop
 | some (k,e),r,a,c,_=>r=0/\a=(k:Int)/\c=e
 | none,r,_,c,m'=>r=1/\c=0/\m'=m
theorem Lt (L:AL) (hb:L.2.length<=1048576) (hr : ∀ rs∈L.2,rs.length<=1048576 /\ ∀ r∈rs,r.2.length<=9223372036854775807):DA L=some (Em L):=by
 unfold DA Em;simp only [AU,AO];rw [BD,Av,Av];by_cases hB1:L.1<1
 ·rw [if_pos hB1,if_pos (.inl hB1)]
 rw [if_neg hB1];by_cases hB2:L.1>16
 ·rw [if_pos hB2,if_pos (.inr hB2)]
 rw [if_neg hB2,if_neg (show ¬ (L.1<1\/L.1>16) by omega)];by_cases hl:(L.2.length:Int)>12
 ·rw [if_pos hl,if_pos (by omega)]
 rw [if_neg hl,if_neg (by omega)];have hl2:L.2.length<=12:=by omega
 obtain ⟨T,hT⟩ : ∃ T,T=K5 L.1 0 [] L.2:=⟨_,rfl⟩;rw [<- hT]
 have hlast : ∀ r2:Int,r2=0->T=none->(br (Ai r2 0) (λ_=>(none:Option (Int×(Int×Int)))) λ_=>br (B6 (L.2.length:Int) 0) (λ_=>AP (BF .i64 (L.2.length:Int) 1) λk15=>ix L.2 k15 λx16=>br (BJ (x16.length:Int) 0) (λ_=>some ((BF .i64 (L.2.length:Int) 1,(0,6)))) λ_=>some ((0,(0,0)))) λ_=>some ((0,(0,0))))=some (if L.2.getLast? = some [] then (((L.2.length-1:Nat):Int),(0,6)) else (0,(0,0))):=by
  intro r2 h0 _;rw [AN,if_pos h0,Av];by_cases hn:L.2=[]
  ·rw [hn];rfl
  ·have hp:=List.length_pos_iff.2 hn;rw [if_pos (by omega),show BF .i64 (L.2.length:Int) 1=((L.2.length-1:Nat):Int) by rw [Bu (by omega)];omega,AE,List.getLast?_eq_getElem?];have hx:L.2[L.2.length-1]? = some (L.2[L.2.length-1]'(by omega)):=by simp
   rw [AI hx,hx,BI];by_cases he:L.2[L.2.length-1]'(by omega)=[]
   ·rw [he];simp
   ·rw [if_neg (by have:=List.length_pos_iff.2 he;omega),if_neg (by simp [he])]
 obtain ⟨r,q1,q2⟩:=EF (l:=L.2) (σ:=Int×(Int×List Int)) (λi st=>(st.1,(st.2.1,((0:Int),((i:Int),QC st.2.2)))))
  (λm i st=>K5 L.1 i st.2.2 m=T) (λ(r:Nat×((Int×(Int×(Int×(Int×List (Int×Bool)))))×Unit))=>Q1 T r.2.1.1 r.2.1.2.1 r.2.1.2.2.1)
  (f:=λs0=>br (Ae s0.2.2.2.1 (L.2.length:Int)) (λ_=>AP s0.2.2.2.1 λk1=>ix L.2 k1 λx2=>br (B6 (x2.length:Int) 2) (λ_=>some (.dn ((0,((0,(s0.2.2.2.1,(3,s0.2.2.2))),()))))) λ_=>bd (loop (λs3=>br (Ae s3.2.1 (x2.length:Int)) (λ_=>AP s3.2.1 λk4=>ix x2 k4 λx5=>gd (Hf s0.2.2.2.1 0) λ_=>bd (Cu (x5,Ur .i64 L.1 s0.2.2.2.1)) λr6=>br (BJ r6 0) (λ_=>br (P8 (Is ((λa7=>(λa8=>BJ a7 a8))) s3.2.2.2 x5.1) false) (λ_=>some (.dn ((0,((s3.2.1,(s3.2.1,(8,s3.2.2.2))),()))))) λ_=>br (Ai r6 0) (λ_=>some (.dn ((0,((s3.2.1,(s3.2.1,(r6,s3.2.2.2))),()))))) λ_=>some (.nx ((s3.2.1,(AH .i64 s3.2.1 1,(r6,IA ((λa9=>(λa10=>BJ a9 a10))) s3.2.2.2 x5.1 true)))))) λ_=>br (Ai r6 0) (λ_=>some (.dn ((0,((s3.2.1,(s3.2.1,(r6,s3.2.2.2))),()))))) λ_=>some (.nx ((s3.2.1,(AH .i64 s3.2.1 1,(r6,IA ((λa11=>(λa12=>BJ a11 a12))) s3.2.2.2 x5.1 true)))))) λ_=>some (.dn ((1,(s3,()))))) ((0,(0,(s0.2.2.1,s0.2.2.2.2))))) λr13=>br (neq r13.1 0) (λ_=>some (.dn ((0,((r13.2.1.1,(s0.2.2.2.1,(r13.2.1.2.2.1,(s0.2.2.2.1,r13.2.1.2.2.2)))),()))))) λ_=>some (.nx ((r13.2.1.1,(s0.2.2.2.1,(r13.2.1.2.2.1,(AH .i64 s0.2.2.2.1 1,r13.2.1.2.2.2))))))) λ_=>some (.dn ((0,(s0,())))))
  (s:=(0,(0,(0,(0,[]))))) (0,(0,[])) rfl (by omega) hT.symm (λst h=>by
   refine ⟨_,by simp only;rw [re];rfl,?_⟩;simp only at h ⊢;rw [<- h];exact rfl) (λi rs m st hd hx hi h=>by
   obtain ⟨s1,s2,ids⟩:=st;simp only at h ⊢;obtain ⟨hrs1,hrs2⟩:=hr rs (List.mem_of_getElem? hx);rw [rl hi,AM,AE,AI hx,Av];unfold K5 at h;by_cases h3:rs.length>2
   ·rw [if_pos (by omega)];rw [if_pos h3] at h;refine .inr ⟨_,rfl,?_⟩;rw [<- h];exact ⟨rfl,rfl,rfl⟩
   rw [if_neg (by omega)];rw [if_neg h3] at h;obtain ⟨U,hU⟩ : ∃ U,U=K4 (Bn L.1 i) 0 ids rs:=⟨_,rfl⟩;rw [<- hU] at h
   obtain ⟨r,q1,q2⟩:=EF (l:=rs) (σ:=Int) (λk st=>(st,((k:Int),((0:Int),QC (ids++(rs.take k).map (·.1))))))
    (λm k _=>K4 (Bn L.1 i) k (ids++(rs.take k).map (·.1)) m=U) (λ(r:Nat×((Int×(Int×(Int×List (Int×Bool))))×Unit))=>Q2 (QC (ids++rs.map (·.1))) U r.1 r.2.1.1 r.2.1.2.2.1 r.2.1.2.2.2)
    (f:=λs3=>br (Ae s3.2.1 (rs.length:Int)) (λ_=>AP s3.2.1 λk4=>ix rs k4 λx5=>gd (Hf (i:Int) 0) λ_=>bd (Cu (x5,Ur .i64 L.1 (i:Int))) λr6=>br (BJ r6 0) (λ_=>br (P8 (Is ((λa7=>(λa8=>BJ a7 a8))) s3.2.2.2 x5.1) false) (λ_=>some (.dn ((0,((s3.2.1,(s3.2.1,(8,s3.2.2.2))),()))))) λ_=>br (Ai r6 0) (λ_=>some (.dn ((0,((s3.2.1,(s3.2.1,(r6,s3.2.2.2))),()))))) λ_=>some (.nx ((s3.2.1,(AH .i64 s3.2.1 1,(r6,IA ((λa9=>(λa10=>BJ a9 a10))) s3.2.2.2 x5.1 true)))))) λ_=>br (Ai r6 0) (λ_=>some (.dn ((0,((s3.2.1,(s3.2.1,(r6,s3.2.2.2))),()))))) λ_=>some (.nx ((s3.2.1,(AH .i64 s3.2.1 1,(r6,IA ((λa11=>(λa12=>BJ a11 a12))) s3.2.2.2 x5.1 true)))))) λ_=>some (.dn ((1,(s3,())))))
    (s:=(0,(0,(0,QC ids)))) 0 (by simp) (by omega) (by simp [hU]) (λst h=>by
     refine ⟨_,by simp only;rw [re];rfl,?_⟩;rw [<- h];exact ⟨rfl,rfl,by simp⟩) (λk r m st hd hx hk h=>by
     simp only at h ⊢;have hr2:=hrs2 r (List.mem_of_getElem? hx);have htk:(rs.take (k+1)).map (·.1)=(rs.take k).map (·.1)++[r.1]:=by rw [List.take_add_one,hx];simp
     rw [rl hk,AM,AE,AI hx,show gd (Hf (i:Int) 0)=λ(q:Unit->Option (LR (Int×(Int×(Int×List (Int×Bool)))) (Nat×((Int×(Int×(Int×List (Int×Bool))))×Unit))))=>q () from by unfold Hf;simp [gd];rfl,Qx (by omega) (by omega) (by omega)];simp only;rw [Qw _ _ (by omega),AC,BI,bj,AN];unfold K4 at h;rw [bn] at h;by_cases h0:kR [] (Bn L.1 i) r=0
     ·rw [if_pos h0] at h;rw [if_pos h0,if_pos h0,Cn];by_cases hm:r.1∈ids++(rs.take k).map (·.1)
      ·rw [if_pos hm];rw [if_pos hm,if_pos (by decide)] at h;refine .inr ⟨_,rfl,?_⟩;rw [<- h];exact ⟨rfl,rfl,rfl⟩
      ·rw [if_neg hm];rw [if_neg hm,if_neg (by decide)] at h;refine .inl ⟨(k:Int),?_,?_⟩
       ·rw [bm hm,h0,As hx (by omega),htk,List.append_assoc]
       ·rw [htk,<- List.append_assoc];exact h
     ·rw [if_neg h0,if_pos h0] at h;rw [if_neg h0,if_neg h0];refine .inr ⟨_,rfl,?_⟩;rw [<- h]
      exact ⟨rfl,rfl,rfl⟩)
   rw [q1,AC,CS];cases hUc:U with
   | some u =>
    obtain ⟨k,e⟩:=u;rw [hUc] at q2 h;rw [if_pos q2.1];refine .inr ⟨_,rfl,?_⟩;rw [<- h];exact ⟨q2.2.1,rfl,q2.2.2⟩
   | none =>
    rw [hUc] at q2 h;rw [if_neg (show ¬ r.1=0 by have:=q2.1;omega)];refine .inl ⟨(r.2.1.1,((i:Int),ids++rs.map (·.1))),?_,h⟩
    rw [q2.2.1,q2.2.2,As hx (by omega)])
 refine A7 q1 ?_;cases hTc:T with
 | some t =>
  obtain ⟨i,k,e⟩:=t;rw [hTc] at q2 hT;rw [AN,if_neg (by rw [q2.2.2];exact SJ hT.symm),q2.1,q2.2.1,q2.2.2]
 | none =>
  rw [hTc] at q2;have h:=hlast _ q2 hTc;have q3:r.2.1.2.2.1=0:=q2;rw [AN,if_pos q3] at h ⊢;exact h
end Go.Proofs.YthpkjfabdccpdaaGreat.Pl
namespace Go.Proofs.YthpkjfabdccpdaaGreat.Pl
open Go Go.Proofs.YthpkjfabdccpdaaGreat.Sv
structure VR (most:Int) (r:Ao):Prop where
 id1:1<=r.1
 id2:r.1<=1000000
 vl:VL r.2
 ne:r.2≠[]
 le:(r.2.length:Int)<=most
theorem bo {ids:List Int} {most:Int} {r:Ao}:kR ids most r=0<->VR most r/\r.1 ∉ ids:=by
 unfold kR;constructor
 ·intro h;by_cases h1:r.1<1\/r.1>1000000
  ·rw [if_pos h1] at h;cases h
  rw [if_neg h1] at h;by_cases h2:(Cd r.2).2≠0
  ·rw [if_pos h2] at h;exact absurd h h2
  rw [if_neg h2] at h;by_cases h3:r.2.length=0
  ·rw [if_pos h3] at h;cases h
  rw [if_neg h3] at h;by_cases h4:(r.2.length:Int)>most
  ·rw [if_pos h4] at h;cases h
  rw [if_neg h4] at h;by_cases h5:r.1∈ids
  ·rw [if_pos h5] at h;cases h
  exact ⟨⟨by omega,by omega,Na.1 (by simpa using h2),by intro e;rw [e] at h3;exact h3 rfl,by omega⟩,h5⟩
 ·rintro ⟨h,h5⟩;rw [if_neg (by have:=h.id1;have:=h.id2;omega),if_neg (by simp [Na.2 h.vl]),if_neg (by have:=List.length_pos_iff.2 h.ne;omega),if_neg (by have:=h.le;omega),if_neg h5]
def Xa (r:Ao):Int:=r.1
theorem Ng {most:Int} : ∀ {rs:List Ao} {k:Nat} {ids:List Int},K4 most k ids rs=none<->(∀ r∈rs,VR most r/\r.1 ∉ ids)/\(rs.map Xa).Nodup
 | [],k,ids=>by simp [K4]
 | r::rs,k,ids=>by
  unfold K4;by_cases h:kR ids most r=0
  ·rw [if_neg (by simp [h]),Ng (rs:=rs)];have h1:=bo.1 h;simp only [List.mem_cons,forall_eq_or_imp,List.map_cons,List.nodup_cons,List.mem_append,List.not_mem_nil,or_false,List.mem_map,not_exists,not_and,not_or];constructor
   ·rintro ⟨h2,h3⟩;exact ⟨⟨h1,λx hx=>⟨(h2 x hx).1,(h2 x hx).2.1⟩⟩,λx hx e=>(h2 x hx).2.2 e,h3⟩
   ·rintro ⟨⟨_,h2⟩,h3,h4⟩;exact ⟨λx hx=>⟨(h2 x hx).1,(h2 x hx).2,h3 x hx⟩,h4⟩
  ·rw [if_pos h];simp only [reduceCtorEq,false_iff,not_and];intro h2;exact absurd (bo.2 (h2 r (by simp))) h
theorem K2 {B:Int} : ∀ {ls:List (List Ao)} {i:Nat} {ids:List Int},K5 B i ids ls=none<->(∀ k rs,ls[k]? = some rs->rs.length<=2 /\ ∀ r∈rs,VR (Bn B (i+k)) r/\r.1 ∉ ids)/\(ls.flatten.map Xa).Nodup
 | [],i,ids=>by simp [K5]
 | rs::ls,i,ids=>by
  unfold K5;by_cases h:rs.length>2
  ·rw [if_pos h];simp only [reduceCtorEq,false_iff,not_and];intro h2;have:=(h2 0 rs rfl).1;omega
  ·rw [if_neg h];cases hr:K4 (Bn B i) 0 ids rs with
   | some x =>
    simp only [reduceCtorEq,false_iff,not_and];intro h2 h3
    have h4:K4 (Bn B i) 0 ids rs=none:=Ng.2 ⟨(h2 0 rs rfl).2,by
     simp only [List.flatten_cons,List.map_append] at h3
     exact (List.nodup_append.1 h3).1⟩
    rw [hr] at h4;cases h4
   | none =>
    have h1:=Ng.1 hr;simp only;rw [K2 (ls:=ls)];simp only [List.flatten_cons,List.map_append,List.mem_append,not_or,List.mem_map];constructor
    ·rintro ⟨h2,h3⟩;refine ⟨λk rs' hk => ?_,?_⟩
     ·cases k with
      | zero=>cases hk;exact ⟨by omega,h1.1⟩
      | succ k =>
       have h4:=h2 k rs' hk
       exact ⟨h4.1,λr hr=>by
        have:=h4.2 r hr;rw [show i+(k+1)=i+1+k by omega]
        exact ⟨this.1,this.2.1⟩⟩
     ·rw [List.nodup_append];refine ⟨h1.2,h3,?_⟩;intro a ha b hb e;subst e;obtain ⟨r,hr,e1⟩:=List.mem_map.1 ha;obtain ⟨r',hr',e2⟩:=List.mem_map.1 hb;obtain ⟨rs',hrs,hr'⟩:=List.mem_flatten.1 hr';obtain ⟨k,hk⟩:=List.getElem?_of_mem hrs;exact ((h2 k rs' hk).2 r' hr').2.2 ⟨r,hr,by unfold Xa at e1 e2;omega⟩
    ·rintro ⟨h2,h3⟩;rw [List.nodup_append] at h3;refine ⟨λk rs' hk => ?_,h3.2.1⟩;have h4:=h2 (k+1) rs' hk;refine ⟨h4.1,λr hr => ?_⟩;have:=h4.2 r hr;rw [show i+(k+1)=i+1+k by omega] at this;refine ⟨this.1,this.2,?_⟩;rintro ⟨r',hr',e⟩;exact h3.2.2 (Xa r') (List.mem_map_of_mem hr') (Xa r) (List.mem_map_of_mem (List.mem_flatten.2 ⟨rs',List.mem_of_getElem? hk,hr⟩)) e
structure VLev (L:AL):Prop where
 B1:1<=L.1
 B2:L.1<=16
 len:L.2.length<=12
 lev : ∀ i rs,L.2[i]? = some rs->rs.length<=2 /\ ∀ r∈rs,VR (Bn L.1 i) r
 ids:(L.2.flatten.map Xa).Nodup
 last:L.2.getLast? ≠ some []
theorem IV {L:AL}:(Em L).2.2=0<->VLev L:=by
 unfold Em;constructor
 ·intro h;by_cases h1:L.1<1\/L.1>16
  ·rw [if_pos h1] at h;cases h
  rw [if_neg h1] at h;by_cases h2:L.2.length>12
  ·rw [if_pos h2] at h;cases h
  rw [if_neg h2] at h;cases hg:K5 L.1 0 [] L.2 with
  | some x =>
   obtain ⟨i,k,e⟩:=x;rw [hg] at h;exact absurd h (SJ hg)
  | none =>
   rw [hg] at h;simp only at h;by_cases h3:L.2.getLast? = some []
   ·rw [if_pos h3] at h;cases h
   ·have h4:=K2.1 hg
    exact ⟨by omega,by omega,by omega,λi rs hi=>by
     have:=h4.1 i rs hi;rw [Nat.zero_add] at this
     exact ⟨this.1,λr hr=>(this.2 r hr).1⟩,h4.2,h3⟩
 ·intro h
  have hg:K5 L.1 0 [] L.2=none:=K2.2 ⟨λk rs hk=>by
   have:=h.lev k rs hk;rw [Nat.zero_add]
   exact ⟨this.1,λr hr=>⟨this.2 r hr,by simp⟩⟩,h.ids⟩
  rw [if_neg (by have:=h.B1;have:=h.B2;omega),if_neg (by have:=h.len;omega),hg];simp only;rw [if_neg h.last]
theorem Ga {L:AL} (h:VLev L):Em L=(0,(0,0)):=by
 have hg:K5 L.1 0 [] L.2=none:=K2.2 ⟨λk rs hk=>by
  have:=h.lev k rs hk;rw [Nat.zero_add]
  exact ⟨this.1,λr hr=>⟨this.2 r hr,by simp⟩⟩,h.ids⟩
 unfold Em;rw [if_neg (by have:=h.B1;have:=h.B2;omega),if_neg (by have:=h.len;omega),hg];simp only;rw [if_neg h.last]
def FN (l:List (List Ao)):Int:=l.foldl (λm rs=>rs.foldl (λm r=>Kq m r.1) m) 0
def Bc:Nat->List (List Ao)->List Int
 | _,[]=>[]
 | i,rs::ls=>(if rs.length=2 then [(i:Int)] else [])++Bc (i+1) ls
theorem Tp (L:AL) (hb:L.2.length<=1048576) (hr : ∀ rs∈L.2,rs.length<=1048576):EM L=some (FN L.2):=by
 unfold EM;simp only [AU,AO]
 rw [DC (l:=L.2) (σ:=Int) (s:=((0:Int),(0:Int))) (λi m=>(m,(i:Int))) (λ_ _ _=>True) (λls _ m=>(0,((ls.foldl (λm rs=>rs.foldl (λm r=>Kq m r.1) m) m,(L.2.length:Int)),()))) 0 rfl (by omega) trivial (λm _=>by
  simp only;rw [re];rfl) (λi rs ls m hd hx hi _=>by
   refine ⟨rs.foldl (λm r=>Kq m r.1) m,?_,trivial,rfl⟩;have h1:=hr rs (List.mem_of_getElem? hx);simp only
   rw [rl hi,AM,AE,AI hx,DC (l:=rs) (σ:=Int) (s:=((0:Int),m)) (λi m=>((i:Int),m)) (λ_ _ _=>True) (λl _ m=>(0,(((rs.length:Int),l.foldl (λm r=>Kq m r.1) m),()))) m rfl (by omega) trivial (λm _=>by
    simp only;rw [re];rfl) (λk r l m hd hx hk _=>by
     refine ⟨Kq m r.1,?_,trivial,rfl⟩;simp only
     rw [rl hk,AM,AE,AI hx,As hx (by omega)]),AC,As hx (by omega)]),AC]
 rfl
def K6 (L:AL) (due:List Int) (i:Nat) (j:Hj):Bool:=match due[i]? with
 | none=>true
 | some d=>if j.1≠d then true else if j.2.2.1.2.2=true/\j.1≠(L.2.length:Int)-1 then true else match L.2[d.toNat]? with
  | some [r0,r1]=>if j.2.2.2.2<0\/j.2.2.2.2>((r1.2.length+r0.2.length:Nat):Int) then true else decide (El r1.2 r0.2 j.2.2.1.2.2 j.2.2.2.2.toNat≠j.2)
  | _=>true
def F3 (L:AL) (due:List Int):Nat->List Hj->Option Nat
 | _,[]=>none
 | i,j::js=>if K6 L due i j=true then some i else F3 L due (i+1) js
def Bj (s:BC):Int×Int :=
 if (Em s.1).2.2≠0 then (-1,(Em s.1).2.2) else if s.2.2<1\/s.2.2>1000001 then (-1,7) else if s.2.2<=FN s.1.2 then (-1,6) else match F3 s.1 (Bc 0 s.1.2) 0 s.2.1 with
  | some i=>((i:Int),6)
  | none=>if s.2.1.length<(Bc 0 s.1.2).length then (-1,4) else (0,0)
theorem Ho : ∀ {ls:List (List Ao)} {i k:Nat} {d:Int},(Bc i ls)[k]? = some d -> ∃ n:Nat,d=((i+n:Nat):Int) /\ ∃ r0 r1,ls[n]? = some [r0,r1]
 | [],i,k,d,h=>by cases h
 | rs::ls,i,k,d,h=>by
  unfold Bc at h;by_cases h2:rs.length=2
  ·rw [if_pos h2] at h;cases k with
   | zero =>
    simp at h;refine ⟨0,by simp [<- h],?_⟩
    match rs,h2 with
    | [r0,r1],_=>exact ⟨r0,r1,rfl⟩
   | succ k =>
    simp at h;obtain ⟨n,h3,h4⟩:=Ho h;exact ⟨n+1,by rw [h3];congr 1;omega,h4⟩
  ·rw [if_neg h2] at h;simp at h;obtain ⟨n,h3,h4⟩:=Ho h;exact ⟨n+1,by rw [h3];congr 1;omega,h4⟩
theorem F8 : ∀ (ls:List (List Ao)) (i:Nat),(Bc i ls).length<=ls.length
 | [],i=>Nat.le_refl _
 | rs::ls,i=>by
  have:=F8 ls (i+1);unfold Bc;split<;>simp<;>omega
theorem Tq {L:AL} {n:Nat} {r0 r1:Ao} (bt:Bool) (h:L.2[n]? = some [r0,r1]) (v0:VL r0.2) (v1:VL r1.2):CX (L,((n:Int),bt))=some ((n:Int),El r1.2 r0.2 bt 0):=by
 unfold CX;simp only;rw [AE,AI h,AI (x:=r1) rfl,AI (x:=r0) rfl,Yc v1 v0];rfl
theorem Nh {a b:List AB} (va:VL a) (vb:VL b) (bt:Bool) {n:Nat} (h:n<=a.length+b.length):(El a b bt n).1.1.length<=1000/\(∀ l∈(El a b bt n).1.1,l.length<=1000000)/\(El a b bt n).1.2.1.length<=1000/\(El a b bt n).1.2.2.1.length<=1000/\(El a b bt n).1.2.2.2.1.length<=1000/\(El a b bt n).2.2.1.length<=1000000:=by
 have la:=va.len;have lb:=vb.len;refine ⟨show 2<=1000 by omega,λl hl => ?_,show 2<=1000 by omega,show 2<=1000 by omega,show 2<=1000 by omega,?_⟩
 ·have:l=a\/l=b:=by simpa [El,Ls,Lz] using hl
  rcases this with e | e<;>subst e<;>omega
 ·have h1:=I5 (s0 bt) (A4 a b n);have h2:=Cj va vb h;show (Ff (s0 bt) (A4 a b n)).length<=_;omega
theorem kl {L:AL} {n:Nat} {r0 r1:Ao} {j:Hj} (h:L.2[n]? = some [r0,r1]) (v0:VL r0.2) (v1:VL r1.2) {β:Type} (A B:Option β) :
  (bd (CX (L,((n:Int),j.2.2.1.2.2))) λr16=>bd (B5 r16.2) λr17=>br (Ae j.2.2.2.2 0) (λ_=>A) λ_=>br (B6 j.2.2.2.2 r17.1) (λ_=>A) λ_=>bd (CY (r16.2,j.2.2.2.2)) λr18=>bd (DW (r18.1,j.2)) λr19=>br (AY r19) (λ_=>A) λ_=>B)
  = if j.2.2.2.2<0\/j.2.2.2.2>((r1.2.length+r0.2.length:Nat):Int) then A else if El r1.2 r0.2 j.2.2.1.2.2 j.2.2.2.2.toNat=j.2 then B else A:=by
 rw [Tq _ h v0 v1,AC,Nf v1 v0 _ (Nat.zero_le _),AC,BD,Av,Nat.sub_zero];by_cases h1:j.2.2.2.2<0
 ·rw [if_pos h1,if_pos (.inl h1)]
 rw [if_neg h1];by_cases h2:j.2.2.2.2>((r1.2.length+r0.2.length:Nat):Int)
 ·rw [if_pos h2,if_pos (.inr h2)]
 rw [if_neg h2,if_neg (show ¬ (j.2.2.2.2<0\/j.2.2.2.2>((r1.2.length+r0.2.length:Nat):Int)) by omega)];obtain ⟨k,hk⟩ : ∃ k:Nat,j.2.2.2.2=(k:Int):=⟨j.2.2.2.2.toNat,by omega⟩;rw [hk,Yj v1 v0 _ (Nat.zero_le _),AC,Nat.sub_zero,Nat.zero_add,Nat.min_eq_left (by omega),Int.toNat_natCast];obtain ⟨s1,s2,s3,s4,s5,s6⟩:=Nh v1 v0 j.2.2.1.2.2 (n:=k) (by omega);rw [Tn _ _ s1 s2 s3 s4 s5 s6,AC,CZ,Cn];by_cases he:El r1.2 r0.2 j.2.2.1.2.2 k=j.2
 ·rw [if_neg (by simp [he]),if_pos he]
 ·rw [if_pos he,if_neg he]
theorem Ve (s:BC) (hb:s.1.2.length<=1048576) (hr : ∀ rs∈s.1.2,rs.length<=1048576 /\ ∀ r∈rs,r.2.length<=9223372036854775807) (hj:s.2.1.length<=1048576):Bv s=some (Bj s):=by
 unfold Bv Bj;simp only [AU,AO];rw [Lt _ hb hr,AC,AN];by_cases h0:(Em s.1).2.2=0;rotate_left
 ·rw [if_neg h0,if_pos h0]
 rw [if_pos h0,if_neg (by simp [h0]),BD,Av,Tp _ hb (λrs h=>(hr rs h).1),AC];have v:=IV.1 h0;by_cases h1:s.2.2<1
 ·rw [if_pos h1,if_pos (.inl h1)]
 rw [if_neg h1];by_cases h2:s.2.2>1000001
 ·rw [if_pos h2,if_pos (.inr h2)]
 rw [if_neg h2,if_neg (show ¬ (s.2.2<1\/s.2.2>1000001) by omega),XR];by_cases h3:s.2.2<=FN s.1.2
 ·rw [if_pos h3,if_pos h3]
 rw [if_neg h3,if_neg h3]
 rw [DC (l:=s.1.2) (σ:=List Int) (s:=((0:Int),([]:List Int))) (λi m=>((i:Int),m)) (λls i m=>m++Bc i ls=Bc 0 s.1.2) (λ_ _ _=>(0,(((s.1.2.length:Int),Bc 0 s.1.2),()))) [] rfl (by omega) rfl (λm h=>by
  simp only;rw [re,AV,<- h];simp [Bc]) (λi rs ls m hd hx hi h=>by
   refine ⟨m++(if rs.length=2 then [(i:Int)] else []),?_,?_,rfl⟩
   ·simp only;rw [rl hi,AM,AE,AI hx,BI]
    have hm:m.length<=1048575:=by
     have h4:=congrArg List.length h;have h5:=F8 s.1.2 0;have h6:=v.len;rw [List.length_append] at h4;omega
    by_cases h4:rs.length=2
    ·rw [if_pos (by omega),if_pos h4,BE (by simp only [AK,AA,List.length_cons,List.length_nil];omega),As hx (by omega)];rfl
    ·rw [if_neg (by omega),if_neg h4,List.append_nil,As hx (by omega)]
   ·rw [List.append_assoc];exact h),AC]
 simp only;obtain ⟨due,hdue⟩ : ∃ due,due=Bc 0 s.1.2:=⟨_,rfl⟩;have hdl:due.length<=12:=by have:=F8 s.1.2 0;have:=v.len;rw [hdue];omega
 rw [<- hdue];obtain ⟨T,hT⟩ : ∃ T,T=F3 s.1 due 0 s.2.1:=⟨_,rfl⟩;rw [<- hT]
 obtain ⟨r,q1,q2⟩:=EF (l:=s.2.1) (σ:=Unit) (λi _=>((0:Int),((0:Int),(i:Int)))) (λjs i _=>F3 s.1 due i js=T) (λ(r:Nat×((Int×(Int×Int))×Unit))=>(T=none/\r.1=1)\/(∃ i:Nat,T=some i/\r.1=0/\r.2.1.1=6/\r.2.1.2.1=(i:Int)))
  (f:=λs6=>br (Ae s6.2.2 (s.2.1.length:Int)) (λ_=>AP s6.2.2 λk7=>ix s.2.1 k7 λx8=>br (Hf s6.2.2 (due.length:Int)) (λ_=>some (.dn ((0,((6,(s6.2.2,s6.2.2)),()))))) λ_=>AP s6.2.2 λk9=>gd (CD k9 due.length) λ_=>ix due k9 λx10=>br (Ai x8.1 x10) (λ_=>some (.dn ((0,((6,(s6.2.2,s6.2.2)),()))))) λ_=>br x8.2.2.1.2.2 (λ_=>bd (Cv (s.1,x8.1)) λr11=>br (AY r11) (λ_=>some (.dn ((0,((6,(s6.2.2,s6.2.2)),()))))) λ_=>bd (CX ((s.1,(x8.1,x8.2.2.1.2.2)))) λr12=>bd (B5 r12.2) λr13=>br (Ae x8.2.2.2.2 0) (λ_=>some (.dn ((0,((6,(s6.2.2,s6.2.2)),()))))) λ_=>br (B6 x8.2.2.2.2 r13.1) (λ_=>some (.dn ((0,((6,(s6.2.2,s6.2.2)),()))))) λ_=>bd (CY (r12.2,x8.2.2.2.2)) λr14=>bd (DW (r14.1,x8.2)) λr15=>br (AY r15) (λ_=>some (.dn ((0,((6,(s6.2.2,s6.2.2)),()))))) λ_=>some (.nx ((s6.1,(s6.2.1,AH .i64 s6.2.2 1))))) λ_=>bd (CX ((s.1,(x8.1,x8.2.2.1.2.2)))) λr16=>bd (B5 r16.2) λr17=>br (Ae x8.2.2.2.2 0) (λ_=>some (.dn ((0,((6,(s6.2.2,s6.2.2)),()))))) λ_=>br (B6 x8.2.2.2.2 r17.1) (λ_=>some (.dn ((0,((6,(s6.2.2,s6.2.2)),()))))) λ_=>bd (CY (r16.2,x8.2.2.2.2)) λr18=>bd (DW (r18.1,x8.2)) λr19=>br (AY r19) (λ_=>some (.dn ((0,((6,(s6.2.2,s6.2.2)),()))))) λ_=>some (.nx ((s6.1,(s6.2.1,AH .i64 s6.2.2 1))))) λ_=>some (.dn ((1,(s6,())))))
  (s:=(0,(0,0))) () rfl (by omega) hT.symm (λ_ h=>by
   refine ⟨_,by simp only;rw [re];rfl,.inl ⟨by rw [<- h];rfl,rfl⟩⟩) (λi j js _ hd hx hi h=>by
   simp only;rw [rl hi,AM,AE,AI hx,D0];unfold F3 at h
   have hbad:K6 s.1 due i j=true -> ∃ r:Nat×((Int×(Int×Int))×Unit),(some (LR.dn ((0,((6,((i:Int),(i:Int))),()))):LR (Int×(Int×Int)) _))=some (.dn r)/\((T=none/\r.1=1)\/(∃ i:Nat,T=some i/\r.1=0/\r.2.1.1=6/\r.2.1.2.1=(i:Int))):=λhb=>by
    rw [if_pos hb] at h;exact ⟨_,rfl,.inr ⟨i,h.symm,rfl,rfl,rfl⟩⟩
   have hgood:K6 s.1 due i j=false -> ∃ st':Unit,(some (LR.nx ((0:Int),((0:Int),AH .i64 (i:Int) 1))):Option (LR _ (Nat×((Int×(Int×Int))×Unit))))=some (.nx ((0:Int),((0:Int),((i+1:Nat):Int))))/\F3 s.1 due (i+1) js=T:=λhg=>by
    rw [if_neg (by simp [hg])] at h;exact ⟨(),by rw [As hx (by omega)],h⟩
   by_cases h1:(i:Int)>=(due.length:Int)
   ·rw [if_pos h1];exact .inr (hbad (by unfold K6;rw [List.getElem?_eq_none (by omega)]))
   rw [if_neg h1,AE,NY,if_pos (by omega)];have hd2:due[i]? = some (due[i]'(by omega)):=by simp
   rw [AI hd2,AN];obtain ⟨n,hn,r0,r1,hlv⟩:=Ho (ls:=s.1.2) (i:=0) (k:=i) (d:=due[i]'(by omega)) (by rw [<- hdue];exact hd2);rw [Nat.zero_add] at hn
   have hE:K6 s.1 due i j=(if j.1≠(due[i]'(by omega)) then true else if j.2.2.1.2.2=true/\j.1≠(s.1.2.length:Int)-1 then true else if j.2.2.2.2<0\/j.2.2.2.2>((r1.2.length+r0.2.length:Nat):Int) then true else decide (El r1.2 r0.2 j.2.2.1.2.2 j.2.2.2.2.toNat≠j.2)):=by
    unfold K6;rw [hd2];simp only;rw [hn,Int.toNat_natCast,hlv]
   by_cases h2:j.1=(due[i]'(by omega));rotate_left
   ·rw [if_neg h2];exact .inr (hbad (by rw [hE,if_pos h2]))
   rw [if_pos h2];rw [if_neg (by simp [h2])] at hE;have hjn:j.1=(n:Int):=by rw [h2,hn]
   have hv:=(v.lev n _ hlv).2;have v0:=(hv r0 (by simp)).vl;have v1:=(hv r1 (by simp)).vl;have hlow:BF .i64 (s.1.2.length:Int) 1=(s.1.2.length:Int)-1:=Bu (by omega);unfold Cv;simp only [AU,AO];rw [AC,hlow,DN,CZ,Cn,hjn,kl hlv v0 v1,HP];rw [hjn] at hE;by_cases h3:j.2.2.1.2.2=true/\(n:Int)≠(s.1.2.length:Int)-1
   ·rw [if_pos h3.1,if_pos h3.2];exact .inr (hbad (by rw [hE,if_pos h3]))
   rw [if_neg h3] at hE
   have h4 : ∀ {γ:Type} (A B:γ),(if j.2.2.1.2.2=true then if ¬(n:Int)=(s.1.2.length:Int)-1 then A else B else B)=B:=by
    intro γ A B;by_cases h5:j.2.2.1.2.2=true
    ·rw [if_pos h5,if_neg (λh6=>h3 ⟨h5,h6⟩)]
    ·rw [if_neg h5]
   rw [h4];by_cases h5:j.2.2.2.2<0\/j.2.2.2.2>((r1.2.length+r0.2.length:Nat):Int)
   ·rw [if_pos h5];exact .inr (hbad (by rw [hE,if_pos h5]))
   rw [if_neg h5];rw [if_neg h5] at hE;by_cases h6:El r1.2 r0.2 j.2.2.1.2.2 j.2.2.2.2.toNat=j.2
   ·rw [if_pos h6];exact .inl (hgood (by rw [hE];simp [h6]))
   ·rw [if_neg h6]
    exact .inr (hbad (by rw [hE];simp [h6])))
 rw [h0];refine A7 q1 ?_;rw [CS];rcases q2 with ⟨q2,q3⟩ | ⟨i,q2,q3,q4,q5⟩
 ·rw [if_neg (show ¬ r.1=0 by omega),q2,BD];simp only;by_cases h7:s.2.1.length<due.length
  ·rw [if_pos (by omega),if_pos h7]
  ·rw [if_neg (by omega),if_neg h7]
 ·rw [if_pos q3,q2,q4,q5]
end Go.Proofs.YthpkjfabdccpdaaGreat.Pl
