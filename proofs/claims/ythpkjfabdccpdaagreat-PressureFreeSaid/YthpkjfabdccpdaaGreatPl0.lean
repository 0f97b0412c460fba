/- Functions of the program and of the specification as plain functions, and laws about them. No condition. -/
import Derived.Test.YthpkjfabdccpdaaGreatPs3
set_option linter.all false
namespace Go.Proofs.YthpkjfabdccpdaaGreat.Pl
open Go Go.Proofs.YthpkjfabdccpdaaGreat.Sv
set_option linter.unusedVariables false
abbrev AB:=((List UInt8)×((List UInt8)×(Bool×Int)))
abbrev A7:=(Int×(List AB))
abbrev AO:=(Int×(List (List A7)))
abbrev AT:=((List UInt8)×Bool)
abbrev D0:=((List AT)×((List Int)×Int))
abbrev AY:=((List (List AB))×((List Int)×D0))
abbrev Bu:=(Bool×((List UInt8)×Bool))
abbrev Ir:=(AY×(Bu×((List AB)×Int)))
abbrev IM:=(Int×Ir)
abbrev BL:=(AO×((List IM)×Int))
abbrev CQ:=(A7×BL)
def Ev (x:(List UInt8)):Option Int :=
 br (Bz (AV (C2 x)) 32) (λ_=>some 3) λ_=>some 0
def Ar (x:AB):Option Int :=
 bd (Ev x.1) λr0=>br (Ao r0 0) (λ_=>some 3) λ_=>br (Bz (AV (C2 x.2.1)) 64) (λ_=>some 3) λ_=>br x.2.2.1 (λ_=>br (AZ (seq x.2.1 [])) (λ_=>some 6) λ_=>br (Ah x.2.2.2 1) (λ_=>some 7) λ_=>br (Bz x.2.2.2 1000000000) (λ_=>some 7) λ_=>some 0) λ_=>br (Ah x.2.2.2 1) (λ_=>some 7) λ_=>br (Bz x.2.2.2 1000000000) (λ_=>some 7) λ_=>some 0
def BB (x:(List AB)):Option (Int×Int) :=
 br (Bz (AV (AA x)) 5000) (λ_=>some (((-1),3))) λ_=>bd (loop (λs0=>br (Ah s0.2.2 (AV (AA x))) (λ_=>AS s0.2.2 λk1=>ix x k1 λx2=>bd (Ar x2) λr3=>br (Ao r3 0) (λ_=>some (.dn ((0,((r3,(s0.2.2,s0.2.2)),()))))) λ_=>br (Bz s0.2.2 0) (λ_=>AS (BJ .i64 s0.2.2 1) λk4=>ix x k4 λx5=>br (AZ (CJ x5.1 x2.1)) (λ_=>some (.dn ((0,((6,(s0.2.2,s0.2.2)),()))))) λ_=>some (.nx ((s0.1,(s0.2.1,AH .i64 s0.2.2 1))))) λ_=>some (.nx ((s0.1,(s0.2.1,AH .i64 s0.2.2 1))))) λ_=>some (.dn ((1,(s0,()))))) ((0,(0,0)))) λr6=>br (neq r6.1 0) (λ_=>some (r6.2.1.2.1,r6.2.1.1)) λ_=>some (0,0)
def Ew (x:A7):Option (Int×Int) :=
 br (Ah x.1 1) (λ_=>some (((-1),7))) λ_=>br (Bz x.1 1000000) (λ_=>some (((-1),7))) λ_=>bd (BB x.2) λr0=>some r0
def Cs (x:(A7×Int)):Option Int :=
 bd (Ew x.1) λr0=>br (Ao r0.2 0) (λ_=>some r0.2) λ_=>br (Bm (AV (AA x.1.2)) 0) (λ_=>some 4) λ_=>br (Bz (AV (AA x.1.2)) x.2) (λ_=>some 3) λ_=>some 0
def C5 (x:AO):Option (Int×(Int×Int)) :=
 br (Ah x.1 1) (λ_=>some ((0,(0,7)))) λ_=>br (Bz x.1 16) (λ_=>some ((0,(0,7)))) λ_=>br (Bz (AV (AA x.2)) 12) (λ_=>some ((0,(0,3)))) λ_=>bd (loop (λs0=>br (Ah s0.2.2.2.1 (AV (AA x.2))) (λ_=>AS s0.2.2.2.1 λk1=>ix x.2 k1 λx2=>br (Bz (AV (AA x2)) 2) (λ_=>some (.dn ((0,((0,(s0.2.2.2.1,(3,s0.2.2.2))),()))))) λ_=>bd (loop (λs3=>br (Ah s3.2.1 (AV (AA x2))) (λ_=>AS s3.2.1 λk4=>ix x2 k4 λx5=>gd (Hz s0.2.2.2.1 0) λ_=>bd (Cs (x5,Tj .i64 x.1 s0.2.2.2.1)) λr6=>br (Bm r6 0) (λ_=>br (PG (IE ((λa7=>(λa8=>Bm a7 a8))) s3.2.2.2 x5.1) false) (λ_=>some (.dn ((0,((s3.2.1,(s3.2.1,(8,s3.2.2.2))),()))))) λ_=>br (Ao r6 0) (λ_=>some (.dn ((0,((s3.2.1,(s3.2.1,(r6,s3.2.2.2))),()))))) λ_=>some (.nx ((s3.2.1,(AH .i64 s3.2.1 1,(r6,HW ((λa9=>(λa10=>Bm a9 a10))) s3.2.2.2 x5.1 true)))))) λ_=>br (Ao r6 0) (λ_=>some (.dn ((0,((s3.2.1,(s3.2.1,(r6,s3.2.2.2))),()))))) λ_=>some (.nx ((s3.2.1,(AH .i64 s3.2.1 1,(r6,HW ((λa11=>(λa12=>Bm a11 a12))) s3.2.2.2 x5.1 true)))))) λ_=>some (.dn ((1,(s3,()))))) ((0,(0,(s0.2.2.1,s0.2.2.2.2))))) λr13=>br (neq r13.1 0) (λ_=>some (.dn ((0,((r13.2.1.1,(s0.2.2.2.1,(r13.2.1.2.2.1,(s0.2.2.2.1,r13.2.1.2.2.2)))),()))))) λ_=>some (.nx ((r13.2.1.1,(s0.2.2.2.1,(r13.2.1.2.2.1,(AH .i64 s0.2.2.2.1 1,r13.2.1.2.2.2))))))) λ_=>some (.dn ((0,(s0,()))))) ((0,(0,(0,(0,[])))))) λr14=>br (Ao r14.2.1.2.2.1 0) (λ_=>some ((r14.2.1.2.1,(r14.2.1.1,r14.2.1.2.2.1)))) λ_=>br (Bz (AV (AA x.2)) 0) (λ_=>AS (BJ .i64 (AV (AA x.2)) 1) λk15=>ix x.2 k15 λx16=>br (Bm (AV (AA x16)) 0) (λ_=>some ((BJ .i64 (AV (AA x.2)) 1,(0,6)))) λ_=>some ((0,(0,0)))) λ_=>some ((0,(0,0)))
def D9 (x:AO):Option Int :=
 bd (loop (λs0=>br (Ah s0.2 (AV (AA x.2))) (λ_=>AS s0.2 λk1=>ix x.2 k1 λx2=>bd (loop (λs3=>br (Ah s3.1 (AV (AA x2))) (λ_=>AS s3.1 λk4=>ix x2 k4 λx5=>some (.nx (AH .i64 s3.1 1,J6 s3.2 x5.1))) λ_=>some (.dn ((0,(s3,()))))) (0,s0.1)) λr6=>some (.nx (r6.2.1.2,AH .i64 s0.2 1))) λ_=>some (.dn ((0,(s0,()))))) (0,0)) λr7=>some r7.2.1.1
def Ct (x:(AO×Int)):Option Bool :=
 some (Bm x.2 (BJ .i64 (AV (AA x.1.2)) 1))
def DO (x:(List (List AB))):Option (Int×Int) :=
 br (Bm (AV (AA x)) 0) (λ_=>some (((-1),6))) λ_=>br (Bz (AV (AA x)) 32) (λ_=>some (((-1),3))) λ_=>bd (loop (λs0=>br (Ah s0.2.2 (AV (AA x))) (λ_=>AS s0.2.2 λk1=>ix x k1 λx2=>bd (BB x2) λr3=>br (Ao r3.2 0) (λ_=>some (.dn ((0,((r3.2,(s0.2.2,s0.2.2)),()))))) λ_=>some (.nx ((s0.1,(s0.2.1,AH .i64 s0.2.2 1))))) λ_=>some (.dn ((1,(s0,()))))) ((0,(0,0)))) λr4=>br (neq r4.1 0) (λ_=>some (r4.2.1.2.1,r4.2.1.1)) λ_=>some (0,0)
def CZ (x:Bool):Option (Bool×AT) :=
 some ((false,([],x)))
def Ai (x:(List (List AB))):Option (List (List AB)) :=
 gd (A6 (AA x) 1048576) λ_=>some x
def BE (x:((List AB)×Int)):Option AT :=
 br (Bm x.2 (AV (AA x.1))) (λ_=>some ([],true)) λ_=>AS x.2 λk0=>ix x.1 k0 λx1=>some (x1.1,false)
def DG (x:AT):Option Bool :=
 br x.2 (λ_=>some (AZ (seq x.1 []))) λ_=>some false
def DQ (x:(List AT)):Option Int :=
 br (Bm (AV (AA x)) 0) (λ_=>some 6) λ_=>br (Bz (AV (AA x)) 32) (λ_=>some 3) λ_=>bd (loop (λs0=>br (Ah s0.2 (AV (AA x))) (λ_=>AS s0.2 λk1=>ix x k1 λx2=>bd (DG x2) λr3=>br r3 (λ_=>some (.dn ((0,((s0.2,s0.2),()))))) λ_=>some (.nx (s0.1,AH .i64 s0.2 1))) λ_=>some (.dn ((1,(s0,()))))) (0,0)) λr4=>br (neq r4.1 0) (λ_=>br (Hz r4.2.1.1 0) (λ_=>some 2) λ_=>some 0) λ_=>br (Hz (-1) 0) (λ_=>some 2) λ_=>some 0
def Aj (x:(List AT)):Option (List AT) :=
 gd (A6 (AA x) 1048576) λ_=>some x
def Ey (x:(List AT)):Option D0 :=
 AS (Kv .i64 2 (AV (AA x))) λk0=>AS (Kv .i64 2 (AV (AA x))) λk1=>gd (A6 k1 1048576) λ_=>bd (Aj x) λr2=>AS (AV (AA x)) λk3=>AS (AV (AA x)) λk4=>gd (A6 k4 1048576) λ_=>bd (loop (λs5=>br (Bz s5.1 0) (λ_=>br (Hz s5.1 (AV (AA x))) (λ_=>AS s5.1 λk6=>gd (B6 k6 (AA s5.2.1)) λ_=>ix s5.2.1 k6 λx7=>some (.nx ((BJ .i64 s5.1 1,(lset s5.2.1 k6 (BJ .i64 s5.1 (AV (AA x))),s5.2.2))))) λ_=>AS (Kv .i64 2 s5.1) λk8=>gd (B6 k8 (AA s5.2.1)) λ_=>ix s5.2.1 k8 λx9=>AS (AH .i64 (Kv .i64 2 s5.1) 1) λk10=>gd (B6 k10 (AA s5.2.1)) λ_=>ix s5.2.1 k10 λx11=>AS x9 λk12=>ix x k12 λx13=>AS x11 λk14=>ix x k14 λx15=>br (AZ (beq x13.2 x15.2)) (λ_=>br (AZ x15.2) (λ_=>AS s5.1 λk16=>gd (B6 k16 (AA s5.2.1)) λ_=>ix s5.2.1 k16 λx17=>AS s5.1 λk18=>gd (B6 k18 (AA s5.2.2.2.1)) λ_=>ix s5.2.2.2.1 k18 λx19=>some (.nx ((BJ .i64 s5.1 1,(lset s5.2.1 k16 x11,(s5.2.2.1,(lset s5.2.2.2.1 k18 x9,s5.2.2.2.2))))))) λ_=>AS s5.1 λk20=>gd (B6 k20 (AA s5.2.1)) λ_=>ix s5.2.1 k20 λx21=>AS s5.1 λk22=>gd (B6 k22 (AA s5.2.2.2.1)) λ_=>ix s5.2.2.2.1 k22 λx23=>some (.nx ((BJ .i64 s5.1 1,(lset s5.2.1 k20 x9,(s5.2.2.1,(lset s5.2.2.2.1 k22 x11,s5.2.2.2.2))))))) λ_=>br (AZ (seq x13.1 x15.1)) (λ_=>br (AZ (CJ x13.1 x15.1)) (λ_=>AS s5.1 λk24=>gd (B6 k24 (AA s5.2.1)) λ_=>ix s5.2.1 k24 λx25=>AS s5.1 λk26=>gd (B6 k26 (AA s5.2.2.2.1)) λ_=>ix s5.2.2.2.1 k26 λx27=>some (.nx ((BJ .i64 s5.1 1,(lset s5.2.1 k24 x11,(s5.2.2.1,(lset s5.2.2.2.1 k26 x9,s5.2.2.2.2))))))) λ_=>AS s5.1 λk28=>gd (B6 k28 (AA s5.2.1)) λ_=>ix s5.2.1 k28 λx29=>AS s5.1 λk30=>gd (B6 k30 (AA s5.2.2.2.1)) λ_=>ix s5.2.2.2.1 k30 λx31=>some (.nx ((BJ .i64 s5.1 1,(lset s5.2.1 k28 x9,(s5.2.2.1,(lset s5.2.2.2.1 k30 x11,s5.2.2.2.2))))))) λ_=>br (AZ (Ah x9 x11)) (λ_=>AS s5.1 λk32=>gd (B6 k32 (AA s5.2.1)) λ_=>ix s5.2.1 k32 λx33=>AS s5.1 λk34=>gd (B6 k34 (AA s5.2.2.2.1)) λ_=>ix s5.2.2.2.1 k34 λx35=>some (.nx ((BJ .i64 s5.1 1,(lset s5.2.1 k32 x11,(s5.2.2.1,(lset s5.2.2.2.1 k34 x9,s5.2.2.2.2))))))) λ_=>AS s5.1 λk36=>gd (B6 k36 (AA s5.2.1)) λ_=>ix s5.2.1 k36 λx37=>AS s5.1 λk38=>gd (B6 k38 (AA s5.2.2.2.1)) λ_=>ix s5.2.2.2.1 k38 λx39=>some (.nx ((BJ .i64 s5.1 1,(lset s5.2.1 k36 x9,(s5.2.2.1,(lset s5.2.2.2.1 k38 x11,s5.2.2.2.2))))))) λ_=>some (.dn ((0,(s5,()))))) ((BJ .i64 (Kv .i64 2 (AV (AA x))) 1,(CK k1 0,(r2,(CK k4 0,(0:Int))))))) λr40=>gd (B6 1 (AA r40.2.1.2.1)) λ_=>ix r40.2.1.2.1 1 λx41=>some ((r40.2.1.2.2.1,(r40.2.1.2.2.2.1,x41)))
def CU (x:(List AT)):Option (D0×Int) :=
 bd (DQ x) λr0=>br (Ao r0 0) (λ_=>some ((([],([],0)),r0))) λ_=>bd (Ey x) λr1=>some (r1,0)
def Ee (x:((List (List AB))×Bool)):Option ((AY×((Bool×AT)×((List AB)×Int)))×(Int×Int)) :=
 bd (DO x.1) λr0=>br (Ao r0.2 0) (λ_=>br (Ao r0.2 0) (λ_=>some (((([],([],([],([],0)))),((false,([],false)),([],0))),r0))) λ_=>bd (CZ x.2) λr1=>some (((([],([],([],([],0)))),(r1,([],0))),(0,0)))) λ_=>AS (AV (AA x.1)) λk2=>AS (AV (AA x.1)) λk3=>gd (A6 k3 1048576) λ_=>bd (Ai x.1) λr4=>AS (AV (AA x.1)) λk5=>AS (AV (AA x.1)) λk6=>gd (A6 k6 1048576) λ_=>bd (loop (λs7=>br (Ah s7.1 (AV (AA x.1))) (λ_=>AS s7.1 λk8=>ix x.1 k8 λx9=>AS s7.1 λk10=>gd (B6 k10 (AA (CK k3 (0:Int)))) λ_=>ix (CK k3 0) k10 λx11=>bd (BE (x9,x11)) λr12=>AS s7.1 λk13=>gd (B6 k13 (AA s7.2)) λ_=>ix s7.2 k13 λx14=>some (.nx (AH .i64 s7.1 1,lset s7.2 k13 r12))) λ_=>some (.dn ((0,(s7,()))))) ((0,CK k6 ([],false)))) λr15=>bd (CU r15.2.1.2) λr16=>bd (CZ x.2) λr17=>some ((((r4,(CK k3 0,r16.1)),(r17,([],0))),(0,0)))
def CV (x:(AO×(Int×Bool))):Option (Int×(AY×((Bool×AT)×((List AB)×Int)))) :=
 AS x.2.1 λk0=>ix x.1.2 k0 λx1=>ix x1 1 λx2=>ix x1 0 λx3=>bd (Ee ([x2.2,x3.2],x.2.2)) λr4=>some (x.2.1,r4.1)
def Fx (x:((List (List AB))×(List Int))):Option D0 :=
 AS (AV (AA x.1)) λk0=>AS (AV (AA x.1)) λk1=>gd (A6 k1 1048576) λ_=>bd (loop (λs2=>br (Ah s2.1 (AV (AA x.1))) (λ_=>AS s2.1 λk3=>ix x.1 k3 λx4=>AS s2.1 λk5=>ix x.2 k5 λx6=>bd (BE (x4,x6)) λr7=>AS s2.1 λk8=>gd (B6 k8 (AA s2.2)) λ_=>ix s2.2 k8 λx9=>some (.nx (AH .i64 s2.1 1,lset s2.2 k8 r7))) λ_=>some (.dn ((0,(s2,()))))) ((0,CK k1 ([],false)))) λr10=>bd (CU r10.2.1.2) λr11=>some r11.1
def Ak (x:((List AT)×(List AT))):Option Bool :=
 br (Ao (AV (AA x.1)) (AV (AA x.2))) (λ_=>some false) λ_=>bd (loop (λs0=>br (Ah s0.1 (AV (AA x.1))) (λ_=>AS s0.1 λk1=>ix x.1 k1 λx2=>AS s0.1 λk3=>ix x.2 k3 λx4=>br (AZ (Bo (seq x2.1 x4.1) (Bo (beq x2.2 x4.2) true))) (λ_=>some (.dn ((0,((s0.1,false),()))))) λ_=>some (.nx (AH .i64 s0.1 1,s0.2))) λ_=>some (.dn ((1,(s0,()))))) (0,false)) λr5=>br (neq r5.1 0) (λ_=>some r5.2.1.2) λ_=>some true
def Ae (x:((List Int)×(List Int))):Option Bool :=
 br (Ao (AV (AA x.1)) (AV (AA x.2))) (λ_=>some false) λ_=>bd (loop (λs0=>br (Ah s0.1 (AV (AA x.1))) (λ_=>AS s0.1 λk1=>ix x.1 k1 λx2=>AS s0.1 λk3=>ix x.2 k3 λx4=>br (Ao x2 x4) (λ_=>some (.dn ((0,((s0.1,false),()))))) λ_=>some (.nx (AH .i64 s0.1 1,s0.2))) λ_=>some (.dn ((1,(s0,()))))) (0,false)) λr5=>br (neq r5.1 0) (λ_=>some r5.2.1.2) λ_=>some true
def EG (x:(D0×D0)):Option Bool :=
 br (Bm x.1.2.2 x.2.2.2) (λ_=>bd (Ak (x.1.1,x.2.1)) λr0=>br r0 (λ_=>bd (Ae (x.1.2.1,x.2.2.1)) λr1=>some r1) λ_=>some false) λ_=>some false
def FC (x:D0):Option (Int×Int) :=
 bd (DQ x.1) λr0=>br (Ao r0 0) (λ_=>some (0,r0)) λ_=>br (Ao (AV (AA x.2.1)) (AV (AA x.1))) (λ_=>some (0,6)) λ_=>bd (Ey x.1) λr1=>bd (loop (λs2=>br (Ah s2.2.1 (AV (AA r1.2.1))) (λ_=>AS s2.2.1 λk3=>ix r1.2.1 k3 λx4=>AS s2.2.1 λk5=>ix x.2.1 k5 λx6=>br (Ao x6 x4) (λ_=>some (.dn ((0,((6,(s2.2.1,s2.2.1)),()))))) λ_=>some (.nx ((s2.1,(AH .i64 s2.2.1 1,s2.2.2))))) λ_=>some (.dn ((1,(s2,()))))) ((0,(0,0)))) λr7=>br (neq r7.1 0) (λ_=>some (r7.2.1.2.2,r7.2.1.1)) λ_=>br (Ao x.2.2 r1.2.2) (λ_=>some (0,6)) λ_=>some (0,0)
def Ez (x:D0):Option Int :=
 bd (FC x) λr0=>br (Ao r0.2 0) (λ_=>some r0.2) λ_=>AS x.2.2 λk1=>ix x.1 k1 λx2=>br x2.2 (λ_=>some 12) λ_=>some 0
def Ca (x:D0):Option (Int×((List UInt8)×Int)) :=
 bd (Ez x) λr0=>br (Ao r0 0) (λ_=>some ((0,([],r0)))) λ_=>AS x.2.2 λk1=>ix x.1 k1 λx2=>some ((x.2.2,(x2.1,0)))
def C6 (x:(List UInt8)):Option Bool :=
 some (AZ (seq x x))
def Cb (x:((List UInt8)×(List UInt8))):Option Int :=
 bd (C6 x.1) λr0=>bd (C6 x.2) λr1=>br r0 (λ_=>br r1 (λ_=>some 0) λ_=>some (-1)) λ_=>br r1 (λ_=>some 1) λ_=>br (CJ x.1 x.2) (λ_=>some (-1)) λ_=>br (CJ x.2 x.1) (λ_=>some 1) λ_=>some 0
def EA (x:Int):Option Bool :=
 some (Ao x x)
def CC (x:(Int×Int)):Option Int :=
 bd (EA x.1) λr0=>bd (EA x.2) λr1=>br r0 (λ_=>br r1 (λ_=>some 0) λ_=>some (-1)) λ_=>br r1 (λ_=>some 1) λ_=>br (Ah x.1 x.2) (λ_=>some (-1)) λ_=>br (Bz x.1 x.2) (λ_=>some 1) λ_=>some 0
def Fy (x:(List Int)):Option Int :=
 bd (loop (λs0=>br (Ah s0.2 (AV (AA x))) (λ_=>AS s0.2 λk1=>ix x k1 λx2=>br (Ao x2 0) (λ_=>some (.dn ((0,((x2,s0.2),()))))) λ_=>some (.nx (s0.1,AH .i64 s0.2 1))) λ_=>some (.dn ((1,(s0,()))))) (0,0)) λr3=>br (neq r3.1 0) (λ_=>some r3.2.1.1) λ_=>some 0
def DS (x:AY):Option (Int×Int) :=
 bd (DO x.1) λr0=>br (Ao r0.2 0) (λ_=>some r0) λ_=>br (Ao (AV (AA x.2.1)) (AV (AA x.1))) (λ_=>some (((-1),6))) λ_=>bd (loop (λs1=>br (Ah s1.2.2 (AV (AA x.2.1))) (λ_=>AS s1.2.2 λk2=>ix x.2.1 k2 λx3=>br (Ah x3 0) (λ_=>some (.dn ((0,((6,(s1.2.2,s1.2.2)),()))))) λ_=>AS s1.2.2 λk4=>ix x.1 k4 λx5=>br (Bz x3 (AV (AA x5))) (λ_=>some (.dn ((0,((6,(s1.2.2,s1.2.2)),()))))) λ_=>some (.nx ((s1.1,(s1.2.1,AH .i64 s1.2.2 1))))) λ_=>some (.dn ((1,(s1,()))))) ((0,(0,0)))) λr6=>br (neq r6.1 0) (λ_=>some (r6.2.1.2.1,r6.2.1.1)) λ_=>bd (Fx (x.1,x.2.1)) λr7=>bd (EG (x.2.2,r7)) λr8=>br (AZ r8) (λ_=>some (((-1),6))) λ_=>bd (Ca x.2.2) λr9=>br (Ao r9.2.2 0) (λ_=>some (0,0)) λ_=>bd (loop (λs10=>br (Ah s10.2.2 (AV (AA x.2.1))) (λ_=>AS s10.2.2 λk11=>ix x.2.1 k11 λx12=>br (Bz x12 0) (λ_=>AS s10.2.2 λk13=>ix x.1 k13 λx14=>AS (BJ .i64 x12 1) λk15=>ix x14 k15 λx16=>bd (Cb (x16.1,r9.2.1)) λr17=>bd (CC (s10.2.2,r9.1)) λr18=>bd (Fy ([r17,r18])) λr19=>br (Bz r19 0) (λ_=>some (.dn ((0,((6,(r9.1,s10.2.2)),()))))) λ_=>some (.nx ((s10.1,(s10.2.1,AH .i64 s10.2.2 1))))) λ_=>some (.nx ((s10.1,(s10.2.1,AH .i64 s10.2.2 1))))) λ_=>some (.dn ((1,(s10,()))))) ((r9.2.2,(r6.2.1.2.1,0)))) λr20=>br (neq r20.1 0) (λ_=>some (r20.2.1.2.1,r20.2.1.1)) λ_=>some (0,0)
def Aw (x:(List Int)):Option (List Int) :=
 gd (A6 (AA x) 1048576) λ_=>some x
def BX (x:(Int×(Int×((List AT)×Unit)))):Option Bool :=
 AS x.1 λk0=>ix x.2.2.1 k0 λx1=>AS x.2.1 λk2=>ix x.2.2.1 k2 λx3=>br (AZ (beq x1.2 x3.2)) (λ_=>some x3.2) λ_=>br (AZ (seq x1.1 x3.1)) (λ_=>some (CJ x1.1 x3.1)) λ_=>some (Ah x.1 x.2.1)
def CH (x:(D0×AT)):Option (D0×(Int×Int)) :=
 bd (Ez x.1) λr0=>br (Ao r0 0) (λ_=>some ((([],([],0)),(0,r0)))) λ_=>bd (DQ [x.2]) λr1=>br (Ao r1 0) (λ_=>some ((([],([],0)),(0,r1)))) λ_=>br (AZ x.2.2) (λ_=>AS x.1.2.2 λk2=>ix x.1.1 k2 λx3=>br (CJ x.2.1 x3.1) (λ_=>some ((([],([],0)),(0,6)))) λ_=>bd (Aj x.1.1) λr4=>bd (Aw x.1.2.1) λr5=>AS x.1.2.2 λk6=>gd (B6 k6 (AA r4)) λ_=>ix r4 k6 λx7=>bd (loop (λs8=>br (Bm (GM .i64 s8.2.1 2) 0) (λ_=>some (.dn ((0,((s8.1,(GM .i64 s8.2.1 2,((),s8.2.2.2))),()))))) λ_=>AS (GM .i64 s8.2.1 2) λk9=>gd (B6 k9 (AA s8.2.2.2.1)) λ_=>ix s8.2.2.2.1 k9 λx10=>bd (BX ((x10,(s8.2.2.2.2,(lset r4 k6 x.2,()))))) λr11=>br r11 (λ_=>AS (GM .i64 s8.2.1 2) λk12=>gd (B6 k12 (AA s8.2.2.2.1)) λ_=>ix s8.2.2.2.1 k12 λx13=>AS (GM .i64 s8.2.1 2) λk14=>gd (B6 k14 (AA s8.2.2.2.1)) λ_=>ix s8.2.2.2.1 k14 λx15=>some (.nx ((AH .i64 s8.1 1,(GM .i64 s8.2.1 2,((),(lset s8.2.2.2.1 k14 s8.2.2.2.2,x13))))))) λ_=>some (.nx ((AH .i64 s8.1 1,(GM .i64 s8.2.1 2,((),s8.2.2.2)))))) ((0,(AH .i64 (AV (AA (lset r4 k6 x.2))) x.1.2.2,((),(r5,x.1.2.2)))))) λr16=>some (((lset r4 k6 x.2,r16.2.1.2.2.2),(r16.2.1.1,0)))) λ_=>bd (Aj x.1.1) λr17=>bd (Aw x.1.2.1) λr18=>AS x.1.2.2 λk19=>gd (B6 k19 (AA r17)) λ_=>ix r17 k19 λx20=>bd (loop (λs21=>br (Bm (GM .i64 s21.2.1 2) 0) (λ_=>some (.dn ((0,((s21.1,(GM .i64 s21.2.1 2,((),s21.2.2.2))),()))))) λ_=>AS (GM .i64 s21.2.1 2) λk22=>gd (B6 k22 (AA s21.2.2.2.1)) λ_=>ix s21.2.2.2.1 k22 λx23=>bd (BX ((x23,(s21.2.2.2.2,(lset r17 k19 x.2,()))))) λr24=>br r24 (λ_=>AS (GM .i64 s21.2.1 2) λk25=>gd (B6 k25 (AA s21.2.2.2.1)) λ_=>ix s21.2.2.2.1 k25 λx26=>AS (GM .i64 s21.2.1 2) λk27=>gd (B6 k27 (AA s21.2.2.2.1)) λ_=>ix s21.2.2.2.1 k27 λx28=>some (.nx ((AH .i64 s21.1 1,(GM .i64 s21.2.1 2,((),(lset s21.2.2.2.1 k27 s21.2.2.2.2,x26))))))) λ_=>some (.nx ((AH .i64 s21.1 1,(GM .i64 s21.2.1 2,((),s21.2.2.2)))))) ((0,(AH .i64 (AV (AA (lset r17 k19 x.2))) x.1.2.2,((),(r18,x.1.2.2)))))) λr29=>some (((lset r17 k19 x.2,r29.2.1.2.2.2),(r29.2.1.1,0)))
def Gq (x:(List (List AB))):Option ((List AB)×((List Int)×Int)) :=
 bd (DO x) λr0=>br (Ao r0.2 0) (λ_=>br (Ao r0.2 0) (λ_=>some (([],([],r0.2)))) λ_=>bd (loop (λs1=>bd (Ca (([],([],0)))) λr2=>br (Ao r2.2.2 0) (λ_=>br (Ao r2.2.2 0) (λ_=>some (.dn ((0,(s1,()))))) λ_=>gd (A6 (AJ (AA s1.1) (AA ([(([],([],(false,0))):AB)]))) 1048576) λ_=>gd (A6 (AJ (AA s1.2) (AA [0])) 1048576) λ_=>none) λ_=>AS r2.1 λk3=>none) ([],[])) λr4=>some ((r4.2.1.1,(r4.2.1.2,0)))) λ_=>AS (AV (AA x)) λk5=>AS (AV (AA x)) λk6=>gd (A6 k6 1048576) λ_=>bd (Ai x) λr7=>AS (AV (AA x)) λk8=>AS (AV (AA x)) λk9=>gd (A6 k9 1048576) λ_=>bd (loop (λs10=>br (Ah s10.1 (AV (AA x))) (λ_=>AS s10.1 λk11=>ix x k11 λx12=>AS s10.1 λk13=>gd (B6 k13 (AA (CK k6 (0:Int)))) λ_=>ix (CK k6 0) k13 λx14=>bd (BE (x12,x14)) λr15=>AS s10.1 λk16=>gd (B6 k16 (AA s10.2)) λ_=>ix s10.2 k16 λx17=>some (.nx (AH .i64 s10.1 1,lset s10.2 k16 r15))) λ_=>some (.dn ((0,(s10,()))))) ((0,CK k9 ([],false)))) λr18=>bd (CU r18.2.1.2) λr19=>bd (loop (λs20=>bd (Ca s20.2.2.2.2) λr21=>br (Ao r21.2.2 0) (λ_=>br (Ao r21.2.2 0) (λ_=>some (.dn ((0,((s20.1,(s20.2.1,((),s20.2.2.2))),()))))) λ_=>gd (A6 (AJ (AA s20.1) (AA ([(([],([],(false,0))):AB)]))) 1048576) λ_=>gd (A6 (AJ (AA s20.2.1) (AA [0])) 1048576) λ_=>gd (B6 0 (AA s20.2.2.2.1)) λ_=>ix s20.2.2.2.1 0 λx22=>gd (B6 0 (AA s20.2.2.2.1)) λ_=>ix s20.2.2.2.1 0 λx23=>gd (B6 0 (AA r7)) λ_=>ix r7 0 λx24=>gd (B6 0 (AA (lset s20.2.2.2.1 0 (AH .i64 x22 1)))) λ_=>ix (lset s20.2.2.2.1 0 (AH .i64 x22 1)) 0 λx25=>bd (BE (x24,x25)) λr26=>bd (CH (s20.2.2.2.2,r26)) λr27=>some (.nx ((DK s20.1 ([(([],([],(false,0))):AB)]),(DK s20.2.1 [0],((),(lset s20.2.2.2.1 0 (AH .i64 x22 1),r27.1))))))) λ_=>AS r21.1 λk28=>gd (B6 k28 (AA r7)) λ_=>ix r7 k28 λx29=>AS r21.1 λk30=>gd (B6 k30 (AA s20.2.2.2.1)) λ_=>ix s20.2.2.2.1 k30 λx31=>AS x31 λk32=>ix x29 k32 λx33=>gd (A6 (AJ (AA s20.1) (AA [x33])) 1048576) λ_=>gd (A6 (AJ (AA s20.2.1) (AA [r21.1])) 1048576) λ_=>AS r21.1 λk34=>gd (B6 k34 (AA s20.2.2.2.1)) λ_=>ix s20.2.2.2.1 k34 λx35=>AS r21.1 λk36=>gd (B6 k36 (AA s20.2.2.2.1)) λ_=>ix s20.2.2.2.1 k36 λx37=>AS r21.1 λk38=>gd (B6 k38 (AA r7)) λ_=>ix r7 k38 λx39=>AS r21.1 λk40=>gd (B6 k40 (AA (lset s20.2.2.2.1 k36 (AH .i64 x35 1)))) λ_=>ix (lset s20.2.2.2.1 k36 (AH .i64 x35 1)) k40 λx41=>bd (BE (x39,x41)) λr42=>bd (CH (s20.2.2.2.2,r42)) λr43=>some (.nx ((DK s20.1 [x33],(DK s20.2.1 [r21.1],((),(lset s20.2.2.2.1 k36 (AH .i64 x35 1),r43.1))))))) (([],([],((),(CK k6 0,r19.1)))))) λr44=>some ((r44.2.1.1,(r44.2.1.2.1,0)))
def Dl (x:(Bool×AT)):Option Int :=
 bd (Ev x.2.1) λr0=>br (Ao r0 0) (λ_=>some r0) λ_=>br (AZ x.1) (λ_=>br (AZ (seq x.2.1 [])) (λ_=>some 6) λ_=>some 0) λ_=>some 0
def A4 (x:AB):Option AB :=
 some x
def EB (x:((List AB)×Bool)):Option ((List AB)×(Int×Int)) :=
 br (Bz (AV (AA x.1)) 20000) (λ_=>some (([],((-1),3)))) λ_=>bd (CZ x.2) λr0=>bd (loop (λs1=>br (Ah s1.2.1 (AV (AA x.1))) (λ_=>AS s1.2.1 λk2=>ix x.1 k2 λx3=>bd (Dl s1.2.2.2.1) λr4=>br (Ao r4 0) (λ_=>br (Ao r4 0) (λ_=>some (.dn ((0,((r4,(s1.2.1,(s1.2.1,s1.2.2.2))),()))))) λ_=>some (.nx ((s1.1,(AH .i64 s1.2.1 1,(s1.2.2.1,((false,([],false)),s1.2.2.2.2))))))) λ_=>bd (Ar x3) λr5=>br (Ao r5 0) (λ_=>br (Ao r5 0) (λ_=>some (.dn ((0,((r5,(s1.2.1,(s1.2.1,s1.2.2.2))),()))))) λ_=>some (.nx ((s1.1,(AH .i64 s1.2.1 1,(s1.2.2.1,((false,([],false)),s1.2.2.2.2))))))) λ_=>br s1.2.2.2.1.1 (λ_=>br (CJ x3.1 s1.2.2.2.1.2.1) (λ_=>some (.dn ((0,((6,(s1.2.1,(s1.2.1,s1.2.2.2))),()))))) λ_=>br s1.2.2.2.1.1 (λ_=>br (seq x3.1 s1.2.2.2.1.2.1) (λ_=>some (.nx ((s1.1,(AH .i64 s1.2.1 1,(s1.2.2.1,((true,(x3.1,s1.2.2.2.1.2.2)),s1.2.2.2.2))))))) λ_=>br s1.2.2.2.1.2.2 (λ_=>br x3.2.2.1 (λ_=>some (.nx ((s1.1,(AH .i64 s1.2.1 1,(s1.2.2.1,((true,(x3.1,s1.2.2.2.1.2.2)),s1.2.2.2.2))))))) λ_=>bd (A4 x3) λr6=>gd (A6 (AJ (AA s1.2.2.2.2) (AA [r6])) 1048576) λ_=>some (.nx ((s1.1,(AH .i64 s1.2.1 1,(s1.2.2.1,((true,(x3.1,s1.2.2.2.1.2.2)),DK s1.2.2.2.2 [r6]))))))) λ_=>bd (A4 x3) λr7=>gd (A6 (AJ (AA s1.2.2.2.2) (AA [r7])) 1048576) λ_=>some (.nx ((s1.1,(AH .i64 s1.2.1 1,(s1.2.2.1,((true,(x3.1,s1.2.2.2.1.2.2)),DK s1.2.2.2.2 [r7]))))))) λ_=>br s1.2.2.2.1.2.2 (λ_=>br x3.2.2.1 (λ_=>some (.nx ((s1.1,(AH .i64 s1.2.1 1,(s1.2.2.1,((true,(x3.1,s1.2.2.2.1.2.2)),s1.2.2.2.2))))))) λ_=>bd (A4 x3) λr8=>gd (A6 (AJ (AA s1.2.2.2.2) (AA [r8])) 1048576) λ_=>some (.nx ((s1.1,(AH .i64 s1.2.1 1,(s1.2.2.1,((true,(x3.1,s1.2.2.2.1.2.2)),DK s1.2.2.2.2 [r8]))))))) λ_=>bd (A4 x3) λr9=>gd (A6 (AJ (AA s1.2.2.2.2) (AA [r9])) 1048576) λ_=>some (.nx ((s1.1,(AH .i64 s1.2.1 1,(s1.2.2.1,((true,(x3.1,s1.2.2.2.1.2.2)),DK s1.2.2.2.2 [r9]))))))) λ_=>br s1.2.2.2.1.1 (λ_=>br (seq x3.1 s1.2.2.2.1.2.1) (λ_=>some (.nx ((s1.1,(AH .i64 s1.2.1 1,(s1.2.2.1,((true,(x3.1,s1.2.2.2.1.2.2)),s1.2.2.2.2))))))) λ_=>br s1.2.2.2.1.2.2 (λ_=>br x3.2.2.1 (λ_=>some (.nx ((s1.1,(AH .i64 s1.2.1 1,(s1.2.2.1,((true,(x3.1,s1.2.2.2.1.2.2)),s1.2.2.2.2))))))) λ_=>bd (A4 x3) λr10=>gd (A6 (AJ (AA s1.2.2.2.2) (AA [r10])) 1048576) λ_=>some (.nx ((s1.1,(AH .i64 s1.2.1 1,(s1.2.2.1,((true,(x3.1,s1.2.2.2.1.2.2)),DK s1.2.2.2.2 [r10]))))))) λ_=>bd (A4 x3) λr11=>gd (A6 (AJ (AA s1.2.2.2.2) (AA [r11])) 1048576) λ_=>some (.nx ((s1.1,(AH .i64 s1.2.1 1,(s1.2.2.1,((true,(x3.1,s1.2.2.2.1.2.2)),DK s1.2.2.2.2 [r11]))))))) λ_=>br s1.2.2.2.1.2.2 (λ_=>br x3.2.2.1 (λ_=>some (.nx ((s1.1,(AH .i64 s1.2.1 1,(s1.2.2.1,((true,(x3.1,s1.2.2.2.1.2.2)),s1.2.2.2.2))))))) λ_=>bd (A4 x3) λr12=>gd (A6 (AJ (AA s1.2.2.2.2) (AA [r12])) 1048576) λ_=>some (.nx ((s1.1,(AH .i64 s1.2.1 1,(s1.2.2.1,((true,(x3.1,s1.2.2.2.1.2.2)),DK s1.2.2.2.2 [r12]))))))) λ_=>bd (A4 x3) λr13=>gd (A6 (AJ (AA s1.2.2.2.2) (AA [r13])) 1048576) λ_=>some (.nx ((s1.1,(AH .i64 s1.2.1 1,(s1.2.2.1,((true,(x3.1,s1.2.2.2.1.2.2)),DK s1.2.2.2.2 [r13]))))))) λ_=>some (.dn ((1,(s1,()))))) ((0,(0,(0,(r0,[])))))) λr14=>br (neq r14.1 0) (λ_=>br (Ao r14.2.1.1 0) (λ_=>some (([],(r14.2.1.2.2.1,r14.2.1.1)))) λ_=>some ((r14.2.1.2.2.2.2,(0,0)))) λ_=>some ((r14.2.1.2.2.2.2,(0,0)))
def Dm (x:((List AB)×(List AB))):Option Bool :=
 br (Ao (AV (AA x.1)) (AV (AA x.2))) (λ_=>some false) λ_=>bd (loop (λs0=>br (Ah s0.2 (AV (AA x.1))) (λ_=>AS s0.2 λk1=>ix x.1 k1 λx2=>AS s0.2 λk3=>ix x.2 k3 λx4=>br (AZ (Bo (seq x2.1 x4.1) (Bo (seq x2.2.1 x4.2.1) (Bo (beq x2.2.2.1 x4.2.2.1) (Bo (Bm x2.2.2.2 x4.2.2.2) true))))) (λ_=>some (.dn ((0,((false,s0.2),()))))) λ_=>some (.nx (s0.1,AH .i64 s0.2 1))) λ_=>some (.dn ((1,(s0,()))))) (false,0)) λr5=>br (neq r5.1 0) (λ_=>some r5.2.1.1) λ_=>some true
def Ef (x:(AY×((Bool×AT)×((List AB)×Int)))):Option Int :=
 bd (DS x.1) λr0=>br (Ao r0.2 0) (λ_=>some r0.2) λ_=>bd (loop (λs1=>br (Ah s1.1 (AV (AA x.1.2.1))) (λ_=>AS s1.1 λk2=>ix x.1.2.1 k2 λx3=>some (.nx (AH .i64 s1.1 1,AH .i64 s1.2 x3))) λ_=>some (.dn ((0,(s1,()))))) (0,0)) λr4=>br (Bz (AV (AA x.2.2.1)) 20000) (λ_=>some 3) λ_=>br (Bz r4.2.1.2 20000) (λ_=>some 3) λ_=>br (Ao x.2.2.2 r4.2.1.2) (λ_=>some 7) λ_=>bd (Gq x.1.1) λr5=>br (Ao r5.2.2 0) (λ_=>some r5.2.2) λ_=>AS r4.2.1.2 λk6=>gd (A6 k6 (AA r5.1)) λ_=>gd (A6 0 k6) λ_=>bd (EB (B3 r5.1 0 k6,x.2.1.2.2)) λr7=>br (Ao r7.2.2 0) (λ_=>some r7.2.2) λ_=>bd (CZ x.2.1.2.2) λr8=>br (Bz r4.2.1.2 0) (λ_=>AS (BJ .i64 r4.2.1.2 1) λk9=>ix r5.1 k9 λx10=>bd (Dm (x.2.2.1,r7.1)) λr11=>br (AZ r11) (λ_=>some 6) λ_=>br (AZ (Bo (beq x.2.1.1 true) (Bo (seq x.2.1.2.1 x10.1) (Bo (beq x.2.1.2.2 r8.2.2) true)))) (λ_=>some 6) λ_=>some 0) λ_=>bd (Dm (x.2.2.1,r7.1)) λr12=>br (AZ r12) (λ_=>some 6) λ_=>br (AZ (Bo (beq x.2.1.1 r8.1) (Bo (seq x.2.1.2.1 r8.2.1) (Bo (beq x.2.1.2.2 r8.2.2) true)))) (λ_=>some 6) λ_=>some 0
def Fz (x:AY):Option (Int×Int) :=
 bd (DS x) λr0=>br (Ao r0.2 0) (λ_=>some (0,r0.2)) λ_=>bd (loop (λs1=>br (Ah s1.1 (AV (AA x.1))) (λ_=>AS s1.1 λk2=>ix x.1 k2 λx3=>AS s1.1 λk4=>ix x.2.1 k4 λx5=>some (.nx ((AH .i64 s1.1 1,AH .i64 s1.2 (BJ .i64 (AV (AA x3)) x5))))) λ_=>some (.dn ((0,(s1,()))))) (0,0)) λr6=>some (r6.2.1.2,0)
def Bt (x:(AY×((Bool×AT)×((List AB)×Int)))):Option (Int×Int) :=
 bd (Ef x) λr0=>br (Ao r0 0) (λ_=>some (0,r0)) λ_=>bd (Fz x.1) λr1=>some r1
def Bv (x:AY):Option (AB×(Int×(AY×Int))) :=
 bd (DS x) λr0=>br (Ao r0.2 0) (λ_=>br (Ao r0.2 0) (λ_=>some (((([],([],(false,0))):AB),(0,(([],([],([],([],0)))),r0.2))))) λ_=>none) λ_=>bd (Ai x.1) λr1=>bd (Aw x.2.1) λr2=>bd (Ca x.2.2) λr3=>br (Ao r3.2.2 0) (λ_=>br (Ao r3.2.2 0) (λ_=>some (((([],([],(false,0))):AB),(0,(([],([],([],([],0)))),r3.2.2))))) λ_=>gd (B6 0 (AA r2)) λ_=>ix r2 0 λx4=>gd (B6 0 (AA r2)) λ_=>ix r2 0 λx5=>gd (B6 0 (AA r1)) λ_=>ix r1 0 λx6=>gd (B6 0 (AA (lset r2 0 (AH .i64 x4 1)))) λ_=>ix (lset r2 0 (AH .i64 x4 1)) 0 λx7=>bd (BE (x6,x7)) λr8=>bd (CH (x.2.2,r8)) λr9=>some (((([],([],(false,0))):AB),(0,((r1,(lset r2 0 (AH .i64 x4 1),r9.1)),0))))) λ_=>AS r3.1 λk10=>gd (B6 k10 (AA r1)) λ_=>ix r1 k10 λx11=>AS r3.1 λk12=>gd (B6 k12 (AA r2)) λ_=>ix r2 k12 λx13=>AS x13 λk14=>ix x11 k14 λx15=>AS r3.1 λk16=>gd (B6 k16 (AA r2)) λ_=>ix r2 k16 λx17=>AS r3.1 λk18=>gd (B6 k18 (AA r2)) λ_=>ix r2 k18 λx19=>AS r3.1 λk20=>gd (B6 k20 (AA r1)) λ_=>ix r1 k20 λx21=>AS r3.1 λk22=>gd (B6 k22 (AA (lset r2 k18 (AH .i64 x17 1)))) λ_=>ix (lset r2 k18 (AH .i64 x17 1)) k22 λx23=>bd (BE (x21,x23)) λr24=>bd (CH (x.2.2,r24)) λr25=>some ((x15,(r3.1,((r1,(lset r2 k18 (AH .i64 x17 1),r25.1)),0))))
def B7 (x:((Bool×AT)×AB)):Option (Bool×((Bool×AT)×Int)) :=
 bd (Dl x.1) λr0=>br (Ao r0 0) (λ_=>some ((false,((false,([],false)),r0)))) λ_=>bd (Ar x.2) λr1=>br (Ao r1 0) (λ_=>some ((false,((false,([],false)),r1)))) λ_=>br x.1.1 (λ_=>br (CJ x.2.1 x.1.2.1) (λ_=>some ((false,((false,([],false)),6)))) λ_=>br x.1.1 (λ_=>br (seq x.2.1 x.1.2.1) (λ_=>some ((false,((true,(x.2.1,x.1.2.2)),0)))) λ_=>br x.1.2.2 (λ_=>br x.2.2.2.1 (λ_=>some ((false,((true,(x.2.1,x.1.2.2)),0)))) λ_=>some ((true,((true,(x.2.1,x.1.2.2)),0)))) λ_=>some ((true,((true,(x.2.1,x.1.2.2)),0)))) λ_=>br x.1.2.2 (λ_=>br x.2.2.2.1 (λ_=>some ((false,((true,(x.2.1,x.1.2.2)),0)))) λ_=>some ((true,((true,(x.2.1,x.1.2.2)),0)))) λ_=>some ((true,((true,(x.2.1,x.1.2.2)),0)))) λ_=>br x.1.1 (λ_=>br (seq x.2.1 x.1.2.1) (λ_=>some ((false,((true,(x.2.1,x.1.2.2)),0)))) λ_=>br x.1.2.2 (λ_=>br x.2.2.2.1 (λ_=>some ((false,((true,(x.2.1,x.1.2.2)),0)))) λ_=>some ((true,((true,(x.2.1,x.1.2.2)),0)))) λ_=>some ((true,((true,(x.2.1,x.1.2.2)),0)))) λ_=>br x.1.2.2 (λ_=>br x.2.2.2.1 (λ_=>some ((false,((true,(x.2.1,x.1.2.2)),0)))) λ_=>some ((true,((true,(x.2.1,x.1.2.2)),0)))) λ_=>some ((true,((true,(x.2.1,x.1.2.2)),0)))
def CW (x:((AY×((Bool×AT)×((List AB)×Int)))×Int)):Option ((AY×((Bool×AT)×((List AB)×Int)))×(Int×Int)) :=
 bd (Bt x.1) λr0=>br (Ao r0.2 0) (λ_=>some (((([],([],([],([],0)))),((false,([],false)),([],0))),(0,r0.2)))) λ_=>br (Ah x.2 0) (λ_=>some (((([],([],([],([],0)))),((false,([],false)),([],0))),(0,7)))) λ_=>br (Bz (AH .i64 x.1.2.2.2 (NN x.2 r0.1)) 20000) (λ_=>some (((([],([],([],([],0)))),((false,([],false)),([],0))),(0,3)))) λ_=>gd (A6 (AA x.1.2.2.1) 1048576) λ_=>gd (A6 (AA x.1.1.2.1) 1048576) λ_=>br (Ah 0 (NN x.2 r0.1)) (λ_=>bd (Bv x.1.1) λr1=>br (Ao r1.2.2.2 0) (λ_=>br (Ao r1.2.2.2 0) (λ_=>br (Ao r1.2.2.2 0) (λ_=>some (((([],([],([],([],0)))),((false,([],false)),([],0))),(0,r1.2.2.2)))) λ_=>some ((x.1,(NN x.2 r0.1,0)))) λ_=>none) λ_=>bd (B7 (x.1.2.1,r1.1)) λr2=>br (Ao r2.2.2 0) (λ_=>br (Ao r2.2.2 0) (λ_=>br (Ao r2.2.2 0) (λ_=>some (((([],([],([],([],0)))),((false,([],false)),([],0))),(0,r2.2.2)))) λ_=>some ((x.1,(NN x.2 r0.1,0)))) λ_=>none) λ_=>br r2.1 (λ_=>gd (A6 (AJ (AA x.1.2.2.1) (AA [r1.1])) 1048576) λ_=>bd (loop (λs3=>br (Ah s3.1 (NN x.2 r0.1)) (λ_=>bd (Bv ((s3.2.2.1,(s3.2.2.2.1,(s3.2.2.2.2.1,(s3.2.2.2.2.2.1,s3.2.2.2.2.2.2.1)))))) λr4=>br (Ao r4.2.2.2 0) (λ_=>br (Ao r4.2.2.2 0) (λ_=>some (.dn ((0,((s3.1,(r4.2.2.2,s3.2.2)),()))))) λ_=>some (.nx (AH .i64 s3.1 1,s3.2))) λ_=>bd (B7 (((s3.2.2.2.2.2.2.2.1,(s3.2.2.2.2.2.2.2.2.1,s3.2.2.2.2.2.2.2.2.2.1)),r4.1))) λr5=>br (Ao r5.2.2 0) (λ_=>br (Ao r5.2.2 0) (λ_=>some (.dn ((0,((s3.1,(r5.2.2,s3.2.2)),()))))) λ_=>some (.nx (AH .i64 s3.1 1,s3.2))) λ_=>br r5.1 (λ_=>gd (A6 (AJ (AA s3.2.2.2.2.2.2.2.2.2.2.1) (AA [r4.1])) 1048576) λ_=>some (.nx ((AH .i64 s3.1 1,(s3.2.1,(r4.2.2.1.1,(r4.2.2.1.2.1,(r4.2.2.1.2.2.1,(r4.2.2.1.2.2.2.1,(r4.2.2.1.2.2.2.2,(r5.2.1.1,(r5.2.1.2.1,(r5.2.1.2.2,(DK s3.2.2.2.2.2.2.2.2.2.2.1 [r4.1],AH .i64 s3.2.2.2.2.2.2.2.2.2.2.2 1)))))))))))))) λ_=>some (.nx ((AH .i64 s3.1 1,(s3.2.1,(r4.2.2.1.1,(r4.2.2.1.2.1,(r4.2.2.1.2.2.1,(r4.2.2.1.2.2.2.1,(r4.2.2.1.2.2.2.2,(r5.2.1.1,(r5.2.1.2.1,(r5.2.1.2.2,(s3.2.2.2.2.2.2.2.2.2.2.1,AH .i64 s3.2.2.2.2.2.2.2.2.2.2.2 1)))))))))))))) λ_=>some (.dn ((1,(s3,()))))) ((1,(0,(r1.2.2.1.1,(r1.2.2.1.2.1,(r1.2.2.1.2.2.1,(r1.2.2.1.2.2.2.1,(r1.2.2.1.2.2.2.2,(r2.2.1.1,(r2.2.1.2.1,(r2.2.1.2.2,(DK x.1.2.2.1 [r1.1],AH .i64 x.1.2.2.2 1))))))))))))) λr6=>br (neq r6.1 0) (λ_=>br (Ao r6.2.1.2.1 0) (λ_=>some (((([],([],([],([],0)))),((false,([],false)),([],0))),(0,r6.2.1.2.1)))) λ_=>some ((((r6.2.1.2.2.1,(r6.2.1.2.2.2.1,(r6.2.1.2.2.2.2.1,(r6.2.1.2.2.2.2.2.1,r6.2.1.2.2.2.2.2.2.1)))),((r6.2.1.2.2.2.2.2.2.2.1,(r6.2.1.2.2.2.2.2.2.2.2.1,r6.2.1.2.2.2.2.2.2.2.2.2.1)),r6.2.1.2.2.2.2.2.2.2.2.2.2)),(NN x.2 r0.1,0)))) λ_=>some ((((r6.2.1.2.2.1,(r6.2.1.2.2.2.1,(r6.2.1.2.2.2.2.1,(r6.2.1.2.2.2.2.2.1,r6.2.1.2.2.2.2.2.2.1)))),((r6.2.1.2.2.2.2.2.2.2.1,(r6.2.1.2.2.2.2.2.2.2.2.1,r6.2.1.2.2.2.2.2.2.2.2.2.1)),r6.2.1.2.2.2.2.2.2.2.2.2.2)),(NN x.2 r0.1,0)))) λ_=>bd (loop (λs7=>br (Ah s7.1 (NN x.2 r0.1)) (λ_=>bd (Bv ((s7.2.2.1,(s7.2.2.2.1,(s7.2.2.2.2.1,(s7.2.2.2.2.2.1,s7.2.2.2.2.2.2.1)))))) λr8=>br (Ao r8.2.2.2 0) (λ_=>br (Ao r8.2.2.2 0) (λ_=>some (.dn ((0,((s7.1,(r8.2.2.2,s7.2.2)),()))))) λ_=>some (.nx (AH .i64 s7.1 1,s7.2))) λ_=>bd (B7 (((s7.2.2.2.2.2.2.2.1,(s7.2.2.2.2.2.2.2.2.1,s7.2.2.2.2.2.2.2.2.2.1)),r8.1))) λr9=>br (Ao r9.2.2 0) (λ_=>br (Ao r9.2.2 0) (λ_=>some (.dn ((0,((s7.1,(r9.2.2,s7.2.2)),()))))) λ_=>some (.nx (AH .i64 s7.1 1,s7.2))) λ_=>br r9.1 (λ_=>gd (A6 (AJ (AA s7.2.2.2.2.2.2.2.2.2.2.1) (AA [r8.1])) 1048576) λ_=>some (.nx ((AH .i64 s7.1 1,(s7.2.1,(r8.2.2.1.1,(r8.2.2.1.2.1,(r8.2.2.1.2.2.1,(r8.2.2.1.2.2.2.1,(r8.2.2.1.2.2.2.2,(r9.2.1.1,(r9.2.1.2.1,(r9.2.1.2.2,(DK s7.2.2.2.2.2.2.2.2.2.2.1 [r8.1],AH .i64 s7.2.2.2.2.2.2.2.2.2.2.2 1)))))))))))))) λ_=>some (.nx ((AH .i64 s7.1 1,(s7.2.1,(r8.2.2.1.1,(r8.2.2.1.2.1,(r8.2.2.1.2.2.1,(r8.2.2.1.2.2.2.1,(r8.2.2.1.2.2.2.2,(r9.2.1.1,(r9.2.1.2.1,(r9.2.1.2.2,(s7.2.2.2.2.2.2.2.2.2.2.1,AH .i64 s7.2.2.2.2.2.2.2.2.2.2.2 1)))))))))))))) λ_=>some (.dn ((1,(s7,()))))) ((1,(0,(r1.2.2.1.1,(r1.2.2.1.2.1,(r1.2.2.1.2.2.1,(r1.2.2.1.2.2.2.1,(r1.2.2.1.2.2.2.2,(r2.2.1.1,(r2.2.1.2.1,(r2.2.1.2.2,(x.1.2.2.1,AH .i64 x.1.2.2.2 1))))))))))))) λr10=>br (neq r10.1 0) (λ_=>br (Ao r10.2.1.2.1 0) (λ_=>some (((([],([],([],([],0)))),((false,([],false)),([],0))),(0,r10.2.1.2.1)))) λ_=>some ((((r10.2.1.2.2.1,(r10.2.1.2.2.2.1,(r10.2.1.2.2.2.2.1,(r10.2.1.2.2.2.2.2.1,r10.2.1.2.2.2.2.2.2.1)))),((r10.2.1.2.2.2.2.2.2.2.1,(r10.2.1.2.2.2.2.2.2.2.2.1,r10.2.1.2.2.2.2.2.2.2.2.2.1)),r10.2.1.2.2.2.2.2.2.2.2.2.2)),(NN x.2 r0.1,0)))) λ_=>some ((((r10.2.1.2.2.1,(r10.2.1.2.2.2.1,(r10.2.1.2.2.2.2.1,(r10.2.1.2.2.2.2.2.1,r10.2.1.2.2.2.2.2.2.1)))),((r10.2.1.2.2.2.2.2.2.2.1,(r10.2.1.2.2.2.2.2.2.2.2.1,r10.2.1.2.2.2.2.2.2.2.2.2.1)),r10.2.1.2.2.2.2.2.2.2.2.2.2)),(NN x.2 r0.1,0)))) λ_=>some ((x.1,(NN x.2 r0.1,0)))
def BK (x:((List AB)×(List AB))):Option Bool :=
 br (Ao (AV (AA x.1)) (AV (AA x.2))) (λ_=>some false) λ_=>bd (loop (λs0=>br (Ah s0.1 (AV (AA x.1))) (λ_=>AS s0.1 λk1=>ix x.1 k1 λx2=>AS s0.1 λk3=>ix x.2 k3 λx4=>br (AZ (Bo (seq x2.1 x4.1) (Bo (seq x2.2.1 x4.2.1) (Bo (beq x2.2.2.1 x4.2.2.1) (Bo (Bm x2.2.2.2 x4.2.2.2) true))))) (λ_=>some (.dn ((0,((s0.1,false),()))))) λ_=>some (.nx (AH .i64 s0.1 1,s0.2))) λ_=>some (.dn ((1,(s0,()))))) (0,false)) λr5=>br (neq r5.1 0) (λ_=>some r5.2.1.2) λ_=>some true
def Bg (x:((List AB)×(List AB))):Option Bool :=
 bd (BK x) λr0=>some r0
def DL (x:((AY×((Bool×AT)×((List AB)×Int)))×(AY×((Bool×AT)×((List AB)×Int))))):Option Bool :=
 br (Ao (AV (AA x.1.1.1)) (AV (AA x.2.1.1))) (λ_=>some false) λ_=>bd (loop (λs0=>br (Ah s0.1 (AV (AA x.1.1.1))) (λ_=>AS s0.1 λk1=>ix x.1.1.1 k1 λx2=>AS s0.1 λk3=>ix x.2.1.1 k3 λx4=>bd (Bg (x2,x4)) λr5=>br (AZ r5) (λ_=>some (.dn ((0,((s0.1,false),()))))) λ_=>some (.nx (AH .i64 s0.1 1,s0.2))) λ_=>some (.dn ((1,(s0,()))))) (0,false)) λr6=>br (neq r6.1 0) (λ_=>br r6.2.1.2 (λ_=>bd (Ae (x.1.1.2.1,x.2.1.2.1)) λr7=>br r7 (λ_=>bd (Ak (x.1.1.2.2.1,x.2.1.2.2.1)) λr8=>br r8 (λ_=>bd (Ae (x.1.1.2.2.2.1,x.2.1.2.2.2.1)) λr9=>br r9 (λ_=>br (Bm x.1.1.2.2.2.2 x.2.1.2.2.2.2) (λ_=>br (Bo (beq x.1.2.1.1 x.2.2.1.1) (Bo (seq x.1.2.1.2.1 x.2.2.1.2.1) (Bo (beq x.1.2.1.2.2 x.2.2.1.2.2) true))) (λ_=>bd (Bg (x.1.2.2.1,x.2.2.2.1)) λr10=>br r10 (λ_=>some (Bm x.1.2.2.2 x.2.2.2.2)) λ_=>some false) λ_=>some false) λ_=>some false) λ_=>some false) λ_=>some false) λ_=>some false) λ_=>some false) λ_=>bd (Ae (x.1.1.2.1,x.2.1.2.1)) λr11=>br r11 (λ_=>bd (Ak (x.1.1.2.2.1,x.2.1.2.2.1)) λr12=>br r12 (λ_=>bd (Ae (x.1.1.2.2.2.1,x.2.1.2.2.2.1)) λr13=>br r13 (λ_=>br (Bm x.1.1.2.2.2.2 x.2.1.2.2.2.2) (λ_=>br (Bo (beq x.1.2.1.1 x.2.2.1.1) (Bo (seq x.1.2.1.2.1 x.2.2.1.2.1) (Bo (beq x.1.2.1.2.2 x.2.2.1.2.2) true))) (λ_=>bd (Bg (x.1.2.2.1,x.2.2.2.1)) λr14=>br r14 (λ_=>some (Bm x.1.2.2.2 x.2.2.2.2)) λ_=>some false) λ_=>some false) λ_=>some false) λ_=>some false) λ_=>some false) λ_=>some false
def Bw (x:(AO×((List (Int×(AY×((Bool×AT)×((List AB)×Int)))))×Int))):Option (Int×Int) :=
 bd (C5 x.1) λr0=>br (Ao r0.2.2 0) (λ_=>some (((-1),r0.2.2))) λ_=>br (Ah x.2.2 1) (λ_=>some (((-1),7))) λ_=>br (Bz x.2.2 1000001) (λ_=>some (((-1),7))) λ_=>bd (D9 x.1) λr1=>br (SC x.2.2 r1) (λ_=>some (((-1),6))) λ_=>bd (loop (λs2=>br (Ah s2.1 (AV (AA x.1.2))) (λ_=>AS s2.1 λk3=>ix x.1.2 k3 λx4=>br (Bm (AV (AA x4)) 2) (λ_=>gd (A6 (AJ (AA s2.2) (AA [s2.1])) 1048576) λ_=>some (.nx (AH .i64 s2.1 1,DK s2.2 [s2.1]))) λ_=>some (.nx (AH .i64 s2.1 1,s2.2))) λ_=>some (.dn ((0,(s2,()))))) (0,[])) λr5=>bd (loop (λs6=>br (Ah s6.2.2 (AV (AA x.2.1))) (λ_=>AS s6.2.2 λk7=>ix x.2.1 k7 λx8=>br (Hz s6.2.2 (AV (AA r5.2.1.2))) (λ_=>some (.dn ((0,((6,(s6.2.2,s6.2.2)),()))))) λ_=>AS s6.2.2 λk9=>gd (B6 k9 (AA r5.2.1.2)) λ_=>ix r5.2.1.2 k9 λx10=>br (Ao x8.1 x10) (λ_=>some (.dn ((0,((6,(s6.2.2,s6.2.2)),()))))) λ_=>br x8.2.2.1.2.2 (λ_=>bd (Ct (x.1,x8.1)) λr11=>br (AZ r11) (λ_=>some (.dn ((0,((6,(s6.2.2,s6.2.2)),()))))) λ_=>bd (CV ((x.1,(x8.1,x8.2.2.1.2.2)))) λr12=>bd (Bt r12.2) λr13=>br (Ah x8.2.2.2.2 0) (λ_=>some (.dn ((0,((6,(s6.2.2,s6.2.2)),()))))) λ_=>br (Bz x8.2.2.2.2 r13.1) (λ_=>some (.dn ((0,((6,(s6.2.2,s6.2.2)),()))))) λ_=>bd (CW (r12.2,x8.2.2.2.2)) λr14=>bd (DL (r14.1,x8.2)) λr15=>br (AZ r15) (λ_=>some (.dn ((0,((6,(s6.2.2,s6.2.2)),()))))) λ_=>some (.nx ((s6.1,(s6.2.1,AH .i64 s6.2.2 1))))) λ_=>bd (CV ((x.1,(x8.1,x8.2.2.1.2.2)))) λr16=>bd (Bt r16.2) λr17=>br (Ah x8.2.2.2.2 0) (λ_=>some (.dn ((0,((6,(s6.2.2,s6.2.2)),()))))) λ_=>br (Bz x8.2.2.2.2 r17.1) (λ_=>some (.dn ((0,((6,(s6.2.2,s6.2.2)),()))))) λ_=>bd (CW (r16.2,x8.2.2.2.2)) λr18=>bd (DL (r18.1,x8.2)) λr19=>br (AZ r19) (λ_=>some (.dn ((0,((6,(s6.2.2,s6.2.2)),()))))) λ_=>some (.nx ((s6.1,(s6.2.1,AH .i64 s6.2.2 1))))) λ_=>some (.dn ((1,(s6,()))))) ((r0.2.2,(0,0)))) λr20=>br (neq r20.1 0) (λ_=>some (r20.2.1.2.1,r20.2.1.1)) λ_=>br (Ah (AV (AA x.2.1)) (AV (AA r5.2.1.2))) (λ_=>some (((-1),4))) λ_=>some (0,0)
end Go.Proofs.YthpkjfabdccpdaaGreat.Pl
namespace Go.Proofs.YthpkjfabdccpdaaGreat.Pl
open Go Go.Proofs.YthpkjfabdccpdaaGreat.Sv
abbrev HB:=List UInt8
theorem L4 (a:HB):CJ a []=false:=by unfold CJ;cases a<;>rfl
theorem RR (b:UInt8) (y:HB):CJ [] (b::y)=true:=rfl
theorem IN (a b:UInt8) (x y:HB):CJ (a::x) (b::y)=(decide (a<b)||(a == b&&CJ x y)):=rfl
theorem Is : ∀ a:HB,CJ a a=false
 | []=>rfl
 | a::x=>by rw [IN,Is x];simp
theorem E0 : ∀ {a b c:HB},CJ a b=true->CJ b c=true->CJ a c=true
 | [],b,[],h1,h2=>by rw [L4] at h2;cases h2
 | [],b,c::z,_,_=>rfl
 | a::x,[],c,h1,_=>by rw [L4] at h1;cases h1
 | a::x,b::y,[],_,h2=>by rw [L4] at h2;cases h2
 | a::x,b::y,c::z,h1,h2=>by
  rw [IN] at h1 h2 ⊢;simp only [Bool.or_eq_true,decide_eq_true_eq,Bool.and_eq_true,beq_iff_eq] at h1 h2 ⊢;rcases h1 with h1 | ⟨rfl,h1⟩
  ·rcases h2 with h2 | ⟨rfl,h2⟩
   ·exact .inl (UInt8.lt_trans h1 h2)
   ·exact .inl h1
  ·rcases h2 with h2 | ⟨rfl,h2⟩
   ·exact .inl h2
   ·exact .inr ⟨rfl,E0 h1 h2⟩
theorem RS : ∀ a b:HB,CJ a b=true\/a=b\/CJ b a=true
 | [],[] => .inr (.inl rfl)
 | [],_::_ => .inl rfl
 | _::_,[] => .inr (.inr rfl)
 | a::x,b::y=>by
  rw [IN,IN];simp only [Bool.or_eq_true,decide_eq_true_eq,Bool.and_eq_true,beq_iff_eq,List.cons.injEq];rcases UInt8.lt_or_lt_of_ne (a:=a) (b:=b) |> λh=>Classical.em (a=b) |>.imp id h with h | h | h
  ·subst h;rcases RS x y with h | h | h
   ·exact .inl (.inr ⟨rfl,h⟩)
   ·exact .inr (.inl ⟨rfl,h⟩)
   ·exact .inr (.inr (.inr ⟨rfl,h⟩))
  ·exact .inl (.inl h)
  ·exact .inr (.inr (.inl h))
theorem Dn {a b:HB} (h:CJ a b=true):CJ b a=false:=by
 cases h2:CJ b a with
 | false=>rfl
 | true=>have:=E0 h h2;rw [Is] at this;cases this
theorem UY {a b:HB} (h:CJ a b=true):a≠b:=λe=>by subst e;rw [Is] at h;cases h
theorem Od {a b:HB} (h:CJ a b=false) (hn:a≠b):CJ b a=true:=by
 rcases RS a b with h1 | h1 | h1
 ·rw [h] at h1;cases h1
 ·exact absurd h1 hn
 ·exact h1
theorem UZ {a b c:HB} (h:CJ b a=false) (h2:CJ b c=true):CJ a c=true:=by
 rcases RS a b with h1 | h1 | h1
 ·exact E0 h1 h2
 ·subst h1;exact h2
 ·rw [h] at h1;cases h1
theorem KJ {a b:HB}:seq a b=true<->a=b:=by unfold seq;simp
theorem LF (a b:HB):seq a b=decide (a=b):=by
 cases h:seq a b with
 | true=>rw [KJ] at h;simp [h]
 | false =>
  have : ¬ a=b:=λe=>by rw [<- KJ] at e;rw [h] at e;cases e
  simp [this]
section
variable {α β σ S:Type}
theorem EM (a b:HB) (x y:Unit->Option β):br (seq a b) x y=if a=b then x () else y ():=NZ KJ x y
theorem GU (a b:HB) (x y:Unit->Option β):br (CJ a b) x y=if CJ a b=true then x () else y ():=NZ Iff.rfl x y
theorem Cm (p:Prop) [Decidable p] (x y:Unit->Option β):br (decide p) x y=if p then x () else y ():=NZ (by simp) x y
theorem AE (k:Nat) (c:Nat->Option β):AS (k:Int) c=c k:=by rw [V8 (by omega)];simp
theorem ii {l:List α} {k:Nat} {x:α} (h:l[k]? = some x):Ah (k:Int) (AV (AA l))=true:=by
 have:=(List.getElem?_eq_some_iff.1 h).1;unfold Ah AV AA;simp;omega
theorem fo (l:List α):Ah (l.length:Int) (AV (AA l))=false:=by unfold Ah AV AA;simp
theorem Aa {k:Nat} (h:k+1<=9223372036854775807):AH .i64 (k:Int) 1=((k+1:Nat):Int):=by
 rw [CT (by omega)];omega
theorem A1 {l:List α} {k:Nat} {x:α} (h:l[k]? = some x) (hl:l.length<=9223372036854775807):AH .i64 (k:Int) 1=((k+1:Nat):Int):=by
 have:=(List.getElem?_eq_some_iff.1 h).1;exact Aa (by omega)
def Oe (step:Nat->α->σ->Option (LR σ β)) (fin:σ->Option β):List α->Nat->σ->Option β
 | [],_,s=>fin s
 | x::l,k,s=>match step k x s with
  | none=>none
  | some (.nx s')=>Oe step fin l (k+1) s'
  | some (.dn b)=>some b
def od (mk:σ->S):Option (LR σ β)->Option (LR S β)
 | none=>none
 | some (.nx s)=>some (.nx (mk s))
 | some (.dn b)=>some (.dn b)
def jf:Option β->Option (LR S β)
 | none=>none
 | some b=>some (.dn b)
theorem Ua {l:List α} {mk:Nat->σ->S} {f:S->Option (LR S β)} {step:Nat->α->σ->Option (LR σ β)} {fin:σ->Option β}
  (hs : ∀ k x st,l[k]? = some x->f (mk k st)=od (mk (k+1)) (step k x st)) (he : ∀ st,f (mk l.length st)=jf (fin st)) :
  ∀ (d n k:Nat) (st:σ),l.length-k=d->k<=l.length->d<n->Df n f (mk k st)=Oe step fin (l.drop k) k st:=by
 intro d
 induction d with
 | zero =>
  intro n k st h1 h2 h3;have hk:k=l.length:=by omega
  obtain ⟨m,rfl⟩ : ∃ m,n=m+1:=⟨n-1,by omega⟩;subst hk;unfold Df;rw [he,List.drop_length];unfold jf Oe;cases fin st<;>rfl
 | succ d ih =>
  intro n k st h1 h2 h3;obtain ⟨m,rfl⟩ : ∃ m,n=m+1:=⟨n-1,by omega⟩;have hk:k<l.length:=by omega
  have hx:l[k]? = some l[k]:=by simp [hk]
  unfold Df;rw [hs k _ st hx,List.drop_eq_getElem_cons hk]
  show _=match step k l[k] st with
   | none=>none
   | some (.nx s')=>Oe step fin (l.drop (k+1)) (k+1) s'
   | some (.dn b)=>some b
  cases step k l[k] st with
  | none=>rfl
  | some r=>cases r with
   | nx s'=>exact ih m (k+1) s' (by omega) (by omega) (by omega)
   | dn b=>rfl
theorem XD {l:List α} (mk:Nat->σ->S) (step:Nat->α->σ->Option (LR σ β)) (fin:σ->Option β) {f:S->Option (LR S β)} {s:S} (st:σ) (h0:s=mk 0 st) (hl:l.length<=9223372036854775807)
  (hs : ∀ k x st,l[k]? = some x->f (mk k st)=od (mk (k+1)) (step k x st)) (he : ∀ st,f (mk l.length st)=jf (fin st)) :
  loop f s=Oe step fin l 0 st:=by
 subst h0;have:=Ua hs he l.length 18446744073709551616 0 st (by omega) (by omega) (by omega);rw [List.drop_zero] at this;exact this
theorem Sk {f:α->Option (LR α β)} {x:β} : ∀ {n m:Nat} {s:α},n<=m->Df n f s=some x->Df m f s=some x
 | 0,_,_,_,h=>by cases h
 | n+1,0,_,hl,_=>by omega
 | n+1,m+1,s,hl,h=>by
  unfold Df at h ⊢;split at h
  ·cases h
  ·rename_i s' e;exact Sk (by omega) h
  ·exact h
theorem DM {f:α->Option (LR α β)} {x:β} {n:Nat} {s:α} (hn:n<=18446744073709551616) (h:Df n f s=some x):loop f s=some x:=Sk hn h
theorem BN {f:α->Option (LR α β)} {n:Nat} {s s':α} (h:f s=some (.nx s')):Df (n+1) f s=Df n f s':=by
 show (match f s with
  | none=>none
  | some (.nx s)=>Df n f s
  | some (.dn x)=>some x)=_
 rw [h]
theorem Bh {f:α->Option (LR α β)} {n:Nat} {s:α} {x:β} (h:f s=some (.dn x)):Df (n+1) f s=some x:=by
 show (match f s with
  | none=>none
  | some (.nx s)=>Df n f s
  | some (.dn x)=>some x)=_
 rw [h]
theorem Sl {f : S -> Option (LR S β)} {r : β} (mk : Nat -> S) (n : Nat) {s : S} (h0 : s = mk 0) (hn : n < 18446744073709551616) (hs : ∀ k, k < n -> f (mk k) = some (.nx (mk (k + 1)))) (he : f (mk n) = some (.dn r)) : loop f s = some r := by
  subst h0
  have : ∀ d k, k + d = n -> Df (d + 1) f (mk k) = some r := by
    intro d
    induction d with
    | zero => intro k hk; have : k = n := by omega
              subst this; exact Bh he
    | succ d ih => intro k hk; rw [BN (hs k (by omega))]; exact ih (k + 1) (by omega)
  exact DM (n := n + 1) (by omega) (this n 0 (by omega))
end
end Go.Proofs.YthpkjfabdccpdaaGreat.Pl
namespace Go.Proofs.YthpkjfabdccpdaaGreat.Pl
open Go Go.Proofs.YthpkjfabdccpdaaGreat.Sv
def kE (x:AB):Int:=if x.1.length>32\/x.2.1.length>64 then 3 else if x.2.2.1=true/\x.2.1≠[] then 6 else if x.2.2.2<1\/x.2.2.2>1000000000 then 7 else 0
def JE:Option HB->Nat->List AB->Int×Int
 | _,_,[]=>(0,0)
 | p,k,x::l=>if kE x≠0 then ((k:Int),kE x) else match p with
  | some q=>if CJ q x.1=true then JE (some x.1) (k+1) l else ((k:Int),6)
  | none=>JE (some x.1) (k+1) l
def DT (l:List AB):Int×Int:=if l.length>5000 then (-1,3) else JE none 0 l
def Asc:Option HB->List AB->Prop
 | _,[]=>True
 | p,x::l=>(∀ q,p=some q->CJ q x.1=true)/\Asc (some x.1) l
theorem L5 : ∀ {p k l},(JE p k l).2=0<->(∀ x∈l,kE x=0)/\Asc p l
 | p,k,[]=>by simp [JE,Asc]
 | p,k,x::l=>by
  unfold JE;by_cases h:kE x=0
  ·rw [if_neg (by simp [h])];cases p with
   | none =>
    simp only [L5 (p:=some x.1) (l:=l),Asc,List.mem_cons,forall_eq_or_imp];constructor
    ·rintro ⟨h1,h2⟩;exact ⟨⟨h,h1⟩,(λq hq=>by cases hq),h2⟩
    ·rintro ⟨⟨_,h1⟩,_,h2⟩;exact ⟨h1,h2⟩
   | some q =>
    simp only;by_cases hq:CJ q x.1=true
    ·rw [if_pos hq];simp only [L5 (p:=some x.1) (l:=l),Asc,List.mem_cons,forall_eq_or_imp];constructor
     ·rintro ⟨h1,h2⟩;exact ⟨⟨h,h1⟩,(λq' hq'=>by cases hq';exact hq),h2⟩
     ·rintro ⟨⟨_,h1⟩,_,h2⟩;exact ⟨h1,h2⟩
    ·rw [if_neg hq];constructor
     ·intro h;cases h
     ·rintro ⟨_,h2⟩;exact absurd (h2.1 q rfl) hq
  ·rw [if_pos h];constructor
   ·intro h';exact absurd h' h
   ·rintro ⟨h1,_⟩;exact absurd (h1 x (by simp)) h
theorem Mt : ∀ {p k l},(JE p k l).2=0->JE p k l=(0,0)
 | p,k,[],_=>rfl
 | p,k,x::l,h=>by
  unfold JE at h ⊢;by_cases hx:kE x=0
  ·rw [if_neg (by simp [hx])] at h ⊢;cases p with
   | none=>exact Mt h
   | some q =>
    simp only at h ⊢;by_cases hq:CJ q x.1=true
    ·rw [if_pos hq] at h ⊢;exact Mt h
    ·rw [if_neg hq] at h;cases h
  ·rw [if_pos hx] at h;exact absurd h hx
structure VL (l:List AB):Prop where
 len:l.length<=5000
 ok : ∀ x∈l,kE x=0
 asc:Asc none l
theorem KK {l:List AB}:(DT l).2=0<->VL l:=by
 unfold DT;by_cases h:l.length>5000
 ·rw [if_pos h];constructor
  ·intro h;cases h
  ·intro h';have:=h'.len;omega
 ·rw [if_neg h];rw [L5];exact ⟨λ⟨a,b⟩=>⟨by omega,a,b⟩,λh=>⟨h.ok,h.asc⟩⟩
theorem Ji {l:List AB} (h:VL l):DT l=(0,0):=by
 have h2:=KK.2 h;unfold DT at h2 ⊢;rw [if_neg (by have:=h.len;omega)] at h2 ⊢;exact Mt h2
theorem Asc.lt : ∀ {p:Option HB} {l:List AB},Asc p l -> ∀ {i:Nat} {x y:AB},l[i]? = some x->l[i+1]? = some y->CJ x.1 y.1=true
 | p,x::[],_,0,_,_,_,h2=>by simp at h2
 | p,a::b::l,h,0,x,y,h1,h2=>by
  simp at h1 h2;subst h1;subst h2;exact h.2.1 _ rfl
 | p,a::l,h,i+1,x,y,h1,h2=>by
  simp at h1 h2;exact Asc.lt h.2 h1 h2
theorem VL.lt {l:List AB} (h:VL l) {i:Nat} {x y:AB} (h1:l[i]? = some x) (h2:l[i+1]? = some y):CJ x.1 y.1=true:=h.asc.lt h1 h2
def kx (l:List AB) (i:Nat):AT:=match l[i]? with
 | some x=>(x.1,false)
 | none=>([],true)
def w0 (p q:AT):Bool:=if p.2≠q.2 then q.2 else if p.1≠q.1 then CJ p.1 q.1 else true
def HY (a b:List AB) (i j:Nat):Bool:=w0 (kx a i) (kx b j)
def Am (a b:List AB):Nat->Nat×Nat
 | 0=>(0,0)
 | n+1=>if HY a b (Am a b n).1 (Am a b n).2=true then ((Am a b n).1+1,(Am a b n).2) else ((Am a b n).1,(Am a b n).2+1)
def Na (a b:List AB) (n:Nat):Option AB:=if HY a b (Am a b n).1 (Am a b n).2=true then a[(Am a b n).1]? else b[(Am a b n).2]?
structure Inv (a b:List AB) (i j:Nat):Prop where
 ia:i<=a.length
 jb:j<=b.length
 pa : ∀ i',i=i'+1 -> ∀ x y,a[i']? = some x->b[j]? = some y->CJ y.1 x.1=false
 pb : ∀ j',j=j'+1 -> ∀ x y,b[j']? = some x->a[i]? = some y->CJ x.1 y.1=true
theorem Of {a b:List AB} {i j:Nat} {x y:AB} (h1:a[i]? = some x) (h2:b[j]? = some y):HY a b i j = !CJ y.1 x.1:=by
 unfold HY w0 kx;rw [h1,h2];simp only [ne_eq,not_true,if_false];by_cases h:x.1=y.1
 ·rw [if_neg (by simp [h]),h,Is];rfl
 ·rw [if_pos h];cases hs:CJ x.1 y.1 with
  | true=>rw [Dn hs];rfl
  | false=>rw [Od hs h];rfl
theorem WA {a b:List AB} {i j:Nat} {x:AB} (h1:a[i]? = some x) (h2:b[j]? = none):HY a b i j=true:=by
 unfold HY w0 kx;rw [h1,h2];rfl
theorem WB {a b:List AB} {i j:Nat} {y:AB} (h1:a[i]? = none) (h2:b[j]? = some y):HY a b i j=false:=by
 unfold HY w0 kx;rw [h1,h2];rfl
theorem Sn {a b:List AB} {i j:Nat} (h1:a[i]? = none) (h2:b[j]? = none):HY a b i j=true:=by
 unfold HY w0 kx;rw [h1,h2];rfl
theorem Inv.zero (a b:List AB):Inv a b 0 0:=⟨by omega,by omega,λ_ h=>by omega,λ_ h=>by omega⟩
theorem Inv.stepA {a b:List AB} (va:VL a) {i j:Nat} (h:Inv a b i j) {x:AB} (hx:a[i]? = some x) (g:HY a b i j=true):Inv a b (i+1) j:=by
 have hi:=(List.getElem?_eq_some_iff.1 hx).1;refine ⟨by omega,h.jb,λi' e x' y h1 h2 => ?_,λj' e x' y h1 h2 => ?_⟩
 ·have:i'=i:=by omega
  subst this;rw [hx] at h1;cases h1;rw [Of hx h2] at g;simpa using g
 ·exact E0 (h.pb j' e x' x h1 hx) (va.lt hx h2)
theorem Inv.stepB {a b:List AB} (vb:VL b) {i j:Nat} (h:Inv a b i j) {y:AB} (hy:b[j]? = some y) (g:HY a b i j=false):Inv a b i (j+1):=by
 have hj:=(List.getElem?_eq_some_iff.1 hy).1;refine ⟨h.ia,by omega,λi' e x' y' h1 h2 => ?_,λj' e x' y' h1 h2 => ?_⟩
 ·have h3:=h.pa i' e x' y h1 hy;exact Dn (UZ h3 (vb.lt hy h2))
 ·have:j'=j:=by omega
  subst this;rw [hy] at h1;cases h1;rw [Of h2 hy] at g;simpa using g
theorem FW {a b:List AB} (va:VL a) (vb:VL b) : ∀ {n:Nat},n<=a.length+b.length->Inv a b (Am a b n).1 (Am a b n).2/\(Am a b n).1+(Am a b n).2=n
 | 0,_=>⟨Inv.zero a b,rfl⟩
 | n+1,h=>by
  obtain ⟨hI,hs⟩:=FW va vb (n:=n) (by omega);rw [show Am a b (n+1)=if HY a b (Am a b n).1 (Am a b n).2=true then ((Am a b n).1+1,(Am a b n).2) else ((Am a b n).1,(Am a b n).2+1) from rfl]
  revert hI hs;generalize (Am a b n).1=i;generalize (Am a b n).2=j;intro hI hs;cases g:HY a b i j with
  | true =>
   have hi:i<a.length:=by
    refine Nat.lt_of_not_le λh' => ?_;have h1:a[i]? = none:=List.getElem?_eq_none h';have h2:j<b.length:=by have:=hI.ia;omega
    rw [WB h1 (by simp [h2]:b[j]? = some b[j])] at g;cases g
   have:=hI.stepA va (by simp [hi]:a[i]? = some a[i]) g;rw [if_pos rfl];exact ⟨this,by omega⟩
  | false =>
   have hj:j<b.length:=by
    refine Nat.lt_of_not_le λh' => ?_;have h1:b[j]? = none:=List.getElem?_eq_none h';cases h2:a[i]? with
    | none=>rw [Sn h2 h1] at g;cases g
    | some x=>rw [WA h2 h1] at g;cases g
   have:=hI.stepB vb (by simp [hj]:b[j]? = some b[j]) g;rw [if_neg (by simp)];exact ⟨this,by omega⟩
end Go.Proofs.YthpkjfabdccpdaaGreat.Pl
namespace Go.Proofs.YthpkjfabdccpdaaGreat.Pl
open Go Go.Proofs.YthpkjfabdccpdaaGreat.Sv
def Tt (p q:AT):D0:=([p,q],([0,if w0 p q=true then 1 else 0],if w0 p q=true then 0 else 1))
def LO (a b:List AB) (i j:Nat):AY:=([a,b],([(i:Int),(j:Int)],Tt (kx a i) (kx b j)))
def gu (a b:List AB) (n:Nat):HB:=match Na a b n with
 | some x=>x.1
 | none=>[]
def fresh (a b:List AB) (n:Nat) (x:AB):Bool:=decide (n=0)||decide (gu a b (n-1)≠x.1)
def fq (a b:List AB) (bt:Bool):Nat->List AB
 | 0=>[]
 | n+1=>match Na a b n with
  | some x=>if (fresh a b n x && !(bt&&x.2.2.1))=true then fq a b bt n++[x] else fq a b bt n
  | none=>fq a b bt n
def oi (a b:List AB) (bt:Bool) (n:Nat):Bu:=(decide (n≠0),(if n=0 then [] else gu a b (n-1),bt))
def om (a b:List AB) (bt:Bool) (n:Nat):Ir:=(LO a b (Am a b n).1 (Am a b n).2,(oi a b bt n,(fq a b bt n,(n:Int))))
def Az (a b:List AB):Nat->List AB
 | 0=>[]
 | n+1=>match Na a b n with
  | some x=>Az a b n++[x]
  | none=>Az a b n
section
variable {a b:List AB} (va:VL a) (vb:VL b)
include va vb
theorem EC {n:Nat} (h:n<a.length+b.length) : ∃ x,Na a b n=some x/\(x∈a\/x∈b):=by
 obtain ⟨hI,hs⟩:=FW va vb (n:=n) (by omega);unfold Na;revert hI hs;generalize (Am a b n).1=i;generalize (Am a b n).2=j;intro hI hs;cases g:HY a b i j with
 | true =>
  have hi:i<a.length:=by
   refine Nat.lt_of_not_le λh' => ?_;have h1:a[i]? = none:=List.getElem?_eq_none h';have h2:j<b.length:=by have:=hI.ia;omega
   rw [WB h1 (by simp [h2]:b[j]? = some b[j])] at g;cases g
  exact ⟨a[i],by simp [hi],.inl (List.getElem_mem hi)⟩
 | false =>
  have hj:j<b.length:=by
   refine Nat.lt_of_not_le λh' => ?_;have h1:b[j]? = none:=List.getElem?_eq_none h';cases h2:a[i]? with
   | none=>rw [Sn h2 h1] at g;cases g
   | some x=>rw [WA h2 h1] at g;cases g
  exact ⟨b[j],by simp [hj],.inr (List.getElem_mem hj)⟩
theorem ZY {n:Nat} {x:AB} (h:Na a b n=some x):kE x=0:=by
 have:x∈a\/x∈b:=by
  unfold Na at h;split at h
  ·exact .inl (List.mem_of_getElem? h)
  ·exact .inr (List.mem_of_getElem? h)
 rcases this with h | h
 ·exact va.ok x h
 ·exact vb.ok x h
theorem WC {n:Nat} (hn:n+1<a.length+b.length) {x y:AB} (h1:Na a b n=some x) (h2:Na a b (n+1)=some y):CJ y.1 x.1=false:=by
 obtain ⟨hI,hs⟩:=FW va vb (n:=n) (by omega);unfold Na at h1 h2;rw [show Am a b (n+1)=if HY a b (Am a b n).1 (Am a b n).2=true then ((Am a b n).1+1,(Am a b n).2) else ((Am a b n).1,(Am a b n).2+1) from rfl] at h2
 revert hI hs h1 h2;generalize (Am a b n).1=i;generalize (Am a b n).2=j;intro h1 h2 hI hs;cases g:HY a b i j with
 | true =>
  rw [if_pos g] at h1;simp only [g,if_true] at h2;have hI':=hI.stepA va h1 g;cases g2:HY a b (i+1) j with
  | true=>rw [if_pos g2] at h2;exact Dn (va.lt h1 h2)
  | false=>rw [if_neg (by simp [g2])] at h2;exact hI'.pa i rfl x y h1 h2
 | false =>
  rw [if_neg (by simp [g])] at h1;simp only [g,if_false,Bool.false_eq_true] at h2;have hI':=hI.stepB vb h1 g;cases g2:HY a b i (j+1) with
  | true=>rw [if_pos g2] at h2;exact Dn (hI'.pb j rfl x y h1 h2)
  | false=>rw [if_neg (by simp [g2])] at h2;exact Dn (vb.lt h1 h2)
theorem Ch : ∀ {n:Nat},n<=a.length+b.length->(Az a b n).length=n
 | 0,_=>rfl
 | n+1,h=>by
  obtain ⟨x,hx,_⟩:=EC va vb (n:=n) (by omega);unfold Az;rw [hx];simp [Ch (n:=n) (by omega)]
theorem IP : ∀ {n k:Nat},n<=a.length+b.length->k<n->(Az a b n)[k]? = Na a b k
 | n+1,k,h,hk=>by
  obtain ⟨x,hx,_⟩:=EC va vb (n:=n) (by omega);unfold Az;rw [hx];show (Az a b n++[x])[k]? = _;have hl:=Ch va vb (n:=n) (by omega);by_cases hkn:k<n
  ·rw [List.getElem?_append_left (by omega)];exact IP (by omega) hkn
  ·have:k=n:=by omega
   subst this;rw [List.getElem?_append_right (by omega),hl];simp [hx]
theorem Ub {n m:Nat} (hm:m<=a.length+b.length) (h:n<=m):(Az a b m).take n=Az a b n:=by
 apply List.ext_getElem?;intro k;rw [List.getElem?_take];by_cases hk:k<n
 ·rw [if_pos hk,IP va vb hm (by omega),IP va vb (by omega) hk]
 ·rw [if_neg hk,List.getElem?_eq_none];rw [Ch va vb (by omega)];omega
end
end Go.Proofs.YthpkjfabdccpdaaGreat.Pl
namespace Go.Proofs.YthpkjfabdccpdaaGreat.Pl
open Go Go.Proofs.YthpkjfabdccpdaaGreat.Sv
theorem AU (n:Nat):AV n=(n:Int):=rfl
theorem AP {α:Type} (l:List α):AA l=l.length:=rfl
theorem Iu (l:List UInt8):C2 l=l.length:=rfl
theorem Iv:AZ true=false:=rfl
theorem Mv:AZ false=true:=rfl
theorem Bd {β:Type} (c:Bool) (x y:Unit->Option β):br (AZ c) x y=br c y x:=ic c x y
theorem BU {β:Type} {a b:Nat} (h:a<=b) (k:Unit->Option β):gd (A6 a b) k=k ():=by rw [UX,if_pos h]
theorem Ke (k:HB):Ev k=some (if k.length>32 then 3 else 0):=by
 unfold Ev;rw [Ax,AU,Iu];by_cases h:k.length>32
 ·rw [if_pos (by omega),if_pos h]
 ·rw [if_neg (by omega),if_neg h]
theorem Cy (x:AB):Ar x=some (kE x):=by
 unfold Ar kE;rw [Ke,AD,AR];by_cases h1:x.1.length>32
 ·simp [h1]
 rw [if_neg h1,if_pos rfl,Ax,AU,Iu];by_cases h2:x.2.1.length>64
 ·rw [if_pos (by omega),if_pos (.inr h2)]
 rw [if_neg (by omega : ¬ (x.2.1.length:Int)>64),if_neg (by omega),Gp];by_cases h3:x.2.2.1=true
 ·rw [if_pos h3,Bd,EM];by_cases h4:x.2.1=[]
  ·rw [if_pos h4,if_neg (by simp [h4]),BD,Ax];by_cases h5:x.2.2.2<1
   ·simp [h5]
   ·by_cases h6:x.2.2.2>1000000000<;>simp [h5,h6]
  ·rw [if_neg h4,if_pos ⟨h3,h4⟩]
 ·rw [if_neg h3,if_neg (by simp [h3]),BD,Ax];by_cases h5:x.2.2.2<1
  ·simp [h5]
  ·by_cases h6:x.2.2.2>1000000000<;>simp [h5,h6]
theorem Eg (l:List AB) (hl:l.length<=9223372036854775807):BB l=some (DT l):=by
 unfold BB DT;rw [Ax,AU,AP];by_cases h:l.length>5000
 ·rw [if_pos (by omega),if_pos h]
 rw [if_neg (by omega),if_neg h]
 have key:=XD (β:=Nat×(Int×Int×Int)×Unit) (l:=l) (λk (_:Int)=>((0:Int),((0:Int),(k:Int))))
  (λk x _=>if kE x≠0 then some (.dn (0,((kE x,((k:Int),(k:Int))),()))) else if k>0 then
    (match l[k-1]? with
    | some y=>if CJ y.1 x.1=true then some (.nx 0) else some (.dn (0,(((6:Int),((k:Int),(k:Int))),())))
    | none=>none) else some (.nx 0))
  (λ_=>some (1,((0,(0,(l.length:Int))),()))) (s:=(0,(0,0))) (0:Int) rfl hl (f:=(λs0=>br (Ah s0.2.2 (AV (AA l))) (λ_=>AS s0.2.2 λk1=>ix l k1 λx2=>bd (Ar x2) λr3=>br (Ao r3 0) (λ_=>some (.dn ((0,((r3,(s0.2.2,s0.2.2)),()))))) λ_=>br (Bz s0.2.2 0) (λ_=>AS (BJ .i64 s0.2.2 1) λk4=>ix l k4 λx5=>br (AZ (CJ x5.1 x2.1)) (λ_=>some (.dn ((0,((6,(s0.2.2,s0.2.2)),()))))) λ_=>some (.nx ((s0.1,(s0.2.1,AH .i64 s0.2.2 1))))) λ_=>some (.nx ((s0.1,(s0.2.1,AH .i64 s0.2.2 1))))) λ_=>some (.dn ((1,(s0,()))))))
  (λk x st hx=>by
   simp only;rw [ii hx,AN,AE,AK hx,Cy,AD,AR];by_cases h1:kE x=0
   ·have hk:k<l.length:=(List.getElem?_eq_some_iff.1 hx).1;simp only [h1,if_true,ne_eq,not_true,if_false];rw [Ax];by_cases h2:k>0
    ·rw [if_pos (by omega:(k:Int)>0),if_pos h2,Bl (by omega),show ((k:Int)-1)=((k-1:Nat):Int) by omega,AE];have hy:l[k-1]? = some l[k-1]:=by rw [List.getElem?_eq_getElem (by omega)]
     rw [AK hy,hy,Bd,GU];simp only;by_cases h3:CJ l[k-1].1 x.1=true
     ·rw [if_pos h3,if_pos h3,A1 hx hl];rfl
     ·rw [if_neg h3,if_neg h3];rfl
    ·rw [if_neg (by omega : ¬ (k:Int)>0),if_neg h2,A1 hx hl];rfl
   ·simp only [h1,if_false,ne_eq,not_false_iff,if_true];rfl)
  (λst=>by
   simp only
   rw [fo,Ag];rfl)
 simp only [AU,AP] at key;rw [key]
 have main : ∀ (m:List AB) (k:Nat) (p:Option HB),l.drop k=m->(p=if k=0 then none else (l[k-1]?).map (·.1)) -> ∀ st,bd (Oe (β:=Nat×(Int×Int×Int)×Unit) (λk x (_:Int)=>if kE x≠0 then some (.dn (0,((kE x,((k:Int),(k:Int))),()))) else if k>0 then
    (match l[k-1]? with
    | some y=>if CJ y.1 x.1=true then some (.nx 0) else some (.dn (0,(((6:Int),((k:Int),(k:Int))),())))
    | none=>none) else some (.nx (0:Int))) (λ_=>some (1,((0,(0,(l.length:Int))),()))) m k st) (λr6=>br (neq r6.1 0) (λ_=>some (r6.2.1.2.1,r6.2.1.1)) λ_=>some ((0:Int),(0:Int)))=some (JE p k m):=by
  intro m
  induction m with
  | nil=>intro k p _ _ st;rfl
  | cons x m ih =>
   intro k p hm hp st
   have hx:l[k]? = some x:=by
    have:=congrArg List.head? hm;rw [List.head?_drop] at this;simpa using this
   have hk:k<l.length:=(List.getElem?_eq_some_iff.1 hx).1
   have hm2:l.drop (k+1)=m:=by
    have:=congrArg List.tail hm;rw [List.tail_drop] at this;simpa using this
   unfold Oe JE;by_cases h1:kE x=0
   ·simp only [h1,ne_eq,not_true,if_false];by_cases h2:k>0
    ·have hy:l[k-1]? = some l[k-1]:=by rw [List.getElem?_eq_getElem (by omega)]
     rw [if_pos h2,hy];rw [if_neg (by omega : ¬ k=0),hy] at hp;subst hp;simp only [Option.map_some];by_cases h3:CJ l[k-1].1 x.1=true
     ·rw [if_pos h3,if_pos h3];exact ih (k+1) (some x.1) hm2 (by rw [if_neg (by omega)];simp [hx]) 0
     ·rw [if_neg h3,if_neg h3];rfl
    ·have hk0:k=0:=by omega
     subst hk0;rw [if_neg h2];simp only [if_true] at hp;subst hp;exact ih 1 (some x.1) hm2 (by simp [hx]) 0
   ·simp only [h1,ne_eq,not_false_iff,if_true];rfl
 exact main l 0 none (by simp) (by simp) 0
theorem L6 {α β σ S:Type} {l:List α} (mk:Nat->σ->S) (F:List α->Nat->σ->Option β) {f:S->Option (LR S β)} {s:S} (st:σ) (h0:s=mk 0 st) (hl:l.length<=9223372036854775807)
  (hn : ∀ st,f (mk l.length st)=jf (F [] l.length st))
  (hc : ∀ k x m st,l.drop k=x::m->l[k]? = some x->k<l.length->(∃ st',f (mk k st)=some (.nx (mk (k+1) st'))/\F (x::m) k st=F m (k+1) st')\/f (mk k st)=jf (F (x::m) k st)):loop f s=F l 0 st:=by
 subst h0
 have main : ∀ (m:List α) (k n:Nat) (st:σ),l.drop k=m->k<=l.length->m.length<n->Df n f (mk k st)=F m k st:=by
  intro m
  induction m with
  | nil =>
   intro k n st hm hk hn';obtain ⟨n,rfl⟩ : ∃ j,n=j+1:=⟨n-1,by omega⟩
   have hkl:k=l.length:=by
    have:=congrArg List.length hm;simp at this;omega
   subst hkl;unfold Df;rw [hn];cases F [] l.length st<;>rfl
  | cons x m ih =>
   intro k n st hm hk hn';obtain ⟨n,rfl⟩ : ∃ j,n=j+1:=⟨n-1,by omega⟩
   have hx:l[k]? = some x:=by
    have:=congrArg List.head? hm;rw [List.head?_drop] at this;simpa using this
   have hk':k<l.length:=(List.getElem?_eq_some_iff.1 hx).1
   have hm2:l.drop (k+1)=m:=by
    have:=congrArg List.tail hm;rw [List.tail_drop] at this;simpa using this
   rcases hc k x m st hm hx hk' with ⟨st',h1,h2⟩ | h1
   ·rw [BN h1,h2];exact ih (k+1) n st' hm2 (by omega) (by simp at hn';omega)
   ·unfold Df;rw [h1];cases F (x::m) k st<;>rfl
 exact main l 0 _ st (by simp) (by omega) (by omega)
theorem rl {α:Type} {l:List α} {k:Nat} (h:k<l.length):Ah (k:Int) (l.length:Int)=true:=by unfold Ah;simp;omega
theorem re {α:Type} (l:List α):Ah (l.length:Int) (l.length:Int)=false:=by unfold Ah;simp
theorem BG {α β:Type} {m:Option α} {x:α} {k:α->Option β} {r:Option β} (h:m=some x) (e:k x=r):bd m k=r:=by subst h;exact e
theorem Mw (k:AT):DG k=some (k.2&&decide (k.1≠[])):=by
 unfold DG;rw [Gp];cases h:k.2 with
 | true=>rw [if_pos rfl,LF];simp [AZ]
 | false=>rw [if_neg (by simp)];rfl
def ET (k:AT):Prop:=k.2=true->k.1=[]
theorem ft {k:AT} (h:ET k):DG k=some false:=by
 rw [Mw];cases h2:k.2 with
 | true=>simp [h h2]
 | false=>rfl
theorem Ba (l:List AB) (i:Nat):ET (kx l i):=by
 unfold kx ET;split<;>simp
theorem GV {l:List AT} (h : ∀ k∈l,ET k) (h0:l≠[]) (hl:l.length<=32):DQ l=some 0:=by
 unfold DQ;simp only [AU,AP];rw [CP,Ax,if_neg (by have:=List.length_pos_iff.2 h0;omega),if_neg (by omega)]
 rw [L6 (l:=l) (σ:=Unit) (s:=(0,0)) (λk _=>((0:Int),(k:Int))) (λ_ _ _=>some (1,((0,(l.length:Int)),()))) () rfl (by omega) (λst=>by
  simp only;rw [re];rfl) (λk x m st _ hx hk => .inl ⟨(),by
   simp only;rw [rl hk,AN,AE,AK hx,ft (h x (List.mem_of_getElem? hx)),AD,Ag,A1 hx (by omega)],rfl⟩),AD]
 rfl
theorem Jj {α:Type} {l:List α} (h:l.length<=1048576):(gd (A6 (AA l) 1048576) λ_=>some l)=some l:=BU h _
theorem So (p q:AT):Ey [p,q]=some (Tt p q):=by
 have hw:w0 p q=(if p.2≠q.2 then q.2 else if p.1≠q.1 then CJ p.1 q.1 else true):=rfl
 unfold Ey;simp only [AU,AP,List.length_cons,List.length_nil];rw [show Kv .i64 2 ((0+1+1:Nat):Int)=4 from rfl,show BJ .i64 4 1=3 from rfl];unfold Aj;rw [show AS 4=λk=>k 4 from rfl];simp only [BU (show 4<=1048576 by omega),Jj (show [p,q].length<=1048576 by simp),AD];rw [show AS ((0+1+1:Nat):Int)=λk=>k 2 from rfl];simp only [BU (show 2<=1048576 by omega)];have fin : ∀ {w l:Int} {x:Nat×((Int×(List Int×(List AT×(List Int×Int))))×Unit)},x=(0,((0,([0,w,0,1],([p,q],([0,l],0)))),()))->(gd (B6 1 (AA x.2.1.2.1)) λ_=>ix x.2.1.2.1 1 λx41=>some ((x.2.1.2.2.1,(x.2.1.2.2.2.1,x41))))=some ([p,q],([0,l],w)):=λe=>by subst e;rfl
 have go : ∀ {f:(Int×(List Int×(List AT×(List Int×Int))))->Option (LR (Int×(List Int×(List AT×(List Int×Int)))) (Nat×((Int×(List Int×(List AT×(List Int×Int))))×Unit)))} {w l:Int},f (3,([0,0,0,0],([p,q],([0,0],0))))=some (.nx (2,([0,0,0,1],([p,q],([0,0],0)))))->f (2,([0,0,0,1],([p,q],([0,0],0))))=some (.nx (1,([0,0,0,1],([p,q],([0,0],0))))) ->
   f (1,([0,0,0,1],([p,q],([0,0],0))))=some (.nx (0,([0,w,0,1],([p,q],([0,l],0)))))->f (0,([0,w,0,1],([p,q],([0,l],0))))=some (.dn (0,((0,([0,w,0,1],([p,q],([0,l],0)))),()))) ->
   loop f (3,([0,0,0,0],([p,q],([0,0],0))))=some (0,((0,([0,w,0,1],([p,q],([0,l],0)))),())):=λh1 h2 h3 h4 =>
  DM (n:=4) (by omega) ((BN h1).trans ((BN h2).trans ((BN h3).trans (Bh h4))))
 have st : ∀ {β:Type} (A B:Option β),w0 p q=true->br (AZ (beq p.2 q.2)) (λ_=>br (AZ q.2) (λ_=>B) λ_=>A) (λ_=>br (AZ (seq p.1 q.1)) (λ_=>br (AZ (CJ p.1 q.1)) (λ_=>B) λ_=>A) λ_=>A)=A:=fun {β} A B h=>by
  rw [hw] at h;rw [Bd (beq p.2 q.2),Gp (beq p.2 q.2),Bd q.2,Gp q.2,Bd (seq p.1 q.1),EM,Bd (CJ p.1 q.1),GU];by_cases h1:p.2=q.2
  ·rw [if_neg (by simp [h1])] at h;rw [if_pos (by simp [Sv.beq,h1])];by_cases h2:p.1=q.1
   ·rw [if_pos h2]
   ·rw [if_neg h2];rw [if_pos h2] at h;rw [if_pos h]
  ·rw [if_pos h1] at h;rw [if_neg (by simp [Sv.beq,h1]),if_pos h]
 have st2 : ∀ {β:Type} (A B:Option β),w0 p q≠true->br (AZ (beq p.2 q.2)) (λ_=>br (AZ q.2) (λ_=>B) λ_=>A) (λ_=>br (AZ (seq p.1 q.1)) (λ_=>br (AZ (CJ p.1 q.1)) (λ_=>B) λ_=>A) λ_=>A)=B:=fun {β} A B h=>by
  rw [hw] at h;rw [Bd (beq p.2 q.2),Gp (beq p.2 q.2),Bd q.2,Gp q.2,Bd (seq p.1 q.1),EM,Bd (CJ p.1 q.1),GU];by_cases h1:p.2=q.2
  ·rw [if_neg (by simp [h1])] at h;rw [if_pos (by simp [Sv.beq,h1])];by_cases h2:p.1=q.1
   ·rw [if_neg (by simp [h2])] at h;exact absurd rfl h
   ·rw [if_neg h2];rw [if_pos h2] at h;rw [if_neg h]
  ·rw [if_pos h1] at h;rw [if_neg (by simp [Sv.beq,h1]),if_neg h]
 rw [show CK 4 (0:Int)=[0,0,0,0] from rfl,show CK 2 (0:Int)=[0,0] from rfl];by_cases h:w0 p q=true
 ·refine BG (x:=(0,((0,([0,0,0,1],([p,q],([0,1],0)))),()))) ?_ ?_;refine DM (n:=4) (by omega) ?_;refine (BN (s':=(2,([0,0,0,1],([p,q],([0,0],0))))) ?_).trans ((BN (s':=(1,([0,0,0,1],([p,q],([0,0],0))))) ?_).trans ((BN (s':=(0,([0,0,0,1],([p,q],([0,1],0))))) ?_).trans (Bh ?_)))
  ·rfl
  ·rfl
  ·exact st _ _ h
  ·rfl
  ·show some ([p,q],([0,1],0))=_;unfold Tt;simp [h]
 ·refine BG (x:=(0,((0,([0,1,0,1],([p,q],([0,0],0)))),()))) ?_ ?_;refine DM (n:=4) (by omega) ?_;refine (BN (s':=(2,([0,0,0,1],([p,q],([0,0],0))))) ?_).trans ((BN (s':=(1,([0,0,0,1],([p,q],([0,0],0))))) ?_).trans ((BN (s':=(0,([0,1,0,1],([p,q],([0,0],0))))) ?_).trans (Bh ?_)))
  ·rfl
  ·rfl
  ·exact st2 _ _ h
  ·rfl
  ·show some ([p,q],([0,0],1))=_;unfold Tt;simp [h]
theorem Mx {p q:AT} (hp:ET p) (hq:ET q):CU [p,q]=some (Tt p q,0):=by
 unfold CU;rw [GV (by simp [hp,hq]) (by simp) (by simp),AD,AR,if_pos rfl,So,AD]
theorem Uc {p q:AT} (hp:ET p) (hq:ET q):FC (Tt p q)=some (0,0):=by
 unfold FC;rw [show (Tt p q).1=[p,q] from rfl,GV (by simp [hp,hq]) (by simp) (by simp),AD,AR,if_pos rfl,AR,if_pos (show AV (AA (Tt p q).2.1)=AV (AA [p,q]) from rfl),So,AD];simp only [AU,AP]
 rw [L6 (l:=(Tt p q).2.1) (σ:=Unit) (s:=(0,(0,0))) (λk _=>((0:Int),((k:Int),(0:Int)))) (λ_ _ _=>some (1,((0,(((Tt p q).2.1.length:Int),0)),()))) () rfl (show 2<=9223372036854775807 by omega) (λst=>by
  simp only;rw [re];rfl) (λk x m st _ hx hk => .inl ⟨(),by
   simp only;rw [rl hk,AN,AE,AK hx,AE,AK hx,AR,if_pos rfl,A1 hx (show 2<=9223372036854775807 by omega)],rfl⟩),AD]
 rw [show neq 1 0=false from rfl,Ag,AR,if_pos rfl]
def wn (p q:AT):Nat:=if w0 p q=true then 0 else 1
def wk (p q:AT):AT:=if w0 p q=true then p else q
theorem Ud (p q:AT):(Tt p q).2.2=(wn p q:Int):=by unfold Tt wn;split<;>rfl
theorem Ue (p q:AT):(Tt p q).1[wn p q]? = some (wk p q):=by unfold Tt wn wk;split<;>rfl
theorem Sp {p q:AT} (hp:ET p) (hq:ET q):Ez (Tt p q)=some (if (wk p q).2=true then 12 else 0):=by
 unfold Ez;rw [Uc hp hq,AD,AR,if_pos rfl,Ud,AE,AK (Ue p q),Gp];split<;>rfl
theorem HO {p q:AT} (hp:ET p) (hq:ET q):Ca (Tt p q)=some (if (wk p q).2=true then (0,([],12)) else ((wn p q:Int),((wk p q).1,0))):=by
 unfold Ca;rw [Sp hp hq,AD,AR,Ud,AE,AK (Ue p q)];by_cases h:(wk p q).2=true<;>simp [h]
def rk (p q k:AT):AT×AT:=if w0 p q=true then (k,q) else (p,k)
theorem ZZ (p q:AT):BX (0,(1,([p,q],())))=some (w0 p q):=by
 unfold BX w0;show br (AZ (beq p.2 q.2)) (λ_=>some q.2) (λ_=>br (AZ (seq p.1 q.1)) (λ_=>some (CJ p.1 q.1)) λ_=>some (Ah 0 1))=_;rw [Bd (beq p.2 q.2),Gp (beq p.2 q.2),Bd (seq p.1 q.1),EM];by_cases h1:p.2=q.2
 ·rw [if_pos (show Sv.beq p.2 q.2=true by simp [Sv.beq,h1]),if_neg (show ¬ p.2≠q.2 by simp [h1])];by_cases h2:p.1=q.1
  ·rw [if_pos h2,if_neg (show ¬ p.1≠q.1 by simp [h2])];rfl
  ·rw [if_neg h2,if_pos h2]
 ·rw [if_neg (show ¬ Sv.beq p.2 q.2=true by simp [Sv.beq,h1]),if_pos h1]
theorem Za (p q:AT):BX (1,(0,([p,q],())))=some (!w0 p q):=by
 unfold BX w0;show br (AZ (beq q.2 p.2)) (λ_=>some p.2) (λ_=>br (AZ (seq q.1 p.1)) (λ_=>some (CJ q.1 p.1)) λ_=>some (Ah 1 0))=_;rw [Bd (beq q.2 p.2),Gp (beq q.2 p.2),Bd (seq q.1 p.1),EM];by_cases h1:p.2=q.2
 ·rw [if_pos (show Sv.beq q.2 p.2=true by simp [Sv.beq,h1]),if_neg (show ¬ p.2≠q.2 by simp [h1])];by_cases h2:p.1=q.1
  ·rw [if_pos h2.symm,if_neg (show ¬ p.1≠q.1 by simp [h2])];rfl
  ·rw [if_neg (show ¬ q.1=p.1 from λe=>h2 e.symm),if_pos h2];cases hs:CJ p.1 q.1 with
   | true=>rw [Dn hs];rfl
   | false=>rw [Od hs h2];rfl
 ·rw [if_neg (show ¬ Sv.beq q.2 p.2=true by simp [Sv.beq,Ne.symm h1]),if_pos h1];cases hp:p.2<;>cases hq:q.2<;>simp_all
theorem Hm {p q k:AT} (hp:ET p) (hq:ET q) (hk:ET k) (hw:(wk p q).2=false) (hle:k.2=true\/CJ k.1 (wk p q).1=false) :
  ∃ n,CH (Tt p q,k)=some (Tt (rk p q k).1 (rk p q k).2,(n,0)):=by
 have hlen:(Tt p q).1.length<=1048576:=by show 2<=_;omega
 have hlen2:(Tt p q).2.1.length<=1048576:=by show 2<=_;omega
 have hset:lset (Tt p q).1 (wn p q) k=[(rk p q k).1,(rk p q k).2]:=by unfold Tt wn rk;split<;>rfl
 have hlose:(Tt p q).2.1=[0,(1-(wn p q:Int))]:=by unfold Tt wn;split<;>rfl
 have hwn:wn p q=0\/wn p q=1:=by unfold wn;split<;>simp
 have up : ∀ {f:(Int×(Int×(Unit×(List Int×Int))))->Option (LR (Int×(Int×(Unit×(List Int×Int)))) (Nat×((Int×(Int×(Unit×(List Int×Int))))×Unit)))},
   (f=λs8=>br (Bm (GM .i64 s8.2.1 2) 0) (λ_=>some (.dn ((0,((s8.1,(GM .i64 s8.2.1 2,((),s8.2.2.2))),()))))) λ_=>AS (GM .i64 s8.2.1 2) λk9=>gd (B6 k9 (AA s8.2.2.2.1)) λ_=>ix s8.2.2.2.1 k9 λx10=>bd (BX ((x10,(s8.2.2.2.2,([(rk p q k).1,(rk p q k).2],()))))) λr11=>br r11 (λ_=>AS (GM .i64 s8.2.1 2) λk12=>gd (B6 k12 (AA s8.2.2.2.1)) λ_=>ix s8.2.2.2.1 k12 λx13=>AS (GM .i64 s8.2.1 2) λk14=>gd (B6 k14 (AA s8.2.2.2.1)) λ_=>ix s8.2.2.2.1 k14 λx15=>some (.nx ((AH .i64 s8.1 1,(GM .i64 s8.2.1 2,((),(lset s8.2.2.2.1 k14 s8.2.2.2.2,x13))))))) λ_=>some (.nx ((AH .i64 s8.1 1,(GM .i64 s8.2.1 2,((),s8.2.2.2))))))
   -> loop f (0,((2:Int)+wn p q,((),([0,(1-(wn p q:Int))],(wn p q:Int)))))=some (0,((1,(0,((),(Tt (rk p q k).1 (rk p q k).2).2))),())):=by
  intro f hf;subst hf;refine DM (n:=2) (by omega) ((BN (s':=(1,(1,((),(Tt (rk p q k).1 (rk p q k).2).2)))) ?_).trans (Bh rfl));rcases hwn with h | h
  ·rw [h]
   have hw0:w0 p q=true:=by
    unfold wn at h;by_cases hh:w0 p q=true
    ·exact hh
    ·rw [if_neg hh] at h;cases h
   show bd (BX (1,(0,([(rk p q k).1,(rk p q k).2],())))) _=_;rw [Za,AD];unfold Tt;cases hz:w0 (rk p q k).1 (rk p q k).2<;>rfl
  ·rw [h];show bd (BX (0,(1,([(rk p q k).1,(rk p q k).2],())))) _=_;rw [ZZ,AD];unfold Tt;cases hz:w0 (rk p q k).1 (rk p q k).2<;>rfl
 unfold CH;simp only [Sp hp hq,hw,AD,AR,if_true,if_false,Bool.false_eq_true];rw [GV (by simp [hk]) (by simp) (by simp),AD];simp only [if_true,Bd];rw [Gp];unfold Aj Aw;simp only [Ud,AE,AK (Ue p q),BU hlen,BU hlen2,AD,GU,Ms,AP,AU,hset];have hlt:wn p q<(Tt p q).1.length:=by show wn p q<2;omega
 have hi:AH .i64 (([(rk p q k).1,(rk p q k).2].length:Nat):Int) (wn p q:Int)=(2:Int)+wn p q:=by
  rw [CT (by simp;omega)];rfl
 rw [hi,hlose];simp only [AP,Ms] at up;have key:=up rfl;rw [if_pos hlt];by_cases hk2:k.2=true
 ·rw [if_pos hk2,key,AD];exact ⟨_,rfl⟩
 ·rw [if_neg hk2,if_neg (by rcases hle with h | h;exact absurd h hk2;rw [h];simp),key,AD]
  exact ⟨_,rfl⟩
end Go.Proofs.YthpkjfabdccpdaaGreat.Pl
namespace Go.Proofs.YthpkjfabdccpdaaGreat.Pl
open Go Go.Proofs.YthpkjfabdccpdaaGreat.Sv
theorem Cc {S β:Type} {f:S->Option (LR S β)} {s0 s1 s2:S} {r:β} (h0:f s0=some (.nx s1)) (h1:f s1=some (.nx s2)) (h2:f s2=some (.dn r)):loop f s0=some r :=
 DM (n:=3) (by omega) ((BN h0).trans ((BN h1).trans (Bh h2)))
theorem Nb {α β:Type} {c:Bool} {n:Int} {l:List α} {K:Nat->α->Option β} {E:Unit->Option β} (k:Nat) {x:α} (hc:c=true) (hn:n=(k:Int)) (hx:l[k]? = some x):br c (λ_=>AS n λk1=>ix l k1 λx2=>K k1 x2) E=K k x:=by
 subst hc;subst hn;rw [AN,AE,AK hx]
theorem Eh {α β:Type} {n:Int} {l:List α} {K:Nat->α->Option β} (k:Nat) {x:α} (hn:n=(k:Int)) (hx:l[k]? = some x):AS n (λk1=>ix l k1 λx2=>K k1 x2)=K k x:=by
 subst hn;rw [AE,AK hx]
theorem Gf {l:List AB} {i:Nat} (h:i<=l.length):BE (l,(i:Int))=some (kx l i):=by
 unfold BE kx;simp only [AU,AP];rw [CP];by_cases hi:i=l.length
 ·rw [if_pos (by omega),List.getElem?_eq_none (by omega)]
 ·have hx:l[i]? = some l[i]:=by rw [List.getElem?_eq_getElem (by omega)]
  rw [if_neg (by omega),AE,AK hx,hx]
section
variable {a b:List AB} (va:VL a) (vb:VL b)
theorem Zb {i j:Nat} (hi:i<=a.length) (hj:j<=b.length):Fx ([a,b],[(i:Int),(j:Int)])=some (Tt (kx a i) (kx b j)):=by
 unfold Fx;refine BG (x:=(0,((2,[kx a i,kx b j]),()))) (Cc (s1:=(1,[kx a i,([],false)])) (s2:=(2,[kx a i,kx b j])) ?_ ?_ rfl) ?_
 ·show bd (BE (a,(i:Int))) _=_;rw [Gf hi];rfl
 ·show bd (BE (b,(j:Int))) _=_;rw [Gf hj];rfl
 ·show bd (CU [kx a i,kx b j]) _=_;rw [Mx (Ba _ _) (Ba _ _)];rfl
include va vb
theorem L7:BB a=some (0,0):=by
 rw [Eg _ (by have:=va.len;omega),Ji va]
theorem LG:DO [a,b]=some (0,0):=by
 unfold DO;refine BG (x:=(1,((0,(0,2)),()))) (Cc (s1:=(0,(0,1))) (s2:=(0,(0,2))) ?_ ?_ rfl) rfl
 ·show bd (BB a) _=_;rw [L7 va va];rfl
 ·show bd (BB b) _=_;rw [L7 vb vb];rfl
theorem XE (bt:Bool):Ee ([a,b],bt)=some (om a b bt 0,(0,0)):=by
 unfold Ee;rw [LG va vb,AD,AR,if_pos rfl];refine BG (x:=(0,((2,[kx a 0,kx b 0]),()))) (Cc (s1:=(1,[kx a 0,([],false)])) (s2:=(2,[kx a 0,kx b 0])) ?_ ?_ rfl) ?_
 ·show bd (BE (a,((0:Nat):Int))) _=_;rw [Gf (by omega)];rfl
 ·show bd (BE (b,((0:Nat):Int))) _=_;rw [Gf (by omega)];rfl
 ·show bd (CU [kx a 0,kx b 0]) _=_;rw [Mx (Ba _ _) (Ba _ _)];rfl
end
theorem Hn (x:Bool):Sv.beq x x=true:=by cases x<;>rfl
theorem Iw (x:HB):seq x x=true:=by rw [KJ]
theorem Uf (l:List AT) (h:l.length<=1000):Ak (l,l)=some true:=by
 unfold Ak;simp only [AU,AP]
 rw [AR,if_pos rfl,L6 (l:=l) (σ:=Unit) (s:=(0,false)) (λk _=>((k:Int),false)) (λ_ _ _=>some (1,(((l.length:Int),false),()))) () rfl (by omega) (λst=>by
  simp only;rw [re];rfl) (λk x m st _ hx hk => .inl ⟨(),by
   simp only;rw [rl hk,AN,AE,AK hx,AE,AK hx,Iw,Hn,show AZ (Bo true (Bo true true))=false from rfl,Ag,A1 hx (by omega)],rfl⟩),AD]
 rfl
theorem Ug (l:List Int) (h:l.length<=1000):Ae (l,l)=some true:=by
 unfold Ae;simp only [AU,AP]
 rw [AR,if_pos rfl,L6 (l:=l) (σ:=Unit) (s:=(0,false)) (λk _=>((k:Int),false)) (λ_ _ _=>some (1,(((l.length:Int),false),()))) () rfl (by omega) (λst=>by
  simp only;rw [re];rfl) (λk x m st _ hx hk => .inl ⟨(),by
   simp only;rw [rl hk,AN,AE,AK hx,AE,AK hx,AR,if_pos rfl,A1 hx (by omega)],rfl⟩),AD]
 rfl
theorem XF (t:D0) (h1:t.1.length<=1000) (h2:t.2.1.length<=1000):EG (t,t)=some true:=by
 unfold EG;rw [CP,if_pos rfl,Uf _ h1,AD,AN,Ug _ h2];rfl
theorem XG (p q:AT):EG (Tt p q,Tt p q)=some true:=XF _ (show 2<=1000 by omega) (show 2<=1000 by omega)
theorem XH {a b:List AB} {i j:Nat} (h:HY a b i j=true):wk (kx a i) (kx b j)=kx a i/\wn (kx a i) (kx b j)=0:=by
 unfold HY at h;unfold wk wn;rw [if_pos h,if_pos h];exact ⟨rfl,rfl⟩
theorem XI {a b:List AB} {i j:Nat} (h:HY a b i j=false):wk (kx a i) (kx b j)=kx b j/\wn (kx a i) (kx b j)=1:=by
 unfold HY at h;unfold wk wn;rw [if_neg (by simp [h]),if_neg (by simp [h])];exact ⟨rfl,rfl⟩
theorem WD (x y:HB):Cb (x,y)=some (if CJ x y=true then -1 else if CJ y x=true then 1 else 0):=by
 unfold Cb C6;simp only [Iw,Iv,AD,Ag];rw [GU,GU];split
 ·rfl
 ·split<;>rfl
theorem WE (x y:Int):CC (x,y)=some (if x<y then -1 else if x>y then 1 else 0):=by
 unfold CC EA;simp only [AD,AR,if_true,BD,Ax];split
 ·rfl
 ·split<;>rfl
theorem Zc (x y:Int):Fy [x,y]=some (if x≠0 then x else y):=by
 unfold Fy;by_cases h:x=0
 ·rw [if_neg (by simp [h])];by_cases h2:y=0
  ·refine BG (x:=(1,((0,2),()))) (Cc (s1:=(0,1)) (s2:=(0,2)) ?_ ?_ rfl) (by rw [h2];rfl)
   ·refine (Nb 0 rfl rfl rfl).trans ?_;rw [AR,if_pos h];rfl
   ·refine (Nb 1 rfl rfl rfl).trans ?_;rw [AR,if_pos h2];rfl
  ·refine BG (x:=(0,((y,1),()))) (DM (n:=2) (by omega) ((BN (s':=(0,1)) ?_).trans (Bh ?_))) rfl
   ·refine (Nb 0 rfl rfl rfl).trans ?_;rw [AR,if_pos h];rfl
   ·refine (Nb 1 rfl rfl rfl).trans ?_;rw [AR,if_neg h2]
 ·rw [if_pos h];refine BG (x:=(0,((x,0),()))) (DM (n:=1) (by omega) (Bh ?_)) rfl;refine (Nb 0 rfl rfl rfl).trans ?_;rw [AR,if_neg h]
section
variable {a b:List AB} (va:VL a) (vb:VL b)
include va vb
theorem KL {i j:Nat} (I:Inv a b i j):DS (LO a b i j)=some (0,0):=by
 unfold DS;rw [show (LO a b i j).1=[a,b] from rfl,LG va vb,AD,AR,if_pos rfl];rw [show (LO a b i j).2.1=[(i:Int),(j:Int)] from rfl,AR,if_pos (show AV (AA [(i:Int),(j:Int)])=AV (AA [a,b]) from rfl)];refine BG (x:=(1,((0,(0,2)),()))) (Cc (s1:=(0,(0,1))) (s2:=(0,(0,2))) ?_ ?_ rfl) ?_
 ·refine (Nb 0 rfl rfl rfl).trans ?_;rw [BD,if_neg (by omega),show AS (((0:Int),((0:Int),(0:Int))).2.2)=λ(k:Nat->Option (LR (Int×(Int×Int)) (Nat×((Int×(Int×Int))×Unit))))=>k 0 from rfl];simp only;rw [AK (x:=a) rfl,Ax,if_neg (by have:=I.ia;simp only [AU,AP];omega)];rfl
 ·refine (Nb 1 rfl rfl rfl).trans ?_;rw [BD,if_neg (by omega),show AS (((0:Int),((0:Int),(1:Int))).2.2)=λ(k:Nat->Option (LR (Int×(Int×Int)) (Nat×((Int×(Int×Int))×Unit))))=>k 1 from rfl];simp only;rw [AK (x:=b) rfl,Ax,if_neg (by have:=I.jb;simp only [AU,AP];omega)];rfl
 rw [show neq ((1:Nat),(((0:Int),((0:Int),(2:Int))),())).1 0=false from rfl,Ag,Zb I.ia I.jb,AD,show (LO a b i j).2.2=Tt (kx a i) (kx b j) from rfl,XG,AD,show AZ true=false from rfl,Ag,HO (Ba _ _) (Ba _ _),AD];by_cases hd:(wk (kx a i) (kx b j)).2=true
 ·rw [if_pos hd];rfl
 rw [if_neg hd,AR,if_pos rfl]
 have la : ∀ {x:AB} {i':Nat},i=i'+1->a[i']? = some x -> ¬ (if (if CJ x.1 (wk (kx a i) (kx b j)).1=true then (-1:Int) else if CJ (wk (kx a i) (kx b j)).1 x.1=true then 1 else 0)≠0 then (if CJ x.1 (wk (kx a i) (kx b j)).1=true then (-1:Int) else if CJ (wk (kx a i) (kx b j)).1 x.1=true then 1 else 0) else (if (0:Int)<(wn (kx a i) (kx b j):Int) then -1 else if (0:Int)>(wn (kx a i) (kx b j):Int) then 1 else 0))>0:=by
  intro x i' hi hx
  have hle:CJ (wk (kx a i) (kx b j)).1 x.1=false:=by
   cases g:HY a b i j with
   | true =>
    rw [(XH g).1] at hd ⊢;unfold kx at hd ⊢;cases hy:a[i]? with
    | none=>rw [hy] at hd;exact absurd rfl hd
    | some y=>rw [hi] at hy;exact Dn (va.lt hx hy)
   | false =>
    rw [(XI g).1] at hd ⊢;unfold kx at hd ⊢;cases hy:b[j]? with
    | none=>rw [hy] at hd;exact absurd rfl hd
    | some y=>exact I.pa i' hi x y hx hy
  rw [hle];have : ¬ (0:Int)>(wn (kx a i) (kx b j):Int):=by omega
  by_cases hs:CJ x.1 (wk (kx a i) (kx b j)).1=true
  ·simp [hs]
  ·simp only [hs,Bool.false_eq_true,if_false,ne_eq,not_true,this];split<;>omega
 have lb : ∀ {y:AB} {j':Nat},j=j'+1->b[j']? = some y -> ¬ (if (if CJ y.1 (wk (kx a i) (kx b j)).1=true then (-1:Int) else if CJ (wk (kx a i) (kx b j)).1 y.1=true then 1 else 0)≠0 then (if CJ y.1 (wk (kx a i) (kx b j)).1=true then (-1:Int) else if CJ (wk (kx a i) (kx b j)).1 y.1=true then 1 else 0) else (if (1:Int)<(wn (kx a i) (kx b j):Int) then -1 else if (1:Int)>(wn (kx a i) (kx b j):Int) then 1 else 0))>0:=by
  intro y j' hj hy
  have hlt:CJ y.1 (wk (kx a i) (kx b j)).1=true:=by
   cases g:HY a b i j with
   | true =>
    rw [(XH g).1] at hd ⊢;unfold kx at hd ⊢;cases hx:a[i]? with
    | none=>rw [hx] at hd;exact absurd rfl hd
    | some x=>exact I.pb j' hj y x hy hx
   | false =>
    rw [(XI g).1] at hd ⊢;unfold kx at hd ⊢;cases hx:b[j]? with
    | none=>rw [hx] at hd;exact absurd rfl hd
    | some x=>rw [hj] at hx;exact vb.lt hy hx
  rw [hlt];simp
 refine BG (x:=(1,((0,(0,2)),()))) (Cc (s1:=(0,(0,1))) (s2:=(0,(0,2))) ?_ ?_ rfl) rfl
 ·refine (Nb 0 rfl rfl rfl).trans ?_;rw [Ax];by_cases h0:(i:Int)>0
  ·rw [if_pos h0];obtain ⟨i',hi'⟩ : ∃ i',i=i'+1:=⟨i-1,by omega⟩;have hi2:i'<a.length:=by have:=I.ia;omega
   have hx:a[i']? = some a[i']:=by simp [hi2]
   refine (Eh 0 rfl (x:=a) rfl).trans ((Eh i' ?_ hx).trans ?_)
   ·rw [Bl (by have:=va.len;have:=I.ia;omega)];omega
   rw [WD,AD];show bd (CC (0,(wn (kx a i) (kx b j):Int))) _=_;rw [WE,AD,Zc,AD,Ax,if_neg (la hi' hx)];rfl
  ·rw [if_neg h0];rfl
 ·refine (Nb 1 rfl rfl rfl).trans ?_;rw [Ax];by_cases h0:(j:Int)>0
  ·rw [if_pos h0];obtain ⟨j',hj'⟩ : ∃ j',j=j'+1:=⟨j-1,by omega⟩;have hj2:j'<b.length:=by have:=I.jb;omega
   have hy:b[j']? = some b[j']:=by simp [hj2]
   refine (Eh 1 rfl (x:=b) rfl).trans ((Eh j' ?_ hy).trans ?_)
   ·rw [Bl (by have:=vb.len;have:=I.jb;omega)];omega
   rw [WD,AD];show bd (CC (1,(wn (kx a i) (kx b j):Int))) _=_;rw [WE,AD,Zc,AD,Ax,if_neg (lb hj' hy)];rfl
  ·rw [if_neg h0];rfl
end
end Go.Proofs.YthpkjfabdccpdaaGreat.Pl
namespace Go.Proofs.YthpkjfabdccpdaaGreat.Pl
open Go Go.Proofs.YthpkjfabdccpdaaGreat.Sv
theorem F1 {l:List AB} {i:Nat} {x:AB} (h:l[i]? = some x):kx l i=(x.1,false):=by unfold kx;rw [h]
theorem L8 {l:List AB} {i:Nat} (h:l[i]? = none):kx l i=([],true):=by unfold kx;rw [h]
theorem Nn {l:List AB} (v:VL l) {i:Nat} {x:AB} (h:l[i]? = some x):(kx l (i+1)).2=true\/CJ (kx l (i+1)).1 x.1=false:=by
 cases hy:l[i+1]? with
 | none=>rw [L8 hy];exact .inl rfl
 | some y=>rw [F1 hy];exact .inr (Dn (v.lt h hy))
theorem Jk {α β:Type} {n:Int} {l:List α} {K:Nat->α->Option β} (k:Nat) {x:α} (hn:n=(k:Int)) (hx:l[k]? = some x):AS n (λk1=>gd (B6 k1 (AA l)) λ_=>ix l k1 λx2=>K k1 x2)=K k x:=by
 subst hn;rw [AE,Ms,if_pos (show k<AA l from (List.getElem?_eq_some_iff.1 hx).1),AK hx]
section
variable {a b:List AB} (va:VL a) (vb:VL b)
include va vb
theorem fu {i j:Nat} (I:Inv a b i j) {x:AB} (hx:a[i]? = some x) (g:HY a b i j=true):Bv (LO a b i j)=some (x,(0,(LO a b (i+1) j,0))):=by
 obtain ⟨hk,hn⟩:=XH g;have hi:=(List.getElem?_eq_some_iff.1 hx).1;have hl:=va.len;have hd:(wk (kx a i) (kx b j)).2=false:=by rw [hk,F1 hx]
 obtain ⟨m,hr⟩:=Hm (p:=kx a i) (q:=kx b j) (k:=kx a (i+1)) (Ba _ _) (Ba _ _) (Ba _ _) hd (by rw [hk,F1 hx];exact Nn va hx)
 have hrk:rk (kx a i) (kx b j) (kx a (i+1))=(kx a (i+1),kx b j):=by
  unfold rk;unfold HY at g;rw [if_pos g]
 rw [hrk] at hr;unfold Bv;rw [KL va vb I,AD,AR,if_pos rfl];unfold Ai Aw;refine BG (Jj (show 2<=1048576 by omega)) (BG (Jj (show 2<=1048576 by omega)) ?_);rw [show (LO a b i j).2.2=Tt (kx a i) (kx b j) from rfl,HO (Ba _ _) (Ba _ _),if_neg (by simp [hd]),AD,AR,if_pos rfl,hn];refine (Jk 0 rfl (x:=a) rfl).trans ((Jk 0 rfl (x:=(i:Int)) rfl).trans ((Eh i rfl hx).trans ((Jk 0 rfl (x:=(i:Int)) rfl).trans ((Jk 0 rfl (x:=(i:Int)) rfl).trans ((Jk 0 rfl (x:=a) rfl).trans ((Jk 0 rfl (x:=AH .i64 (i:Int) 1) rfl).trans ?_))))));rw [Aa (by omega),Gf (show i+1<=a.length by omega),AD,hr,AD];rfl
theorem fw {i j:Nat} (I:Inv a b i j) {y:AB} (hy:b[j]? = some y) (g:HY a b i j=false):Bv (LO a b i j)=some (y,(1,(LO a b i (j+1),0))):=by
 obtain ⟨hk,hn⟩:=XI g;have hi:=(List.getElem?_eq_some_iff.1 hy).1;have hl:=vb.len;have hd:(wk (kx a i) (kx b j)).2=false:=by rw [hk,F1 hy]
 obtain ⟨m,hr⟩:=Hm (p:=kx a i) (q:=kx b j) (k:=kx b (j+1)) (Ba _ _) (Ba _ _) (Ba _ _) hd (by rw [hk,F1 hy];exact Nn vb hy)
 have hrk:rk (kx a i) (kx b j) (kx b (j+1))=(kx a i,kx b (j+1)):=by
  unfold rk;unfold HY at g;rw [if_neg (by simp [g])]
 rw [hrk] at hr;unfold Bv;rw [KL va vb I,AD,AR,if_pos rfl];unfold Ai Aw;refine BG (Jj (show 2<=1048576 by omega)) (BG (Jj (show 2<=1048576 by omega)) ?_);rw [show (LO a b i j).2.2=Tt (kx a i) (kx b j) from rfl,HO (Ba _ _) (Ba _ _),if_neg (by simp [hd]),AD,AR,if_pos rfl,hn];refine (Jk 1 rfl (x:=b) rfl).trans ((Jk 1 rfl (x:=(j:Int)) rfl).trans ((Eh j rfl hy).trans ((Jk 1 rfl (x:=(j:Int)) rfl).trans ((Jk 1 rfl (x:=(j:Int)) rfl).trans ((Jk 1 rfl (x:=b) rfl).trans ((Jk 1 rfl (x:=AH .i64 (j:Int) 1) rfl).trans ?_))))));rw [Aa (by omega),Gf (show j+1<=b.length by omega),AD,hr,AD];rfl
def LH (a b:List AB) (n:Nat):AY:=LO a b (Am a b n).1 (Am a b n).2
def Og (a b:List AB) (n:Nat):Nat:=if HY a b (Am a b n).1 (Am a b n).2=true then 0 else 1
theorem Oh {n:Nat} {x:AB} (h:n<a.length+b.length) (hx:Na a b n=some x):Bv (LH a b n)=some (x,((Og a b n:Int),(LH a b (n+1),0))):=by
 obtain ⟨hI,hs⟩:=FW va vb (n:=n) (by omega);unfold LH Og;rw [show Am a b (n+1)=if HY a b (Am a b n).1 (Am a b n).2=true then ((Am a b n).1+1,(Am a b n).2) else ((Am a b n).1,(Am a b n).2+1) from rfl]
 unfold Na at hx;cases g:HY a b (Am a b n).1 (Am a b n).2 with
 | true=>rw [if_pos g] at hx;rw [fu va vb hI hx g];simp
 | false=>rw [if_neg (by simp [g])] at hx;rw [fw va vb hI hx g];simp
end
theorem Oi {s:Bu} (h1:s.2.1.length<=32) (h2:s.1=false->s.2.1=[]):Dl s=some 0:=by
 unfold Dl;rw [Ke,AD,if_neg (by omega),AR,if_pos rfl,Bd,Gp];cases h:s.1 with
 | true=>rfl
 | false=>rw [if_neg (by simp),Bd,EM,if_pos (h2 h)]
def keep (s:Bu) (x:AB):Bool := !(s.1&&decide (x.1=s.2.1)) && !(s.2.2&&x.2.2.1)
theorem XJ {s:Bu} {x:AB} (h1:s.2.1.length<=32) (h2:s.1=false->s.2.1=[]) (h3:kE x=0) (h4:s.1=true->CJ x.1 s.2.1=false):B7 (s,x)=some (keep s x,((true,(x.1,s.2.2)),0)):=by
 unfold B7 keep;rw [Oi h1 h2,AD,AR,if_pos rfl,Cy,h3,AD,AR,if_pos rfl];obtain ⟨s1,s2,s3⟩:=s;obtain ⟨x1,x2,x3,x4⟩:=x;simp only at h4 ⊢;cases s1 with
 | true =>
  have:=h4 rfl;simp only [AN,Ag,GU,EM,this,Bool.false_eq_true,if_false];by_cases he:x1=s2
  ·simp [he]
  ·simp only [he,if_false,decide_false];cases s3<;>cases x3<;>rfl
 | false =>
  simp only [AN,Ag];cases s3<;>cases x3<;>rfl
def FD:Bu->List AB->List AB
 | _,[]=>[]
 | s,x::l=>(if keep s x=true then [x] else [])++FD (true,(x.1,s.2.2)) l
theorem IQ : ∀ (s:Bu) (l:List AB),(FD s l).length<=l.length
 | _,[]=>Nat.le_refl _
 | s,x::l=>by
  have:=IQ (true,(x.1,s.2.2)) l;unfold FD;by_cases h:keep s x=true
  ·rw [if_pos h];simp;omega
  ·rw [if_neg h];simp;omega
def Oj:Bu->List AB->Prop
 | _,[]=>True
 | s,x::l=>kE x=0/\(s.1=true->CJ x.1 s.2.1=false)/\Oj (true,(x.1,s.2.2)) l
theorem Ok {x:AB} (h:kE x=0):x.1.length<=32:=by
 unfold kE at h;by_cases hh:x.1.length>32\/x.2.1.length>64
 ·rw [if_pos hh] at h;cases h
 ·omega
theorem ED {α β σ S:Type} {l:List α} (mk:Nat->σ->S) (Inv:List α->Nat->σ->Prop) (F:List α->Nat->σ->β) {f:S->Option (LR S β)} {s:S} (st:σ) (h0:s=mk 0 st) (hl:l.length<=9223372036854775807) (hi:Inv l 0 st)
  (hn : ∀ st,Inv [] l.length st->f (mk l.length st)=some (.dn (F [] l.length st)))
  (hc : ∀ k x m st,l.drop k=x::m->l[k]? = some x->k<l.length->Inv (x::m) k st -> ∃ st',f (mk k st)=some (.nx (mk (k+1) st'))/\Inv m (k+1) st'/\F (x::m) k st=F m (k+1) st'):loop f s=some (F l 0 st):=by
 subst h0
 have main : ∀ (m:List α) (k n:Nat) (st:σ),l.drop k=m->k<=l.length->m.length<n->Inv m k st->Df n f (mk k st)=some (F m k st):=by
  intro m
  induction m with
  | nil =>
   intro k n st hm hk hn' hi;obtain ⟨n,rfl⟩ : ∃ j,n=j+1:=⟨n-1,by omega⟩
   have hkl:k=l.length:=by
    have:=congrArg List.length hm;simp at this;omega
   subst hkl;exact Bh (hn st hi)
  | cons x m ih =>
   intro k n st hm hk hn' hi;obtain ⟨n,rfl⟩ : ∃ j,n=j+1:=⟨n-1,by omega⟩
   have hx:l[k]? = some x:=by
    have:=congrArg List.head? hm;rw [List.head?_drop] at this;simpa using this
   have hk':k<l.length:=(List.getElem?_eq_some_iff.1 hx).1
   have hm2:l.drop (k+1)=m:=by
    have:=congrArg List.tail hm;rw [List.tail_drop] at this;simpa using this
   obtain ⟨st',h1,h2,h3⟩:=hc k x m st hm hx hk' hi;rw [BN h1,h3];exact ih (k+1) n st' hm2 (by omega) (by simp at hn';omega) h2
 exact main l 0 _ st (by simp) (by omega) (by omega) hi
def CR:Bu->List AB->Bu
 | s,[]=>s
 | s,x::l=>CR (true,(x.1,s.2.2)) l
theorem RT {β:Type} {out:List AB} {n:Nat} (h:out.length<=n) (hn:n<=20000) (x:AB) (k:Unit->Option β):gd (A6 (AJ (AA out) (AA [x])) 1048576) k=k ():=BU (by simp only [AJ,AA,List.length_cons,List.length_nil];omega) k
theorem XK {l:List AB} {bt:Bool} (hl:l.length<=20000) (hr:Oj (false,([],bt)) l):EB (l,bt)=some (FD (false,([],bt)) l,(0,0)):=by
 unfold EB CZ;simp only [AU,AP];rw [Ax,if_neg (by omega),AD]
 rw [ED (l:=l) (σ:=Bu×List AB) (s:=(0,(0,(0,((false,([],bt)),[]))))) (λk st=>((0:Int),((k:Int),((0:Int),st))))
  (λm k st=>Oj st.1 m/\st.1.2.1.length<=32/\(st.1.1=false->st.1.2.1=[])/\st.2.length<=k/\k+m.length=l.length)
  (λm k st=>(1,((0,((l.length:Int),(0,(CR st.1 m,st.2++FD st.1 m)))),()))) ((false,([],bt)),[]) rfl (by omega) ⟨hr,by simp,λ_=>rfl,by simp,by simp⟩ ?_ ?_,AD]
 ·simp;rfl
 ·intro st _;simp only;rw [re,Ag];simp [CR,FD]
 ·rintro k x m ⟨s,out⟩ hm hx hk ⟨⟨h1,h2,h3⟩,h4,h5,h6,h7⟩;simp only at h1 h2 h3 h4 h5 h6 ⊢;refine ⟨((true,(x.1,s.2.2)),out++if keep s x=true then [x] else []),?_,⟨h3,Ok h1,(λh=>by cases h),?_,by simp at h7;omega⟩,?_⟩
  ·rw [rl hk,AN,AE,AK hx,Oi h4 h5,AD,AR,if_pos rfl,Cy,h1,AD,AR,if_pos rfl];unfold keep A4;obtain ⟨s1,s2,s3⟩:=s;obtain ⟨x1,x2,x3,x4⟩:=x;simp only [AD,A1 hx (show l.length<=9223372036854775807 by omega)] at h2 ⊢;have hg : ∀ {β:Type} (k:Unit->Option β),gd (A6 (AJ out.length [(x1,(x2,(x3,x4)))].length) 1048576) k=k ():=λk=>RT h6 (by simp at h7;omega) (x1,(x2,(x3,x4))) k;cases s1 with
   | true =>
    have h8:=h2 rfl;simp only [AN,Ag,EM,h8,hg];by_cases he:x1=s2
    ·simp [he]
    ·simp only [he,if_false,decide_false];cases s3<;>cases x3<;>simp [AN,Ag,DK]
   | false =>
    simp only [AN,Ag,hg];cases s3<;>cases x3<;>simp [AN,Ag,DK]
  ·split<;>simp<;>omega
  ·simp only [CR,FD,List.append_assoc]
end Go.Proofs.YthpkjfabdccpdaaGreat.Pl
namespace Go.Proofs.YthpkjfabdccpdaaGreat.Pl
open Go Go.Proofs.YthpkjfabdccpdaaGreat.Sv
theorem Sq : ∀ (l:List AB) (s:Bu) (x:AB),FD s (l++[x])=FD s l++(if keep (CR s l) x=true then [x] else [])
 | [],s,x=>by
  show (if keep s x=true then [x] else [])++[]=[]++(if keep s x=true then [x] else [])
  rw [List.append_nil,List.nil_append]
 | y::l,s,x=>by
  show (if keep s y=true then [y] else [])++FD _ (l++[x])=((if keep s y=true then [y] else [])++FD _ l)++_
  rw [Sq l,List.append_assoc];rfl
theorem KM : ∀ (l:List AB) (s:Bu) (x:AB),CR s (l++[x])=(true,(x.1,(CR s l).2.2))
 | [],s,x=>rfl
 | y::l,s,x=>by simp only [List.cons_append,CR,KM l]
theorem F3 : ∀ (l:List AB) (s:Bu),(CR s l).2.2=s.2.2
 | [],s=>rfl
 | y::l,s=>by rw [CR,F3 l]
theorem Sr : ∀ (l:List AB) (s:Bu) (x:AB),Oj s l->kE x=0->((CR s l).1=true->CJ x.1 (CR s l).2.1=false)->Oj s (l++[x])
 | [],s,x,_,h1,h2=>⟨h1,h2,trivial⟩
 | y::l,s,x,⟨h1,h2,h3⟩,h4,h5=>⟨h1,h2,Sr l _ x h3 h4 h5⟩
theorem QB : ∀ (l:List AB) (s:Bu),Oj s l->s.2.1.length<=32->(s.1=false->s.2.1=[])->(CR s l).2.1.length<=32/\((CR s l).1=false->(CR s l).2.1=[])
 | [],s,_,h1,h2=>⟨h1,h2⟩
 | y::l,s,⟨h3,_,h4⟩,_,_=>QB l _ h4 (Ok h3) (λh=>by cases h)
abbrev s0 (bt:Bool):Bu:=(false,([],bt))
def EU (a b:List AB) (bt:Bool) (n:Nat):Ir:=(LH a b n,(CR (s0 bt) (Az a b n),(FD (s0 bt) (Az a b n),(n:Int))))
def HP (a b:List AB):Nat->List Int
 | 0=>[]
 | n+1=>HP a b n++[(Og a b n:Int)]
theorem My (a b:List AB) : ∀ n,(HP a b n).length=n
 | 0=>rfl
 | n+1=>by simp [HP,My a b n]
theorem IR {S β:Type} {f:S->Option (LR S β)} {r:β} (mk:Nat->S) (k0 n:Nat) {s:S} (h0:s=mk k0) (hk:k0<=n) (hn:n<18446744073709551616) (hs : ∀ k,k0<=k->k<n->f (mk k)=some (.nx (mk (k+1)))) (he:f (mk n)=some (.dn r)):loop f s=some r:=by
 have h:=Sl (f:=f) (r:=r) (λk=>mk (k0+k)) (n-k0) (s:=s) h0 (by omega) (λk hk=>hs (k0+k) (by omega) (by omega)) (by show f (mk (k0+(n-k0)))=_;rw [show k0+(n-k0)=n by omega];exact he);exact h
theorem Ol (l:List AB) (h:l.length<=100000):Dm (l,l)=some true:=by
 unfold Dm;simp only [AU,AP]
 rw [AR,if_pos rfl,L6 (l:=l) (σ:=Unit) (s:=(false,0)) (λk _=>(false,(k:Int))) (λ_ _ _=>some (1,((false,(l.length:Int)),()))) () rfl (by omega) (λst=>by
  simp only;rw [re];rfl) (λk x m st _ hx hk => .inl ⟨(),by
   simp only;rw [rl hk,AN,AE,AK hx,AE,AK hx,Iw,Iw,Hn,show Bm x.2.2.2 x.2.2.2=true by unfold Bm;simp,show AZ (Bo true (Bo true (Bo true (Bo true true))))=false from rfl,Ag,A1 hx (by omega)],rfl⟩),AD]
 rfl
section
variable {a b:List AB} (va:VL a) (vb:VL b)
include va vb
theorem GW {n:Nat} {x:AB} (hx:Na a b n=some x):Az a b (n+1)=Az a b n++[x]:=by
 show (match Na a b n with
  | some x=>Az a b n++[x]
  | none=>Az a b n)=_
 rw [hx]
theorem HQ (bt:Bool) : ∀ {n:Nat},n<=a.length+b.length->Oj (s0 bt) (Az a b n)
 | 0,_=>trivial
 | n+1,h=>by
  obtain ⟨x,hx,_⟩:=EC va vb (n:=n) (by omega);rw [GW va vb hx];refine Sr _ _ _ (HQ bt (by omega)) (ZY va vb hx) λ_ => ?_;cases n with
  | zero=>rename_i h1;cases h1
  | succ m =>
   obtain ⟨y,hy,_⟩:=EC va vb (n:=m) (by omega);rw [GW va vb hy,KM];exact WC va vb (by omega) hy hx
theorem Uh (bt:Bool) {n:Nat} (h:n<=a.length+b.length):(CR (s0 bt) (Az a b n)).2.1.length<=32/\((CR (s0 bt) (Az a b n)).1=false->(CR (s0 bt) (Az a b n)).2.1=[]) :=
 QB _ _ (HQ va vb bt h) (by simp) (λ_=>rfl)
theorem fx {n:Nat} (h:n=a.length+b.length):(wk (kx a (Am a b n).1) (kx b (Am a b n).2)).2=true:=by
 obtain ⟨hI,hs⟩:=FW va vb (n:=n) (by omega);have h1:=hI.ia;have h2:=hI.jb;rw [L8 (List.getElem?_eq_none (by omega)),L8 (List.getElem?_eq_none (by omega))];rfl
theorem fy {n:Nat} {x:AB} (hx:Na a b n=some x):(wk (kx a (Am a b n).1) (kx b (Am a b n).2)).2=false/\wn (kx a (Am a b n).1) (kx b (Am a b n).2)=Og a b n:=by
 unfold Na at hx;unfold Og;cases g:HY a b (Am a b n).1 (Am a b n).2 with
 | true=>rw [if_pos g] at hx;rw [(XH g).1,(XH g).2,F1 hx];exact ⟨rfl,rfl⟩
 | false=>rw [if_neg (by simp [g])] at hx;rw [(XI g).1,(XI g).2,F1 hx];exact ⟨rfl,rfl⟩
theorem f6:Gq [a,b]=some (Az a b (a.length+b.length),(HP a b (a.length+b.length),0)):=by
 have la:=va.len;have lb:=vb.len;unfold Gq;rw [LG va vb,AD,AR,if_pos rfl];refine Eq.trans (b:=bd (loop _ (0,[([],false),([],false)])) _) rfl ?_;refine BG (x:=(0,((2,[kx a 0,kx b 0]),()))) (Cc (s1:=(1,[kx a 0,([],false)])) (s2:=(2,[kx a 0,kx b 0])) ?_ ?_ rfl) ?_
 ·show bd (BE (a,((0:Nat):Int))) _=_;rw [Gf (by omega)];rfl
 ·show bd (BE (b,((0:Nat):Int))) _=_;rw [Gf (by omega)];rfl
 rw [show ((0:Nat),(((2:Int),[kx a 0,kx b 0]),())).2.1.2=[kx a 0,kx b 0] from rfl,Mx (Ba _ _) (Ba _ _),AD]
 refine BG (x:=(0,((Az a b (a.length+b.length),(HP a b (a.length+b.length),((),([((Am a b (a.length+b.length)).1:Int),((Am a b (a.length+b.length)).2:Int)],Tt (kx a (Am a b (a.length+b.length)).1) (kx b (Am a b (a.length+b.length)).2))))),())))
  (IR (λk=>(Az a b k,(HP a b k,((),([((Am a b k).1:Int),((Am a b k).2:Int)],Tt (kx a (Am a b k).1) (kx b (Am a b k).2)))))) 0 (a.length+b.length) rfl (by omega) (by omega) (λk _ hk => ?_) ?_) rfl
 ·obtain ⟨x,hx,_⟩:=EC va vb (n:=k) hk;obtain ⟨w1,w2⟩:=fy va vb hx;obtain ⟨hI,hs⟩:=FW va vb (n:=k) (by omega);have hl1:(Az a b k).length=k:=Ch va vb (by omega);have hl2:=My a b k;simp only;rw [HO (Ba _ _) (Ba _ _),if_neg (by simp [w1]),AD,AR,if_pos rfl,w2];rw [GW va vb hx];unfold Na at hx;rw [show HP a b (k+1)=HP a b k++[(Og a b k:Int)] from rfl];unfold Og;rw [show Am a b (k+1)=if HY a b (Am a b k).1 (Am a b k).2=true then ((Am a b k).1+1,(Am a b k).2) else ((Am a b k).1,(Am a b k).2+1) from rfl]
  have g1 : ∀ {β:Type} (y:AB) (q:Unit->Option β),gd (A6 (AJ (AA (Az a b k)) (AA [y])) 1048576) q=q ():=λy q=>BU (by simp only [AJ,AA,hl1,List.length_cons,List.length_nil];omega) q;have g2 : ∀ {β:Type} (y:Int) (q:Unit->Option β),gd (A6 (AJ (AA (HP a b k)) (AA [y])) 1048576) q=q ():=λy q=>BU (by simp only [AJ,AA,hl2,List.length_cons,List.length_nil];omega) q;cases g:HY a b (Am a b k).1 (Am a b k).2 with
  | true =>
   rw [if_pos g] at hx;obtain ⟨hkk,_⟩:=XH g;obtain ⟨m,hr⟩:=Hm (p:=kx a (Am a b k).1) (q:=kx b (Am a b k).2) (k:=kx a ((Am a b k).1+1)) (Ba _ _) (Ba _ _) (Ba _ _) w1 (by rw [hkk,F1 hx];exact Nn va hx)
   have hrk:rk (kx a (Am a b k).1) (kx b (Am a b k).2) (kx a ((Am a b k).1+1))=(kx a ((Am a b k).1+1),kx b (Am a b k).2):=by
    unfold rk;unfold HY at g;rw [if_pos g]
   rw [hrk] at hr;have hi:=(List.getElem?_eq_some_iff.1 hx).1;simp only [if_true];refine (Jk 0 rfl (x:=a) rfl).trans ((Jk 0 rfl (x:=((Am a b k).1:Int)) rfl).trans ((Eh _ rfl hx).trans ?_));rw [g1,g2];refine (Jk 0 rfl (x:=((Am a b k).1:Int)) rfl).trans ((Jk 0 rfl (x:=((Am a b k).1:Int)) rfl).trans ((Jk 0 rfl (x:=a) rfl).trans ((Jk 0 rfl (x:=AH .i64 ((Am a b k).1:Int) 1) rfl).trans ?_)));rw [Aa (by omega),Gf (by omega),AD,hr,AD];rfl
  | false =>
   rw [if_neg (by simp [g])] at hx;obtain ⟨hkk,_⟩:=XI g;obtain ⟨m,hr⟩:=Hm (p:=kx a (Am a b k).1) (q:=kx b (Am a b k).2) (k:=kx b ((Am a b k).2+1)) (Ba _ _) (Ba _ _) (Ba _ _) w1 (by rw [hkk,F1 hx];exact Nn vb hx)
   have hrk:rk (kx a (Am a b k).1) (kx b (Am a b k).2) (kx b ((Am a b k).2+1))=(kx a (Am a b k).1,kx b ((Am a b k).2+1)):=by
    unfold rk;unfold HY at g;rw [if_neg (by simp [g])]
   rw [hrk] at hr;have hi:=(List.getElem?_eq_some_iff.1 hx).1;simp only [Bool.false_eq_true,if_false];refine (Jk 1 rfl (x:=b) rfl).trans ((Jk 1 rfl (x:=((Am a b k).2:Int)) rfl).trans ((Eh _ rfl hx).trans ?_));rw [g1,g2];refine (Jk 1 rfl (x:=((Am a b k).2:Int)) rfl).trans ((Jk 1 rfl (x:=((Am a b k).2:Int)) rfl).trans ((Jk 1 rfl (x:=b) rfl).trans ((Jk 1 rfl (x:=AH .i64 ((Am a b k).2:Int) 1) rfl).trans ?_)));rw [Aa (by omega),Gf (by omega),AD,hr,AD];rfl
 ·simp only;rw [HO (Ba _ _) (Ba _ _),if_pos (fx va vb rfl),AD,AR,if_neg (by decide),AR,if_neg (by decide)]
end
end Go.Proofs.YthpkjfabdccpdaaGreat.Pl
namespace Go.Proofs.YthpkjfabdccpdaaGreat.Pl
open Go Go.Proofs.YthpkjfabdccpdaaGreat.Sv
theorem WF {β:Type} {out:List AB} {n:Nat} (h:out.length<=n) (hn:n<=20000) (x:AB) (k:Unit->Option β):gd (A6 (AJ out.length [x].length) 1048576) k=k ():=RT h hn x k
section
variable {a b:List AB} (va:VL a) (vb:VL b)
include va vb
theorem Gx {n:Nat} (h:n<=a.length+b.length):(Az a b (a.length+b.length)).take n=Az a b n:=Ub va vb (Nat.le_refl _) h
theorem Jl {n:Nat} {x:AB} (bt:Bool) (hx:Na a b n=some x):CR (s0 bt) (Az a b (n+1))=(true,(x.1,bt)):=by
 rw [GW va vb hx,KM,F3]
theorem Ui (bt:Bool) {n:Nat} (h:n<=a.length+b.length):Ef (EU a b bt n)=some 0:=by
 obtain ⟨hI,hs⟩:=FW va vb (n:=n) h;have la:=va.len;have lb:=vb.len;have hfl:=IQ (s0 bt) (Az a b n);have hml:(Az a b n).length=n:=Ch va vb h;unfold Ef;rw [show (EU a b bt n).1=LO a b (Am a b n).1 (Am a b n).2 from rfl,KL va vb hI,AD,AR,if_pos rfl];refine BG (x:=(0,((2,(n:Int)),()))) (Cc (s1:=(1,((Am a b n).1:Int))) (s2:=(2,(n:Int))) ?_ ?_ rfl) ?_
 ·refine (Nb 0 rfl rfl (x:=((Am a b n).1:Int)) rfl).trans ?_;show some (LR.nx ((1:Int),AH .i64 0 ((Am a b n).1:Int)))=_;rw [CT (by omega),Int.zero_add]
 ·refine (Nb 1 rfl rfl (x:=((Am a b n).2:Int)) rfl).trans ?_;show some (LR.nx ((2:Int),AH .i64 ((Am a b n).1:Int) ((Am a b n).2:Int)))=_;rw [CT (by omega),show ((Am a b n).1:Int)+((Am a b n).2:Int)=(n:Int) by omega]
 simp only [AU,AP];rw [show (EU a b bt n).2.2.1=FD (s0 bt) (Az a b n) from rfl,show (EU a b bt n).2.2.2=(n:Int) from rfl,show (EU a b bt n).2.1=CR (s0 bt) (Az a b n) from rfl,Ax,if_neg (by omega),Ax,if_neg (by omega),AR,if_pos rfl];rw [show (LO a b (Am a b n).1 (Am a b n).2).1=[a,b] from rfl,f6 va vb,AD,AR,if_pos rfl,AE];rw [BU (by rw [Ch va vb (Nat.le_refl _)];exact h),BU (Nat.zero_le _)];rw [show B3 (Az a b (a.length+b.length)) 0 n=Az a b n from by unfold B3;rw [List.drop_zero,Nat.sub_zero];exact Gx va vb h,F3];rw [show (s0 bt).2.2=bt from rfl,XK (by omega) (HQ va vb bt h),AD,AR,if_pos rfl];unfold CZ;rw [AD,Ax];cases n with
 | zero =>
  rw [if_neg (by omega),Ol _ (by omega),AD,Iv,Ag];show br (AZ (Bo (Sv.beq false false) (Bo (seq [] []) (Bo (Sv.beq bt bt) true)))) _ _=_;rw [Hn,Hn,Iw];rfl
 | succ m =>
  obtain ⟨x,hx,_⟩:=EC va vb (n:=m) (by omega);rw [if_pos (by omega),show BJ .i64 ((m+1:Nat):Int) 1=(m:Int) by rw [Bl (by omega)];omega,AE];rw [AK (x:=x) (by rw [IP va vb (Nat.le_refl _) (by omega)];exact hx),Ol _ (by omega),AD,Iv,Ag,Jl va vb bt hx];rw [Hn,Hn,Iw];rfl
theorem Zd {n:Nat} (h:n<=a.length+b.length):Fz (LH a b n)=some (((a.length+b.length-n:Nat):Int),0):=by
 obtain ⟨hI,hs⟩:=FW va vb (n:=n) h;have la:=va.len;have lb:=vb.len;have ha:=hI.ia;have hb:=hI.jb;unfold Fz;rw [show LH a b n=LO a b (Am a b n).1 (Am a b n).2 from rfl,KL va vb hI,AD,AR,if_pos rfl];refine BG (x:=(0,((2,((a.length+b.length-n:Nat):Int)),()))) (Cc (s1:=(1,(a.length:Int)-((Am a b n).1:Int))) (s2:=(2,((a.length+b.length-n:Nat):Int))) ?_ ?_ rfl) rfl
 ·refine (Nb 0 rfl rfl (x:=a) rfl).trans ((Eh 0 rfl (x:=((Am a b n).1:Int)) rfl).trans ?_);simp only [AU,AP];rw [Bl (by omega)];show some (LR.nx ((1:Int),AH .i64 0 ((a.length:Int)-((Am a b n).1:Int))))=_;rw [CT (by omega),Int.zero_add]
 ·refine (Nb 1 rfl rfl (x:=b) rfl).trans ((Eh 1 rfl (x:=((Am a b n).2:Int)) rfl).trans ?_);simp only [AU,AP];rw [Bl (by omega)];show some (LR.nx ((2:Int),AH .i64 ((a.length:Int)-((Am a b n).1:Int)) ((b.length:Int)-((Am a b n).2:Int))))=_;rw [CT (by omega),show (a.length:Int)-((Am a b n).1:Int)+((b.length:Int)-((Am a b n).2:Int))=((a.length+b.length-n:Nat):Int) by omega]
theorem Mz (bt:Bool) {n:Nat} (h:n<=a.length+b.length):Bt (EU a b bt n)=some (((a.length+b.length-n:Nat):Int),0):=by
 unfold Bt;rw [Ui va vb bt h,AD,AR,if_pos rfl,show (EU a b bt n).1=LH a b n from rfl,Zd va vb h];rfl
theorem Om (bt:Bool) {n:Nat} {x:AB} (hx:Na a b n=some x):EU a b bt (n+1)=(LH a b (n+1),((true,(x.1,bt)),(FD (s0 bt) (Az a b n)++(if keep (CR (s0 bt) (Az a b n)) x=true then [x] else []),((n+1:Nat):Int)))):=by
 unfold EU;rw [GW va vb hx,KM,F3,Sq]
theorem Ix (bt:Bool) {n:Nat} {x:AB} (hn:n<a.length+b.length) (hx:Na a b n=some x):B7 (CR (s0 bt) (Az a b n),x)=some (keep (CR (s0 bt) (Az a b n)) x,((true,(x.1,bt)),0)):=by
 have hlm:=Uh va vb bt (n:=n) (by omega);rw [XJ hlm.1 hlm.2 (ZY va vb hx),F3];intro h1;cases n with
 | zero=>cases h1
 | succ m =>
  obtain ⟨y,hy,_⟩:=EC va vb (n:=m) (by omega);rw [Jl va vb bt hy];exact WC va vb (by omega) hy hx
def gv (k:Int) (s:Ir):Int×(Int×(List (List AB)×(List Int×(List AT×(List Int×(Int×(Bool×(HB×(Bool×(List AB×Int)))))))))) :=
 (k,(0,(s.1.1,(s.1.2.1,(s.1.2.2.1,(s.1.2.2.2.1,(s.1.2.2.2.2,(s.2.1.1,(s.2.1.2.1,(s.2.1.2.2,(s.2.2.1,s.2.2.2)))))))))))
theorem XL (bt:Bool) {n:Nat} (h:n<=a.length+b.length) {k:Nat}:CW (EU a b bt n,(k:Int))=some (EU a b bt (n+min k (a.length+b.length-n)),(((min k (a.length+b.length-n):Nat):Int),0)):=by
 have la:=va.len;have lb:=vb.len;have hml : ∀ m,m<=a.length+b.length->(FD (s0 bt) (Az a b m)).length<=m:=λm hm=>by have:=IQ (s0 bt) (Az a b m);have:=Ch va vb hm;omega
 obtain ⟨u,hu⟩ : ∃ u,u=min k (a.length+b.length-n):=⟨_,rfl⟩
 have him:NN (k:Int) ((a.length+b.length-n:Nat):Int)=(u:Int):=by
  unfold NN;split<;>omega
 rw [<- hu];unfold CW;rw [Mz va vb bt h,AD,AR,if_pos rfl];simp only [him,AU,AP];rw [BD,if_neg (by omega),show (EU a b bt n).2.2.2=(n:Int) from rfl,CT (by omega),Ax,if_neg (by omega)];rw [show (EU a b bt n).2.2.1=FD (s0 bt) (Az a b n) from rfl,show (EU a b bt n).1=LH a b n from rfl,BU (by have:=hml n h;omega),BU (show (LH a b n).2.1.length<=1048576 from (show 2<=1048576 by omega)),BD];by_cases h0:u=0
 ·rw [h0,if_neg (by omega)];rfl
 rw [if_pos (by omega)];obtain ⟨x,hx,_⟩:=EC va vb (n:=n) (by omega);rw [Oh va vb (by omega) hx,AD,AR,if_pos rfl,show (EU a b bt n).2.1=CR (s0 bt) (Az a b n) from rfl,Ix va vb bt (by omega) hx,AD,AR,if_pos rfl]
 have hl : ∀ j,1<=j->j<u -> ∃ y,Na a b (n+j)=some y:=λj h1 h2=>by
  obtain ⟨y,hy,_⟩:=EC va vb (n:=n+j) (by omega);exact ⟨y,hy⟩
 rw [Gp];have hS:=Om va vb bt hx;cases hk:keep (CR (s0 bt) (Az a b n)) x with
 | true =>
  rw [hk] at hS;rw [if_pos rfl,WF (hml n h) (by omega)];refine BG (x:=(1,(gv u (EU a b bt (n+u)),()))) (IR (λj=>gv j (EU a b bt (n+j))) 1 u ?_ (by omega) (by omega) (λj h1 h2 => ?_) ?_) ?_
  ·rw [hS,show AH .i64 (n:Int) 1=((n+1:Nat):Int) from Aa (by omega)];rfl
  ·obtain ⟨y,hy⟩:=hl j h1 h2;show br (Ah (j:Int) (u:Int)) _ _=_;rw [BD,if_pos (by omega)];show bd (Bv (LH a b (n+j))) _=_;rw [Oh va vb (by omega) hy,AD,AR,if_pos rfl];show bd (B7 (CR (s0 bt) (Az a b (n+j)),y)) _=_;rw [Ix va vb bt (by omega) hy,AD,AR,if_pos rfl,Gp,show n+(j+1)=n+j+1 by omega,Om va vb bt hy];cases hk2:keep (CR (s0 bt) (Az a b (n+j))) y with
   | true =>
    rw [if_pos rfl,if_pos rfl];show gd (A6 (AJ (AA (FD (s0 bt) (Az a b (n+j)))) (AA [y])) 1048576) _=_;rw [RT (hml _ (by omega)) (by omega)];show some (LR.nx (AH .i64 (j:Int) 1,_))=_;unfold gv;simp only [Aa (show j+1<=9223372036854775807 by omega),DK];rw [show AH .i64 (EU a b bt (n+j)).2.2.2 1=((n+j+1:Nat):Int) from Aa (by omega)];rfl
   | false =>
    rw [if_neg (by simp),if_neg (by simp)];show some (LR.nx (AH .i64 (j:Int) 1,_))=_;unfold gv;simp only [Aa (show j+1<=9223372036854775807 by omega)];rw [show AH .i64 (EU a b bt (n+j)).2.2.2 1=((n+j+1:Nat):Int) from Aa (by omega),List.append_nil];rfl
  ·show br (Ah (u:Int) (u:Int)) _ _=_;rw [BD,if_neg (by omega)]
  ·rfl
 | false =>
  rw [hk] at hS;rw [if_neg (by simp)];refine BG (x:=(1,(gv u (EU a b bt (n+u)),()))) (IR (λj=>gv j (EU a b bt (n+j))) 1 u ?_ (by omega) (by omega) (λj h1 h2 => ?_) ?_) ?_
  ·rw [hS,show AH .i64 (n:Int) 1=((n+1:Nat):Int) from Aa (by omega),if_neg (by simp),List.append_nil];rfl
  ·obtain ⟨y,hy⟩:=hl j h1 h2;show br (Ah (j:Int) (u:Int)) _ _=_;rw [BD,if_pos (by omega)];show bd (Bv (LH a b (n+j))) _=_;rw [Oh va vb (by omega) hy,AD,AR,if_pos rfl];show bd (B7 (CR (s0 bt) (Az a b (n+j)),y)) _=_;rw [Ix va vb bt (by omega) hy,AD,AR,if_pos rfl,Gp,show n+(j+1)=n+j+1 by omega,Om va vb bt hy];cases hk2:keep (CR (s0 bt) (Az a b (n+j))) y with
   | true =>
    rw [if_pos rfl,if_pos rfl];show gd (A6 (AJ (AA (FD (s0 bt) (Az a b (n+j)))) (AA [y])) 1048576) _=_;rw [RT (hml _ (by omega)) (by omega)];show some (LR.nx (AH .i64 (j:Int) 1,_))=_;unfold gv;simp only [Aa (show j+1<=9223372036854775807 by omega),DK];rw [show AH .i64 (EU a b bt (n+j)).2.2.2 1=((n+j+1:Nat):Int) from Aa (by omega)];rfl
   | false =>
    rw [if_neg (by simp),if_neg (by simp)];show some (LR.nx (AH .i64 (j:Int) 1,_))=_;unfold gv;simp only [Aa (show j+1<=9223372036854775807 by omega)];rw [show AH .i64 (EU a b bt (n+j)).2.2.2 1=((n+j+1:Nat):Int) from Aa (by omega),List.append_nil];rfl
  ·show br (Ah (u:Int) (u:Int)) _ _=_;rw [BD,if_neg (by omega)]
  ·rfl
end
end Go.Proofs.YthpkjfabdccpdaaGreat.Pl
namespace Go.Proofs.YthpkjfabdccpdaaGreat.Pl
open Go Go.Proofs.YthpkjfabdccpdaaGreat.Sv
theorem E9 {α β σ S:Type} {l:List α} (mk:Nat->σ->S) (I:List α->Nat->σ->Prop) (Q:β->Prop) {f:S->Option (LR S β)} {s:S} (st:σ) (h0:s=mk 0 st) (hl:l.length<=9223372036854775807) (hi:I l 0 st)
  (hn : ∀ st,I [] l.length st -> ∃ r,f (mk l.length st)=some (.dn r)/\Q r)
  (hc : ∀ k x m st,l.drop k=x::m->l[k]? = some x->k<l.length->I (x::m) k st->(∃ st',f (mk k st)=some (.nx (mk (k+1) st'))/\I m (k+1) st') \/ ∃ r,f (mk k st)=some (.dn r)/\Q r) : ∃ r,loop f s=some r/\Q r:=by
 subst h0
 have main : ∀ (m:List α) (k n:Nat) (st:σ),l.drop k=m->k<=l.length->m.length<n->I m k st -> ∃ r,Df n f (mk k st)=some r/\Q r:=by
  intro m
  induction m with
  | nil =>
   intro k n st hm hk hn' hi;obtain ⟨n,rfl⟩ : ∃ j,n=j+1:=⟨n-1,by omega⟩
   have hkl:k=l.length:=by
    have:=congrArg List.length hm;simp at this;omega
   subst hkl;obtain ⟨r,h1,h2⟩:=hn st hi;exact ⟨r,Bh h1,h2⟩
  | cons x m ih =>
   intro k n st hm hk hn' hi;obtain ⟨n,rfl⟩ : ∃ j,n=j+1:=⟨n-1,by omega⟩
   have hx:l[k]? = some x:=by
    have:=congrArg List.head? hm;rw [List.head?_drop] at this;simpa using this
   have hk':k<l.length:=(List.getElem?_eq_some_iff.1 hx).1
   have hm2:l.drop (k+1)=m:=by
    have:=congrArg List.tail hm;rw [List.tail_drop] at this;simpa using this
   rcases hc k x m st hm hx hk' hi with ⟨st',h1,h2⟩ | ⟨r,h1,h2⟩
   ·rw [BN h1];exact ih (k+1) n st' hm2 (by omega) (by simp at hn';omega) h2
   ·exact ⟨r,Bh h1,h2⟩
 exact main l 0 _ st (by simp) (by omega) (by omega) hi
theorem IS {α:Type} (l m:List α) (hl:l.length=m.length) (hb:l.length<=9223372036854775806) {f:(Int×Bool)->Option (LR (Int×Bool) (Nat×((Int×Bool)×Unit)))}
  (hs : ∀ (k:Nat) x y,l[k]? = some x->m[k]? = some y->(x=y->f ((k:Int),false)=some (.nx (((k+1:Nat):Int),false)))/\(x≠y->f ((k:Int),false)=some (.dn (0,(((k:Int),false),())))))
  (he:f ((l.length:Int),false)=some (.dn (1,(((l.length:Int),false),())))) :
  ∃ r,loop f (0,false)=some r/\((l=m/\r.1=1)\/(l≠m/\r.1=0/\r.2.1.2=false)):=by
 refine E9 (l:=l) (σ:=Unit) (λk _=>((k:Int),false)) (λt k _=>t=l.drop k/\l.take k=m.take k) _ () rfl (by omega) ⟨by simp,by simp⟩ (λst h => ?_) (λk x t st hd hx hk h => ?_)
 ·refine ⟨_,he,.inl ⟨?_,rfl⟩⟩;have:=h.2;rw [List.take_length,hl,List.take_length] at this;exact this
 ·have hk2:k<m.length:=by omega
  have hy:m[k]? = some m[k]:=by simp [hk2]
  by_cases e:x=m[k]
  ·refine .inl ⟨(),(hs k x m[k] hx hy).1 e,?_,?_⟩
   ·have:=congrArg List.tail hd;rw [List.tail_drop] at this;simp at this;exact this.symm
   ·rw [List.take_add_one,List.take_add_one,h.2,hx,hy,e]
  ·refine .inr ⟨_,(hs k x m[k] hx hy).2 e,.inr ⟨?_,rfl,rfl⟩⟩;intro e2;subst e2;rw [hx] at hy;exact e (Option.some.inj hy)
theorem beq_eq (a b:Bool):Sv.beq a b=decide (a=b):=by cases a<;>cases b<;>rfl
theorem EN (a b:Int):Bm a b=decide (a=b):=by
 unfold Bm;by_cases h:a=b<;>simp [h]
theorem Iy (p q:Prop) [Decidable p] [Decidable q]:Bo (decide p) (decide q)=decide (p/\q):=by unfold Bo;simp
theorem CX (p:Prop) [Decidable p]:AZ (decide p)=decide (¬ p):=by unfold AZ;simp
theorem L9 (a:Bool):Bo a true=a:=by cases a<;>rfl
theorem XM (l m:List AT) (hb:l.length<=9223372036854775806):Ak (l,m)=some (decide (l=m)):=by
 unfold Ak;simp only [AU,AP];rw [AR];by_cases hl:(l.length:Int)=(m.length:Int)
 ·rw [if_pos hl];have hl2:l.length=m.length:=by omega
  obtain ⟨r,h1,h2⟩:=IS l m hl2 hb (f:=λs0=>br (Ah s0.1 (l.length:Int)) (λ_=>AS s0.1 λk1=>ix l k1 λx2=>AS s0.1 λk3=>ix m k3 λx4=>br (AZ (Bo (seq x2.1 x4.1) (Bo (Sv.beq x2.2 x4.2) true))) (λ_=>some (.dn ((0,((s0.1,false),()))))) λ_=>some (.nx (AH .i64 s0.1 1,s0.2))) λ_=>some (.dn ((1,(s0,()))))) (λk x y hx hy=>by
    have hk:=(List.getElem?_eq_some_iff.1 hx).1
    have he : ∀ {β:Type} (u v:Unit->Option β),br (AZ (Bo (seq x.1 y.1) (Bo (Sv.beq x.2 y.2) true))) u v=if x=y then v () else u ():=by
     intro β u v;rw [L9,LF,beq_eq,Iy,CX,Cm];by_cases e:x=y
     ·subst e;simp
     ·rw [if_pos (λh=>e (Prod.ext h.1 h.2)),if_neg e]
    constructor
    ·intro e;simp only;rw [rl hk,AN,AE,AK hx,AE,AK hy,he,if_pos e,Aa (by omega)]
    ·intro e;simp only
     rw [rl hk,AN,AE,AK hx,AE,AK hy,he,if_neg e]) (by simp only;rw [re];rfl)
  refine BG h1 ?_;rcases h2 with ⟨e,h2⟩ | ⟨e,h2,h3⟩
  ·rw [CO,h2];simp [e]
  ·rw [CO,h2];simp [e,h3]
 ·rw [if_neg hl];have : ¬ l=m:=λe=>hl (by rw [e]);simp [this]
theorem KN (l m:List Int) (hb:l.length<=9223372036854775806):Ae (l,m)=some (decide (l=m)):=by
 unfold Ae;simp only [AU,AP];rw [AR];by_cases hl:(l.length:Int)=(m.length:Int)
 ·rw [if_pos hl];have hl2:l.length=m.length:=by omega
  obtain ⟨r,h1,h2⟩:=IS l m hl2 hb (f:=λs0=>br (Ah s0.1 (l.length:Int)) (λ_=>AS s0.1 λk1=>ix l k1 λx2=>AS s0.1 λk3=>ix m k3 λx4=>br (Ao x2 x4) (λ_=>some (.dn ((0,((s0.1,false),()))))) λ_=>some (.nx (AH .i64 s0.1 1,s0.2))) λ_=>some (.dn ((1,(s0,()))))) (λk x y hx hy=>by
    have hk:=(List.getElem?_eq_some_iff.1 hx).1;constructor
    ·intro e;simp only;rw [rl hk,AN,AE,AK hx,AE,AK hy,AR,if_pos e,Aa (by omega)]
    ·intro e;simp only
     rw [rl hk,AN,AE,AK hx,AE,AK hy,AR,if_neg e]) (by simp only;rw [re];rfl)
  refine BG h1 ?_;rcases h2 with ⟨e,h2⟩ | ⟨e,h2,h3⟩
  ·rw [CO,h2];simp [e]
  ·rw [CO,h2];simp [e,h3]
 ·rw [if_neg hl];have : ¬ l=m:=λe=>hl (by rw [e]);simp [this]
theorem Ss {β:Type} (x y:AB) (u v:Unit->Option β):br (AZ (Bo (seq x.1 y.1) (Bo (seq x.2.1 y.2.1) (Bo (Sv.beq x.2.2.1 y.2.2.1) (Bo (Bm x.2.2.2 y.2.2.2) true))))) u v=if x=y then v () else u ():=by
 rw [L9,LF,LF,beq_eq,EN,Iy,Iy,Iy,CX,Cm];by_cases e:x=y
 ·subst e;simp
 ·rw [if_pos (λh=>e (Prod.ext h.1 (Prod.ext h.2.1 (Prod.ext h.2.2.1 h.2.2.2)))),if_neg e]
theorem F4 (l m:List AB) (hb:l.length<=9223372036854775806):BK (l,m)=some (decide (l=m)):=by
 unfold BK;simp only [AU,AP];rw [AR];by_cases hl:(l.length:Int)=(m.length:Int)
 ·rw [if_pos hl];have hl2:l.length=m.length:=by omega
  obtain ⟨r,h1,h2⟩:=IS l m hl2 hb (f:=λs0=>br (Ah s0.1 (l.length:Int)) (λ_=>AS s0.1 λk1=>ix l k1 λx2=>AS s0.1 λk3=>ix m k3 λx4=>br (AZ (Bo (seq x2.1 x4.1) (Bo (seq x2.2.1 x4.2.1) (Bo (Sv.beq x2.2.2.1 x4.2.2.1) (Bo (Bm x2.2.2.2 x4.2.2.2) true))))) (λ_=>some (.dn ((0,((s0.1,false),()))))) λ_=>some (.nx (AH .i64 s0.1 1,s0.2))) λ_=>some (.dn ((1,(s0,()))))) (λk x y hx hy=>by
    have hk:=(List.getElem?_eq_some_iff.1 hx).1;constructor
    ·intro e;simp only;rw [rl hk,AN,AE,AK hx,AE,AK hy,Ss,if_pos e,Aa (by omega)]
    ·intro e;simp only
     rw [rl hk,AN,AE,AK hx,AE,AK hy,Ss,if_neg e]) (by simp only;rw [re];rfl)
  refine BG h1 ?_;rcases h2 with ⟨e,h2⟩ | ⟨e,h2,h3⟩
  ·rw [CO,h2];simp [e]
  ·rw [CO,h2];simp [e,h3]
 ·rw [if_neg hl];have : ¬ l=m:=λe=>hl (by rw [e]);simp [this]
theorem HR (l m:List AB) (hb:l.length<=9223372036854775806):Bg (l,m)=some (decide (l=m)):=by
 unfold Bg;rw [F4 l m hb];rfl
instance:DecidableEq AB:=inferInstance
instance:DecidableEq (List AB):=inferInstance
instance:DecidableEq (List (List AB)):=inferInstance
instance:DecidableEq AT:=inferInstance
instance:DecidableEq D0:=inferInstance
instance:DecidableEq AY:=inferInstance
instance:DecidableEq Bu:=inferInstance
instance:DecidableEq Ir:=inferInstance
theorem Su (x y:Ir) (h1:x.1.1.length<=1000) (h2 : ∀ l∈x.1.1,l.length<=1000000) (h3:x.1.2.1.length<=1000) (h4:x.1.2.2.1.length<=1000) (h5:x.1.2.2.2.1.length<=1000) (h6:x.2.2.1.length<=1000000):DL (x,y)=some (decide (x=y)):=by
 obtain ⟨⟨xr,xa,xk,xl,xw⟩,⟨xs,xt,xb⟩,xo,xn⟩:=x;obtain ⟨⟨yr,ya,yk,yl,yw⟩,⟨ys,yt,yb⟩,yo,yn⟩:=y;simp only at h1 h2 h3 h4 h5 h6;unfold DL;simp only [AU,AP];rw [AR];by_cases hl:(xr.length:Int)=(yr.length:Int)
 ·rw [if_pos hl];have hl2:xr.length=yr.length:=by omega
  obtain ⟨r,q1,q2⟩:=IS xr yr hl2 (by omega) (f:=λs0=>br (Ah s0.1 (xr.length:Int)) (λ_=>AS s0.1 λk1=>ix xr k1 λx2=>AS s0.1 λk3=>ix yr k3 λx4=>bd (Bg (x2,x4)) λr5=>br (AZ r5) (λ_=>some (.dn ((0,((s0.1,false),()))))) λ_=>some (.nx (AH .i64 s0.1 1,s0.2))) λ_=>some (.dn ((1,(s0,()))))) (λk x y hx hy=>by
    have hk:=(List.getElem?_eq_some_iff.1 hx).1;have hx1:=h2 x (List.mem_of_getElem? hx);constructor
    ·intro e;simp only;rw [rl hk,AN,AE,AK hx,AE,AK hy,HR _ _ (by omega),AD,CX,Cm,if_neg (by simp [e]),Aa (by omega)]
    ·intro e;simp only
     rw [rl hk,AN,AE,AK hx,AE,AK hy,HR _ _ (by omega),AD,CX,Cm,if_pos e]) (by simp only;rw [re];rfl)
  refine BG q1 ?_;simp only [KN _ _ (show xa.length<=9223372036854775806 by omega),KN _ _ (show xl.length<=9223372036854775806 by omega),XM _ _ (show xk.length<=9223372036854775806 by omega),HR _ _ (show xo.length<=9223372036854775806 by omega),AD,Cm,EN,LF,beq_eq,L9,Iy,CO];rw [Gp];rcases q2 with ⟨e,q2⟩ | ⟨e,q2,q3⟩
  ·rw [if_neg (show ¬ r.1=0 by omega)]
   repeat' split
   all_goals simp_all
  ·rw [if_pos q2,if_neg (show ¬ r.2.1.2=true by simp [q3])];simp [e]
 ·rw [if_neg hl];have : ¬ xr=yr:=λe=>hl (by rw [e]);simp [this]
end Go.Proofs.YthpkjfabdccpdaaGreat.Pl
namespace Go.Proofs.YthpkjfabdccpdaaGreat.Pl
open Go Go.Proofs.YthpkjfabdccpdaaGreat.Sv
def kR (ids:List Int) (most:Int) (r:A7):Int :=
 if r.1<1\/r.1>1000000 then 7 else if (DT r.2).2≠0 then (DT r.2).2 else if r.2.length=0 then 4 else if (r.2.length:Int)>most then 3 else if r.1∈ids then 8 else 0
def KQ (most:Int):Nat->List Int->List A7->Option (Nat×Int)
 | _,_,[]=>none
 | k,ids,r::rs=>if kR ids most r≠0 then some (k,kR ids most r) else KQ most (k+1) (ids++[r.1]) rs
def B4 (B:Int) (i:Nat):Int:=B*2 ^ i
def KR (B:Int):Nat->List Int->List (List A7)->Option (Nat×(Nat×Int))
 | _,_,[]=>none
 | i,ids,rs::ls=>if rs.length>2 then some (i,(0,3)) else match KQ (B4 B i) 0 ids rs with
  | some (k,e)=>some (i,(k,e))
  | none=>KR B (i+1) (ids++rs.map (·.1)) ls
def EV (L:AO):Int×(Int×Int) :=
 if L.1<1\/L.1>16 then (0,(0,7)) else if L.2.length>12 then (0,(0,3)) else match KR L.1 0 [] L.2 with
  | some (i,(k,e))=>((i:Int),((k:Int),e))
  | none=>if L.2.getLast? = some [] then (((L.2.length-1:Nat):Int),(0,6)) else (0,(0,0))
theorem WG {most:Int} : ∀ {rs:List A7} {k:Nat} {ids:List Int} {k':Nat} {e:Int},KQ most k ids rs=some (k',e)->e≠0
 | [],_,_,_,_,h=>by cases h
 | r::rs,k,ids,k',e,h=>by
  unfold KQ at h;by_cases hk:kR ids most r≠0
  ·rw [if_pos hk] at h;cases h;exact hk
  ·rw [if_neg hk] at h;exact WG h
theorem RU {B:Int} : ∀ {ls:List (List A7)} {i:Nat} {ids:List Int} {i' k':Nat} {e:Int},KR B i ids ls=some (i',(k',e))->e≠0
 | [],_,_,_,_,_,h=>by cases h
 | rs::ls,i,ids,i',k',e,h=>by
  unfold KR at h;by_cases hk:rs.length>2
  ·rw [if_pos hk] at h;cases h;decide
  ·rw [if_neg hk] at h;cases hr:KQ (B4 B i) 0 ids rs with
   | none=>rw [hr] at h;exact RU h
   | some x=>rw [hr] at h;cases h;exact WG hr
def PL (ids:List Int):List (Int×Bool):=ids.map λi=>(i,true)
theorem Ze (ids:List Int) (i:Int):PG (IE (λa b=>Bm a b) (PL ids) i) false=decide (i∈ids):=by
 induction ids with
 | nil=>rfl
 | cons j ids ih =>
  show PG (bif Bm i j then some true else IE (λa b=>Bm a b) (PL ids) i) false=_
  rw [EN];by_cases h:i=j
  ·simp [h,PG]
  ·simp only [h,decide_false,cond_false,List.mem_cons,false_or];exact ih
theorem Zf {ids:List Int} {i:Int} (h:i ∉ ids):HW (λa b=>Bm a b) (PL ids) i true=PL (ids++[i]):=by
 induction ids with
 | nil=>rfl
 | cons j ids ih =>
  show (bif Bm i j then (i,true)::PL ids else (j,true)::HW (λa b=>Bm a b) (PL ids) i true)=_
  rw [EN];have h1 : ¬ i=j:=λe=>h (by simp [e]);rw [ih (λe=>h (by simp [e]))];simp only [h1,decide_false,cond_false];rfl
theorem MA (r:A7) (hl:r.2.length<=9223372036854775807):Ew r=some (if r.1<1\/r.1>1000000 then (-1,7) else DT r.2):=by
 unfold Ew;rw [BD,Ax,Eg _ hl,AD];by_cases h:r.1<1
 ·rw [if_pos h,if_pos (.inl h)]
 ·rw [if_neg h];by_cases h2:r.1>1000000
  ·rw [if_pos h2,if_pos (.inr h2)]
  ·rw [if_neg h2,if_neg (by omega)]
theorem QC (r:A7) (most:Int) (hl:r.2.length<=9223372036854775807):Cs (r,most)=some (kR [] most r):=by
 unfold Cs kR;rw [MA r hl,AD];simp only [AU,AP];by_cases h:r.1<1\/r.1>1000000
 ·rw [if_pos h,if_pos h];rfl
 ·rw [if_neg h,if_neg h,AR];by_cases h2:(DT r.2).2=0
  ·rw [if_pos h2,if_neg (by simp [h2]),CP,Ax]
   repeat' split
   all_goals first | rfl | (exfalso;omega) | simp_all
  ·rw [if_neg h2,if_pos h2]
theorem ij (ids:List Int) (most:Int) (r:A7):kR ids most r=if kR [] most r=0 then (if r.1∈ids then 8 else 0) else kR [] most r:=by
 unfold kR
 repeat' split
 all_goals simp_all
theorem ik (i:Nat) (h:i<=12):(2:Int) ^ i<=4096/\1<=(2:Int) ^ i:=by
 have h1:(2:Nat) ^ i<=2 ^ 12:=Nat.pow_le_pow_right (by omega) h;have h2:1<=(2:Nat) ^ i:=Nat.one_le_two_pow;have h3:((2 ^ i:Nat):Int)=(2:Int) ^ i:=by simp
 omega
theorem Sw {B:Int} {i:Nat} (h1:1<=B) (h2:B<=16) (hi:i<=12):1<=B4 B i/\B4 B i<=65536:=by
 obtain ⟨h3,h4⟩:=ik i hi;unfold B4;constructor
 ·have:=Int.mul_le_mul h1 h4 (by omega) (by omega);omega
 ·have:=Int.mul_le_mul h2 h3 (by omega) (by omega);omega
theorem QD {B:Int} {i:Nat} (h1:1<=B) (h2:B<=16) (hi:i<=12):Tj .i64 B (i:Int)=B4 B i:=by
 have h3:=Sw h1 h2 hi;unfold Tj;rw [show min ((i:Int).toNat) IntKind.i64.bits=i by rw [Int.toNat_natCast];exact Nat.min_eq_left (Nat.le_trans hi (by decide))];unfold B4 at h3 ⊢;exact IntWalk.i64_in _ (by omega)
def Q1:Option (Nat×(Nat×Int))->Int->Int->Int->Prop
 | some (i,(k,e)),a,b,c=>a=(k:Int)/\b=(i:Int)/\c=e
 | none,_,_,c=>c=0
def Q2 (m:List (Int×Bool)):Option (Nat×Int)->Nat->Int->Int->List (Int×Bool)->Prop
 | some (k,e),r,a,c,_=>r=0/\a=(k:Int)/\c=e
 | none,r,_,c,m'=>r=1/\c=0/\m'=m
theorem LI (L:AO) (hb:L.2.length<=1048576) (hr : ∀ rs∈L.2,rs.length<=1048576 /\ ∀ r∈rs,r.2.length<=9223372036854775807):C5 L=some (EV L):=by
 unfold C5 EV;simp only [AU,AP];rw [BD,Ax,Ax];by_cases hB1:L.1<1
 ·rw [if_pos hB1,if_pos (.inl hB1)]
 rw [if_neg hB1];by_cases hB2:L.1>16
 ·rw [if_pos hB2,if_pos (.inr hB2)]
 rw [if_neg hB2,if_neg (show ¬ (L.1<1\/L.1>16) by omega)];by_cases hl:(L.2.length:Int)>12
 ·rw [if_pos hl,if_pos (by omega)]
 rw [if_neg hl,if_neg (by omega)];have hl2:L.2.length<=12:=by omega
 obtain ⟨T,hT⟩ : ∃ T,T=KR L.1 0 [] L.2:=⟨_,rfl⟩;rw [<- hT]
 have hlast : ∀ r2:Int,r2=0->T=none->(br (Ao r2 0) (λ_=>(none:Option (Int×(Int×Int)))) λ_=>br (Bz (L.2.length:Int) 0) (λ_=>AS (BJ .i64 (L.2.length:Int) 1) λk15=>ix L.2 k15 λx16=>br (Bm (x16.length:Int) 0) (λ_=>some ((BJ .i64 (L.2.length:Int) 1,(0,6)))) λ_=>some ((0,(0,0)))) λ_=>some ((0,(0,0))))=some (if L.2.getLast? = some [] then (((L.2.length-1:Nat):Int),(0,6)) else (0,(0,0))):=by
  intro r2 h0 _;rw [AR,if_pos h0,Ax];by_cases hn:L.2=[]
  ·rw [hn];rfl
  ·have hp:=List.length_pos_iff.2 hn;rw [if_pos (by omega),show BJ .i64 (L.2.length:Int) 1=((L.2.length-1:Nat):Int) by rw [Bl (by omega)];omega,AE,List.getLast?_eq_getElem?];have hx:L.2[L.2.length-1]? = some (L.2[L.2.length-1]'(by omega)):=by simp
   rw [AK hx,hx,CP];by_cases he:L.2[L.2.length-1]'(by omega)=[]
   ·rw [he];simp
   ·rw [if_neg (by have:=List.length_pos_iff.2 he;omega),if_neg (by simp [he])]
 obtain ⟨r,q1,q2⟩:=E9 (l:=L.2) (σ:=Int×(Int×List Int)) (λi st=>(st.1,(st.2.1,((0:Int),((i:Int),PL st.2.2)))))
  (λm i st=>KR L.1 i st.2.2 m=T) (λ(r:Nat×((Int×(Int×(Int×(Int×List (Int×Bool)))))×Unit))=>Q1 T r.2.1.1 r.2.1.2.1 r.2.1.2.2.1)
  (f:=λs0=>br (Ah s0.2.2.2.1 (L.2.length:Int)) (λ_=>AS s0.2.2.2.1 λk1=>ix L.2 k1 λx2=>br (Bz (x2.length:Int) 2) (λ_=>some (.dn ((0,((0,(s0.2.2.2.1,(3,s0.2.2.2))),()))))) λ_=>bd (loop (λs3=>br (Ah s3.2.1 (x2.length:Int)) (λ_=>AS s3.2.1 λk4=>ix x2 k4 λx5=>gd (Hz s0.2.2.2.1 0) λ_=>bd (Cs (x5,Tj .i64 L.1 s0.2.2.2.1)) λr6=>br (Bm r6 0) (λ_=>br (PG (IE ((λa7=>(λa8=>Bm a7 a8))) s3.2.2.2 x5.1) false) (λ_=>some (.dn ((0,((s3.2.1,(s3.2.1,(8,s3.2.2.2))),()))))) λ_=>br (Ao r6 0) (λ_=>some (.dn ((0,((s3.2.1,(s3.2.1,(r6,s3.2.2.2))),()))))) λ_=>some (.nx ((s3.2.1,(AH .i64 s3.2.1 1,(r6,HW ((λa9=>(λa10=>Bm a9 a10))) s3.2.2.2 x5.1 true)))))) λ_=>br (Ao r6 0) (λ_=>some (.dn ((0,((s3.2.1,(s3.2.1,(r6,s3.2.2.2))),()))))) λ_=>some (.nx ((s3.2.1,(AH .i64 s3.2.1 1,(r6,HW ((λa11=>(λa12=>Bm a11 a12))) s3.2.2.2 x5.1 true)))))) λ_=>some (.dn ((1,(s3,()))))) ((0,(0,(s0.2.2.1,s0.2.2.2.2))))) λr13=>br (neq r13.1 0) (λ_=>some (.dn ((0,((r13.2.1.1,(s0.2.2.2.1,(r13.2.1.2.2.1,(s0.2.2.2.1,r13.2.1.2.2.2)))),()))))) λ_=>some (.nx ((r13.2.1.1,(s0.2.2.2.1,(r13.2.1.2.2.1,(AH .i64 s0.2.2.2.1 1,r13.2.1.2.2.2))))))) λ_=>some (.dn ((0,(s0,())))))
  (s:=(0,(0,(0,(0,[]))))) (0,(0,[])) rfl (by omega) hT.symm (λst h=>by
   refine ⟨_,by simp only;rw [re];rfl,?_⟩;simp only at h ⊢;rw [<- h];exact rfl) (λi rs m st hd hx hi h=>by
   obtain ⟨s1,s2,ids⟩:=st;simp only at h ⊢;obtain ⟨hrs1,hrs2⟩:=hr rs (List.mem_of_getElem? hx);rw [rl hi,AN,AE,AK hx,Ax];unfold KR at h;by_cases h3:rs.length>2
   ·rw [if_pos (by omega)];rw [if_pos h3] at h;refine .inr ⟨_,rfl,?_⟩;rw [<- h];exact ⟨rfl,rfl,rfl⟩
   rw [if_neg (by omega)];rw [if_neg h3] at h;obtain ⟨U,hU⟩ : ∃ U,U=KQ (B4 L.1 i) 0 ids rs:=⟨_,rfl⟩;rw [<- hU] at h
   obtain ⟨r,q1,q2⟩:=E9 (l:=rs) (σ:=Int) (λk st=>(st,((k:Int),((0:Int),PL (ids++(rs.take k).map (·.1))))))
    (λm k _=>KQ (B4 L.1 i) k (ids++(rs.take k).map (·.1)) m=U) (λ(r:Nat×((Int×(Int×(Int×List (Int×Bool))))×Unit))=>Q2 (PL (ids++rs.map (·.1))) U r.1 r.2.1.1 r.2.1.2.2.1 r.2.1.2.2.2)
    (f:=λs3=>br (Ah s3.2.1 (rs.length:Int)) (λ_=>AS s3.2.1 λk4=>ix rs k4 λx5=>gd (Hz (i:Int) 0) λ_=>bd (Cs (x5,Tj .i64 L.1 (i:Int))) λr6=>br (Bm r6 0) (λ_=>br (PG (IE ((λa7=>(λa8=>Bm a7 a8))) s3.2.2.2 x5.1) false) (λ_=>some (.dn ((0,((s3.2.1,(s3.2.1,(8,s3.2.2.2))),()))))) λ_=>br (Ao r6 0) (λ_=>some (.dn ((0,((s3.2.1,(s3.2.1,(r6,s3.2.2.2))),()))))) λ_=>some (.nx ((s3.2.1,(AH .i64 s3.2.1 1,(r6,HW ((λa9=>(λa10=>Bm a9 a10))) s3.2.2.2 x5.1 true)))))) λ_=>br (Ao r6 0) (λ_=>some (.dn ((0,((s3.2.1,(s3.2.1,(r6,s3.2.2.2))),()))))) λ_=>some (.nx ((s3.2.1,(AH .i64 s3.2.1 1,(r6,HW ((λa11=>(λa12=>Bm a11 a12))) s3.2.2.2 x5.1 true)))))) λ_=>some (.dn ((1,(s3,())))))
    (s:=(0,(0,(0,PL ids)))) 0 (by simp) (by omega) (by simp [hU]) (λst h=>by
     refine ⟨_,by simp only;rw [re];rfl,?_⟩;rw [<- h];exact ⟨rfl,rfl,by simp⟩) (λk r m st hd hx hk h=>by
     simp only at h ⊢;have hr2:=hrs2 r (List.mem_of_getElem? hx);have htk:(rs.take (k+1)).map (·.1)=(rs.take k).map (·.1)++[r.1]:=by rw [List.take_add_one,hx];simp
     rw [rl hk,AN,AE,AK hx,show gd (Hz (i:Int) 0)=λ(q:Unit->Option (LR (Int×(Int×(Int×List (Int×Bool)))) (Nat×((Int×(Int×(Int×List (Int×Bool))))×Unit))))=>q () from by unfold Hz;simp [gd];rfl,QD (by omega) (by omega) (by omega)];simp only;rw [QC _ _ (by omega),AD,CP,Ze,AR];unfold KQ at h;rw [ij] at h;by_cases h0:kR [] (B4 L.1 i) r=0
     ·rw [if_pos h0] at h;rw [if_pos h0,if_pos h0,Cm];by_cases hm:r.1∈ids++(rs.take k).map (·.1)
      ·rw [if_pos hm];rw [if_pos hm,if_pos (by decide)] at h;refine .inr ⟨_,rfl,?_⟩;rw [<- h];exact ⟨rfl,rfl,rfl⟩
      ·rw [if_neg hm];rw [if_neg hm,if_neg (by decide)] at h;refine .inl ⟨(k:Int),?_,?_⟩
       ·rw [Zf hm,h0,A1 hx (by omega),htk,List.append_assoc]
       ·rw [htk,<- List.append_assoc];exact h
     ·rw [if_neg h0,if_pos h0] at h;rw [if_neg h0,if_neg h0];refine .inr ⟨_,rfl,?_⟩;rw [<- h]
      exact ⟨rfl,rfl,rfl⟩)
   rw [q1,AD,CO];cases hUc:U with
   | some u =>
    obtain ⟨k,e⟩:=u;rw [hUc] at q2 h;rw [if_pos q2.1];refine .inr ⟨_,rfl,?_⟩;rw [<- h];exact ⟨q2.2.1,rfl,q2.2.2⟩
   | none =>
    rw [hUc] at q2 h;rw [if_neg (show ¬ r.1=0 by have:=q2.1;omega)];refine .inl ⟨(r.2.1.1,((i:Int),ids++rs.map (·.1))),?_,h⟩
    rw [q2.2.1,q2.2.2,A1 hx (by omega)])
 refine BG q1 ?_;cases hTc:T with
 | some t =>
  obtain ⟨i,k,e⟩:=t;rw [hTc] at q2 hT;rw [AR,if_neg (by rw [q2.2.2];exact RU hT.symm),q2.1,q2.2.1,q2.2.2]
 | none =>
  rw [hTc] at q2;have h:=hlast _ q2 hTc;have q3:r.2.1.2.2.1=0:=q2;rw [AR,if_pos q3] at h ⊢;exact h
end Go.Proofs.YthpkjfabdccpdaaGreat.Pl
namespace Go.Proofs.YthpkjfabdccpdaaGreat.Pl
open Go Go.Proofs.YthpkjfabdccpdaaGreat.Sv
structure VR (most:Int) (r:A7):Prop where
 id1:1<=r.1
 id2:r.1<=1000000
 vl:VL r.2
 ne:r.2≠[]
 le:(r.2.length:Int)<=most
theorem WH {ids:List Int} {most:Int} {r:A7}:kR ids most r=0<->VR most r/\r.1 ∉ ids:=by
 unfold kR;constructor
 ·intro h;by_cases h1:r.1<1\/r.1>1000000
  ·rw [if_pos h1] at h;cases h
  rw [if_neg h1] at h;by_cases h2:(DT r.2).2≠0
  ·rw [if_pos h2] at h;exact absurd h h2
  rw [if_neg h2] at h;by_cases h3:r.2.length=0
  ·rw [if_pos h3] at h;cases h
  rw [if_neg h3] at h;by_cases h4:(r.2.length:Int)>most
  ·rw [if_pos h4] at h;cases h
  rw [if_neg h4] at h;by_cases h5:r.1∈ids
  ·rw [if_pos h5] at h;cases h
  exact ⟨⟨by omega,by omega,KK.1 (by simpa using h2),by intro e;rw [e] at h3;exact h3 rfl,by omega⟩,h5⟩
 ·rintro ⟨h,h5⟩;rw [if_neg (by have:=h.id1;have:=h.id2;omega),if_neg (by simp [KK.2 h.vl]),if_neg (by have:=List.length_pos_iff.2 h.ne;omega),if_neg (by have:=h.le;omega),if_neg h5]
def gw (r:A7):Int:=r.1
theorem M4 {most:Int} : ∀ {rs:List A7} {k:Nat} {ids:List Int},KQ most k ids rs=none<->(∀ r∈rs,VR most r/\r.1 ∉ ids)/\(rs.map gw).Nodup
 | [],k,ids=>by simp [KQ]
 | r::rs,k,ids=>by
  unfold KQ;by_cases h:kR ids most r=0
  ·rw [if_neg (by simp [h]),M4 (rs:=rs)];have h1:=WH.1 h;simp only [List.mem_cons,forall_eq_or_imp,List.map_cons,List.nodup_cons,List.mem_append,List.not_mem_nil,or_false,List.mem_map,not_exists,not_and,not_or];constructor
   ·rintro ⟨h2,h3⟩;exact ⟨⟨h1,λx hx=>⟨(h2 x hx).1,(h2 x hx).2.1⟩⟩,λx hx e=>(h2 x hx).2.2 e,h3⟩
   ·rintro ⟨⟨_,h2⟩,h3,h4⟩;exact ⟨λx hx=>⟨(h2 x hx).1,(h2 x hx).2,h3 x hx⟩,h4⟩
  ·rw [if_pos h];simp only [reduceCtorEq,false_iff,not_and];intro h2;exact absurd (WH.2 (h2 r (by simp))) h
theorem KO {B:Int} : ∀ {ls:List (List A7)} {i:Nat} {ids:List Int},KR B i ids ls=none<->(∀ k rs,ls[k]? = some rs->rs.length<=2 /\ ∀ r∈rs,VR (B4 B (i+k)) r/\r.1 ∉ ids)/\(ls.flatten.map gw).Nodup
 | [],i,ids=>by simp [KR]
 | rs::ls,i,ids=>by
  unfold KR;by_cases h:rs.length>2
  ·rw [if_pos h];simp only [reduceCtorEq,false_iff,not_and];intro h2;have:=(h2 0 rs rfl).1;omega
  ·rw [if_neg h];cases hr:KQ (B4 B i) 0 ids rs with
   | some x =>
    simp only [reduceCtorEq,false_iff,not_and];intro h2 h3
    have h4:KQ (B4 B i) 0 ids rs=none:=M4.2 ⟨(h2 0 rs rfl).2,by
     simp only [List.flatten_cons,List.map_append] at h3
     exact (List.nodup_append.1 h3).1⟩
    rw [hr] at h4;cases h4
   | none =>
    have h1:=M4.1 hr;simp only;rw [KO (ls:=ls)];simp only [List.flatten_cons,List.map_append,List.mem_append,not_or,List.mem_map];constructor
    ·rintro ⟨h2,h3⟩;refine ⟨λk rs' hk => ?_,?_⟩
     ·cases k with
      | zero=>cases hk;exact ⟨by omega,h1.1⟩
      | succ k =>
       have h4:=h2 k rs' hk
       exact ⟨h4.1,λr hr=>by
        have:=h4.2 r hr;rw [show i+(k+1)=i+1+k by omega]
        exact ⟨this.1,this.2.1⟩⟩
     ·rw [List.nodup_append];refine ⟨h1.2,h3,?_⟩;intro a ha b hb e;subst e;obtain ⟨r,hr,e1⟩:=List.mem_map.1 ha;obtain ⟨r',hr',e2⟩:=List.mem_map.1 hb;obtain ⟨rs',hrs,hr'⟩:=List.mem_flatten.1 hr';obtain ⟨k,hk⟩:=List.getElem?_of_mem hrs;exact ((h2 k rs' hk).2 r' hr').2.2 ⟨r,hr,by unfold gw at e1 e2;omega⟩
    ·rintro ⟨h2,h3⟩;rw [List.nodup_append] at h3;refine ⟨λk rs' hk => ?_,h3.2.1⟩;have h4:=h2 (k+1) rs' hk;refine ⟨h4.1,λr hr => ?_⟩;have:=h4.2 r hr;rw [show i+(k+1)=i+1+k by omega] at this;refine ⟨this.1,this.2,?_⟩;rintro ⟨r',hr',e⟩;exact h3.2.2 (gw r') (List.mem_map_of_mem hr') (gw r) (List.mem_map_of_mem (List.mem_flatten.2 ⟨rs',List.mem_of_getElem? hk,hr⟩)) e
structure VLev (L:AO):Prop where
 B1:1<=L.1
 B2:L.1<=16
 len:L.2.length<=12
 lev : ∀ i rs,L.2[i]? = some rs->rs.length<=2 /\ ∀ r∈rs,VR (B4 L.1 i) r
 ids:(L.2.flatten.map gw).Nodup
 last:L.2.getLast? ≠ some []
theorem Ho {L:AO}:(EV L).2.2=0<->VLev L:=by
 unfold EV;constructor
 ·intro h;by_cases h1:L.1<1\/L.1>16
  ·rw [if_pos h1] at h;cases h
  rw [if_neg h1] at h;by_cases h2:L.2.length>12
  ·rw [if_pos h2] at h;cases h
  rw [if_neg h2] at h;cases hg:KR L.1 0 [] L.2 with
  | some x =>
   obtain ⟨i,k,e⟩:=x;rw [hg] at h;exact absurd h (RU hg)
  | none =>
   rw [hg] at h;simp only at h;by_cases h3:L.2.getLast? = some []
   ·rw [if_pos h3] at h;cases h
   ·have h4:=KO.1 hg
    exact ⟨by omega,by omega,by omega,λi rs hi=>by
     have:=h4.1 i rs hi;rw [Nat.zero_add] at this
     exact ⟨this.1,λr hr=>(this.2 r hr).1⟩,h4.2,h3⟩
 ·intro h
  have hg:KR L.1 0 [] L.2=none:=KO.2 ⟨λk rs hk=>by
   have:=h.lev k rs hk;rw [Nat.zero_add]
   exact ⟨this.1,λr hr=>⟨this.2 r hr,by simp⟩⟩,h.ids⟩
  rw [if_neg (by have:=h.B1;have:=h.B2;omega),if_neg (by have:=h.len;omega),hg];simp only;rw [if_neg h.last]
theorem G5 {L:AO} (h:VLev L):EV L=(0,(0,0)):=by
 have hg:KR L.1 0 [] L.2=none:=KO.2 ⟨λk rs hk=>by
  have:=h.lev k rs hk;rw [Nat.zero_add]
  exact ⟨this.1,λr hr=>⟨this.2 r hr,by simp⟩⟩,h.ids⟩
 unfold EV;rw [if_neg (by have:=h.B1;have:=h.B2;omega),if_neg (by have:=h.len;omega),hg];simp only;rw [if_neg h.last]
def E1 (l:List (List A7)):Int:=l.foldl (λm rs=>rs.foldl (λm r=>J6 m r.1) m) 0
def Bx:Nat->List (List A7)->List Int
 | _,[]=>[]
 | i,rs::ls=>(if rs.length=2 then [(i:Int)] else [])++Bx (i+1) ls
theorem Sx (L:AO) (hb:L.2.length<=1048576) (hr : ∀ rs∈L.2,rs.length<=1048576):D9 L=some (E1 L.2):=by
 unfold D9;simp only [AU,AP]
 rw [ED (l:=L.2) (σ:=Int) (s:=((0:Int),(0:Int))) (λi m=>(m,(i:Int))) (λ_ _ _=>True) (λls _ m=>(0,((ls.foldl (λm rs=>rs.foldl (λm r=>J6 m r.1) m) m,(L.2.length:Int)),()))) 0 rfl (by omega) trivial (λm _=>by
  simp only;rw [re];rfl) (λi rs ls m hd hx hi _=>by
   refine ⟨rs.foldl (λm r=>J6 m r.1) m,?_,trivial,rfl⟩;have h1:=hr rs (List.mem_of_getElem? hx);simp only
   rw [rl hi,AN,AE,AK hx,ED (l:=rs) (σ:=Int) (s:=((0:Int),m)) (λi m=>((i:Int),m)) (λ_ _ _=>True) (λl _ m=>(0,(((rs.length:Int),l.foldl (λm r=>J6 m r.1) m),()))) m rfl (by omega) trivial (λm _=>by
    simp only;rw [re];rfl) (λk r l m hd hx hk _=>by
     refine ⟨J6 m r.1,?_,trivial,rfl⟩;simp only
     rw [rl hk,AN,AE,AK hx,A1 hx (by omega)]),AD,A1 hx (by omega)]),AD]
 rfl
def KS (L:AO) (due:List Int) (i:Nat) (j:IM):Bool:=match due[i]? with
 | none=>true
 | some d=>if j.1≠d then true else if j.2.2.1.2.2=true/\j.1≠(L.2.length:Int)-1 then true else match L.2[d.toNat]? with
  | some [r0,r1]=>if j.2.2.2.2<0\/j.2.2.2.2>((r1.2.length+r0.2.length:Nat):Int) then true else decide (EU r1.2 r0.2 j.2.2.1.2.2 j.2.2.2.2.toNat≠j.2)
  | _=>true
def FX (L:AO) (due:List Int):Nat->List IM->Option Nat
 | _,[]=>none
 | i,j::js=>if KS L due i j=true then some i else FX L due (i+1) js
def Br (s:BL):Int×Int :=
 if (EV s.1).2.2≠0 then (-1,(EV s.1).2.2) else if s.2.2<1\/s.2.2>1000001 then (-1,7) else if s.2.2<=E1 s.1.2 then (-1,6) else match FX s.1 (Bx 0 s.1.2) 0 s.2.1 with
  | some i=>((i:Int),6)
  | none=>if s.2.1.length<(Bx 0 s.1.2).length then (-1,4) else (0,0)
theorem HC : ∀ {ls:List (List A7)} {i k:Nat} {d:Int},(Bx i ls)[k]? = some d -> ∃ n:Nat,d=((i+n:Nat):Int) /\ ∃ r0 r1,ls[n]? = some [r0,r1]
 | [],i,k,d,h=>by cases h
 | rs::ls,i,k,d,h=>by
  unfold Bx at h;by_cases h2:rs.length=2
  ·rw [if_pos h2] at h;cases k with
   | zero =>
    simp at h;refine ⟨0,by simp [<- h],?_⟩
    match rs,h2 with
    | [r0,r1],_=>exact ⟨r0,r1,rfl⟩
   | succ k =>
    simp at h;obtain ⟨n,h3,h4⟩:=HC h;exact ⟨n+1,by rw [h3];congr 1;omega,h4⟩
  ·rw [if_neg h2] at h;simp at h;obtain ⟨n,h3,h4⟩:=HC h;exact ⟨n+1,by rw [h3];congr 1;omega,h4⟩
theorem GX : ∀ (ls:List (List A7)) (i:Nat),(Bx i ls).length<=ls.length
 | [],i=>Nat.le_refl _
 | rs::ls,i=>by
  have:=GX ls (i+1);unfold Bx;split<;>simp<;>omega
theorem Sy {L:AO} {n:Nat} {r0 r1:A7} (bt:Bool) (h:L.2[n]? = some [r0,r1]) (v0:VL r0.2) (v1:VL r1.2):CV (L,((n:Int),bt))=some ((n:Int),EU r1.2 r0.2 bt 0):=by
 unfold CV;simp only;rw [AE,AK h,AK (x:=r1) rfl,AK (x:=r0) rfl,XE v1 v0];rfl
theorem QE {a b:List AB} (va:VL a) (vb:VL b) (bt:Bool) {n:Nat} (h:n<=a.length+b.length):(EU a b bt n).1.1.length<=1000/\(∀ l∈(EU a b bt n).1.1,l.length<=1000000)/\(EU a b bt n).1.2.1.length<=1000/\(EU a b bt n).1.2.2.1.length<=1000/\(EU a b bt n).1.2.2.2.1.length<=1000/\(EU a b bt n).2.2.1.length<=1000000:=by
 have la:=va.len;have lb:=vb.len;refine ⟨show 2<=1000 by omega,λl hl => ?_,show 2<=1000 by omega,show 2<=1000 by omega,show 2<=1000 by omega,?_⟩
 ·have:l=a\/l=b:=by simpa [EU,LH,LO] using hl
  rcases this with e | e<;>subst e<;>omega
 ·have h1:=IQ (s0 bt) (Az a b n);have h2:=Ch va vb h;show (FD (s0 bt) (Az a b n)).length<=_;omega
theorem il {L:AO} {n:Nat} {r0 r1:A7} {j:IM} (h:L.2[n]? = some [r0,r1]) (v0:VL r0.2) (v1:VL r1.2) {β:Type} (A B:Option β) :
  (bd (CV (L,((n:Int),j.2.2.1.2.2))) λr16=>bd (Bt r16.2) λr17=>br (Ah j.2.2.2.2 0) (λ_=>A) λ_=>br (Bz j.2.2.2.2 r17.1) (λ_=>A) λ_=>bd (CW (r16.2,j.2.2.2.2)) λr18=>bd (DL (r18.1,j.2)) λr19=>br (AZ r19) (λ_=>A) λ_=>B)
  = if j.2.2.2.2<0\/j.2.2.2.2>((r1.2.length+r0.2.length:Nat):Int) then A else if EU r1.2 r0.2 j.2.2.1.2.2 j.2.2.2.2.toNat=j.2 then B else A:=by
 rw [Sy _ h v0 v1,AD,Mz v1 v0 _ (Nat.zero_le _),AD,BD,Ax,Nat.sub_zero];by_cases h1:j.2.2.2.2<0
 ·rw [if_pos h1,if_pos (.inl h1)]
 rw [if_neg h1];by_cases h2:j.2.2.2.2>((r1.2.length+r0.2.length:Nat):Int)
 ·rw [if_pos h2,if_pos (.inr h2)]
 rw [if_neg h2,if_neg (show ¬ (j.2.2.2.2<0\/j.2.2.2.2>((r1.2.length+r0.2.length:Nat):Int)) by omega)];obtain ⟨k,hk⟩ : ∃ k:Nat,j.2.2.2.2=(k:Int):=⟨j.2.2.2.2.toNat,by omega⟩;rw [hk,XL v1 v0 _ (Nat.zero_le _),AD,Nat.sub_zero,Nat.zero_add,Nat.min_eq_left (by omega),Int.toNat_natCast];obtain ⟨s1,s2,s3,s4,s5,s6⟩:=QE v1 v0 j.2.2.1.2.2 (n:=k) (by omega);rw [Su _ _ s1 s2 s3 s4 s5 s6,AD,CX,Cm];by_cases he:EU r1.2 r0.2 j.2.2.1.2.2 k=j.2
 ·rw [if_neg (by simp [he]),if_pos he]
 ·rw [if_pos he,if_neg he]
theorem Uj (s:BL) (hb:s.1.2.length<=1048576) (hr : ∀ rs∈s.1.2,rs.length<=1048576 /\ ∀ r∈rs,r.2.length<=9223372036854775807) (hj:s.2.1.length<=1048576):Bw s=some (Br s):=by
 unfold Bw Br;simp only [AU,AP];rw [LI _ hb hr,AD,AR];by_cases h0:(EV s.1).2.2=0;rotate_left
 ·rw [if_neg h0,if_pos h0]
 rw [if_pos h0,if_neg (by simp [h0]),BD,Ax,Sx _ hb (λrs h=>(hr rs h).1),AD];have v:=Ho.1 h0;by_cases h1:s.2.2<1
 ·rw [if_pos h1,if_pos (.inl h1)]
 rw [if_neg h1];by_cases h2:s.2.2>1000001
 ·rw [if_pos h2,if_pos (.inr h2)]
 rw [if_neg h2,if_neg (show ¬ (s.2.2<1\/s.2.2>1000001) by omega),gr];by_cases h3:s.2.2<=E1 s.1.2
 ·rw [if_pos h3,if_pos h3]
 rw [if_neg h3,if_neg h3]
 rw [ED (l:=s.1.2) (σ:=List Int) (s:=((0:Int),([]:List Int))) (λi m=>((i:Int),m)) (λls i m=>m++Bx i ls=Bx 0 s.1.2) (λ_ _ _=>(0,(((s.1.2.length:Int),Bx 0 s.1.2),()))) [] rfl (by omega) rfl (λm h=>by
  simp only;rw [re,Ag,<- h];simp [Bx]) (λi rs ls m hd hx hi h=>by
   refine ⟨m++(if rs.length=2 then [(i:Int)] else []),?_,?_,rfl⟩
   ·simp only;rw [rl hi,AN,AE,AK hx,CP]
    have hm:m.length<=1048575:=by
     have h4:=congrArg List.length h;have h5:=GX s.1.2 0;have h6:=v.len;rw [List.length_append] at h4;omega
    by_cases h4:rs.length=2
    ·rw [if_pos (by omega),if_pos h4,BU (by simp only [AJ,AA,List.length_cons,List.length_nil];omega),A1 hx (by omega)];rfl
    ·rw [if_neg (by omega),if_neg h4,List.append_nil,A1 hx (by omega)]
   ·rw [List.append_assoc];exact h),AD]
 simp only;obtain ⟨due,hdue⟩ : ∃ due,due=Bx 0 s.1.2:=⟨_,rfl⟩;have hdl:due.length<=12:=by have:=GX s.1.2 0;have:=v.len;rw [hdue];omega
 rw [<- hdue];obtain ⟨T,hT⟩ : ∃ T,T=FX s.1 due 0 s.2.1:=⟨_,rfl⟩;rw [<- hT]
 obtain ⟨r,q1,q2⟩:=E9 (l:=s.2.1) (σ:=Unit) (λi _=>((0:Int),((0:Int),(i:Int)))) (λjs i _=>FX s.1 due i js=T) (λ(r:Nat×((Int×(Int×Int))×Unit))=>(T=none/\r.1=1)\/(∃ i:Nat,T=some i/\r.1=0/\r.2.1.1=6/\r.2.1.2.1=(i:Int)))
  (f:=λs6=>br (Ah s6.2.2 (s.2.1.length:Int)) (λ_=>AS s6.2.2 λk7=>ix s.2.1 k7 λx8=>br (Hz s6.2.2 (due.length:Int)) (λ_=>some (.dn ((0,((6,(s6.2.2,s6.2.2)),()))))) λ_=>AS s6.2.2 λk9=>gd (B6 k9 due.length) λ_=>ix due k9 λx10=>br (Ao x8.1 x10) (λ_=>some (.dn ((0,((6,(s6.2.2,s6.2.2)),()))))) λ_=>br x8.2.2.1.2.2 (λ_=>bd (Ct (s.1,x8.1)) λr11=>br (AZ r11) (λ_=>some (.dn ((0,((6,(s6.2.2,s6.2.2)),()))))) λ_=>bd (CV ((s.1,(x8.1,x8.2.2.1.2.2)))) λr12=>bd (Bt r12.2) λr13=>br (Ah x8.2.2.2.2 0) (λ_=>some (.dn ((0,((6,(s6.2.2,s6.2.2)),()))))) λ_=>br (Bz x8.2.2.2.2 r13.1) (λ_=>some (.dn ((0,((6,(s6.2.2,s6.2.2)),()))))) λ_=>bd (CW (r12.2,x8.2.2.2.2)) λr14=>bd (DL (r14.1,x8.2)) λr15=>br (AZ r15) (λ_=>some (.dn ((0,((6,(s6.2.2,s6.2.2)),()))))) λ_=>some (.nx ((s6.1,(s6.2.1,AH .i64 s6.2.2 1))))) λ_=>bd (CV ((s.1,(x8.1,x8.2.2.1.2.2)))) λr16=>bd (Bt r16.2) λr17=>br (Ah x8.2.2.2.2 0) (λ_=>some (.dn ((0,((6,(s6.2.2,s6.2.2)),()))))) λ_=>br (Bz x8.2.2.2.2 r17.1) (λ_=>some (.dn ((0,((6,(s6.2.2,s6.2.2)),()))))) λ_=>bd (CW (r16.2,x8.2.2.2.2)) λr18=>bd (DL (r18.1,x8.2)) λr19=>br (AZ r19) (λ_=>some (.dn ((0,((6,(s6.2.2,s6.2.2)),()))))) λ_=>some (.nx ((s6.1,(s6.2.1,AH .i64 s6.2.2 1))))) λ_=>some (.dn ((1,(s6,())))))
  (s:=(0,(0,0))) () rfl (by omega) hT.symm (λ_ h=>by
   refine ⟨_,by simp only;rw [re];rfl,.inl ⟨by rw [<- h];rfl,rfl⟩⟩) (λi j js _ hd hx hi h=>by
   simp only;rw [rl hi,AN,AE,AK hx,Fw];unfold FX at h
   have hbad:KS s.1 due i j=true -> ∃ r:Nat×((Int×(Int×Int))×Unit),(some (LR.dn ((0,((6,((i:Int),(i:Int))),()))):LR (Int×(Int×Int)) _))=some (.dn r)/\((T=none/\r.1=1)\/(∃ i:Nat,T=some i/\r.1=0/\r.2.1.1=6/\r.2.1.2.1=(i:Int))):=λhb=>by
    rw [if_pos hb] at h;exact ⟨_,rfl,.inr ⟨i,h.symm,rfl,rfl,rfl⟩⟩
   have hgood:KS s.1 due i j=false -> ∃ st':Unit,(some (LR.nx ((0:Int),((0:Int),AH .i64 (i:Int) 1))):Option (LR _ (Nat×((Int×(Int×Int))×Unit))))=some (.nx ((0:Int),((0:Int),((i+1:Nat):Int))))/\FX s.1 due (i+1) js=T:=λhg=>by
    rw [if_neg (by simp [hg])] at h;exact ⟨(),by rw [A1 hx (by omega)],h⟩
   by_cases h1:(i:Int)>=(due.length:Int)
   ·rw [if_pos h1];exact .inr (hbad (by unfold KS;rw [List.getElem?_eq_none (by omega)]))
   rw [if_neg h1,AE,Ms,if_pos (by omega)];have hd2:due[i]? = some (due[i]'(by omega)):=by simp
   rw [AK hd2,AR];obtain ⟨n,hn,r0,r1,hlv⟩:=HC (ls:=s.1.2) (i:=0) (k:=i) (d:=due[i]'(by omega)) (by rw [<- hdue];exact hd2);rw [Nat.zero_add] at hn
   have hE:KS s.1 due i j=(if j.1≠(due[i]'(by omega)) then true else if j.2.2.1.2.2=true/\j.1≠(s.1.2.length:Int)-1 then true else if j.2.2.2.2<0\/j.2.2.2.2>((r1.2.length+r0.2.length:Nat):Int) then true else decide (EU r1.2 r0.2 j.2.2.1.2.2 j.2.2.2.2.toNat≠j.2)):=by
    unfold KS;rw [hd2];simp only;rw [hn,Int.toNat_natCast,hlv]
   by_cases h2:j.1=(due[i]'(by omega));rotate_left
   ·rw [if_neg h2];exact .inr (hbad (by rw [hE,if_pos h2]))
   rw [if_pos h2];rw [if_neg (by simp [h2])] at hE;have hjn:j.1=(n:Int):=by rw [h2,hn]
   have hv:=(v.lev n _ hlv).2;have v0:=(hv r0 (by simp)).vl;have v1:=(hv r1 (by simp)).vl;have hlow:BJ .i64 (s.1.2.length:Int) 1=(s.1.2.length:Int)-1:=Bl (by omega);unfold Ct;simp only [AU,AP];rw [AD,hlow,EN,CX,Cm,hjn,il hlv v0 v1,Gp];rw [hjn] at hE;by_cases h3:j.2.2.1.2.2=true/\(n:Int)≠(s.1.2.length:Int)-1
   ·rw [if_pos h3.1,if_pos h3.2];exact .inr (hbad (by rw [hE,if_pos h3]))
   rw [if_neg h3] at hE
   have h4 : ∀ {γ:Type} (A B:γ),(if j.2.2.1.2.2=true then if ¬(n:Int)=(s.1.2.length:Int)-1 then A else B else B)=B:=by
    intro γ A B;by_cases h5:j.2.2.1.2.2=true
    ·rw [if_pos h5,if_neg (λh6=>h3 ⟨h5,h6⟩)]
    ·rw [if_neg h5]
   rw [h4];by_cases h5:j.2.2.2.2<0\/j.2.2.2.2>((r1.2.length+r0.2.length:Nat):Int)
   ·rw [if_pos h5];exact .inr (hbad (by rw [hE,if_pos h5]))
   rw [if_neg h5];rw [if_neg h5] at hE;by_cases h6:EU r1.2 r0.2 j.2.2.1.2.2 j.2.2.2.2.toNat=j.2
   ·rw [if_pos h6];exact .inl (hgood (by rw [hE];simp [h6]))
   ·rw [if_neg h6]
    exact .inr (hbad (by rw [hE];simp [h6])))
 rw [h0];refine BG q1 ?_;rw [CO];rcases q2 with ⟨q2,q3⟩ | ⟨i,q2,q3,q4,q5⟩
 ·rw [if_neg (show ¬ r.1=0 by omega),q2,BD];simp only;by_cases h7:s.2.1.length<due.length
  ·rw [if_pos (by omega),if_pos h7]
  ·rw [if_neg (by omega),if_neg h7]
 ·rw [if_pos q3,q2,q4,q5]
end Go.Proofs.YthpkjfabdccpdaaGreat.Pl
