/- Functions of the program and of the specification as plain functions, and laws about them. No condition. -/
import Derived.Test.YthpkjfabdccpdaaGreatPl0
set_option linter.all false
namespace Go.Proofs.YthpkjfabdccpdaaGreat.Pl
open Go Go.Proofs.YthpkjfabdccpdaaGreat.Sv
set_option linter.unusedVariables false
def D1 (x:(Int×Int)):Option Int :=
 bd (loop (λs0=>br (Ah s0.2 x.2) (λ_=>some (.nx (Kv .i64 2 s0.1,AH .i64 s0.2 1))) λ_=>some (.dn ((0,(s0,()))))) (x.1,0)) λr1=>some r1.2.1.1
def Cu (x:AB):Option Int :=
 br (Bz (AV (C2 x.1)) 32) (λ_=>some 3) λ_=>br (Bz (AV (C2 x.2.1)) 64) (λ_=>some 3) λ_=>br x.2.2.1 (λ_=>br (AZ (seq x.2.1 [])) (λ_=>some 6) λ_=>br (Ah x.2.2.2 1) (λ_=>some 7) λ_=>br (Bz x.2.2.2 1000000000) (λ_=>some 7) λ_=>some 0) λ_=>br (Ah x.2.2.2 1) (λ_=>some 7) λ_=>br (Bz x.2.2.2 1000000000) (λ_=>some 7) λ_=>some 0
def Ei (x:((List UInt8)×(List UInt8))):Option Int :=
 bd (loop (λs0=>br (Ah s0 (AV (C2 x.1))) (λ_=>br (Ah s0 (AV (C2 x.2))) (λ_=>AS s0 λk1=>ix x.1 k1 λx2=>AS s0 λk3=>ix x.2 k3 λx4=>br (Bm (SD x2) (SD x4)) (λ_=>some (.nx (AH .i64 s0 1))) λ_=>some (.dn ((0,(s0,()))))) λ_=>some (.dn ((0,(s0,()))))) λ_=>some (.dn ((0,(s0,()))))) 0) λr5=>some r5.2.1
def EH (x:((List UInt8)×(List UInt8))):Option Int :=
 bd (Ei x) λr0=>br (Bm r0 (AV (C2 x.1))) (λ_=>br (Bm r0 (AV (C2 x.2))) (λ_=>some 0) λ_=>br (Bm r0 (AV (C2 x.1))) (λ_=>some (-1)) λ_=>br (Ah r0 (AV (C2 x.2))) (λ_=>AS r0 λk1=>ix x.1 k1 λx2=>AS r0 λk3=>ix x.2 k3 λx4=>br (Ah (SD x2) (SD x4)) (λ_=>some (-1)) λ_=>some 1) λ_=>some 1) λ_=>br (Bm r0 (AV (C2 x.1))) (λ_=>some (-1)) λ_=>br (Ah r0 (AV (C2 x.2))) (λ_=>AS r0 λk5=>ix x.1 k5 λx6=>AS r0 λk7=>ix x.2 k7 λx8=>br (Ah (SD x6) (SD x8)) (λ_=>some (-1)) λ_=>some 1) λ_=>some 1
def Ci (x:(List AB)):Option (Int×Int) :=
 br (Bz (AV (AA x)) 5000) (λ_=>some (((-1),3))) λ_=>bd (loop (λs0=>br (Ah s0.2.2 (AV (AA x))) (λ_=>AS s0.2.2 λk1=>ix x k1 λx2=>bd (Cu x2) λr3=>br (Bm r3 0) (λ_=>br (Bz s0.2.2 0) (λ_=>AS (BJ .i64 s0.2.2 1) λk4=>ix x k4 λx5=>AS s0.2.2 λk6=>ix x k6 λx7=>bd (EH (x5.1,x7.1)) λr8=>br (Hz r8 0) (λ_=>some (.dn ((0,((6,(s0.2.2,s0.2.2)),()))))) λ_=>br (Ao r3 0) (λ_=>some (.dn ((0,((r3,(s0.2.2,s0.2.2)),()))))) λ_=>some (.nx ((s0.1,(s0.2.1,AH .i64 s0.2.2 1))))) λ_=>br (Ao r3 0) (λ_=>some (.dn ((0,((r3,(s0.2.2,s0.2.2)),()))))) λ_=>some (.nx ((s0.1,(s0.2.1,AH .i64 s0.2.2 1))))) λ_=>br (Ao r3 0) (λ_=>some (.dn ((0,((r3,(s0.2.2,s0.2.2)),()))))) λ_=>some (.nx ((s0.1,(s0.2.1,AH .i64 s0.2.2 1))))) λ_=>some (.dn ((1,(s0,()))))) ((0,(0,0)))) λr9=>br (neq r9.1 0) (λ_=>some (r9.2.1.2.1,r9.2.1.1)) λ_=>some (0,0)
def FE (x:A7):Option (Int×Int) :=
 br (Ah x.1 1) (λ_=>some (((-1),7))) λ_=>br (Bz x.1 1000000) (λ_=>some (((-1),7))) λ_=>bd (Ci x.2) λr0=>some r0
def D2 (x:(A7×(Int×(List Int)))):Option Int :=
 bd (FE x.1) λr0=>br (Ao r0.2 0) (λ_=>some r0.2) λ_=>br (Bm (AV (AA x.1.2)) 0) (λ_=>some 4) λ_=>br (Bz (AV (AA x.1.2)) x.2.1) (λ_=>some 3) λ_=>bd (loop (λs1=>br (Ah s1.1 (AV (AA x.2.2))) (λ_=>AS s1.1 λk2=>ix x.2.2 k2 λx3=>br (Bm x3 x.1.1) (λ_=>some (.dn ((0,((s1.1,8),()))))) λ_=>some (.nx (AH .i64 s1.1 1,s1.2))) λ_=>some (.dn ((1,(s1,()))))) (0,0)) λr4=>br (neq r4.1 0) (λ_=>some r4.2.1.2) λ_=>some 0
def DU (x:AO):Option (Int×(Int×Int)) :=
 br (Ah x.1 1) (λ_=>some ((0,(0,7)))) λ_=>br (Bz x.1 16) (λ_=>some ((0,(0,7)))) λ_=>br (Bz (AV (AA x.2)) 12) (λ_=>some ((0,(0,3)))) λ_=>bd (loop (λ(s0:(Int×((List Int)×(Int×(Int×Int)))))=>br (Ah s0.2.2.2.2 (AV (AA x.2))) (λ_=>AS s0.2.2.2.2 λk1=>ix x.2 k1 λx2=>br (Bz (AV (AA x2)) 2) (λ_=>some (.dn ((0,((0,(s0.2.1,(s0.2.2.2.2,(3,s0.2.2.2.2)))),()))))) λ_=>bd (loop (λ(s3:(Int×((List Int)×(Int×(Int×Int)))))=>br (Ah s3.2.2.2.2 (AV (AA x2))) (λ_=>AS s3.2.2.2.2 λk4=>ix x2 k4 λx5=>bd (D1 (x.1,s0.2.2.2.2)) λr6=>bd (D2 ((x5,(r6,s3.2.1)))) λr7=>br (Ao r7 0) (λ_=>some (.dn ((0,((s3.2.2.2.2,(s3.2.1,(s0.2.2.2.2,(r7,s3.2.2.2.2)))),()))))) λ_=>AS s3.2.2.2.2 λk8=>ix x2 k8 λx9=>gd (A6 (AJ (AA s3.2.1) (AA [x9.1])) 1048576) λ_=>some (.nx ((s3.1,(DK s3.2.1 [x9.1],(s3.2.2.1,(s3.2.2.2.1,AH .i64 s3.2.2.2.2 1))))))) λ_=>some (.dn ((1,(s3,()))))) ((s0.1,(s0.2.1,(s0.2.2.1,(s0.2.2.2.1,0)))))) λr10=>br (neq r10.1 0) (λ_=>some (.dn ((0,((r10.2.1.1,(r10.2.1.2.1,(r10.2.1.2.2.1,(r10.2.1.2.2.2.1,s0.2.2.2.2)))),()))))) λ_=>some (.nx ((r10.2.1.1,(r10.2.1.2.1,(r10.2.1.2.2.1,(r10.2.1.2.2.2.1,AH .i64 s0.2.2.2.2 1))))))) λ_=>some (.dn ((1,(s0,()))))) ((0,([],(0,(0,0)))))) λr11=>br (neq r11.1 0) (λ_=>some ((r11.2.1.2.2.1,(r11.2.1.1,r11.2.1.2.2.2.1)))) λ_=>br (Bz (AV (AA x.2)) 0) (λ_=>AS (BJ .i64 (AV (AA x.2)) 1) λk12=>ix x.2 k12 λx13=>br (Bm (AV (AA x13)) 0) (λ_=>some ((BJ .i64 (AV (AA x.2)) 1,(0,6)))) λ_=>some ((0,(0,0)))) λ_=>some ((0,(0,0)))
def Ej (x:AO):Option ((List A7)×Int) :=
 bd (DU x) λr0=>br (Ao r0.2.2 0) (λ_=>some ([],r0.2.2)) λ_=>bd (loop (λs1=>br (Ah s1.2 (AV (AA x.2))) (λ_=>AS s1.2 λk2=>ix x.2 k2 λx3=>bd (loop (λs4=>br (Hz s4.2 0) (λ_=>AS s1.2 λk5=>ix x.2 k5 λx6=>AS s4.2 λk7=>ix x6 k7 λx8=>gd (A6 (AJ (AA s4.1) (AA [x8])) 1048576) λ_=>some (.nx (DK s4.1 [x8],BJ .i64 s4.2 1))) λ_=>some (.dn ((0,(s4,()))))) ((s1.1,BJ .i64 (AV (AA x3)) 1))) λr9=>some (.nx (r9.2.1.1,AH .i64 s1.2 1))) λ_=>some (.dn ((0,(s1,()))))) ([],0)) λr10=>some (r10.2.1.1,0)
def Cz (x:AO):Option Int :=
 bd (Ej x) λr0=>bd (loop (λs1=>br (Ah s1.2 (AV (AA r0.1))) (λ_=>AS s1.2 λk2=>ix r0.1 k2 λx3=>some (.nx (J6 s1.1 x3.1,AH .i64 s1.2 1))) λ_=>some (.dn ((0,(s1,()))))) (0,0)) λr4=>some r4.2.1.1
def Du (x:AO):Option (List Int) :=
 bd (loop (λs0=>br (Ah s0.2 (AV (AA x.2))) (λ_=>AS s0.2 λk1=>ix x.2 k1 λx2=>br (Bm (AV (AA x2)) 2) (λ_=>gd (A6 (AJ (AA s0.1) (AA [s0.2])) 1048576) λ_=>some (.nx (DK s0.1 [s0.2],AH .i64 s0.2 1))) λ_=>some (.nx (s0.1,AH .i64 s0.2 1))) λ_=>some (.dn ((0,(s0,()))))) ([],0)) λr3=>some r3.2.1.1
def HS (x:(AO×Int)):Option Int :=
 bd (DU x.1) λr0=>br (Bm r0.2.2 0) (λ_=>br (Ah x.2 0) (λ_=>some 7) λ_=>br (Hz x.2 12) (λ_=>some 7) λ_=>some r0.2.2) λ_=>some r0.2.2
def Gg (x:(AO×Int)):Option (Bool×Int) :=
 bd (HS x) λr0=>br (Ao r0 0) (λ_=>some (false,r0)) λ_=>some ((Bz (AV (AA x.1.2)) (AH .i64 x.2 1),0))
def CD (x:(AO×Int)):Option Bool :=
 bd (Gg x) λr0=>some (AZ r0.1)
def DV (x:(List (List AB))):Option (Int×Int) :=
 br (Bm (AV (AA x)) 0) (λ_=>some (((-1),6))) λ_=>br (Bz (AV (AA x)) 32) (λ_=>some (((-1),3))) λ_=>bd (loop (λs0=>br (Ah s0.2.2 (AV (AA x))) (λ_=>AS s0.2.2 λk1=>ix x k1 λx2=>bd (Ci x2) λr3=>br (Ao r3.2 0) (λ_=>some (.dn ((0,((r3.2,(s0.2.2,s0.2.2)),()))))) λ_=>some (.nx ((s0.1,(s0.2.1,AH .i64 s0.2.2 1))))) λ_=>some (.dn ((1,(s0,()))))) ((0,(0,0)))) λr4=>br (neq r4.1 0) (λ_=>some (r4.2.1.2.1,r4.2.1.1)) λ_=>some (0,0)
def FG (x:(List AT)):Option Int :=
 br (Bm (AV (AA x)) 0) (λ_=>some 6) λ_=>br (Bz (AV (AA x)) 32) (λ_=>some 3) λ_=>bd (loop (λs0=>br (Ah s0.1 (AV (AA x))) (λ_=>AS s0.1 λk1=>ix x k1 λx2=>br x2.2 (λ_=>AS s0.1 λk3=>ix x k3 λx4=>br (AZ (seq x4.1 [])) (λ_=>some (.dn ((0,((s0.1,2),()))))) λ_=>some (.nx (AH .i64 s0.1 1,s0.2))) λ_=>some (.nx (AH .i64 s0.1 1,s0.2))) λ_=>some (.dn ((1,(s0,()))))) (0,0)) λr5=>br (neq r5.1 0) (λ_=>some r5.2.1.2) λ_=>some 0
def E2 (x:((List AT)×(Int×Int))):Option Bool :=
 AS x.2.1 λk0=>ix x.1 k0 λx1=>AS x.2.2 λk2=>ix x.1 k2 λx3=>br (AZ (beq x1.2 x3.2)) (λ_=>some x3.2) λ_=>br (AZ x1.2) (λ_=>br (AZ (seq x1.1 x3.1)) (λ_=>some (CJ x1.1 x3.1)) λ_=>some (Ah x.2.1 x.2.2)) λ_=>some (Ah x.2.1 x.2.2)
def As (rec:((List AT)×Int)->Option (Int×Int)) (x:((List AT)×Int)):Option (Int×Int) :=
 br (Hz x.2 (AV (AA x.1))) (λ_=>some ((BJ .i64 x.2 (AV (AA x.1)),0))) λ_=>bd (rec (x.1,Kv .i64 2 x.2)) λr0=>bd (rec ((x.1,AH .i64 (Kv .i64 2 x.2) 1))) λr1=>bd (E2 ((x.1,(r0.1,r1.1)))) λr2=>br r2 (λ_=>some (r0.1,r1.1)) λ_=>some (r1.1,r0.1)
def F5:((List AT)×Int)->Option (Int×Int):=Jh As 100
def F6 (x:(List AT)):Option D0 :=
 gd (A6 (AA x) 1048576) λ_=>AS (AV (AA x)) λk0=>AS (AV (AA x)) λk1=>gd (A6 k1 1048576) λ_=>bd (loop (λs2=>br (Ah s2.1 (AV (AA x))) (λ_=>bd (F5 (x,s2.1)) λr3=>AS s2.1 λk4=>gd (B6 k4 (AA s2.2.2.1)) λ_=>ix s2.2.2.1 k4 λx5=>some (.nx ((AH .i64 s2.1 1,(s2.2.1,(lset s2.2.2.1 k4 r3.2,s2.2.2.2)))))) λ_=>some (.dn ((0,(s2,()))))) ((1,(x,(CK k1 0,(0:Int)))))) λr6=>bd (F5 (x,1)) λr7=>some ((r6.2.1.2.1,(r6.2.1.2.2.1,r7.1)))
def EI (x:(List AT)):Option (D0×Int) :=
 bd (FG x) λr0=>br (Ao r0 0) (λ_=>some ((([],([],0)),r0))) λ_=>bd (F6 x) λr1=>some (r1,0)
def Cv (x:((List (List AB))×(List Int))):Option AY :=
 gd (A6 (AA x.1) 1048576) λ_=>gd (A6 (AA x.2) 1048576) λ_=>bd (loop (λs0=>br (Ah s0.1 (AV (AA x.1))) (λ_=>AS s0.1 λk1=>ix x.2 k1 λx2=>AS s0.1 λk3=>ix x.1 k3 λx4=>br (AZ (Bm x2 (AV (AA x4)))) (λ_=>AS s0.1 λk5=>ix x.1 k5 λx6=>AS s0.1 λk7=>ix x.2 k7 λx8=>AS x8 λk9=>ix x6 k9 λx10=>gd (A6 (AJ (AA s0.2) (AA ([(x10.1,Bm x2 (AV (AA x4)))]))) 1048576) λ_=>some (.nx ((AH .i64 s0.1 1,DK s0.2 ([(x10.1,Bm x2 (AV (AA x4)))]))))) λ_=>gd (A6 (AJ (AA s0.2) (AA ([(([]:List UInt8),Bm x2 (AV (AA x4)))]))) 1048576) λ_=>some (.nx ((AH .i64 s0.1 1,DK s0.2 ([([],Bm x2 (AV (AA x4)))]))))) λ_=>some (.dn ((0,(s0,()))))) (0,[])) λr11=>bd (EI r11.2.1.2) λr12=>some ((x.1,(x.2,r12.1)))
def Gh (x:(List (List AB))):Option (AY×(Int×Int)) :=
 bd (DV x) λr0=>br (Ao r0.2 0) (λ_=>some ((([],([],([],([],0)))),r0))) λ_=>AS (AV (AA x)) λk1=>AS (AV (AA x)) λk2=>gd (A6 k2 1048576) λ_=>bd (Cv (x,CK k2 0)) λr3=>some ((r3,(0,0)))
def Cw (x:Bool):Option (Bool×AT) :=
 some ((false,([],x)))
def FH (x:((List (List AB))×Bool)):Option ((AY×((Bool×AT)×((List AB)×Int)))×(Int×Int)) :=
 bd (Gh x.1) λr0=>br (Ao r0.2.2 0) (λ_=>some (((([],([],([],([],0)))),((false,([],false)),([],0))),r0.2))) λ_=>bd (Cw x.2) λr1=>some (((r0.1,(r1,([],0))),(0,0)))
def BH (x:(AO×(Int×Bool))):Option (Int×(AY×((Bool×AT)×((List AB)×Int)))) :=
 br (Hz x.2.1 (AV (AA x.1.2))) (λ_=>none) λ_=>AS x.2.1 λk0=>ix x.1.2 k0 λx1=>ix x1 1 λx2=>ix x1 0 λx3=>bd (FH ([x2.2,x3.2],x.2.2)) λr4=>some (x.2.1,r4.1)
def F7 (x:((List Int)×(List Int))):Option Bool :=
 br (Ao (AV (AA x.1)) (AV (AA x.2))) (λ_=>some false) λ_=>bd (loop (λs0=>br (Ah s0.1 (AV (AA x.1))) (λ_=>AS s0.1 λk1=>ix x.1 k1 λx2=>AS s0.1 λk3=>ix x.2 k3 λx4=>br (Ao x2 x4) (λ_=>some (.dn ((0,((s0.1,false),()))))) λ_=>some (.nx (AH .i64 s0.1 1,s0.2))) λ_=>some (.dn ((1,(s0,()))))) (0,false)) λr5=>br (neq r5.1 0) (λ_=>some r5.2.1.2) λ_=>some true
def E3 (x:(D0×D0)):Option Bool :=
 br (Ao (AV (AA x.1.1)) (AV (AA x.2.1))) (λ_=>some false) λ_=>br (Ao x.1.2.2 x.2.2.2) (λ_=>some false) λ_=>bd (F7 (x.1.2.1,x.2.2.1)) λr0=>br (AZ r0) (λ_=>some false) λ_=>bd (loop (λs1=>br (Ah s1.1 (AV (AA x.1.1))) (λ_=>AS s1.1 λk2=>ix x.1.1 k2 λx3=>AS s1.1 λk4=>ix x.2.1 k4 λx5=>br (AZ (Bo (seq x3.1 x5.1) (Bo (beq x3.2 x5.2) true))) (λ_=>some (.dn ((0,((s1.1,false),()))))) λ_=>some (.nx (AH .i64 s1.1 1,s1.2))) λ_=>some (.dn ((1,(s1,()))))) (0,false)) λr6=>br (neq r6.1 0) (λ_=>some r6.2.1.2) λ_=>some true
def DW (x:((List (List AB))×(List Int))):Option Int :=
 bd (loop (λs0=>br (Ah s0.2 (AV (AA x.1))) (λ_=>AS s0.2 λk1=>ix x.2 k1 λx2=>AS s0.2 λk3=>ix x.1 k3 λx4=>br (Ah x2 (AV (AA x4))) (λ_=>br (Ah s0.1 0) (λ_=>some (.nx (s0.2,AH .i64 s0.2 1))) λ_=>AS s0.2 λk5=>ix x.1 k5 λx6=>AS s0.2 λk7=>ix x.2 k7 λx8=>AS x8 λk9=>ix x6 k9 λx10=>AS s0.1 λk11=>ix x.1 k11 λx12=>AS s0.1 λk13=>ix x.2 k13 λx14=>AS x14 λk15=>ix x12 k15 λx16=>br (CJ x10.1 x16.1) (λ_=>some (.nx (s0.2,AH .i64 s0.2 1))) λ_=>some (.nx (s0.1,AH .i64 s0.2 1))) λ_=>some (.nx (s0.1,AH .i64 s0.2 1))) λ_=>some (.dn ((0,(s0,()))))) (((-1),0))) λr17=>some r17.2.1.1
def DY (x:AY):Option (Int×Int) :=
 bd (DV x.1) λr0=>br (Ao r0.2 0) (λ_=>some r0) λ_=>br (Ao (AV (AA x.2.1)) (AV (AA x.1))) (λ_=>some (((-1),6))) λ_=>bd (loop (λs1=>br (Ah s1.2.2 (AV (AA x.2.1))) (λ_=>AS s1.2.2 λk2=>ix x.2.1 k2 λx3=>br (Ah x3 0) (λ_=>some (.dn ((0,((6,(s1.2.2,s1.2.2)),()))))) λ_=>AS s1.2.2 λk4=>ix x.2.1 k4 λx5=>AS s1.2.2 λk6=>ix x.1 k6 λx7=>br (Bz x5 (AV (AA x7))) (λ_=>some (.dn ((0,((6,(s1.2.2,s1.2.2)),()))))) λ_=>some (.nx ((s1.1,(s1.2.1,AH .i64 s1.2.2 1))))) λ_=>some (.dn ((1,(s1,()))))) ((0,(0,0)))) λr8=>br (neq r8.1 0) (λ_=>some (r8.2.1.2.1,r8.2.1.1)) λ_=>bd (Cv (x.1,x.2.1)) λr9=>bd (E3 (x.2.2,r9.2.2)) λr10=>br (AZ r10) (λ_=>some (((-1),6))) λ_=>bd (DW (x.1,x.2.1)) λr11=>bd (loop (λs12=>br (Ah s12.2.2 (AV (AA x.1))) (λ_=>br (Hz r11 0) (λ_=>AS s12.2.2 λk13=>ix x.2.1 k13 λx14=>br (Bm x14 0) (λ_=>some (.nx ((s12.1,(s12.2.1,AH .i64 s12.2.2 1))))) λ_=>AS s12.2.2 λk15=>ix x.1 k15 λx16=>AS s12.2.2 λk17=>ix x.2.1 k17 λx18=>AS (BJ .i64 x18 1) λk19=>ix x16 k19 λx20=>AS r11 λk21=>ix x.1 k21 λx22=>AS r11 λk23=>ix x.2.1 k23 λx24=>AS x24 λk25=>ix x22 k25 λx26=>br (CJ x26.1 x20.1) (λ_=>some (.dn ((0,((6,(r11,s12.2.2)),()))))) λ_=>br (seq x20.1 x26.1) (λ_=>br (Bz s12.2.2 r11) (λ_=>some (.dn ((0,((6,(r11,s12.2.2)),()))))) λ_=>some (.nx ((s12.1,(s12.2.1,AH .i64 s12.2.2 1))))) λ_=>some (.nx ((s12.1,(s12.2.1,AH .i64 s12.2.2 1))))) λ_=>some (.dn ((1,(s12,()))))) λ_=>some (.dn ((1,(s12,()))))) ((r8.2.1.1,(r8.2.1.2.1,0)))) λr27=>br (neq r27.1 0) (λ_=>some (r27.2.1.2.1,r27.2.1.1)) λ_=>some (0,0)
def D3 (x:(AY×((Bool×AT)×((List AB)×Int)))):Option Int :=
 bd (loop (λs0=>br (Ah s0.2 (AV (AA x.1.2.1))) (λ_=>AS s0.2 λk1=>ix x.1.2.1 k1 λx2=>some (.nx (AH .i64 s0.1 x2,AH .i64 s0.2 1))) λ_=>some (.dn ((0,(s0,()))))) (0,0)) λr3=>some r3.2.1.1
def Ek (x:(List (List AB))):Option ((List AB)×((List Int)×Int)) :=
 bd (DV x) λr0=>br (Ao r0.2 0) (λ_=>some (([],([],r0.2)))) λ_=>AS (AV (AA x)) λk1=>AS (AV (AA x)) λk2=>gd (A6 k2 1048576) λ_=>bd (loop (λ(s3:((List Int)×((List AB)×((List AB)×(Int×((List Int)×(List Int)))))))=>bd (DW (x,s3.2.2.2.2.2)) λr4=>br (Ah r4 0) (λ_=>some (.dn ((0,((s3.2.2.2.2.1,(s3.2.1,0)),()))))) λ_=>AS r4 λk5=>ix x k5 λx6=>AS r4 λk7=>gd (B6 k7 (AA s3.2.2.2.2.2)) λ_=>ix s3.2.2.2.2.2 k7 λx8=>AS x8 λk9=>ix x6 k9 λx10=>gd (A6 (AJ (AA s3.2.1) (AA [x10])) 1048576) λ_=>gd (A6 (AJ (AA s3.2.2.2.2.1) (AA [r4])) 1048576) λ_=>AS r4 λk11=>gd (B6 k11 (AA s3.2.2.2.2.2)) λ_=>ix s3.2.2.2.2.2 k11 λx12=>AS r4 λk13=>gd (B6 k13 (AA s3.2.2.2.2.2)) λ_=>ix s3.2.2.2.2.2 k13 λx14=>some (.nx ((s3.1,(DK s3.2.1 [x10],(s3.2.2.1,(s3.2.2.2.1,(DK s3.2.2.2.2.1 [r4],lset s3.2.2.2.2.2 k13 (AH .i64 x12 1))))))))) (([],([],([],(0,([],CK k2 0))))))) λr15=>some ((r15.2.1.2.1,(r15.2.1.1,r15.2.1.2.2)))
def FJ (x:(Bool×AT)):Option Int :=
 br (Bz (AV (C2 x.2.1)) 32) (λ_=>some 3) λ_=>br (AZ x.1) (λ_=>br (AZ (seq x.2.1 [])) (λ_=>some 6) λ_=>some 0) λ_=>some 0
def F8 (x:((Bool×AT)×AB)):Option (Bool×((Bool×AT)×Int)) :=
 bd (FJ x.1) λr0=>br (Bm r0 0) (λ_=>bd (Cu x.2) λr1=>br (Bm r1 0) (λ_=>br x.1.1 (λ_=>br (CJ x.2.1 x.1.2.1) (λ_=>some ((false,((false,([],false)),6)))) λ_=>br (Ao r1 0) (λ_=>some ((false,((false,([],false)),r1)))) λ_=>br (AZ x.1.1) (λ_=>br x.1.2.2 (λ_=>some ((AZ x.2.2.2.1,((true,(x.2.1,x.1.2.2)),0)))) λ_=>some ((true,((true,(x.2.1,x.1.2.2)),0)))) λ_=>br (AZ (seq x.2.1 x.1.2.1)) (λ_=>br x.1.2.2 (λ_=>some ((AZ x.2.2.2.1,((true,(x.2.1,x.1.2.2)),0)))) λ_=>some ((true,((true,(x.2.1,x.1.2.2)),0)))) λ_=>some ((false,((true,(x.2.1,x.1.2.2)),0)))) λ_=>br (Ao r1 0) (λ_=>some ((false,((false,([],false)),r1)))) λ_=>br (AZ x.1.1) (λ_=>br x.1.2.2 (λ_=>some ((AZ x.2.2.2.1,((true,(x.2.1,x.1.2.2)),0)))) λ_=>some ((true,((true,(x.2.1,x.1.2.2)),0)))) λ_=>br (AZ (seq x.2.1 x.1.2.1)) (λ_=>br x.1.2.2 (λ_=>some ((AZ x.2.2.2.1,((true,(x.2.1,x.1.2.2)),0)))) λ_=>some ((true,((true,(x.2.1,x.1.2.2)),0)))) λ_=>some ((false,((true,(x.2.1,x.1.2.2)),0)))) λ_=>br (Ao r1 0) (λ_=>some ((false,((false,([],false)),r1)))) λ_=>br (AZ x.1.1) (λ_=>br x.1.2.2 (λ_=>some ((AZ x.2.2.2.1,((true,(x.2.1,x.1.2.2)),0)))) λ_=>some ((true,((true,(x.2.1,x.1.2.2)),0)))) λ_=>br (AZ (seq x.2.1 x.1.2.1)) (λ_=>br x.1.2.2 (λ_=>some ((AZ x.2.2.2.1,((true,(x.2.1,x.1.2.2)),0)))) λ_=>some ((true,((true,(x.2.1,x.1.2.2)),0)))) λ_=>some ((false,((true,(x.2.1,x.1.2.2)),0)))) λ_=>br (Bm r0 0) (λ_=>br x.1.1 (λ_=>br (CJ x.2.1 x.1.2.1) (λ_=>some ((false,((false,([],false)),6)))) λ_=>br (Ao r0 0) (λ_=>some ((false,((false,([],false)),r0)))) λ_=>br (AZ x.1.1) (λ_=>br x.1.2.2 (λ_=>some ((AZ x.2.2.2.1,((true,(x.2.1,x.1.2.2)),0)))) λ_=>some ((true,((true,(x.2.1,x.1.2.2)),0)))) λ_=>br (AZ (seq x.2.1 x.1.2.1)) (λ_=>br x.1.2.2 (λ_=>some ((AZ x.2.2.2.1,((true,(x.2.1,x.1.2.2)),0)))) λ_=>some ((true,((true,(x.2.1,x.1.2.2)),0)))) λ_=>some ((false,((true,(x.2.1,x.1.2.2)),0)))) λ_=>br (Ao r0 0) (λ_=>some ((false,((false,([],false)),r0)))) λ_=>br (AZ x.1.1) (λ_=>br x.1.2.2 (λ_=>some ((AZ x.2.2.2.1,((true,(x.2.1,x.1.2.2)),0)))) λ_=>some ((true,((true,(x.2.1,x.1.2.2)),0)))) λ_=>br (AZ (seq x.2.1 x.1.2.1)) (λ_=>br x.1.2.2 (λ_=>some ((AZ x.2.2.2.1,((true,(x.2.1,x.1.2.2)),0)))) λ_=>some ((true,((true,(x.2.1,x.1.2.2)),0)))) λ_=>some ((false,((true,(x.2.1,x.1.2.2)),0)))) λ_=>br (Ao r0 0) (λ_=>some ((false,((false,([],false)),r0)))) λ_=>br (AZ x.1.1) (λ_=>br x.1.2.2 (λ_=>some ((AZ x.2.2.2.1,((true,(x.2.1,x.1.2.2)),0)))) λ_=>some ((true,((true,(x.2.1,x.1.2.2)),0)))) λ_=>br (AZ (seq x.2.1 x.1.2.1)) (λ_=>br x.1.2.2 (λ_=>some ((AZ x.2.2.2.1,((true,(x.2.1,x.1.2.2)),0)))) λ_=>some ((true,((true,(x.2.1,x.1.2.2)),0)))) λ_=>some ((false,((true,(x.2.1,x.1.2.2)),0)))
def El (x:((List AB)×Bool)):Option ((List AB)×(Int×Int)) :=
 br (Bz (AV (AA x.1)) 20000) (λ_=>some (([],((-1),3)))) λ_=>bd (Cw x.2) λr0=>bd (loop (λ(s1:(Int×(Int×((List AB)×((List AB)×(Int×(Bool×AT)))))))=>br (Ah s1.2.1 (AV (AA x.1))) (λ_=>AS s1.2.1 λk2=>ix x.1 k2 λx3=>bd (F8 (s1.2.2.2.2.2,x3)) λr4=>br (Ao r4.2.2 0) (λ_=>some (.dn ((0,((s1.2.1,(s1.2.1,([],(s1.2.2.2.1,(r4.2.2,s1.2.2.2.2.2))))),()))))) λ_=>br r4.1 (λ_=>AS s1.2.1 λk5=>ix x.1 k5 λx6=>gd (A6 (AJ (AA s1.2.2.2.1) (AA [x6])) 1048576) λ_=>some (.nx ((s1.1,(AH .i64 s1.2.1 1,(s1.2.2.1,(DK s1.2.2.2.1 [x6],(s1.2.2.2.2.1,r4.2.1)))))))) λ_=>some (.nx ((s1.1,(AH .i64 s1.2.1 1,(s1.2.2.1,(s1.2.2.2.1,(s1.2.2.2.2.1,r4.2.1)))))))) λ_=>some (.dn ((1,(s1,()))))) ((0,(0,([],([],(0,r0))))))) λr7=>br (neq r7.1 0) (λ_=>some ((r7.2.1.2.2.1,(r7.2.1.1,r7.2.1.2.2.2.2.1)))) λ_=>some ((r7.2.1.2.2.2.1,(0,0)))
def C7 (x:((List AB)×Bool)):Option ((List AB)×(Bool×AT)) :=
 bd (El x) λr0=>bd (Cw x.2) λr1=>br (Bz (AV (AA x.1)) 0) (λ_=>AS (BJ .i64 (AV (AA x.1)) 1) λk2=>ix x.1 k2 λx3=>some ((r0.1,(true,(x3.1,r1.2.2))))) λ_=>some (r0.1,r1)
def Bp (x:((List AB)×(List AB))):Option Bool :=
 br (Ao (AV (AA x.1)) (AV (AA x.2))) (λ_=>some false) λ_=>bd (loop (λs0=>br (Ah s0.1 (AV (AA x.1))) (λ_=>AS s0.1 λk1=>ix x.1 k1 λx2=>AS s0.1 λk3=>ix x.2 k3 λx4=>br (AZ (Bo (seq x2.1 x4.1) (Bo (seq x2.2.1 x4.2.1) (Bo (beq x2.2.2.1 x4.2.2.1) (Bo (Bm x2.2.2.2 x4.2.2.2) true))))) (λ_=>some (.dn ((0,((s0.1,false),()))))) λ_=>some (.nx (AH .i64 s0.1 1,s0.2))) λ_=>some (.dn ((1,(s0,()))))) (0,false)) λr5=>br (neq r5.1 0) (λ_=>some r5.2.1.2) λ_=>some true
def FK (x:(AY×((Bool×AT)×((List AB)×Int)))):Option Int :=
 bd (DY x.1) λr0=>br (Ao r0.2 0) (λ_=>some r0.2) λ_=>bd (D3 x) λr1=>br (Bz (AV (AA x.2.2.1)) 20000) (λ_=>some 3) λ_=>br (Bz r1 20000) (λ_=>some 3) λ_=>br (Ao x.2.2.2 r1) (λ_=>some 7) λ_=>bd (Ek x.1.1) λr2=>AS r1 λk3=>gd (A6 k3 (AA r2.1)) λ_=>gd (A6 0 k3) λ_=>bd (C7 (B3 r2.1 0 k3,x.2.1.2.2)) λr4=>bd (Bp (x.2.2.1,r4.1)) λr5=>br (AZ r5) (λ_=>some 6) λ_=>br (AZ (Bo (beq x.2.1.1 r4.2.1) (Bo (seq x.2.1.2.1 r4.2.2.1) (Bo (beq x.2.1.2.2 r4.2.2.2) true)))) (λ_=>some 6) λ_=>some 0
def F9 (x:AY):Option (Int×Int) :=
 bd (DY x) λr0=>br (Ao r0.2 0) (λ_=>some (0,r0.2)) λ_=>bd (loop (λs1=>br (Ah s1.1 (AV (AA x.1))) (λ_=>AS s1.1 λk2=>ix x.1 k2 λx3=>AS s1.1 λk4=>ix x.2.1 k4 λx5=>some (.nx ((AH .i64 s1.1 1,BJ .i64 (AH .i64 s1.2 (AV (AA x3))) x5)))) λ_=>some (.dn ((0,(s1,()))))) (0,0)) λr6=>some (r6.2.1.2,0)
def BF (x:(AY×((Bool×AT)×((List AB)×Int)))):Option (Int×Int) :=
 bd (FK x) λr0=>br (Ao r0 0) (λ_=>some (0,r0)) λ_=>bd (F9 x.1) λr1=>some r1
def D4 (x:AY):Option (AB×(Int×(AY×Int))) :=
 bd (DY x) λr0=>br (Ao r0.2 0) (λ_=>some (((([],([],(false,0))):AB),(0,(([],([],([],([],0)))),r0.2))))) λ_=>bd (DW (x.1,x.2.1)) λr1=>br (Ah r1 0) (λ_=>some (((([],([],(false,0))):AB),(0,(([],([],([],([],0)))),12))))) λ_=>gd (A6 (AA x.2.1) 1048576) λ_=>AS r1 λk2=>gd (B6 k2 (AA x.2.1)) λ_=>ix x.2.1 k2 λx3=>AS r1 λk4=>gd (B6 k4 (AA x.2.1)) λ_=>ix x.2.1 k4 λx5=>AS r1 λk6=>ix x.1 k6 λx7=>AS r1 λk8=>ix x.2.1 k8 λx9=>AS x9 λk10=>ix x7 k10 λx11=>bd (Cv ((x.1,lset x.2.1 k4 (AH .i64 x3 1)))) λr12=>some ((x11,(r1,(r12,0))))
def BQ (x:((AY×((Bool×AT)×((List AB)×Int)))×Int)):Option ((AY×((Bool×AT)×((List AB)×Int)))×(Int×Int)) :=
 bd (BF x.1) λr0=>br (Bm r0.2 0) (λ_=>br (Ah x.2 0) (λ_=>some (((([],([],([],([],0)))),((false,([],false)),([],0))),(0,7)))) λ_=>br (Ao r0.2 0) (λ_=>some (((([],([],([],([],0)))),((false,([],false)),([],0))),(0,r0.2)))) λ_=>bd (D3 x.1) λr1=>br (Bz (AH .i64 r1 (NN x.2 r0.1)) 20000) (λ_=>some (((([],([],([],([],0)))),((false,([],false)),([],0))),(0,3)))) λ_=>bd (loop (λ(s2:(Int×((List (List AB))×((List Int)×((List AT)×((List Int)×(Int×(Bool×((List UInt8)×(Bool×((List AB)×Int)))))))))))=>br (Ah s2.1 (NN x.2 r0.1)) (λ_=>bd (D4 ((s2.2.1,(s2.2.2.1,(s2.2.2.2.1,(s2.2.2.2.2.1,s2.2.2.2.2.2.1)))))) λr3=>some (.nx ((AH .i64 s2.1 1,(r3.2.2.1.1,(r3.2.2.1.2.1,(r3.2.2.1.2.2.1,(r3.2.2.1.2.2.2.1,(r3.2.2.1.2.2.2.2,s2.2.2.2.2.2.2))))))))) λ_=>some (.dn ((0,(s2,()))))) ((0,(x.1.1.1,(x.1.1.2.1,(x.1.1.2.2.1,(x.1.1.2.2.2.1,(x.1.1.2.2.2.2,(x.1.2.1.1,(x.1.2.1.2.1,(x.1.2.1.2.2,x.1.2.2))))))))))) λr4=>bd (Ek x.1.1.1) λr5=>AS (AH .i64 x.1.2.2.2 (NN x.2 r0.1)) λk6=>gd (A6 k6 (AA r5.1)) λ_=>gd (A6 0 k6) λ_=>bd (C7 (B3 r5.1 0 k6,x.1.2.1.2.2)) λr7=>some ((((r4.2.1.2.1,(r4.2.1.2.2.1,(r4.2.1.2.2.2.1,(r4.2.1.2.2.2.2.1,r4.2.1.2.2.2.2.2.1)))),(r7.2,(r7.1,AH .i64 x.1.2.2.2 (NN x.2 r0.1)))),(NN x.2 r0.1,0)))) λ_=>br (Ao r0.2 0) (λ_=>some (((([],([],([],([],0)))),((false,([],false)),([],0))),(0,r0.2)))) λ_=>bd (D3 x.1) λr8=>br (Bz (AH .i64 r8 (NN x.2 r0.1)) 20000) (λ_=>some (((([],([],([],([],0)))),((false,([],false)),([],0))),(0,3)))) λ_=>bd (loop (λ(s9:(Int×((List (List AB))×((List Int)×((List AT)×((List Int)×(Int×(Bool×((List UInt8)×(Bool×((List AB)×Int)))))))))))=>br (Ah s9.1 (NN x.2 r0.1)) (λ_=>bd (D4 ((s9.2.1,(s9.2.2.1,(s9.2.2.2.1,(s9.2.2.2.2.1,s9.2.2.2.2.2.1)))))) λr10=>some (.nx ((AH .i64 s9.1 1,(r10.2.2.1.1,(r10.2.2.1.2.1,(r10.2.2.1.2.2.1,(r10.2.2.1.2.2.2.1,(r10.2.2.1.2.2.2.2,s9.2.2.2.2.2.2))))))))) λ_=>some (.dn ((0,(s9,()))))) ((0,(x.1.1.1,(x.1.1.2.1,(x.1.1.2.2.1,(x.1.1.2.2.2.1,(x.1.1.2.2.2.2,(x.1.2.1.1,(x.1.2.1.2.1,(x.1.2.1.2.2,x.1.2.2))))))))))) λr11=>bd (Ek x.1.1.1) λr12=>AS (AH .i64 x.1.2.2.2 (NN x.2 r0.1)) λk13=>gd (A6 k13 (AA r12.1)) λ_=>gd (A6 0 k13) λ_=>bd (C7 (B3 r12.1 0 k13,x.1.2.1.2.2)) λr14=>some ((((r11.2.1.2.1,(r11.2.1.2.2.1,(r11.2.1.2.2.2.1,(r11.2.1.2.2.2.2.1,r11.2.1.2.2.2.2.2.1)))),(r14.2,(r14.1,AH .i64 x.1.2.2.2 (NN x.2 r0.1)))),(NN x.2 r0.1,0)))
def GA (x:(AY×AY)):Option Bool :=
 br (Ao (AV (AA x.1.1)) (AV (AA x.2.1))) (λ_=>some false) λ_=>bd (F7 (x.1.2.1,x.2.2.1)) λr0=>br (AZ r0) (λ_=>some false) λ_=>bd (E3 (x.1.2.2,x.2.2.2)) λr1=>br (AZ r1) (λ_=>some false) λ_=>bd (loop (λs2=>br (Ah s2.1 (AV (AA x.1.1))) (λ_=>AS s2.1 λk3=>ix x.1.1 k3 λx4=>AS s2.1 λk5=>ix x.2.1 k5 λx6=>bd (Bp (x4,x6)) λr7=>br (AZ r7) (λ_=>some (.dn ((0,((s2.1,false),()))))) λ_=>some (.nx (AH .i64 s2.1 1,s2.2))) λ_=>some (.dn ((1,(s2,()))))) (0,false)) λr8=>br (neq r8.1 0) (λ_=>some r8.2.1.2) λ_=>some true
def BS (x:((AY×((Bool×AT)×((List AB)×Int)))×(AY×((Bool×AT)×((List AB)×Int))))):Option Bool :=
 bd (GA (x.1.1,x.2.1)) λr0=>br r0 (λ_=>br (Bo (beq x.1.2.1.1 x.2.2.1.1) (Bo (seq x.1.2.1.2.1 x.2.2.1.2.1) (Bo (beq x.1.2.1.2.2 x.2.2.1.2.2) true))) (λ_=>bd (Bp (x.1.2.2.1,x.2.2.2.1)) λr1=>br r1 (λ_=>some (Bm x.1.2.2.2 x.2.2.2.2)) λ_=>some false) λ_=>some false) λ_=>some false
def EJ (x:(AO×((List (Int×(AY×((Bool×AT)×((List AB)×Int)))))×Int))):Option (Int×Int) :=
 bd (DU x.1) λr0=>br (Bm r0.2.2 0) (λ_=>br (Ah x.2.2 1) (λ_=>some (((-1),7))) λ_=>br (Bz x.2.2 1000001) (λ_=>some (((-1),7))) λ_=>br (Bm r0.2.2 0) (λ_=>bd (Cz x.1) λr1=>br (SC x.2.2 r1) (λ_=>some (((-1),6))) λ_=>br (Ao r0.2.2 0) (λ_=>some (((-1),r0.2.2))) λ_=>bd (Du x.1) λr2=>bd (loop (λs3=>br (Ah s3.2.2 (AV (AA x.2.1))) (λ_=>AS s3.2.2 λk4=>ix x.2.1 k4 λx5=>br (Hz s3.2.2 (AV (AA r2))) (λ_=>some (.dn ((0,((6,(s3.2.2,s3.2.2)),()))))) λ_=>AS s3.2.2 λk6=>ix r2 k6 λx7=>br (Ao x5.1 x7) (λ_=>some (.dn ((0,((6,(s3.2.2,s3.2.2)),()))))) λ_=>br x5.2.2.1.2.2 (λ_=>bd (CD (x.1,x5.1)) λr8=>br (AZ r8) (λ_=>some (.dn ((0,((6,(s3.2.2,s3.2.2)),()))))) λ_=>bd (BH ((x.1,(x5.1,x5.2.2.1.2.2)))) λr9=>bd (BF r9.2) λr10=>br (Ah x5.2.2.2.2 0) (λ_=>some (.dn ((0,((6,(s3.2.2,s3.2.2)),()))))) λ_=>br (Bz x5.2.2.2.2 r10.1) (λ_=>some (.dn ((0,((6,(s3.2.2,s3.2.2)),()))))) λ_=>bd (BQ (r9.2,x5.2.2.2.2)) λr11=>bd (BS (r11.1,x5.2)) λr12=>br (AZ r12) (λ_=>some (.dn ((0,((6,(s3.2.2,s3.2.2)),()))))) λ_=>some (.nx ((s3.1,(s3.2.1,AH .i64 s3.2.2 1))))) λ_=>bd (BH ((x.1,(x5.1,x5.2.2.1.2.2)))) λr13=>bd (BF r13.2) λr14=>br (Ah x5.2.2.2.2 0) (λ_=>some (.dn ((0,((6,(s3.2.2,s3.2.2)),()))))) λ_=>br (Bz x5.2.2.2.2 r14.1) (λ_=>some (.dn ((0,((6,(s3.2.2,s3.2.2)),()))))) λ_=>bd (BQ (r13.2,x5.2.2.2.2)) λr15=>bd (BS (r15.1,x5.2)) λr16=>br (AZ r16) (λ_=>some (.dn ((0,((6,(s3.2.2,s3.2.2)),()))))) λ_=>some (.nx ((s3.1,(s3.2.1,AH .i64 s3.2.2 1))))) λ_=>some (.dn ((1,(s3,()))))) ((0,(0,0)))) λr17=>br (neq r17.1 0) (λ_=>some (r17.2.1.2.1,r17.2.1.1)) λ_=>br (Ah (AV (AA x.2.1)) (AV (AA r2))) (λ_=>some (((-1),4))) λ_=>some (0,0)) λ_=>br (Ao r0.2.2 0) (λ_=>some (((-1),r0.2.2))) λ_=>bd (Du x.1) λr18=>bd (loop (λs19=>br (Ah s19.2.2 (AV (AA x.2.1))) (λ_=>AS s19.2.2 λk20=>ix x.2.1 k20 λx21=>br (Hz s19.2.2 (AV (AA r18))) (λ_=>some (.dn ((0,((6,(s19.2.2,s19.2.2)),()))))) λ_=>AS s19.2.2 λk22=>ix r18 k22 λx23=>br (Ao x21.1 x23) (λ_=>some (.dn ((0,((6,(s19.2.2,s19.2.2)),()))))) λ_=>br x21.2.2.1.2.2 (λ_=>bd (CD (x.1,x21.1)) λr24=>br (AZ r24) (λ_=>some (.dn ((0,((6,(s19.2.2,s19.2.2)),()))))) λ_=>bd (BH ((x.1,(x21.1,x21.2.2.1.2.2)))) λr25=>bd (BF r25.2) λr26=>br (Ah x21.2.2.2.2 0) (λ_=>some (.dn ((0,((6,(s19.2.2,s19.2.2)),()))))) λ_=>br (Bz x21.2.2.2.2 r26.1) (λ_=>some (.dn ((0,((6,(s19.2.2,s19.2.2)),()))))) λ_=>bd (BQ (r25.2,x21.2.2.2.2)) λr27=>bd (BS (r27.1,x21.2)) λr28=>br (AZ r28) (λ_=>some (.dn ((0,((6,(s19.2.2,s19.2.2)),()))))) λ_=>some (.nx ((s19.1,(s19.2.1,AH .i64 s19.2.2 1))))) λ_=>bd (BH ((x.1,(x21.1,x21.2.2.1.2.2)))) λr29=>bd (BF r29.2) λr30=>br (Ah x21.2.2.2.2 0) (λ_=>some (.dn ((0,((6,(s19.2.2,s19.2.2)),()))))) λ_=>br (Bz x21.2.2.2.2 r30.1) (λ_=>some (.dn ((0,((6,(s19.2.2,s19.2.2)),()))))) λ_=>bd (BQ (r29.2,x21.2.2.2.2)) λr31=>bd (BS (r31.1,x21.2)) λr32=>br (AZ r32) (λ_=>some (.dn ((0,((6,(s19.2.2,s19.2.2)),()))))) λ_=>some (.nx ((s19.1,(s19.2.1,AH .i64 s19.2.2 1))))) λ_=>some (.dn ((1,(s19,()))))) ((0,(0,0)))) λr33=>br (neq r33.1 0) (λ_=>some (r33.2.1.2.1,r33.2.1.1)) λ_=>br (Ah (AV (AA x.2.1)) (AV (AA r18))) (λ_=>some (((-1),4))) λ_=>some (0,0)) λ_=>br (Bm r0.2.2 0) (λ_=>bd (Cz x.1) λr34=>br (SC x.2.2 r34) (λ_=>some (((-1),6))) λ_=>br (Ao r0.2.2 0) (λ_=>some (((-1),r0.2.2))) λ_=>bd (Du x.1) λr35=>bd (loop (λs36=>br (Ah s36.2.2 (AV (AA x.2.1))) (λ_=>AS s36.2.2 λk37=>ix x.2.1 k37 λx38=>br (Hz s36.2.2 (AV (AA r35))) (λ_=>some (.dn ((0,((6,(s36.2.2,s36.2.2)),()))))) λ_=>AS s36.2.2 λk39=>ix r35 k39 λx40=>br (Ao x38.1 x40) (λ_=>some (.dn ((0,((6,(s36.2.2,s36.2.2)),()))))) λ_=>br x38.2.2.1.2.2 (λ_=>bd (CD (x.1,x38.1)) λr41=>br (AZ r41) (λ_=>some (.dn ((0,((6,(s36.2.2,s36.2.2)),()))))) λ_=>bd (BH ((x.1,(x38.1,x38.2.2.1.2.2)))) λr42=>bd (BF r42.2) λr43=>br (Ah x38.2.2.2.2 0) (λ_=>some (.dn ((0,((6,(s36.2.2,s36.2.2)),()))))) λ_=>br (Bz x38.2.2.2.2 r43.1) (λ_=>some (.dn ((0,((6,(s36.2.2,s36.2.2)),()))))) λ_=>bd (BQ (r42.2,x38.2.2.2.2)) λr44=>bd (BS (r44.1,x38.2)) λr45=>br (AZ r45) (λ_=>some (.dn ((0,((6,(s36.2.2,s36.2.2)),()))))) λ_=>some (.nx ((s36.1,(s36.2.1,AH .i64 s36.2.2 1))))) λ_=>bd (BH ((x.1,(x38.1,x38.2.2.1.2.2)))) λr46=>bd (BF r46.2) λr47=>br (Ah x38.2.2.2.2 0) (λ_=>some (.dn ((0,((6,(s36.2.2,s36.2.2)),()))))) λ_=>br (Bz x38.2.2.2.2 r47.1) (λ_=>some (.dn ((0,((6,(s36.2.2,s36.2.2)),()))))) λ_=>bd (BQ (r46.2,x38.2.2.2.2)) λr48=>bd (BS (r48.1,x38.2)) λr49=>br (AZ r49) (λ_=>some (.dn ((0,((6,(s36.2.2,s36.2.2)),()))))) λ_=>some (.nx ((s36.1,(s36.2.1,AH .i64 s36.2.2 1))))) λ_=>some (.dn ((1,(s36,()))))) ((0,(0,0)))) λr50=>br (neq r50.1 0) (λ_=>some (r50.2.1.2.1,r50.2.1.1)) λ_=>br (Ah (AV (AA x.2.1)) (AV (AA r35))) (λ_=>some (((-1),4))) λ_=>some (0,0)) λ_=>br (Ao r0.2.2 0) (λ_=>some (((-1),r0.2.2))) λ_=>bd (Du x.1) λr51=>bd (loop (λs52=>br (Ah s52.2.2 (AV (AA x.2.1))) (λ_=>AS s52.2.2 λk53=>ix x.2.1 k53 λx54=>br (Hz s52.2.2 (AV (AA r51))) (λ_=>some (.dn ((0,((6,(s52.2.2,s52.2.2)),()))))) λ_=>AS s52.2.2 λk55=>ix r51 k55 λx56=>br (Ao x54.1 x56) (λ_=>some (.dn ((0,((6,(s52.2.2,s52.2.2)),()))))) λ_=>br x54.2.2.1.2.2 (λ_=>bd (CD (x.1,x54.1)) λr57=>br (AZ r57) (λ_=>some (.dn ((0,((6,(s52.2.2,s52.2.2)),()))))) λ_=>bd (BH ((x.1,(x54.1,x54.2.2.1.2.2)))) λr58=>bd (BF r58.2) λr59=>br (Ah x54.2.2.2.2 0) (λ_=>some (.dn ((0,((6,(s52.2.2,s52.2.2)),()))))) λ_=>br (Bz x54.2.2.2.2 r59.1) (λ_=>some (.dn ((0,((6,(s52.2.2,s52.2.2)),()))))) λ_=>bd (BQ (r58.2,x54.2.2.2.2)) λr60=>bd (BS (r60.1,x54.2)) λr61=>br (AZ r61) (λ_=>some (.dn ((0,((6,(s52.2.2,s52.2.2)),()))))) λ_=>some (.nx ((s52.1,(s52.2.1,AH .i64 s52.2.2 1))))) λ_=>bd (BH ((x.1,(x54.1,x54.2.2.1.2.2)))) λr62=>bd (BF r62.2) λr63=>br (Ah x54.2.2.2.2 0) (λ_=>some (.dn ((0,((6,(s52.2.2,s52.2.2)),()))))) λ_=>br (Bz x54.2.2.2.2 r63.1) (λ_=>some (.dn ((0,((6,(s52.2.2,s52.2.2)),()))))) λ_=>bd (BQ (r62.2,x54.2.2.2.2)) λr64=>bd (BS (r64.1,x54.2)) λr65=>br (AZ r65) (λ_=>some (.dn ((0,((6,(s52.2.2,s52.2.2)),()))))) λ_=>some (.nx ((s52.1,(s52.2.1,AH .i64 s52.2.2 1))))) λ_=>some (.dn ((1,(s52,()))))) ((0,(0,0)))) λr66=>br (neq r66.1 0) (λ_=>some (r66.2.1.2.1,r66.2.1.1)) λ_=>br (Ah (AV (AA x.2.1)) (AV (AA r51))) (λ_=>some (((-1),4))) λ_=>some (0,0)
end Go.Proofs.YthpkjfabdccpdaaGreat.Pl
namespace Go.Proofs.YthpkjfabdccpdaaGreat.Pl
open Go Go.Proofs.YthpkjfabdccpdaaGreat.Sv
theorem Iz (x:AB):Cu x=some (kE x):=by
 unfold Cu kE;rw [Ax,AU,Iu];by_cases h1:x.1.length>32
 ·rw [if_pos (by omega),if_pos (.inl h1)]
 rw [if_neg (by omega),Ax,AU,Iu];by_cases h2:x.2.1.length>64
 ·rw [if_pos (by omega),if_pos (.inr h2)]
 rw [if_neg (by omega : ¬ (x.2.1.length:Int)>64),if_neg (by omega),Gp];by_cases h3:x.2.2.1=true
 ·rw [if_pos h3,Bd,EM];by_cases h4:x.2.1=[]
  ·rw [if_pos h4,if_neg (by simp [h4]),BD,Ax];by_cases h5:x.2.2.2<1
   ·simp [h5]
   ·by_cases h6:x.2.2.2>1000000000<;>simp [h5,h6]
  ·rw [if_neg h4,if_pos ⟨h3,h4⟩]
 ·rw [if_neg h3,if_neg (by simp [h3]),BD,Ax];by_cases h5:x.2.2.2<1
  ·simp [h5]
  ·by_cases h6:x.2.2.2>1000000000<;>simp [h5,h6]
def DZ:List UInt8->List UInt8->Nat
 | x::a,y::b=>if x=y then DZ a b+1 else 0
 | _,_=>0
theorem Zg (x y:UInt8):Bm (SD x) (SD y)=decide (x=y):=by
 rw [EN];unfold SD;by_cases h:x=y
 ·simp [h]
 ·have : ¬ ((x.toNat:Int)=(y.toNat:Int)):=λe=>h (UInt8.toNat_inj.1 (by omega));simp [h,this]
theorem XN (a b:List UInt8) (ha:a.length<=9223372036854775806):Ei (a,b)=some (DZ a b:Int):=by
 unfold Ei;simp only [AU,Iu]
 have key : ∀ (m:List UInt8) (k n:Nat),a.drop k=m->k<=a.length->k<=b.length->m.length<n->Df n (λs0=>br (Ah s0 (a.length:Int)) (λ_=>br (Ah s0 (b.length:Int)) (λ_=>AS s0 λk1=>ix a k1 λx2=>AS s0 λk3=>ix b k3 λx4=>br (Bm (SD x2) (SD x4)) (λ_=>some (LR.nx (AH .i64 s0 1))) λ_=>some (.dn ((0,(s0,()))))) λ_=>some (.dn ((0,(s0,()))))) λ_=>some (.dn ((0,(s0,()))))) (k:Int)=some ((0:Nat),(((k+DZ m (b.drop k):Nat):Int),())):=by
  intro m
  induction m with
  | nil =>
   intro k n hm hk hkb hn;obtain ⟨n,rfl⟩ : ∃ j,n=j+1:=⟨n-1,by omega⟩
   have hkl:k=a.length:=by
    have:=congrArg List.length hm;simp at this;omega
   subst hkl;refine Bh ?_;rw [re];simp [Ag,DZ]
  | cons x m ih =>
   intro k n hm hk hkb hn;obtain ⟨n,rfl⟩ : ∃ j,n=j+1:=⟨n-1,by omega⟩
   have hx:a[k]? = some x:=by
    have:=congrArg List.head? hm;rw [List.head?_drop] at this;simpa using this
   have hk':k<a.length:=(List.getElem?_eq_some_iff.1 hx).1
   have hm2:a.drop (k+1)=m:=by
    have:=congrArg List.tail hm;rw [List.tail_drop] at this;simpa using this
   by_cases hb:k<b.length
   ·have hy:b[k]? = some b[k]:=by simp [hb]
    rw [List.drop_eq_getElem_cons hb];unfold DZ;by_cases e:x=b[k]
    ·rw [if_pos e];refine (BN (s':=((k+1:Nat):Int)) ?_).trans ?_
     ·rw [rl hk',AN,rl hb,AN,AE,AK hx,AE,AK hy,Zg,Cm,if_pos e,Aa (by omega)]
     ·rw [ih (k+1) n hm2 (by omega) (by omega) (by simp at hn;omega),show k+1+DZ m (b.drop (k+1))=k+(DZ m (b.drop (k+1))+1) by omega]
    ·rw [if_neg e];refine Bh ?_;rw [rl hk',AN,rl hb,AN,AE,AK hx,AE,AK hy,Zg,Cm,if_neg e];simp
   ·have hb2:k=b.length:=by omega
    refine Bh ?_;rw [rl hk',AN,hb2,re,Ag,List.drop_length];simp [DZ]
 refine BG (DM (n:=a.length+1) (by omega) (key a 0 (a.length+1) (by simp) (by omega) (by omega) (by omega))) ?_;simp
def LJ (a b:HB):Int:=if CJ a b=true then -1 else if a=b then 0 else 1
theorem Sz : ∀ (a b:HB),(DZ a b<=a.length/\DZ a b<=b.length)/\(DZ a b=a.length->DZ a b=b.length->LJ a b=0)/\(DZ a b=a.length->DZ a b≠b.length->LJ a b = -1)/\(DZ a b≠a.length->DZ a b=b.length->LJ a b=1)/\(∀ x y,a[DZ a b]? = some x->b[DZ a b]? = some y->LJ a b=if x.toNat<y.toNat then -1 else 1)
 | [],[]=>by simp [DZ,LJ,L4]
 | [],y::b=>by simp [DZ,LJ,RR]
 | x::a,[]=>by simp [DZ,LJ,L4]
 | x::a,y::b=>by
  obtain ⟨⟨h0,h0'⟩,h1,h2,h3,h4⟩:=Sz a b;by_cases e:x=y
  ·subst e
   have ho:LJ (x::a) (x::b)=LJ a b:=by
    unfold LJ;rw [IN];simp
   have hc:DZ (x::a) (x::b)=DZ a b+1:=by simp [DZ]
   rw [ho,hc];refine ⟨⟨by simp;omega,by simp;omega⟩,λu v=>h1 (by simp at u;omega) (by simp at v;omega),λu v=>h2 (by simp at u;omega) (by simp at v;omega),λu v=>h3 (by simp at u;omega) (by simp at v;omega),λp q hp hq=>h4 p q (by simpa using hp) (by simpa using hq)⟩
  ·have hc:DZ (x::a) (y::b)=0:=by simp [DZ,e]
   rw [hc];refine ⟨⟨by omega,by omega⟩,λu=>by simp at u,λu=>by simp at u,λ_ u=>by simp at u,λp q hp hq => ?_⟩;simp at hp hq;subst hp hq;unfold LJ;rw [IN];have hne : ¬ (x::a=y::b):=λh=>e (by injection h);by_cases hlt:x.toNat<y.toNat
   ·have:x<y:=UInt8.lt_iff_toNat_lt.2 hlt;simp [this,hlt]
   ·have : ¬ x<y:=λh=>hlt (UInt8.lt_iff_toNat_lt.1 h);simp [this,hlt,e]
theorem Zh (a b:HB) (ha:a.length<=1000000000) (hb:b.length<=1000000000):EH (a,b)=some (LJ a b):=by
 obtain ⟨⟨h0,h0'⟩,h1,h2,h3,h4⟩:=Sz a b;unfold EH;simp only [AU,Iu];rw [XN a b (by omega),AD,CP]
 have hl:(if (DZ a b:Int)<(b.length:Int) then (AS (DZ a b:Int) λk1=>ix a k1 λx2=>AS (DZ a b:Int) λk3=>ix b k3 λx4=>br (Ah (SD x2) (SD x4)) (λ_=>some (-1:Int)) λ_=>some 1) else some 1)=(if DZ a b=a.length then (if (DZ a b:Int)<(b.length:Int) then (AS (DZ a b:Int) λk1=>ix a k1 λx2=>AS (DZ a b:Int) λk3=>ix b k3 λx4=>br (Ah (SD x2) (SD x4)) (λ_=>some (-1:Int)) λ_=>some 1) else some 1) else some (LJ a b)):=by
  by_cases u:DZ a b=a.length
  ·rw [if_pos u]
  ·rw [if_neg u];by_cases v:DZ a b=b.length
   ·rw [if_neg (by omega),h3 u v]
   ·rw [if_pos (by omega),AE];have hx:a[DZ a b]? = some (a[DZ a b]'(by omega)):=by simp
    have hy:b[DZ a b]? = some (b[DZ a b]'(by omega)):=by simp
    rw [AK hx,AE,AK hy,BD,h4 _ _ hx hy];unfold SD;by_cases w:(a[DZ a b]'(by omega)).toNat<(b[DZ a b]'(by omega)).toNat
    ·rw [if_pos (by omega),if_pos w]
    ·rw [if_neg (by omega),if_neg w]
 by_cases u:DZ a b=a.length
 ·rw [if_pos (by omega),CP];by_cases v:DZ a b=b.length
  ·rw [if_pos (by omega),h1 u v]
  ·rw [if_neg (by omega),CP,if_pos (by omega),h2 u v]
 ·rw [if_neg (by omega),CP,if_neg (by omega),BD,hl,if_neg u]
theorem WI (a b:HB):LJ a b>=0<->CJ a b=false:=by
 unfold LJ;cases h:CJ a b with
 | true=>simp
 | false=>simp;split<;>omega
theorem GY (l:List AB) (hl:l.length<=9223372036854775807):Ci l=some (DT l):=by
 unfold Ci DT;simp only [AU,AP];rw [Ax];by_cases h:l.length>5000
 ·rw [if_pos (by omega),if_pos h]
 rw [if_neg (by omega),if_neg h];obtain ⟨T,hT⟩ : ∃ T,T=JE none 0 l:=⟨_,rfl⟩;rw [<- hT]
 obtain ⟨r,q1,q2⟩:=E9 (l:=l) (σ:=Unit) (s:=((0:Int),((0:Int),(0:Int)))) (λk _=>((0:Int),((0:Int),(k:Int)))) (λm k _=>JE (if k=0 then none else (l[k-1]?).map (·.1)) k m=T/\(∀ y,k≠0->l[k-1]? = some y->kE y=0)) (λ(r:Nat×((Int×(Int×Int))×Unit))=>(r.1=1/\T=(0,0))\/(r.1=0/\T=(r.2.1.2.1,r.2.1.1)))
  (f:=λs0=>br (Ah s0.2.2 (l.length:Int)) (λ_=>AS s0.2.2 λk1=>ix l k1 λx2=>bd (Cu x2) λr3=>br (Bm r3 0) (λ_=>br (Bz s0.2.2 0) (λ_=>AS (BJ .i64 s0.2.2 1) λk4=>ix l k4 λx5=>AS s0.2.2 λk6=>ix l k6 λx7=>bd (EH (x5.1,x7.1)) λr8=>br (Hz r8 0) (λ_=>some (.dn ((0,((6,(s0.2.2,s0.2.2)),()))))) λ_=>br (Ao r3 0) (λ_=>some (.dn ((0,((r3,(s0.2.2,s0.2.2)),()))))) λ_=>some (.nx ((s0.1,(s0.2.1,AH .i64 s0.2.2 1))))) λ_=>br (Ao r3 0) (λ_=>some (.dn ((0,((r3,(s0.2.2,s0.2.2)),()))))) λ_=>some (.nx ((s0.1,(s0.2.1,AH .i64 s0.2.2 1))))) λ_=>br (Ao r3 0) (λ_=>some (.dn ((0,((r3,(s0.2.2,s0.2.2)),()))))) λ_=>some (.nx ((s0.1,(s0.2.1,AH .i64 s0.2.2 1))))) λ_=>some (.dn ((1,(s0,())))))
  () rfl (by omega) ⟨hT.symm,λ_ h=>absurd rfl h⟩ (λ_ h=>by
   refine ⟨_,by simp only;rw [re];rfl,.inl ⟨rfl,?_⟩⟩;rw [<- h.1];simp [JE]) (λk x m _ hd hx hk h=>by
   simp only;obtain ⟨h,hprev⟩:=h;rw [rl hk,AN,AE,AK hx,Iz,AD,CP];unfold JE at h
   have next:kE x=0->(T=JE (some x.1) (k+1) m)->JE (if k+1=0 then none else (l[k+1-1]?).map (·.1)) (k+1) m=T/\(∀ y,k+1≠0->l[k+1-1]? = some y->kE y=0):=λh0 e=>by
    rw [if_neg (by omega),Nat.add_sub_cancel,hx,e];exact ⟨rfl,λy _ hy=>by cases hy;exact h0⟩
   by_cases h0:kE x=0
   ·rw [if_pos h0,Ax];rw [if_neg (by simp [h0])] at h;by_cases hk0:k=0
    ·rw [if_neg (by omega),AR,if_pos h0];rw [if_pos hk0] at h;exact .inl ⟨(),by rw [A1 hx (by omega)],next h0 h.symm⟩
    ·have hy:l[k-1]? = some (l[k-1]'(by omega)):=by rw [List.getElem?_eq_getElem]
     rw [if_pos (by omega),show BJ .i64 (k:Int) 1=((k-1:Nat):Int) by rw [Bl (by omega)];omega,AE,AK hy,AE,AK hx];rw [if_neg hk0,hy] at h;simp only [Option.map_some] at h;rw [Zh _ _ (by have:=Ok (hprev _ hk0 hy);omega) (by have:=Ok h0;omega),AD,Fw];by_cases hs:CJ (l[k-1]'(by omega)).1 x.1=true
     ·rw [if_neg (λe=>by rw [WI,hs] at e;cases e),AR,if_pos h0];rw [if_pos hs] at h;exact .inl ⟨(),by rw [A1 hx (by omega)],next h0 h.symm⟩
     ·rw [if_pos ((WI _ _).2 (by simpa using hs))];rw [if_neg hs] at h;exact .inr ⟨_,rfl,.inr ⟨rfl,h.symm⟩⟩
   ·rw [if_neg h0,AR,if_neg h0];rw [if_pos h0] at h
    exact .inr ⟨_,rfl,.inr ⟨rfl,h.symm⟩⟩)
 refine BG q1 ?_;rw [CO];rcases q2 with ⟨q2,q3⟩ | ⟨q2,q3⟩
 ·rw [if_neg (show ¬ r.1=0 by omega),q3]
 ·rw [if_pos q2,q3]
theorem Zi (p q:AT) (hp:ET p) (hq:ET q):E2 ([p,q],(0,1))=some (w0 p q):=by
 unfold E2 w0;refine (Eh 0 rfl (x:=p) rfl).trans ((Eh 1 rfl (x:=q) rfl).trans ?_);rw [beq_eq,CX,Cm,Bd,Gp];by_cases h1:p.2=q.2
 ·rw [if_neg (show ¬ ¬ p.2=q.2 by simp [h1]),if_neg (show ¬ p.2≠q.2 by simp [h1])];by_cases h2:p.2=true
  ·rw [if_pos h2,hp h2,hq (h1 ▸ h2)];rfl
  ·rw [if_neg h2,Bd,EM];by_cases h3:p.1=q.1
   ·rw [if_pos h3,if_neg (by simp [h3])];rfl
   ·rw [if_neg h3,if_pos h3]
 ·rw [if_pos h1,if_pos h1]
theorem NV (p q:AT) (n:Nat) (k:Int) (h:2<=k) (hk:k<=100):Jh As (n+1) ([p,q],k)=some (k-2,0):=by
 show As (Jh As n) ([p,q],k)=_;unfold As;show br (Hz k 2) (λ_=>some (BJ .i64 k 2,0)) _=_;rw [Fw,if_pos h,Bl (by omega)]
theorem On (p q:AT) (hp:ET p) (hq:ET q):F5 ([p,q],1)=some (if w0 p q=true then (0,1) else (1,0)):=by
 show As (Jh As 99) ([p,q],1)=_;unfold As;show br (Hz (1:Int) 2) (λ_=>some (BJ .i64 (1:Int) 2,0)) (λ_=>bd (Jh As (98+1) ([p,q],2)) λr0=>bd (Jh As (98+1) ([p,q],3)) _)=_;rw [Fw,if_neg (by omega),NV p q 98 2 (by omega) (by omega),AD,NV p q 98 3 (by omega) (by omega),AD];show bd (E2 ([p,q],(0,1))) _=_;rw [Zi p q hp hq,AD,Gp];cases h:w0 p q<;>rfl
theorem Zj (p q:AT) (hp:ET p) (hq:ET q):F6 [p,q]=some (Tt p q):=by
 unfold F6;refine Eq.trans (b:=bd (loop _ (1,([p,q],([0,0],0)))) _) rfl ?_;refine BG (x:=(0,((2,([p,q],([0,if w0 p q=true then 1 else 0],0))),()))) (DM (n:=2) (by omega) ((BN (s':=(2,([p,q],([0,if w0 p q=true then 1 else 0],0)))) ?_).trans (Bh rfl))) ?_
 ·show bd (F5 ([p,q],1)) _=_;rw [On p q hp hq,AD];refine (Jk 1 rfl (x:=(0:Int)) rfl).trans ?_;cases h:w0 p q<;>rfl
 ·rw [On p q hp hq,AD];unfold Tt;cases h:w0 p q<;>rfl
theorem XO {l:List AT} (h : ∀ k∈l,ET k) (h0:l≠[]) (hl:l.length<=32):FG l=some 0:=by
 unfold FG;simp only [AU,AP];rw [CP,Ax,if_neg (by have:=List.length_pos_iff.2 h0;omega),if_neg (by omega)]
 rw [ED (l:=l) (σ:=Unit) (s:=((0:Int),(0:Int))) (λk _=>((k:Int),(0:Int))) (λ_ _ _=>True) (λ_ _ _=>(1,(((l.length:Int),0),()))) () rfl (by omega) trivial (λst _=>by
  simp only;rw [re];rfl) (λk x m st _ hx hk _=>⟨(),by
   simp only;rw [rl hk,AN,AE,AK hx,Gp,A1 hx (by omega)];by_cases hd:x.2=true
   ·rw [if_pos hd,AE,AK hx,Bd,EM,if_pos (h x (List.mem_of_getElem? hx) hd)]
   ·rw [if_neg hd],trivial,rfl⟩),AD]
 rfl
theorem XP (p q:AT) (hp:ET p) (hq:ET q):EI [p,q]=some (Tt p q,0):=by
 unfold EI;rw [XO (by simp [hp,hq]) (by simp) (by simp),AD,AR,if_pos rfl,Zj p q hp hq,AD]
end Go.Proofs.YthpkjfabdccpdaaGreat.Pl
namespace Go.Proofs.YthpkjfabdccpdaaGreat.Pl
open Go Go.Proofs.YthpkjfabdccpdaaGreat.Sv
theorem Gi:Bp=BK:=rfl
theorem Oo:F7=Ae:=rfl
theorem Uk (l m:List AT) (hb:l.length<=9223372036854775806) (hl:l.length=m.length) : ∃ r,loop (λs1=>br (Ah s1.1 (l.length:Int)) (λ_=>AS s1.1 λk2=>ix l k2 λx3=>AS s1.1 λk4=>ix m k4 λx5=>br (AZ (Bo (seq x3.1 x5.1) (Bo (Sv.beq x3.2 x5.2) true))) (λ_=>some (LR.dn ((0:Nat),((s1.1,false),())))) λ_=>some (.nx (AH .i64 s1.1 1,s1.2))) λ_=>some (.dn ((1,(s1,()))))) ((0:Int),false)=some r/\((l=m/\r.1=1)\/(l≠m/\r.1=0/\r.2.1.2=false)):=by
 refine IS l m hl hb (λk x y hx hy => ?_) (by simp only;rw [re];rfl);have hk:=(List.getElem?_eq_some_iff.1 hx).1
 have he : ∀ {β:Type} (u v:Unit->Option β),br (AZ (Bo (seq x.1 y.1) (Bo (Sv.beq x.2 y.2) true))) u v=if x=y then v () else u ():=by
  intro β u v;rw [L9,LF,beq_eq,Iy,CX,Cm];by_cases e:x=y
  ·subst e;simp
  ·rw [if_pos (λh=>e (Prod.ext h.1 h.2)),if_neg e]
 constructor
 ·intro e;simp only;rw [rl hk,AN,AE,AK hx,AE,AK hy,he,if_pos e,Aa (by omega)]
 ·intro e;simp only;rw [rl hk,AN,AE,AK hx,AE,AK hy,he,if_neg e]
theorem Oq (s t:D0) (h1:s.1.length<=1000) (h2:s.2.1.length<=1000):E3 (s,t)=some (decide (s=t)):=by
 obtain ⟨sk,sl,sw⟩:=s;obtain ⟨tk,tl,tw⟩:=t;simp only at h1 h2;unfold E3;simp only [AU,AP];rw [AR];by_cases e1:(sk.length:Int)=(tk.length:Int);rotate_left
 ·rw [if_neg e1];have : ¬ sk=tk:=λe=>e1 (by rw [e]);simp [this]
 rw [if_pos e1,AR];by_cases e2:sw=tw;rotate_left
 ·rw [if_neg e2];simp [e2]
 rw [if_pos e2,Oo,KN _ _ (by omega),AD,CX,Cm];by_cases e3:sl=tl;rotate_left
 ·rw [if_pos e3];simp [e3]
 rw [if_neg (show ¬ ¬ sl=tl by simp [e3])];obtain ⟨r,q1,q2⟩:=Uk sk tk (by omega) (by omega);refine BG q1 ?_;rw [CO];rcases q2 with ⟨e,q2⟩ | ⟨e,q2,q3⟩
 ·rw [if_neg (show ¬ r.1=0 by omega)];simp [e,e2,e3]
 ·rw [if_pos q2,q3];simp [e]
theorem S0 (s t:AY) (h1:s.1.length<=1000) (h2 : ∀ l∈s.1,l.length<=1000000) (h3:s.2.1.length<=1000) (h4:s.2.2.1.length<=1000) (h5:s.2.2.2.1.length<=1000):GA (s,t)=some (decide (s=t)):=by
 obtain ⟨sr,sa,st⟩:=s;obtain ⟨tr,ta,tt⟩:=t;simp only at h1 h2 h3 h4 h5;unfold GA;simp only [AU,AP];rw [AR];by_cases e1:(sr.length:Int)=(tr.length:Int);rotate_left
 ·rw [if_neg e1];have : ¬ sr=tr:=λe=>e1 (by rw [e]);simp [this]
 rw [if_pos e1,Oo,KN _ _ (by omega),AD,CX,Cm];by_cases e2:sa=ta;rotate_left
 ·rw [if_pos e2];simp [e2]
 rw [if_neg (show ¬ ¬ sa=ta by simp [e2]),Oq _ _ h4 h5,AD,CX,Cm];by_cases e3:st=tt;rotate_left
 ·rw [if_pos e3];simp [e3]
 rw [if_neg (show ¬ ¬ st=tt by simp [e3])]
 obtain ⟨r,q1,q2⟩:=IS sr tr (by omega) (by omega) (f:=λs2=>br (Ah s2.1 (sr.length:Int)) (λ_=>AS s2.1 λk3=>ix sr k3 λx4=>AS s2.1 λk5=>ix tr k5 λx6=>bd (Bp (x4,x6)) λr7=>br (AZ r7) (λ_=>some (.dn ((0,((s2.1,false),()))))) λ_=>some (.nx (AH .i64 s2.1 1,s2.2))) λ_=>some (.dn ((1,(s2,()))))) (λk x y hx hy=>by
   have hk:=(List.getElem?_eq_some_iff.1 hx).1;have hx1:=h2 x (List.mem_of_getElem? hx);constructor
   ·intro e;simp only;rw [rl hk,AN,AE,AK hx,AE,AK hy,Gi,F4 _ _ (by omega),AD,CX,Cm,if_neg (by simp [e]),Aa (by omega)]
   ·intro e;simp only
    rw [rl hk,AN,AE,AK hx,AE,AK hy,Gi,F4 _ _ (by omega),AD,CX,Cm,if_pos e]) (by simp only;rw [re];rfl)
 refine BG q1 ?_;rw [CO];rcases q2 with ⟨e,q2⟩ | ⟨e,q2,q3⟩
 ·rw [if_neg (show ¬ r.1=0 by omega)];simp [e,e2,e3]
 ·rw [if_pos q2,q3];simp [e]
theorem Ul (x y:Ir) (h1:x.1.1.length<=1000) (h2 : ∀ l∈x.1.1,l.length<=1000000) (h3:x.1.2.1.length<=1000) (h4:x.1.2.2.1.length<=1000) (h5:x.1.2.2.2.1.length<=1000) (h6:x.2.2.1.length<=1000000):BS (x,y)=some (decide (x=y)):=by
 obtain ⟨xm,⟨xs,xt,xb⟩,xo,xn⟩:=x;obtain ⟨ym,⟨ys,yt,yb⟩,yo,yn⟩:=y;simp only at h1 h2 h3 h4 h5 h6;unfold BS;simp only [S0 _ _ h1 h2 h3 h4 h5,Gi,F4 _ _ (show xo.length<=9223372036854775806 by omega),AD,Cm,EN,LF,beq_eq,L9,Iy]
 repeat' split
 all_goals simp_all
section
variable {a b:List AB} (va:VL a) (vb:VL b)
include va vb
theorem LK:DV [a,b]=some (0,0):=by
 have la:=va.len;have lb:=vb.len;unfold DV;refine Eq.trans (b:=bd (loop _ (0,(0,0))) _) rfl ?_;refine BG (x:=(1,((0,(0,2)),()))) (Cc (s1:=(0,(0,1))) (s2:=(0,(0,2))) ?_ ?_ rfl) rfl
 ·refine (Nb 0 rfl rfl (x:=a) rfl).trans ?_;rw [GY _ (by omega),Ji va,AD];rfl
 ·refine (Nb 1 rfl rfl (x:=b) rfl).trans ?_;rw [GY _ (by omega),Ji vb,AD];rfl
theorem I0 {i j:Nat} (hi:i<=a.length) (hj:j<=b.length):DW ([a,b],[(i:Int),(j:Int)])=some (if i=a.length/\j=b.length then -1 else if HY a b i j=true then 0 else 1):=by
 have la:=va.len;have lb:=vb.len;unfold DW;simp only [AU,AP];refine BG (x:=(0,((if i=a.length/\j=b.length then -1 else if HY a b i j=true then 0 else 1,2),()))) (Cc (s1:=(if i=a.length then -1 else 0,1)) (s2:=(if i=a.length/\j=b.length then -1 else if HY a b i j=true then 0 else 1,2)) ?_ ?_ rfl) rfl
 ·refine (Nb 0 rfl rfl (x:=(i:Int)) rfl).trans ((Eh 0 rfl (x:=a) rfl).trans ?_);rw [BD];by_cases h:i=a.length
  ·rw [if_neg (by omega),if_pos h];rfl
  ·rw [if_pos (by omega),if_neg h];rfl
 ·refine (Nb 1 rfl rfl (x:=(j:Int)) rfl).trans ((Eh 1 rfl (x:=b) rfl).trans ?_);rw [BD];by_cases h:j=b.length
  ·rw [if_neg (by omega)];by_cases h2:i=a.length
   ·rw [if_pos h2,if_pos ⟨h2,h⟩];rfl
   ·rw [if_neg h2,if_neg (λh3=>h2 h3.1)];have hx:a[i]? = some (a[i]'(by omega)):=by simp
    rw [WA hx (List.getElem?_eq_none (by omega))];rfl
  ·have hy:b[j]? = some (b[j]'(by omega)):=by simp
   rw [if_pos (by omega),BD,if_neg (λh3:i=a.length/\j=b.length=>h h3.2)];by_cases h2:i=a.length
   ·rw [if_pos h2,if_pos (by omega),WB (List.getElem?_eq_none (by omega)) hy];rfl
   ·rw [if_neg h2,if_neg (by omega)];have hx:a[i]? = some (a[i]'(by omega)):=by simp
    refine (Eh 1 rfl (x:=b) rfl).trans ((Eh 1 rfl (x:=(j:Int)) rfl).trans ((Eh j rfl hy).trans ((Eh 0 rfl (x:=a) rfl).trans ((Eh 0 rfl (x:=(i:Int)) rfl).trans ((Eh i rfl hx).trans ?_)))));rw [GU,Of hx hy];cases hs:CJ (b[j]'(by omega)).1 (a[i]'(by omega)).1<;>rfl
theorem I1 {i j:Nat} (hi:i<=a.length) (hj:j<=b.length):Cv ([a,b],[(i:Int),(j:Int)])=some (LO a b i j):=by
 have la:=va.len;have lb:=vb.len;unfold Cv;simp only [AU,AP];rw [BU (show [a,b].length<=1048576 from (show 2<=1048576 by omega)),BU (show [(i:Int),(j:Int)].length<=1048576 from (show 2<=1048576 by omega))];refine BG (x:=(0,((2,[kx a i,kx b j]),()))) (Cc (s1:=(1,[kx a i])) (s2:=(2,[kx a i,kx b j])) ?_ ?_ rfl) ?_
 ·refine (Nb 0 rfl rfl (x:=(i:Int)) rfl).trans ((Eh 0 rfl (x:=a) rfl).trans ?_);rw [EN,CX,Cm];by_cases h:i=a.length
  ·have hne:((i:Int)=(a.length:Int)):=by omega
   rw [if_neg (show ¬ ¬ ((i:Int)=(a.length:Int)) by simp [hne]),L8 (List.getElem?_eq_none (by omega))];simp only [hne,decide_true];rfl
  ·have hx:a[i]? = some (a[i]'(by omega)):=by simp
   have hne : ¬ ((i:Int)=(a.length:Int)):=by omega
   rw [if_pos hne];refine (Eh 0 rfl (x:=a) rfl).trans ((Eh 0 rfl (x:=(i:Int)) rfl).trans ((Eh i rfl hx).trans ?_));rw [F1 hx];simp only [hne,decide_false];rfl
 ·refine (Nb 1 rfl rfl (x:=(j:Int)) rfl).trans ((Eh 1 rfl (x:=b) rfl).trans ?_);rw [EN,CX,Cm];by_cases h:j=b.length
  ·have hne:((j:Int)=(b.length:Int)):=by omega
   rw [if_neg (show ¬ ¬ ((j:Int)=(b.length:Int)) by simp [hne]),L8 (l:=b) (i:=j) (List.getElem?_eq_none (by omega))];simp only [hne,decide_true];rfl
  ·have hx:b[j]? = some (b[j]'(by omega)):=by simp
   have hne : ¬ ((j:Int)=(b.length:Int)):=by omega
   rw [if_pos hne];refine (Eh 1 rfl (x:=b) rfl).trans ((Eh 1 rfl (x:=(j:Int)) rfl).trans ((Eh j rfl hx).trans ?_));rw [F1 (l:=b) (i:=j) hx];simp only [hne,decide_false];rfl
 ·show bd (EI [kx a i,kx b j]) _=_;rw [XP _ _ (Ba _ _) (Ba _ _)];rfl
theorem WJ {i:Nat} {l:List AB} (h:i≠0) (hi:i<=l.length) : ∃ x,l[i-1]? = some x:=⟨l[i-1]'(by omega),by simp⟩
theorem M5 {i j:Nat} (I:Inv a b i j):DY (LO a b i j)=some (0,0):=by
 have la:=va.len;have lb:=vb.len;have hi:=I.ia;have hj:=I.jb;unfold DY;rw [show (LO a b i j).1=[a,b] from rfl,LK va vb,AD,AR,if_pos rfl];rw [show (LO a b i j).2.1=[(i:Int),(j:Int)] from rfl,AR,if_pos (show AV (AA [(i:Int),(j:Int)])=AV (AA [a,b]) from rfl)];refine BG (x:=(1,((0,(0,2)),()))) (Cc (s1:=(0,(0,1))) (s2:=(0,(0,2))) ?_ ?_ rfl) ?_
 ·refine (Nb 0 rfl rfl (x:=(i:Int)) rfl).trans ?_;rw [BD,if_neg (by omega)];refine (Eh 0 rfl (x:=(i:Int)) rfl).trans ((Eh 0 rfl (x:=a) rfl).trans ?_);rw [Ax,if_neg (by simp only [AU,AP];omega)];rfl
 ·refine (Nb 1 rfl rfl (x:=(j:Int)) rfl).trans ?_;rw [BD,if_neg (by omega)];refine (Eh 1 rfl (x:=(j:Int)) rfl).trans ((Eh 1 rfl (x:=b) rfl).trans ?_);rw [Ax,if_neg (by simp only [AU,AP];omega)];rfl
 rw [show neq ((1:Nat),(((0:Int),((0:Int),(2:Int))),())).1 0=false from rfl,Ag,I1 va vb hi hj,AD,Oq (LO a b i j).2.2 (LO a b i j).2.2 (show 2<=1000 by omega) (show 2<=1000 by omega),AD,CX,Cm,if_neg (show ¬ ¬ (LO a b i j).2.2=(LO a b i j).2.2 by simp),I0 va vb hi hj,AD];by_cases hd:i=a.length/\j=b.length
 ·rw [if_pos hd];refine BG (x:=(1,((0,(0,0)),()))) (DM (n:=1) (by omega) (Bh ?_)) rfl;rfl
 rw [if_neg hd];cases g:HY a b i j with
 | true =>
  rw [if_pos rfl]
  have hil:i<a.length:=by
   refine Nat.lt_of_not_le λh' => ?_;have hb2:j<b.length:=by omega
   rw [WB (List.getElem?_eq_none h') (show b[j]? = some (b[j]'hb2) by simp)] at g;cases g
  have hx:a[i]? = some (a[i]'hil):=by simp
  refine BG (x:=(1,((0,(0,2)),()))) (Cc (s1:=(0,(0,1))) (s2:=(0,(0,2))) ?_ ?_ rfl) rfl
  ·show br (Ah (0:Int) 2) _ _=_;rw [BD,if_pos (by omega),Fw,if_pos (by omega)];refine (Eh 0 rfl (x:=(i:Int)) rfl).trans ?_;rw [CP];by_cases h0:i=0
   ·rw [if_pos (by omega)];rfl
   ·rw [if_neg (by omega)];obtain ⟨y,hy⟩:=WJ va vb (l:=a) h0 hi;refine (Eh 0 rfl (x:=a) rfl).trans ((Eh 0 rfl (x:=(i:Int)) rfl).trans ?_);rw [show BJ .i64 (i:Int) 1=((i-1:Nat):Int) by rw [Bl (by omega)];omega,AE,AK hy];refine (Eh 0 rfl (x:=a) rfl).trans ((Eh 0 rfl (x:=(i:Int)) rfl).trans ((Eh i rfl hx).trans ?_));have hlt:=va.lt hy (show a[i-1+1]? = some _ by rw [show i-1+1=i by omega];exact hx);rw [GU,if_neg (by rw [Dn hlt];simp),EM,if_neg (UY hlt)];rfl
  ·show br (Ah (1:Int) 2) _ _=_;rw [BD,if_pos (by omega),Fw,if_pos (by omega)];refine (Eh 1 rfl (x:=(j:Int)) rfl).trans ?_;rw [CP];by_cases h0:j=0
   ·rw [if_pos (by omega)];rfl
   ·rw [if_neg (by omega)];obtain ⟨y,hy⟩:=WJ va vb (l:=b) h0 hj;refine (Eh 1 rfl (x:=b) rfl).trans ((Eh 1 rfl (x:=(j:Int)) rfl).trans ?_);rw [show BJ .i64 (j:Int) 1=((j-1:Nat):Int) by rw [Bl (by omega)];omega,AE,AK hy];refine (Eh 0 rfl (x:=a) rfl).trans ((Eh 0 rfl (x:=(i:Int)) rfl).trans ((Eh i rfl hx).trans ?_));have hlt:=I.pb (j-1) (by omega) y _ hy hx;rw [GU,if_neg (by rw [Dn hlt];simp),EM,if_neg (UY hlt)];rfl
 | false =>
  rw [if_neg (by simp)]
  have hjl:j<b.length:=by
   refine Nat.lt_of_not_le λh' => ?_;have ha2:i<a.length:=by omega
   rw [WA (show a[i]? = some (a[i]'ha2) by simp) (List.getElem?_eq_none h')] at g;cases g
  have hx:b[j]? = some (b[j]'hjl):=by simp
  refine BG (x:=(1,((0,(0,2)),()))) (Cc (s1:=(0,(0,1))) (s2:=(0,(0,2))) ?_ ?_ rfl) rfl
  ·show br (Ah (0:Int) 2) _ _=_;rw [BD,if_pos (by omega),Fw,if_pos (by omega)];refine (Eh 0 rfl (x:=(i:Int)) rfl).trans ?_;rw [CP];by_cases h0:i=0
   ·rw [if_pos (by omega)];rfl
   ·rw [if_neg (by omega)];obtain ⟨y,hy⟩:=WJ va vb (l:=a) h0 hi;refine (Eh 0 rfl (x:=a) rfl).trans ((Eh 0 rfl (x:=(i:Int)) rfl).trans ?_);rw [show BJ .i64 (i:Int) 1=((i-1:Nat):Int) by rw [Bl (by omega)];omega,AE,AK hy];refine (Eh 1 rfl (x:=b) rfl).trans ((Eh 1 rfl (x:=(j:Int)) rfl).trans ((Eh j rfl hx).trans ?_));have hle:=I.pa (i-1) (by omega) y _ hy hx;rw [GU,if_neg (by rw [hle];simp),EM];by_cases he:y.1=(b[j]'hjl).1
    ·rw [if_pos he];rfl
    ·rw [if_neg he];rfl
  ·show br (Ah (1:Int) 2) _ _=_;rw [BD,if_pos (by omega),Fw,if_pos (by omega)];refine (Eh 1 rfl (x:=(j:Int)) rfl).trans ?_;rw [CP];by_cases h0:j=0
   ·rw [if_pos (by omega)];rfl
   ·rw [if_neg (by omega)];obtain ⟨y,hy⟩:=WJ va vb (l:=b) h0 hj;refine (Eh 1 rfl (x:=b) rfl).trans ((Eh 1 rfl (x:=(j:Int)) rfl).trans ?_);rw [show BJ .i64 (j:Int) 1=((j-1:Nat):Int) by rw [Bl (by omega)];omega,AE,AK hy];refine (Eh 1 rfl (x:=b) rfl).trans ((Eh 1 rfl (x:=(j:Int)) rfl).trans ((Eh j rfl hx).trans ?_));have hlt:=vb.lt hy (show b[j-1+1]? = some _ by rw [show j-1+1=j by omega];exact hx);rw [GU,if_neg (by rw [Dn hlt];simp),EM,if_neg (UY hlt)];rfl
end
end Go.Proofs.YthpkjfabdccpdaaGreat.Pl
namespace Go.Proofs.YthpkjfabdccpdaaGreat.Pl
open Go Go.Proofs.YthpkjfabdccpdaaGreat.Sv
section
variable {a b:List AB} (va:VL a) (vb:VL b)
include va vb
theorem Zk {n:Nat} {x:AB} (h:n<a.length+b.length) (hx:Na a b n=some x):D4 (LH a b n)=some (x,((Og a b n:Int),(LH a b (n+1),0))):=by
 obtain ⟨hI,hs⟩:=FW va vb (n:=n) (by omega);obtain ⟨hI2,hs2⟩:=FW va vb (n:=n+1) (by omega);have la:=va.len;have lb:=vb.len;have hia:=hI.ia;have hjb:=hI.jb;unfold D4;rw [show LH a b n=LO a b (Am a b n).1 (Am a b n).2 from rfl,M5 va vb hI,AD,AR,if_pos rfl,show (LO a b (Am a b n).1 (Am a b n).2).1=[a,b] from rfl,show (LO a b (Am a b n).1 (Am a b n).2).2.1=[((Am a b n).1:Int),((Am a b n).2:Int)] from rfl,I0 va vb hia hjb,AD,if_neg (λhh:(Am a b n).1=a.length/\(Am a b n).2=b.length=>by omega)];unfold Na at hx;have hpos:Am a b (n+1)=if HY a b (Am a b n).1 (Am a b n).2=true then ((Am a b n).1+1,(Am a b n).2) else ((Am a b n).1,(Am a b n).2+1):=rfl
 unfold LH Og;cases g:HY a b (Am a b n).1 (Am a b n).2 with
 | true =>
  rw [g,if_pos rfl] at hpos;rw [g,if_pos rfl] at hx;have hi:=(List.getElem?_eq_some_iff.1 hx).1;rw [if_pos rfl,BD,if_neg (by omega),BU (show AA [((Am a b n).1:Int),((Am a b n).2:Int)]<=1048576 from (show 2<=1048576 by omega))];refine (Jk 0 rfl (x:=((Am a b n).1:Int)) rfl).trans ((Jk 0 rfl (x:=((Am a b n).1:Int)) rfl).trans ((Eh 0 rfl (x:=a) rfl).trans ((Eh 0 rfl (x:=((Am a b n).1:Int)) rfl).trans ((Eh _ rfl hx).trans ?_))));rw [Aa (by omega),show lset [((Am a b n).1:Int),((Am a b n).2:Int)] 0 (((Am a b n).1+1:Nat):Int)=[(((Am a b n).1+1:Nat):Int),((Am a b n).2:Int)] from rfl,I1 va vb (by omega) hjb,AD,hpos];rfl
 | false =>
  rw [g,if_neg (by simp)] at hpos;rw [g,if_neg (by simp)] at hx;have hi:=(List.getElem?_eq_some_iff.1 hx).1;rw [if_neg (by simp),BD,if_neg (by omega),BU (show AA [((Am a b n).1:Int),((Am a b n).2:Int)]<=1048576 from (show 2<=1048576 by omega))];refine (Jk 1 rfl (x:=((Am a b n).2:Int)) rfl).trans ((Jk 1 rfl (x:=((Am a b n).2:Int)) rfl).trans ((Eh 1 rfl (x:=b) rfl).trans ((Eh 1 rfl (x:=((Am a b n).2:Int)) rfl).trans ((Eh _ rfl hx).trans ?_))));rw [Aa (by omega),show lset [((Am a b n).1:Int),((Am a b n).2:Int)] 1 (((Am a b n).2+1:Nat):Int)=[((Am a b n).1:Int),(((Am a b n).2+1:Nat):Int)] from rfl,I1 va vb hia (by omega),AD,hpos];rfl
theorem Zl {n:Nat} (h:n<=a.length+b.length):F9 (LH a b n)=some (((a.length+b.length-n:Nat):Int),0):=by
 obtain ⟨hI,hs⟩:=FW va vb (n:=n) h;have la:=va.len;have lb:=vb.len;have ha:=hI.ia;have hb:=hI.jb;unfold F9;rw [show LH a b n=LO a b (Am a b n).1 (Am a b n).2 from rfl,M5 va vb hI,AD,AR,if_pos rfl];refine BG (x:=(0,((2,((a.length+b.length-n:Nat):Int)),()))) (Cc (s1:=(1,(a.length:Int)-((Am a b n).1:Int))) (s2:=(2,((a.length+b.length-n:Nat):Int))) ?_ ?_ rfl) rfl
 ·refine (Nb 0 rfl rfl (x:=a) rfl).trans ((Eh 0 rfl (x:=((Am a b n).1:Int)) rfl).trans ?_);simp only [AU,AP];rw [show AH .i64 (0:Int) (a.length:Int)=(a.length:Int) by rw [CT (by omega),Int.zero_add],Bl (by omega)];rfl
 ·refine (Nb 1 rfl rfl (x:=b) rfl).trans ((Eh 1 rfl (x:=((Am a b n).2:Int)) rfl).trans ?_);simp only [AU,AP];show some (LR.nx ((2:Int),BJ .i64 (AH .i64 ((a.length:Int)-((Am a b n).1:Int)) (b.length:Int)) ((Am a b n).2:Int)))=_;rw [CT (by omega),Bl (by omega),show (a.length:Int)-((Am a b n).1:Int)+(b.length:Int)-((Am a b n).2:Int)=((a.length+b.length-n:Nat):Int) by omega]
theorem WK:Ek [a,b]=some (Az a b (a.length+b.length),(HP a b (a.length+b.length),0)):=by
 have la:=va.len;have lb:=vb.len;unfold Ek;rw [LK va vb,AD,AR,if_pos rfl];refine Eq.trans (b:=bd (loop _ ([],([],([],(0,([],[0,0])))))) _) rfl ?_
 refine BG (x:=(0,((HP a b (a.length+b.length),(Az a b (a.length+b.length),0)),())))
  (IR (λk=>([],(Az a b k,([],(0,(HP a b k,[((Am a b k).1:Int),((Am a b k).2:Int)])))))) 0 (a.length+b.length) rfl (by omega) (by omega) (λk _ hk => ?_) ?_) rfl
 ·obtain ⟨x,hx,_⟩:=EC va vb (n:=k) hk;obtain ⟨hI,hs⟩:=FW va vb (n:=k) (by omega);have hl1:(Az a b k).length=k:=Ch va vb (by omega);have hl2:=My a b k;simp only;rw [I0 va vb hI.ia hI.jb,AD,if_neg (λhh:(Am a b k).1=a.length/\(Am a b k).2=b.length=>by omega)];rw [GW va vb hx];unfold Na at hx;rw [show HP a b (k+1)=HP a b k++[(Og a b k:Int)] from rfl];unfold Og;rw [show Am a b (k+1)=if HY a b (Am a b k).1 (Am a b k).2=true then ((Am a b k).1+1,(Am a b k).2) else ((Am a b k).1,(Am a b k).2+1) from rfl]
  have g1 : ∀ {β:Type} (y:AB) (q:Unit->Option β),gd (A6 (AJ (AA (Az a b k)) (AA [y])) 1048576) q=q ():=λy q=>BU (by simp only [AJ,AA,hl1,List.length_cons,List.length_nil];omega) q;have g2 : ∀ {β:Type} (y:Int) (q:Unit->Option β),gd (A6 (AJ (AA (HP a b k)) (AA [y])) 1048576) q=q ():=λy q=>BU (by simp only [AJ,AA,hl2,List.length_cons,List.length_nil];omega) q;cases g:HY a b (Am a b k).1 (Am a b k).2 with
  | true =>
   rw [g,if_pos rfl] at hx;have hi:=(List.getElem?_eq_some_iff.1 hx).1;simp only [if_true];rw [BD,if_neg (by omega)];refine (Eh 0 rfl (x:=a) rfl).trans ((Jk 0 rfl (x:=((Am a b k).1:Int)) rfl).trans ((Eh _ rfl hx).trans ?_));rw [g1,g2];refine (Jk 0 rfl (x:=((Am a b k).1:Int)) rfl).trans ((Jk 0 rfl (x:=((Am a b k).1:Int)) rfl).trans ?_);rw [Aa (by omega)];rfl
  | false =>
   rw [g,if_neg (by simp)] at hx;have hi:=(List.getElem?_eq_some_iff.1 hx).1;simp only [Bool.false_eq_true,if_false];rw [BD,if_neg (by omega)];refine (Eh 1 rfl (x:=b) rfl).trans ((Jk 1 rfl (x:=((Am a b k).2:Int)) rfl).trans ((Eh _ rfl hx).trans ?_));rw [g1,g2];refine (Jk 1 rfl (x:=((Am a b k).2:Int)) rfl).trans ((Jk 1 rfl (x:=((Am a b k).2:Int)) rfl).trans ?_);rw [Aa (by omega)];rfl
 ·obtain ⟨hI,hs⟩:=FW va vb (n:=a.length+b.length) (Nat.le_refl _);simp only;rw [I0 va vb hI.ia hI.jb,AD,if_pos (show (Am a b (a.length+b.length)).1=a.length/\(Am a b (a.length+b.length)).2=b.length by have:=hI.ia;have:=hI.jb;omega),BD,if_pos (by omega)]
end
theorem S1 {s:Bu} (h1:s.2.1.length<=32) (h2:s.1=false->s.2.1=[]):FJ s=some 0:=by
 unfold FJ;rw [Ax,if_neg (by simp only [AU,Iu];omega),Bd,Gp];cases h:s.1 with
 | true=>rfl
 | false=>rw [if_neg (by simp),Bd,EM,if_pos (h2 h)]
theorem Um {s:Bu} {x:AB} (h1:s.2.1.length<=32) (h2:s.1=false->s.2.1=[]) (h3:kE x=0) (h4:s.1=true->CJ x.1 s.2.1=false):F8 (s,x)=some (keep s x,((true,(x.1,s.2.2)),0)):=by
 unfold F8 keep;rw [S1 h1 h2,AD,CP,if_pos rfl,Iz,h3,AD,CP,if_pos rfl];obtain ⟨s1,s2,s3⟩:=s;obtain ⟨x1,x2,x3,x4⟩:=x;simp only at h4 ⊢;cases s1 with
 | true =>
  have:=h4 rfl;simp only [AN,GU,this,Bool.false_eq_true,if_false,AR,if_true,Bd,EM];by_cases he:x1=s2
  ·simp [he,Ag]
  ·simp only [he,if_false,decide_false];cases s3<;>cases x3<;>rfl
 | false =>
  simp only [Ag,AR,if_true,Bd];cases s3<;>cases x3<;>rfl
theorem Un {l:List AB} {bt:Bool} (hl:l.length<=20000) (hr:Oj (false,([],bt)) l):El (l,bt)=some (FD (false,([],bt)) l,(0,0)):=by
 unfold El Cw;simp only [AU,AP];rw [Ax,if_neg (by omega),AD]
 rw [ED (l:=l) (σ:=Bu×List AB) (s:=(0,(0,([],([],(0,(false,([],bt)))))))) (λk st=>((0:Int),((k:Int),(([]:List AB),(st.2,((0:Int),st.1))))))
  (λm k st=>Oj st.1 m/\st.1.2.1.length<=32/\(st.1.1=false->st.1.2.1=[])/\st.2.length<=k/\k+m.length=l.length)
  (λm k st=>(1,((0,((l.length:Int),([],(st.2++FD st.1 m,(0,CR st.1 m))))),()))) ((false,([],bt)),[]) rfl (by omega) ⟨hr,by simp,λ_=>rfl,by simp,by simp⟩ ?_ ?_,AD]
 ·simp;rfl
 ·intro st _;simp only;rw [re,Ag];simp [CR,FD]
 ·rintro k x m ⟨s,out⟩ hm hx hk ⟨⟨h1,h2,h3⟩,h4,h5,h6,h7⟩;simp only at h1 h2 h3 h4 h5 h6 ⊢;refine ⟨((true,(x.1,s.2.2)),out++if keep s x=true then [x] else []),?_,⟨h3,Ok h1,(λh=>by cases h),?_,by simp at h7;omega⟩,?_⟩
  ·rw [rl hk,AN,AE,AK hx,Um h4 h5 h1 h2,AD,AR,if_pos rfl,Gp,AE,AK hx];have hg : ∀ {β:Type} (k:Unit->Option β),gd (A6 (AJ out.length [x].length) 1048576) k=k ():=λk=>WF h6 (by simp at h7;omega) x k;rw [hg,A1 hx (show l.length<=9223372036854775807 by omega)];cases hk2:keep s x<;>simp [DK]
  ·split<;>simp<;>omega
  ·simp only [CR,FD,List.append_assoc]
section
variable {a b:List AB} (va:VL a) (vb:VL b)
include va vb
theorem QF (bt:Bool) {n:Nat} (h:n<=a.length+b.length):C7 (Az a b n,bt)=some (FD (s0 bt) (Az a b n),CR (s0 bt) (Az a b n)):=by
 have la:=va.len;have lb:=vb.len;have hml:(Az a b n).length=n:=Ch va vb h;unfold C7;simp only [AU,AP];rw [Un (by omega) (HQ va vb bt h),AD];unfold Cw;rw [AD,Ax,hml];cases n with
 | zero=>rw [if_neg (by omega)];rfl
 | succ m =>
  obtain ⟨x,hx,_⟩:=EC va vb (n:=m) (by omega);rw [if_pos (by omega),show BJ .i64 ((m+1:Nat):Int) 1=(m:Int) by rw [Bl (by omega)];omega,AE,AK (x:=x) (by rw [IP va vb h (by omega)];exact hx),Jl va vb bt hx]
theorem S2 (bt:Bool) {n:Nat} (h:n<=a.length+b.length):D3 (EU a b bt n)=some (n:Int):=by
 obtain ⟨hI,hs⟩:=FW va vb (n:=n) h;have la:=va.len;have lb:=vb.len;unfold D3;refine BG (x:=(0,(((n:Int),2),()))) (Cc (s1:=(((Am a b n).1:Int),1)) (s2:=((n:Int),2)) ?_ ?_ rfl) rfl
 ·refine (Nb 0 rfl rfl (x:=((Am a b n).1:Int)) rfl).trans ?_;show some (LR.nx (AH .i64 0 ((Am a b n).1:Int),(1:Int)))=_;rw [CT (by omega),Int.zero_add]
 ·refine (Nb 1 rfl rfl (x:=((Am a b n).2:Int)) rfl).trans ?_;show some (LR.nx (AH .i64 ((Am a b n).1:Int) ((Am a b n).2:Int),(2:Int)))=_;rw [CT (by omega),show ((Am a b n).1:Int)+((Am a b n).2:Int)=(n:Int) by omega]
theorem S3 (bt:Bool) {n:Nat} (h:n<=a.length+b.length):FK (EU a b bt n)=some 0:=by
 obtain ⟨hI,hs⟩:=FW va vb (n:=n) h;have la:=va.len;have lb:=vb.len;have hfl:=IQ (s0 bt) (Az a b n);have hml:(Az a b n).length=n:=Ch va vb h;unfold FK;rw [show (EU a b bt n).1=LO a b (Am a b n).1 (Am a b n).2 from rfl,M5 va vb hI,AD,AR,if_pos rfl,S2 va vb bt h,AD];simp only [AU,AP];rw [show (EU a b bt n).2.2.1=FD (s0 bt) (Az a b n) from rfl,show (EU a b bt n).2.2.2=(n:Int) from rfl,show (EU a b bt n).2.1=CR (s0 bt) (Az a b n) from rfl,Ax,if_neg (by omega),Ax,if_neg (by omega),AR,if_pos rfl];rw [show (LO a b (Am a b n).1 (Am a b n).2).1=[a,b] from rfl,WK va vb,AD,AE];rw [BU (by rw [Ch va vb (Nat.le_refl _)];exact h),BU (Nat.zero_le _)];rw [show B3 (Az a b (a.length+b.length)) 0 n=Az a b n from by unfold B3;rw [List.drop_zero,Nat.sub_zero];exact Gx va vb h,F3];rw [show (s0 bt).2.2=bt from rfl,QF va vb bt h,AD,Gi,F4 _ _ (by omega),AD,CX,Cm,if_neg (by simp),F3,Hn,Hn,Iw];rfl
theorem LL (bt:Bool) {n:Nat} (h:n<=a.length+b.length):BF (EU a b bt n)=some (((a.length+b.length-n:Nat):Int),0):=by
 unfold BF;rw [S3 va vb bt h,AD,AR,if_pos rfl,show (EU a b bt n).1=LH a b n from rfl,Zl va vb h];rfl
theorem Uo (bt:Bool) {n:Nat} (h:n<=a.length+b.length) {k:Nat}:BQ (EU a b bt n,(k:Int))=some (EU a b bt (n+min k (a.length+b.length-n)),(((min k (a.length+b.length-n):Nat):Int),0)):=by
 have la:=va.len;have lb:=vb.len;obtain ⟨u,hu⟩ : ∃ u,u=min k (a.length+b.length-n):=⟨_,rfl⟩
 have him:NN (k:Int) ((a.length+b.length-n:Nat):Int)=(u:Int):=by
  unfold NN;split<;>omega
 rw [<- hu];unfold BQ;rw [LL va vb bt h,AD,CP,if_pos rfl];simp only [him,AU,AP];rw [BD,if_neg (by omega),AR,if_pos rfl,S2 va vb bt h,AD,CT (by omega),Ax,if_neg (by omega)]
 refine BG (x:=(0,(((u:Int),((LH a b (n+u)).1,((LH a b (n+u)).2.1,((LH a b (n+u)).2.2.1,((LH a b (n+u)).2.2.2.1,((LH a b (n+u)).2.2.2.2,((EU a b bt n).2.1.1,((EU a b bt n).2.1.2.1,((EU a b bt n).2.1.2.2,(EU a b bt n).2.2))))))))),())))
  (IR (λj=>((j:Int),((LH a b (n+j)).1,((LH a b (n+j)).2.1,((LH a b (n+j)).2.2.1,((LH a b (n+j)).2.2.2.1,((LH a b (n+j)).2.2.2.2,((EU a b bt n).2.1.1,((EU a b bt n).2.1.2.1,((EU a b bt n).2.1.2.2,(EU a b bt n).2.2)))))))))) 0 u rfl (by omega) (by omega) (λj _ hj => ?_) ?_) ?_
 ·obtain ⟨y,hy,_⟩:=EC va vb (n:=n+j) (by omega);show br (Ah (j:Int) (u:Int)) _ _=_;rw [BD,if_pos (by omega)];show bd (D4 (LH a b (n+j))) _=_;rw [Zk va vb (by omega) hy,AD,Aa (by omega)];rfl
 ·show br (Ah (u:Int) (u:Int)) _ _=_;rw [BD,if_neg (by omega)]
 ·rw [show (EU a b bt n).1.1=[a,b] from rfl,WK va vb,AD,show (EU a b bt n).2.2.2=(n:Int) from rfl,show AH .i64 (n:Int) (u:Int)=((n+u:Nat):Int) by rw [CT (by omega)];omega,AE];rw [BU (by rw [Ch va vb (Nat.le_refl _)];omega),BU (Nat.zero_le _)];rw [show B3 (Az a b (a.length+b.length)) 0 (n+u)=Az a b (n+u) from by unfold B3;rw [List.drop_zero,Nat.sub_zero];exact Gx va vb (by omega),show (EU a b bt n).2.1.2.2=bt from F3 _ _,QF va vb bt (by omega),AD];rfl
end
end Go.Proofs.YthpkjfabdccpdaaGreat.Pl
namespace Go.Proofs.YthpkjfabdccpdaaGreat.Pl
open Go Go.Proofs.YthpkjfabdccpdaaGreat.Sv
theorem XQ (B:Int) (i:Nat):B4 B (i+1)=2*B4 B i:=by
 unfold B4;rw [Int.pow_succ,<- Int.mul_assoc,Int.mul_comm]
theorem Zm {B:Int} {i:Nat} (h1:1<=B) (h2:B<=16) (hi:i<=12):D1 (B,(i:Int))=some (B4 B i):=by
 unfold D1;refine BG (x:=(0,((B4 B i,(i:Int)),()))) (Sl (λk=>(B4 B k,(k:Int))) i (by simp [B4]) (by omega) (λk hk => ?_) ?_) rfl
 ·have h3:=Sw h1 h2 (show k<=12 by omega);simp only;rw [BD,if_pos (by omega),V9 (by omega),Aa (by omega),XQ]
 ·simp only;rw [BD,if_neg (by omega)]
theorem f7 (r:A7) (hl:r.2.length<=9223372036854775807):FE r=some (if r.1<1\/r.1>1000000 then (-1,7) else DT r.2):=by
 unfold FE;rw [BD,Ax,GY _ hl,AD];by_cases h:r.1<1
 ·rw [if_pos h,if_pos (.inl h)]
 ·rw [if_neg h];by_cases h2:r.1>1000000
  ·rw [if_pos h2,if_pos (.inr h2)]
  ·rw [if_neg h2,if_neg (by omega)]
theorem Zn (r:A7) (most:Int) (ids:List Int) (hl:r.2.length<=9223372036854775807) (hi:ids.length<=1048576):D2 (r,(most,ids))=some (kR ids most r):=by
 unfold D2 kR;rw [f7 r (by omega),AD];simp only [AU,AP];by_cases h:r.1<1\/r.1>1000000
 ·rw [if_pos h,if_pos h];rfl
 rw [if_neg h,if_neg h,AR];by_cases h2:(DT r.2).2=0;rotate_left
 ·rw [if_neg h2,if_pos h2]
 rw [if_pos h2,if_neg (show ¬ (DT r.2).2≠0 by simp [h2]),CP,Ax];by_cases h3:r.2.length=0
 ·rw [if_pos (by omega),if_pos h3]
 rw [if_neg (by omega),if_neg h3];by_cases h4:(r.2.length:Int)>most
 ·rw [if_pos h4,if_pos h4]
 rw [if_neg h4,if_neg h4]
 obtain ⟨q,q1,q2⟩:=E9 (l:=ids) (σ:=Unit) (s:=((0:Int),(0:Int))) (λk _=>((k:Int),(0:Int))) (λm k _=>r.1∈ids<->r.1∈m) (λ(q:Nat×((Int×Int)×Unit))=>(q.1=1/\r.1 ∉ ids)\/(q.1=0/\r.1∈ids/\q.2.1.2=8))
  (f:=λs1=>br (Ah s1.1 (ids.length:Int)) (λ_=>AS s1.1 λk2=>ix ids k2 λx3=>br (Bm x3 r.1) (λ_=>some (.dn ((0,((s1.1,8),()))))) λ_=>some (.nx (AH .i64 s1.1 1,s1.2))) λ_=>some (.dn ((1,(s1,())))))
  () rfl (by omega) Iff.rfl (λ_ h=>⟨_,by simp only;rw [re];rfl,.inl ⟨rfl,by simpa using h⟩⟩) (λk x m _ hd hx hk h=>by
   simp only;rw [rl hk,AN,AE,AK hx,CP];by_cases e:x=r.1
   ·rw [if_pos e];exact .inr ⟨_,rfl,.inr ⟨rfl,by rw [h,e];simp,rfl⟩⟩
   ·rw [if_neg e];exact .inl ⟨(),by rw [A1 hx (by omega)],by rw [h,List.mem_cons];exact ⟨λu=>u.elim (λe2=>absurd e2.symm e) id,.inr⟩⟩)
 refine BG q1 ?_;rw [CO];rcases q2 with ⟨q2,q3⟩ | ⟨q2,q3,q4⟩
 ·rw [if_neg (show ¬ q.1=0 by omega),if_neg q3]
 ·rw [if_pos q2,if_pos q3,q4]
theorem Uq (L:AO) (hb:L.2.length<=1048576) (hr : ∀ rs∈L.2,rs.length<=1048576 /\ ∀ r∈rs,r.2.length<=9223372036854775807):DU L=some (EV L):=by
 unfold DU EV;simp only [AU,AP];rw [BD,Ax,Ax];by_cases hB1:L.1<1
 ·rw [if_pos hB1,if_pos (.inl hB1)]
 rw [if_neg hB1];by_cases hB2:L.1>16
 ·rw [if_pos hB2,if_pos (.inr hB2)]
 rw [if_neg hB2,if_neg (show ¬ (L.1<1\/L.1>16) by omega)];by_cases hl:(L.2.length:Int)>12
 ·rw [if_pos hl,if_pos (by omega)]
 rw [if_neg hl,if_neg (by omega)];have hl2:L.2.length<=12:=by omega
 obtain ⟨T,hT⟩ : ∃ T,T=KR L.1 0 [] L.2:=⟨_,rfl⟩;rw [<- hT]
 have hlast:T=none->(br (Bz (L.2.length:Int) 0) (λ_=>AS (BJ .i64 (L.2.length:Int) 1) λk15=>ix L.2 k15 λx16=>br (Bm (x16.length:Int) 0) (λ_=>some ((BJ .i64 (L.2.length:Int) 1,((0:Int),(6:Int))))) λ_=>some ((0,(0,0)))) λ_=>some ((0,(0,0))))=some (if L.2.getLast? = some [] then (((L.2.length-1:Nat):Int),(0,6)) else (0,(0,0))):=by
  intro _;rw [Ax];by_cases hn:L.2=[]
  ·rw [hn];rfl
  ·have hp:=List.length_pos_iff.2 hn;rw [if_pos (by omega),show BJ .i64 (L.2.length:Int) 1=((L.2.length-1:Nat):Int) by rw [Bl (by omega)];omega,AE,List.getLast?_eq_getElem?];have hx:L.2[L.2.length-1]? = some (L.2[L.2.length-1]'(by omega)):=by simp
   rw [AK hx,hx,CP];by_cases he:L.2[L.2.length-1]'(by omega)=[]
   ·rw [he];simp
   ·rw [if_neg (by have:=List.length_pos_iff.2 he;omega),if_neg (by simp [he])]
 obtain ⟨r,q1,q2⟩:=E9 (l:=L.2) (σ:=List Int) (s:=((0:Int),(([]:List Int),((0:Int),((0:Int),(0:Int)))))) (λi ids=>((0:Int),(ids,((0:Int),((0:Int),(i:Int))))))
  (λm i ids=>KR L.1 i ids m=T/\ids.length<=2*i) (λ(r:Nat×((Int×(List Int×(Int×(Int×Int))))×Unit))=>(r.1=1/\T=none)\/(r.1=0/\Q1 T r.2.1.1 r.2.1.2.2.1 r.2.1.2.2.2.1/\T≠none))
  (f:=λ(s0:(Int×((List Int)×(Int×(Int×Int)))))=>br (Ah s0.2.2.2.2 (L.2.length:Int)) (λ_=>AS s0.2.2.2.2 λk1=>ix L.2 k1 λx2=>br (Bz (x2.length:Int) 2) (λ_=>some (.dn ((0,((0,(s0.2.1,(s0.2.2.2.2,(3,s0.2.2.2.2)))),()))))) λ_=>bd (loop (λ(s3:(Int×((List Int)×(Int×(Int×Int)))))=>br (Ah s3.2.2.2.2 (x2.length:Int)) (λ_=>AS s3.2.2.2.2 λk4=>ix x2 k4 λx5=>bd (D1 (L.1,s0.2.2.2.2)) λr6=>bd (D2 ((x5,(r6,s3.2.1)))) λr7=>br (Ao r7 0) (λ_=>some (.dn ((0,((s3.2.2.2.2,(s3.2.1,(s0.2.2.2.2,(r7,s3.2.2.2.2)))),()))))) λ_=>AS s3.2.2.2.2 λk8=>ix x2 k8 λx9=>gd (A6 (AJ s3.2.1.length [x9.1].length) 1048576) λ_=>some (.nx ((s3.1,(DK s3.2.1 [x9.1],(s3.2.2.1,(s3.2.2.2.1,AH .i64 s3.2.2.2.2 1))))))) λ_=>some (.dn ((1,(s3,()))))) ((s0.1,(s0.2.1,(s0.2.2.1,(s0.2.2.2.1,0)))))) λr10=>br (neq r10.1 0) (λ_=>some (.dn ((0,((r10.2.1.1,(r10.2.1.2.1,(r10.2.1.2.2.1,(r10.2.1.2.2.2.1,s0.2.2.2.2)))),()))))) λ_=>some (.nx ((r10.2.1.1,(r10.2.1.2.1,(r10.2.1.2.2.1,(r10.2.1.2.2.2.1,AH .i64 s0.2.2.2.2 1))))))) λ_=>some (.dn ((1,(s0,())))))
  [] rfl (by omega) ⟨hT.symm,by simp⟩ (λids h=>by
   refine ⟨_,by simp only;rw [re];rfl,.inl ⟨rfl,?_⟩⟩;rw [<- h.1];rfl) (λi rs m ids hd hx hi h=>by
   obtain ⟨h,hids⟩:=h;simp only;obtain ⟨hrs1,hrs2⟩:=hr rs (List.mem_of_getElem? hx);rw [rl hi,AN,AE,AK hx,Ax];unfold KR at h;by_cases h3:rs.length>2
   ·rw [if_pos (by omega)];rw [if_pos h3] at h;refine .inr ⟨_,rfl,.inr ⟨rfl,?_,by rw [<- h];simp⟩⟩;rw [<- h];exact ⟨rfl,rfl,rfl⟩
   rw [if_neg (by omega)];rw [if_neg h3] at h;obtain ⟨U,hU⟩ : ∃ U,U=KQ (B4 L.1 i) 0 ids rs:=⟨_,rfl⟩;rw [<- hU] at h
   obtain ⟨r,q1,q2⟩:=E9 (l:=rs) (σ:=Unit) (s:=((0:Int),(ids,((0:Int),((0:Int),(0:Int)))))) (λk _=>((0:Int),(ids++(rs.take k).map (·.1),((0:Int),((0:Int),(k:Int))))))
    (λm k _=>KQ (B4 L.1 i) k (ids++(rs.take k).map (·.1)) m=U) (λ(r:Nat×((Int×(List Int×(Int×(Int×Int))))×Unit))=>(r.1=1/\U=none/\r.2.1=(0,(ids++rs.map (·.1),(0,(0,(rs.length:Int))))))\/(r.1=0 /\ ∃ k e,U=some (k,e)/\r.2.1.1=(k:Int)/\r.2.1.2.2.1=(i:Int)/\r.2.1.2.2.2.1=e))
    (f:=λ(s3:(Int×((List Int)×(Int×(Int×Int)))))=>br (Ah s3.2.2.2.2 (rs.length:Int)) (λ_=>AS s3.2.2.2.2 λk4=>ix rs k4 λx5=>bd (D1 (L.1,(i:Int))) λr6=>bd (D2 ((x5,(r6,s3.2.1)))) λr7=>br (Ao r7 0) (λ_=>some (.dn ((0,((s3.2.2.2.2,(s3.2.1,((i:Int),(r7,s3.2.2.2.2)))),()))))) λ_=>AS s3.2.2.2.2 λk8=>ix rs k8 λx9=>gd (A6 (AJ s3.2.1.length [x9.1].length) 1048576) λ_=>some (.nx ((s3.1,(DK s3.2.1 [x9.1],(s3.2.2.1,(s3.2.2.2.1,AH .i64 s3.2.2.2.2 1))))))) λ_=>some (.dn ((1,(s3,())))))
    () (by simp) (by omega) (by simp [hU]) (λ_ h=>by
     refine ⟨_,by simp only;rw [re];rfl,.inl ⟨rfl,by rw [<- h];rfl,by simp⟩⟩) (λk r m _ hd hx hk h=>by
     simp only;have hr2:=hrs2 r (List.mem_of_getElem? hx);have htk:(rs.take (k+1)).map (·.1)=(rs.take k).map (·.1)++[r.1]:=by rw [List.take_add_one,hx];simp
     have hlen:(ids++(rs.take k).map (·.1)).length<=100:=by simp;omega
     rw [rl hk,AN,AE,AK hx,Zm (by omega) (by omega) (by omega),AD,Zn _ _ _ (by omega) (by omega),AD,AR];unfold KQ at h;by_cases h0:kR (ids++(rs.take k).map (·.1)) (B4 L.1 i) r=0
     ·rw [if_neg (λhh:kR (ids++(rs.take k).map (·.1)) (B4 L.1 i) r≠0=>hh h0)] at h;rw [if_pos h0,AE,AK hx,BU (by simp only [AJ,List.length_cons,List.length_nil];omega)];refine .inl ⟨(),?_,?_⟩
      ·rw [A1 hx (by omega),htk,<- List.append_assoc];rfl
      ·rw [htk,<- List.append_assoc];exact h
     ·rw [if_pos h0] at h;rw [if_neg h0]
      exact .inr ⟨_,rfl,.inr ⟨rfl,_,_,h.symm,rfl,rfl,rfl⟩⟩)
   rw [q1,AD,CO];rcases q2 with ⟨q2,q3,q4⟩ | ⟨q2,k,e,q3,q4,q5,q6⟩
   ·rw [if_neg (show ¬ r.1=0 by omega),q4,A1 hx (by omega)];rw [q3] at h;exact .inl ⟨ids++rs.map (·.1),rfl,h,by simp;omega⟩
   ·rw [if_pos q2];rw [q3] at h;refine .inr ⟨_,rfl,.inr ⟨rfl,?_,by rw [<- h];simp⟩⟩;rw [<- h]
    exact ⟨q4,q5,q6⟩)
 refine BG q1 ?_;rw [CO];rcases q2 with ⟨q2,q3⟩ | ⟨q2,q3,q4⟩
 ·rw [if_neg (show ¬ r.1=0 by omega),q3];exact hlast q3
 ·rw [if_pos q2];cases hTc:T with
  | none=>exact absurd hTc q4
  | some t =>
   obtain ⟨i,k,e⟩:=t;rw [hTc] at q3;rw [q3.1,q3.2.1,q3.2.2]
def FU (ls:List (List A7)):List A7:=ls.flatMap List.reverse
theorem VLev.small {L:AO} (v:VLev L):L.2.length<=1048576 /\ ∀ rs∈L.2,rs.length<=1048576 /\ ∀ r∈rs,r.2.length<=9223372036854775807:=by
 refine ⟨by have:=v.len;omega,λrs hrs => ?_⟩;obtain ⟨i,hi⟩:=List.getElem?_of_mem hrs;obtain ⟨h1,h2⟩:=v.lev i rs hi;exact ⟨by omega,λr hr=>by have:=(h2 r hr).vl.len;omega⟩
theorem NW : ∀ (ls:List (List A7)),(∀ rs∈ls,rs.length<=2)->(FU ls).length<=2*ls.length
 | [],_=>by simp [FU]
 | rs::ls,h=>by
  have h1:=NW ls λr hr=>h r (by simp [hr]);have h2:=h rs (by simp);unfold FU at h1 ⊢;rw [List.flatMap_cons,List.length_append,List.length_reverse,List.length_cons];omega
theorem VLev.two {L:AO} (v:VLev L) : ∀ rs∈L.2,rs.length<=2:=λrs hrs=>by
 obtain ⟨i,hi⟩:=List.getElem?_of_mem hrs;exact (v.lev i rs hi).1
theorem Ur {L:AO} (v:VLev L):Ej L=some (FU L.2,0):=by
 obtain ⟨hb,hr⟩:=v.small;have hl:=v.len;unfold Ej;simp only [AU,AP];rw [Uq _ hb hr,G5 v,AD,AR,if_pos rfl]
 rw [ED (l:=L.2) (σ:=List A7) (s:=(([]:List A7),(0:Int))) (λi m=>(m,(i:Int))) (λls i m=>(∀ rs∈ls,rs.length<=2)/\m.length<=2*i) (λls _ m=>(0,((m++FU ls,(L.2.length:Int)),()))) [] rfl (by omega) ⟨v.two,by simp⟩ (λm _=>by
  simp only;rw [re,Ag];simp [FU]) (λi rs ls m hd hx hi h=>by
   refine ⟨m++rs.reverse,?_,⟨λr hr=>h.1 r (by simp [hr]),by have:=h.1 rs (by simp);simp;omega⟩,by simp [FU]⟩;have h2:=h.1 rs (by simp);have hm:m.length<=24:=by have:=h.2;omega
   simp only;rw [rl hi,AN,AE,AK hx];have gg : ∀ {β:Type} (z:List A7) (x:A7) (k:Unit->Option β),z.length<=100->gd (A6 (AJ z.length [x].length) 1048576) k=k ():=λz x k hz=>BU (by simp only [AJ,List.length_cons,List.length_nil];omega) k
   match rs,h2,hx with
   | [],_,hx =>
    refine BG (x:=(0,((m,-1),()))) (DM (n:=1) (by omega) (Bh rfl)) ?_;rw [A1 hx (by omega)];simp
   | [r0],_,hx =>
    refine BG (x:=(0,((m++[r0],-1),()))) (DM (n:=2) (by omega) ((BN (s':=(m++[r0],-1)) ?_).trans (Bh rfl))) ?_
    ·show br (Hz (0:Int) 0) _ _=_;rw [Fw,if_pos (by omega),AE,AK hx];refine (Eh 0 rfl (x:=r0) rfl).trans ?_;rw [gg m _ _ (by omega)];rfl
    ·rw [A1 hx (by omega)];simp
   | [r0,r1],_,hx =>
    refine BG (x:=(0,((m++[r1]++[r0],-1),()))) (DM (n:=3) (by omega) ((BN (s':=(m++[r1],0)) ?_).trans ((BN (s':=(m++[r1]++[r0],-1)) ?_).trans (Bh rfl)))) ?_
    ·show br (Hz (1:Int) 0) _ _=_;rw [Fw,if_pos (by omega),AE,AK hx];refine (Eh 1 rfl (x:=r1) rfl).trans ?_;rw [gg m _ _ (by omega)];rfl
    ·show br (Hz (0:Int) 0) _ _=_;rw [Fw,if_pos (by omega),AE,AK hx];refine (Eh 0 rfl (x:=r0) rfl).trans ?_;rw [gg (m++[r1]) _ _ (by simp;omega)];rfl
    ·rw [A1 hx (by omega)];simp),AD]
 simp
theorem GB (a b:Int):J6 a b=max a b:=by unfold J6;split<;>omega
theorem FL : ∀ (l:List A7) (m:Int),0<=m->l.foldl (λm r=>J6 m r.1) m=max m (l.foldl (λm r=>J6 m r.1) 0)
 | [],m,h=>by simp;omega
 | r::l,m,h=>by
  have h1:=FL l (J6 m r.1) (by rw [GB];omega);have h2:=FL l (J6 0 r.1) (by rw [GB];omega);simp only [List.foldl_cons];rw [h1,h2,GB,GB];omega
theorem PM (l:List A7) (m:Int) (h:0<=m):l.reverse.foldl (λm r=>J6 m r.1) m=l.foldl (λm r=>J6 m r.1) m:=by
 induction l generalizing m with
 | nil=>rfl
 | cons r l ih =>
  rw [List.reverse_cons,List.foldl_append,ih m h,List.foldl_cons];simp only [List.foldl_cons,List.foldl_nil];rw [FL l m h,FL l (J6 m r.1) (by rw [GB];omega),GB,GB];omega
theorem RV (l:List A7) (m:Int) (h:0<=m):0<=l.foldl (λm r=>J6 m r.1) m:=by
 rw [FL l m h];omega
theorem JC : ∀ (ls:List (List A7)) (m:Int),0<=m->(FU ls).foldl (λm r=>J6 m r.1) m=ls.foldl (λm rs=>rs.foldl (λm r=>J6 m r.1) m) m
 | [],m,_=>rfl
 | rs::ls,m,h=>by
  have h1:=JC ls (rs.foldl (λm r=>J6 m r.1) m) (RV _ _ h);unfold FU at h1 ⊢;rw [List.flatMap_cons,List.foldl_append,PM rs m h,List.foldl_cons,h1]
theorem RW {L:AO} (v:VLev L):Cz L=some (E1 L.2):=by
 have hl:=v.len;have hn:=NW L.2 v.two;unfold Cz;simp only [AU,AP];rw [Ur v,AD]
 rw [ED (l:=FU L.2) (σ:=Int) (s:=((0:Int),(0:Int))) (λi m=>(m,(i:Int))) (λ_ _ _=>True) (λl _ m=>(0,((l.foldl (λm r=>J6 m r.1) m,((FU L.2).length:Int)),()))) 0 rfl (by omega) trivial (λm _=>by
  simp only;rw [re,Ag];rfl) (λk r l m hd hx hk _=>⟨J6 m r.1,by
   simp only
   rw [rl hk,AN,AE,AK hx,A1 hx (by omega)],trivial,rfl⟩),AD]
 rw [JC _ _ (by omega)];rfl
theorem f8 {L:AO} (hl:L.2.length<=1000):Du L=some (Bx 0 L.2):=by
 unfold Du;simp only [AU,AP]
 rw [ED (l:=L.2) (σ:=List Int) (s:=(([]:List Int),(0:Int))) (λi m=>(m,(i:Int))) (λls i m=>m++Bx i ls=Bx 0 L.2) (λ_ _ _=>(0,((Bx 0 L.2,(L.2.length:Int)),()))) [] rfl (by omega) rfl (λm h=>by
  simp only;rw [re,Ag,<- h];simp [Bx]) (λi rs ls m hd hx hi h=>by
   refine ⟨m++(if rs.length=2 then [(i:Int)] else []),?_,?_,rfl⟩
   ·simp only;rw [rl hi,AN,AE,AK hx,CP]
    have hm:m.length<=1000:=by
     have h4:=congrArg List.length h;have h5:=GX L.2 0;rw [List.length_append] at h4;omega
    by_cases h4:rs.length=2
    ·rw [if_pos (by omega),if_pos h4,BU (by simp only [AJ,List.length_cons,List.length_nil];omega),A1 hx (by omega)];rfl
    ·rw [if_neg (by omega),if_neg h4,List.append_nil,A1 hx (by omega)]
   ·rw [List.append_assoc];exact h),AD]
theorem im {L:AO} (v:VLev L) (k:Int):HS (L,k)=some (if k<0\/k>=12 then 7 else 0):=by
 obtain ⟨hb,hr⟩:=v.small;unfold HS;rw [Uq _ hb hr,G5 v,AD,CP,if_pos rfl,BD,Fw];by_cases h1:k<0
 ·rw [if_pos h1,if_pos (.inl h1)]
 ·rw [if_neg h1];by_cases h2:k>=12
  ·rw [if_pos h2,if_pos (.inr h2)]
  ·rw [if_neg h2,if_neg (by omega)]
theorem Us {L:AO} (v:VLev L) {n:Nat} (hn:n<L.2.length):CD (L,(n:Int))=some (decide ((n:Int)=(L.2.length:Int)-1)):=by
 have hl:=v.len;unfold CD Gg;simp only [AU,AP];rw [im v,AD,if_neg (by omega),AR,if_pos rfl,AD,Aa (by omega)];unfold Bz;rw [CX];by_cases h:(n:Int)=(L.2.length:Int)-1
 ·simp [h]
 ·simp [h];omega
theorem Ut {a b:List AB} (va:VL a) (vb:VL b) (bt:Bool):FH ([a,b],bt)=some (EU a b bt 0,(0,0)):=by
 unfold FH Gh Cw;rw [LK va vb,AD,AR,if_pos rfl];refine Eq.trans (b:=bd (bd (Cv ([a,b],[((0:Nat):Int),((0:Nat):Int)])) _) _) rfl ?_;rw [I1 va vb (Nat.zero_le _) (Nat.zero_le _)];rfl
theorem XR {L:AO} {n:Nat} {r0 r1:A7} (bt:Bool) (h:L.2[n]? = some [r0,r1]) (v0:VL r0.2) (v1:VL r1.2):BH (L,((n:Int),bt))=some ((n:Int),EU r1.2 r0.2 bt 0):=by
 have hn:=(List.getElem?_eq_some_iff.1 h).1;unfold BH;simp only [AU,AP];rw [Fw,if_neg (by omega),AE,AK h,AK (x:=r1) rfl,AK (x:=r0) rfl,Ut v1 v0];rfl
theorem f9 {L:AO} {n:Nat} {r0 r1:A7} {j:IM} (h:L.2[n]? = some [r0,r1]) (v0:VL r0.2) (v1:VL r1.2) {β:Type} (A B:Option β) :
  (bd (BH (L,((n:Int),j.2.2.1.2.2))) λr16=>bd (BF r16.2) λr17=>br (Ah j.2.2.2.2 0) (λ_=>A) λ_=>br (Bz j.2.2.2.2 r17.1) (λ_=>A) λ_=>bd (BQ (r16.2,j.2.2.2.2)) λr18=>bd (BS (r18.1,j.2)) λr19=>br (AZ r19) (λ_=>A) λ_=>B)
  = if j.2.2.2.2<0\/j.2.2.2.2>((r1.2.length+r0.2.length:Nat):Int) then A else if EU r1.2 r0.2 j.2.2.1.2.2 j.2.2.2.2.toNat=j.2 then B else A:=by
 rw [XR _ h v0 v1,AD,LL v1 v0 _ (Nat.zero_le _),AD,BD,Ax,Nat.sub_zero];by_cases h1:j.2.2.2.2<0
 ·rw [if_pos h1,if_pos (.inl h1)]
 rw [if_neg h1];by_cases h2:j.2.2.2.2>((r1.2.length+r0.2.length:Nat):Int)
 ·rw [if_pos h2,if_pos (.inr h2)]
 rw [if_neg h2,if_neg (show ¬ (j.2.2.2.2<0\/j.2.2.2.2>((r1.2.length+r0.2.length:Nat):Int)) by omega)];obtain ⟨k,hk⟩ : ∃ k:Nat,j.2.2.2.2=(k:Int):=⟨j.2.2.2.2.toNat,by omega⟩;rw [hk,Uo v1 v0 _ (Nat.zero_le _),AD,Nat.sub_zero,Nat.zero_add,Nat.min_eq_left (by omega),Int.toNat_natCast];obtain ⟨s1,s2,s3,s4,s5,s6⟩:=QE v1 v0 j.2.2.1.2.2 (n:=k) (by omega);rw [Ul _ _ s1 s2 s3 s4 s5 s6,AD,CX,Cm];by_cases he:EU r1.2 r0.2 j.2.2.1.2.2 k=j.2
 ·rw [if_neg (by simp [he]),if_pos he]
 ·rw [if_pos he,if_neg he]
end Go.Proofs.YthpkjfabdccpdaaGreat.Pl
namespace Go.Proofs.YthpkjfabdccpdaaGreat.Pl
open Go Go.Proofs.YthpkjfabdccpdaaGreat.Sv
theorem S4 (s:BL) (hb:s.1.2.length<=1048576) (hr : ∀ rs∈s.1.2,rs.length<=1048576 /\ ∀ r∈rs,r.2.length<=9223372036854775807) (hj:s.2.1.length<=1048576):EJ s=some (Br s):=by
 unfold EJ Br;simp only [AU,AP];rw [Uq _ hb hr,AD,CP];by_cases h0:(EV s.1).2.2=0;rotate_left
 ·rw [if_neg h0,if_pos h0,CP,if_neg h0,AR,if_neg h0]
 rw [if_pos h0,if_neg (show ¬ (EV s.1).2.2≠0 by simp [h0]),BD,Ax];have v:=Ho.1 h0;by_cases h1:s.2.2<1
 ·rw [if_pos h1,if_pos (.inl h1)]
 rw [if_neg h1];by_cases h2:s.2.2>1000001
 ·rw [if_pos h2,if_pos (.inr h2)]
 rw [if_neg h2,if_neg (show ¬ (s.2.2<1\/s.2.2>1000001) by omega),CP,if_pos h0,RW v,AD,gr];by_cases h3:s.2.2<=E1 s.1.2
 ·rw [if_pos h3,if_pos h3]
 rw [if_neg h3,if_neg h3,AR,if_pos h0,f8 (by have:=v.len;omega),AD];obtain ⟨due,hdue⟩ : ∃ due,due=Bx 0 s.1.2:=⟨_,rfl⟩;have hdl:due.length<=12:=by have:=GX s.1.2 0;have:=v.len;rw [hdue];omega
 rw [<- hdue];obtain ⟨T,hT⟩ : ∃ T,T=FX s.1 due 0 s.2.1:=⟨_,rfl⟩;rw [<- hT]
 obtain ⟨r,q1,q2⟩:=E9 (l:=s.2.1) (σ:=Unit) (λi _=>((0:Int),((0:Int),(i:Int)))) (λjs i _=>FX s.1 due i js=T) (λ(r:Nat×((Int×(Int×Int))×Unit))=>(T=none/\r.1=1)\/(∃ i:Nat,T=some i/\r.1=0/\r.2.1.1=6/\r.2.1.2.1=(i:Int)))
  (f:=λs6=>br (Ah s6.2.2 (s.2.1.length:Int)) (λ_=>AS s6.2.2 λk7=>ix s.2.1 k7 λx8=>br (Hz s6.2.2 (due.length:Int)) (λ_=>some (.dn ((0,((6,(s6.2.2,s6.2.2)),()))))) λ_=>AS s6.2.2 λk9=>ix due k9 λx10=>br (Ao x8.1 x10) (λ_=>some (.dn ((0,((6,(s6.2.2,s6.2.2)),()))))) λ_=>br x8.2.2.1.2.2 (λ_=>bd (CD (s.1,x8.1)) λr11=>br (AZ r11) (λ_=>some (.dn ((0,((6,(s6.2.2,s6.2.2)),()))))) λ_=>bd (BH ((s.1,(x8.1,x8.2.2.1.2.2)))) λr12=>bd (BF r12.2) λr13=>br (Ah x8.2.2.2.2 0) (λ_=>some (.dn ((0,((6,(s6.2.2,s6.2.2)),()))))) λ_=>br (Bz x8.2.2.2.2 r13.1) (λ_=>some (.dn ((0,((6,(s6.2.2,s6.2.2)),()))))) λ_=>bd (BQ (r12.2,x8.2.2.2.2)) λr14=>bd (BS (r14.1,x8.2)) λr15=>br (AZ r15) (λ_=>some (.dn ((0,((6,(s6.2.2,s6.2.2)),()))))) λ_=>some (.nx ((s6.1,(s6.2.1,AH .i64 s6.2.2 1))))) λ_=>bd (BH ((s.1,(x8.1,x8.2.2.1.2.2)))) λr16=>bd (BF r16.2) λr17=>br (Ah x8.2.2.2.2 0) (λ_=>some (.dn ((0,((6,(s6.2.2,s6.2.2)),()))))) λ_=>br (Bz x8.2.2.2.2 r17.1) (λ_=>some (.dn ((0,((6,(s6.2.2,s6.2.2)),()))))) λ_=>bd (BQ (r16.2,x8.2.2.2.2)) λr18=>bd (BS (r18.1,x8.2)) λr19=>br (AZ r19) (λ_=>some (.dn ((0,((6,(s6.2.2,s6.2.2)),()))))) λ_=>some (.nx ((s6.1,(s6.2.1,AH .i64 s6.2.2 1))))) λ_=>some (.dn ((1,(s6,())))))
  (s:=(0,(0,0))) () rfl (by omega) hT.symm (λ_ h=>by
   refine ⟨_,by simp only;rw [re];rfl,.inl ⟨by rw [<- h];rfl,rfl⟩⟩) (λi j js _ hd hx hi h=>by
   simp only;rw [rl hi,AN,AE,AK hx,Fw];unfold FX at h
   have hbad:KS s.1 due i j=true -> ∃ r:Nat×((Int×(Int×Int))×Unit),(some (LR.dn ((0,((6,((i:Int),(i:Int))),()))):LR (Int×(Int×Int)) _))=some (.dn r)/\((T=none/\r.1=1)\/(∃ i:Nat,T=some i/\r.1=0/\r.2.1.1=6/\r.2.1.2.1=(i:Int))):=λhb=>by
    rw [if_pos hb] at h;exact ⟨_,rfl,.inr ⟨i,h.symm,rfl,rfl,rfl⟩⟩
   have hgood:KS s.1 due i j=false -> ∃ st':Unit,(some (LR.nx ((0:Int),((0:Int),AH .i64 (i:Int) 1))):Option (LR _ (Nat×((Int×(Int×Int))×Unit))))=some (.nx ((0:Int),((0:Int),((i+1:Nat):Int))))/\FX s.1 due (i+1) js=T:=λhg=>by
    rw [if_neg (by simp [hg])] at h;exact ⟨(),by rw [A1 hx (by omega)],h⟩
   by_cases h1:(i:Int)>=(due.length:Int)
   ·rw [if_pos h1];exact .inr (hbad (by unfold KS;rw [List.getElem?_eq_none (by omega)]))
   rw [if_neg h1,AE];have hd2:due[i]? = some (due[i]'(by omega)):=by simp
   rw [AK hd2,AR];obtain ⟨n,hn,r0,r1,hlv⟩:=HC (ls:=s.1.2) (i:=0) (k:=i) (d:=due[i]'(by omega)) (by rw [<- hdue];exact hd2);rw [Nat.zero_add] at hn
   have hE:KS s.1 due i j=(if j.1≠(due[i]'(by omega)) then true else if j.2.2.1.2.2=true/\j.1≠(s.1.2.length:Int)-1 then true else if j.2.2.2.2<0\/j.2.2.2.2>((r1.2.length+r0.2.length:Nat):Int) then true else decide (EU r1.2 r0.2 j.2.2.1.2.2 j.2.2.2.2.toNat≠j.2)):=by
    unfold KS;rw [hd2];simp only;rw [hn,Int.toNat_natCast,hlv]
   by_cases h2:j.1=(due[i]'(by omega));rotate_left
   ·rw [if_neg h2];exact .inr (hbad (by rw [hE,if_pos h2]))
   rw [if_pos h2];rw [if_neg (by simp [h2])] at hE;have hjn:j.1=(n:Int):=by rw [h2,hn]
   have hv:=(v.lev n _ hlv).2;have v0:=(hv r0 (by simp)).vl;have v1:=(hv r1 (by simp)).vl;have hnl:=(List.getElem?_eq_some_iff.1 hlv).1;rw [hjn,Us v hnl,AD,CX,Cm,f9 hlv v0 v1,Gp];rw [hjn] at hE;by_cases h3:j.2.2.1.2.2=true/\(n:Int)≠(s.1.2.length:Int)-1
   ·rw [if_pos h3.1,if_pos h3.2];exact .inr (hbad (by rw [hE,if_pos h3]))
   rw [if_neg h3] at hE
   have h4 : ∀ {γ:Type} (A B:γ),(if j.2.2.1.2.2=true then if ¬(n:Int)=(s.1.2.length:Int)-1 then A else B else B)=B:=by
    intro γ A B;by_cases h5:j.2.2.1.2.2=true
    ·rw [if_pos h5,if_neg (λh6=>h3 ⟨h5,h6⟩)]
    ·rw [if_neg h5]
   rw [h4];by_cases h5:j.2.2.2.2<0\/j.2.2.2.2>((r1.2.length+r0.2.length:Nat):Int)
   ·rw [if_pos h5];exact .inr (hbad (by rw [hE,if_pos h5]))
   rw [if_neg h5];rw [if_neg h5] at hE;by_cases h6:EU r1.2 r0.2 j.2.2.1.2.2 j.2.2.2.2.toNat=j.2
   ·rw [if_pos h6];exact .inl (hgood (by rw [hE];simp [h6]))
   ·rw [if_neg h6]
    exact .inr (hbad (by rw [hE];simp [h6])))
 refine BG q1 ?_;rw [CO];rcases q2 with ⟨q2,q3⟩ | ⟨i,q2,q3,q4,q5⟩
 ·rw [if_neg (show ¬ r.1=0 by omega),q2,BD];simp only;by_cases h7:s.2.1.length<due.length
  ·rw [if_pos (by omega),if_pos h7]
  ·rw [if_neg (by omega),if_neg h7]
 ·rw [if_pos q3,q2,q4,q5]
end Go.Proofs.YthpkjfabdccpdaaGreat.Pl
