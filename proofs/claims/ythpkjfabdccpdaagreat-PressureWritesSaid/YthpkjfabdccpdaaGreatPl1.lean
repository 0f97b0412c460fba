/- Functions of the program and of the specification as plain functions, and laws about them. No condition. -/
import Derived.Test.YthpkjfabdccpdaaGreatPl0
set_option linter.all false
namespace Go.Proofs.YthpkjfabdccpdaaGreat.Pl
open Go Go.Proofs.YthpkjfabdccpdaaGreat.Sv
set_option linter.unusedVariables false
def DY (x:(Int×Int)):Option Int :=
 bd (loop (λs0=>br (Ae s0.2 x.2) (λ_=>some (.nx (NF .i64 2 s0.1,AH .i64 s0.2 1))) λ_=>some (.dn ((0,(s0,()))))) (x.1,0)) λr1=>some r1.2.1.1
def A1 (x:AB):Option Int :=
 br (B6 (AW (Fx x.1)) 32) (λ_=>some 3) λ_=>br (B6 (AW (Fx x.2.1)) 64) (λ_=>some 3) λ_=>br x.2.2.1 (λ_=>br (AY (seq x.2.1 [])) (λ_=>some 6) λ_=>br (Ae x.2.2.2 1) (λ_=>some 7) λ_=>br (B6 x.2.2.2 1000000000) (λ_=>some 7) λ_=>some 0) λ_=>br (Ae x.2.2.2 1) (λ_=>some 7) λ_=>br (B6 x.2.2.2 1000000000) (λ_=>some 7) λ_=>some 0
def E1 (x:((List UInt8)×(List UInt8))):Option Int :=
 bd (loop (λs0=>br (Ae s0 (AW (Fx x.1))) (λ_=>br (Ae s0 (AW (Fx x.2))) (λ_=>AP s0 λk1=>ix x.1 k1 λx2=>AP s0 λk3=>ix x.2 k3 λx4=>br (BJ (S7 x2) (S7 x4)) (λ_=>some (.nx (AH .i64 s0 1))) λ_=>some (.dn ((0,(s0,()))))) λ_=>some (.dn ((0,(s0,()))))) λ_=>some (.dn ((0,(s0,()))))) 0) λr5=>some r5.2.1
def EX (x:((List UInt8)×(List UInt8))):Option Int :=
 bd (E1 x) λr0=>br (BJ r0 (AW (Fx x.1))) (λ_=>br (BJ r0 (AW (Fx x.2))) (λ_=>some 0) λ_=>br (BJ r0 (AW (Fx x.1))) (λ_=>some (-1)) λ_=>br (Ae r0 (AW (Fx x.2))) (λ_=>AP r0 λk1=>ix x.1 k1 λx2=>AP r0 λk3=>ix x.2 k3 λx4=>br (Ae (S7 x2) (S7 x4)) (λ_=>some (-1)) λ_=>some 1) λ_=>some 1) λ_=>br (BJ r0 (AW (Fx x.1))) (λ_=>some (-1)) λ_=>br (Ae r0 (AW (Fx x.2))) (λ_=>AP r0 λk5=>ix x.1 k5 λx6=>AP r0 λk7=>ix x.2 k7 λx8=>br (Ae (S7 x6) (S7 x8)) (λ_=>some (-1)) λ_=>some 1) λ_=>some 1
def Ck (x:(List AB)):Option (Int×Int) :=
 br (B6 (AW (AA x)) 5000) (λ_=>some (((-1),3))) λ_=>bd (loop (λs0=>br (Ae s0.2.2 (AW (AA x))) (λ_=>AP s0.2.2 λk1=>ix x k1 λx2=>bd (A1 x2) λr3=>br (BJ r3 0) (λ_=>br (B6 s0.2.2 0) (λ_=>AP (BF .i64 s0.2.2 1) λk4=>ix x k4 λx5=>AP s0.2.2 λk6=>ix x k6 λx7=>bd (EX (x5.1,x7.1)) λr8=>br (Hf r8 0) (λ_=>some (.dn ((0,((6,(s0.2.2,s0.2.2)),()))))) λ_=>br (Ai r3 0) (λ_=>some (.dn ((0,((r3,(s0.2.2,s0.2.2)),()))))) λ_=>some (.nx ((s0.1,(s0.2.1,AH .i64 s0.2.2 1))))) λ_=>br (Ai r3 0) (λ_=>some (.dn ((0,((r3,(s0.2.2,s0.2.2)),()))))) λ_=>some (.nx ((s0.1,(s0.2.1,AH .i64 s0.2.2 1))))) λ_=>br (Ai r3 0) (λ_=>some (.dn ((0,((r3,(s0.2.2,s0.2.2)),()))))) λ_=>some (.nx ((s0.1,(s0.2.1,AH .i64 s0.2.2 1))))) λ_=>some (.dn ((1,(s0,()))))) ((0,(0,0)))) λr9=>br (neq r9.1 0) (λ_=>some (r9.2.1.2.1,r9.2.1.1)) λ_=>some (0,0)
def EY (x:Ao):Option (Int×Int) :=
 br (Ae x.1 1) (λ_=>some (((-1),7))) λ_=>br (B6 x.1 1000000) (λ_=>some (((-1),7))) λ_=>bd (Ck x.2) λr0=>some r0
def DZ (x:(Ao×(Int×(List Int)))):Option Int :=
 bd (EY x.1) λr0=>br (Ai r0.2 0) (λ_=>some r0.2) λ_=>br (BJ (AW (AA x.1.2)) 0) (λ_=>some 4) λ_=>br (B6 (AW (AA x.1.2)) x.2.1) (λ_=>some 3) λ_=>bd (loop (λs1=>br (Ae s1.1 (AW (AA x.2.2))) (λ_=>AP s1.1 λk2=>ix x.2.2 k2 λx3=>br (BJ x3 x.1.1) (λ_=>some (.dn ((0,((s1.1,8),()))))) λ_=>some (.nx (AH .i64 s1.1 1,s1.2))) λ_=>some (.dn ((1,(s1,()))))) (0,0)) λr4=>br (neq r4.1 0) (λ_=>some r4.2.1.2) λ_=>some 0
def Cw (x:AL):Option (Int×(Int×Int)) :=
 br (Ae x.1 1) (λ_=>some ((0,(0,7)))) λ_=>br (B6 x.1 16) (λ_=>some ((0,(0,7)))) λ_=>br (B6 (AW (AA x.2)) 12) (λ_=>some ((0,(0,3)))) λ_=>bd (loop (λ(s0:(Int×((List Int)×(Int×(Int×Int)))))=>br (Ae s0.2.2.2.2 (AW (AA x.2))) (λ_=>AP s0.2.2.2.2 λk1=>ix x.2 k1 λx2=>br (B6 (AW (AA x2)) 2) (λ_=>some (.dn ((0,((0,(s0.2.1,(s0.2.2.2.2,(3,s0.2.2.2.2)))),()))))) λ_=>bd (loop (λ(s3:(Int×((List Int)×(Int×(Int×Int)))))=>br (Ae s3.2.2.2.2 (AW (AA x2))) (λ_=>AP s3.2.2.2.2 λk4=>ix x2 k4 λx5=>bd (DY (x.1,s0.2.2.2.2)) λr6=>bd (DZ ((x5,(r6,s3.2.1)))) λr7=>br (Ai r7 0) (λ_=>some (.dn ((0,((s3.2.2.2.2,(s3.2.1,(s0.2.2.2.2,(r7,s3.2.2.2.2)))),()))))) λ_=>AP s3.2.2.2.2 λk8=>ix x2 k8 λx9=>gd (Aj (AK (AA s3.2.1) (AA [x9.1])) 1048576) λ_=>some (.nx ((s3.1,(Bl s3.2.1 [x9.1],(s3.2.2.1,(s3.2.2.2.1,AH .i64 s3.2.2.2.2 1))))))) λ_=>some (.dn ((1,(s3,()))))) ((s0.1,(s0.2.1,(s0.2.2.1,(s0.2.2.2.1,0)))))) λr10=>br (neq r10.1 0) (λ_=>some (.dn ((0,((r10.2.1.1,(r10.2.1.2.1,(r10.2.1.2.2.1,(r10.2.1.2.2.2.1,s0.2.2.2.2)))),()))))) λ_=>some (.nx ((r10.2.1.1,(r10.2.1.2.1,(r10.2.1.2.2.1,(r10.2.1.2.2.2.1,AH .i64 s0.2.2.2.2 1))))))) λ_=>some (.dn ((1,(s0,()))))) ((0,([],(0,(0,0)))))) λr11=>br (neq r11.1 0) (λ_=>some ((r11.2.1.2.2.1,(r11.2.1.1,r11.2.1.2.2.2.1)))) λ_=>br (B6 (AW (AA x.2)) 0) (λ_=>AP (BF .i64 (AW (AA x.2)) 1) λk12=>ix x.2 k12 λx13=>br (BJ (AW (AA x13)) 0) (λ_=>some ((BF .i64 (AW (AA x.2)) 1,(0,6)))) λ_=>some ((0,(0,0)))) λ_=>some ((0,(0,0)))
def D3 (x:AL):Option ((List Ao)×Int) :=
 bd (Cw x) λr0=>br (Ai r0.2.2 0) (λ_=>some ([],r0.2.2)) λ_=>bd (loop (λs1=>br (Ae s1.2 (AW (AA x.2))) (λ_=>AP s1.2 λk2=>ix x.2 k2 λx3=>bd (loop (λs4=>br (Hf s4.2 0) (λ_=>AP s1.2 λk5=>ix x.2 k5 λx6=>AP s4.2 λk7=>ix x6 k7 λx8=>gd (Aj (AK (AA s4.1) (AA [x8])) 1048576) λ_=>some (.nx (Bl s4.1 [x8],BF .i64 s4.2 1))) λ_=>some (.dn ((0,(s4,()))))) ((s1.1,BF .i64 (AW (AA x3)) 1))) λr9=>some (.nx (r9.2.1.1,AH .i64 s1.2 1))) λ_=>some (.dn ((0,(s1,()))))) ([],0)) λr10=>some (r10.2.1.1,0)
def C3 (x:AL):Option Int :=
 bd (D3 x) λr0=>bd (loop (λs1=>br (Ae s1.2 (AW (AA r0.1))) (λ_=>AP s1.2 λk2=>ix r0.1 k2 λx3=>some (.nx (Kq s1.1 x3.1,AH .i64 s1.2 1))) λ_=>some (.dn ((0,(s1,()))))) (0,0)) λr4=>some r4.2.1.1
def Cy (x:AL):Option (List Int) :=
 bd (loop (λs0=>br (Ae s0.2 (AW (AA x.2))) (λ_=>AP s0.2 λk1=>ix x.2 k1 λx2=>br (BJ (AW (AA x2)) 2) (λ_=>gd (Aj (AK (AA s0.1) (AA [s0.2])) 1048576) λ_=>some (.nx (Bl s0.1 [s0.2],AH .i64 s0.2 1))) λ_=>some (.nx (s0.1,AH .i64 s0.2 1))) λ_=>some (.dn ((0,(s0,()))))) ([],0)) λr3=>some r3.2.1.1
def G7 (x:(AL×Int)):Option Int :=
 bd (Cw x.1) λr0=>br (BJ r0.2.2 0) (λ_=>br (Ae x.2 0) (λ_=>some 7) λ_=>br (Hf x.2 12) (λ_=>some 7) λ_=>some r0.2.2) λ_=>some r0.2.2
def HG (x:(AL×Int)):Option (Bool×Int) :=
 bd (G7 x) λr0=>br (Ai r0 0) (λ_=>some (false,r0)) λ_=>some ((B6 (AW (AA x.1.2)) (AH .i64 x.2 1),0))
def BT (x:(AL×Int)):Option Bool :=
 bd (HG x) λr0=>some (AY r0.1)
def Dh (x:(List (List AB))):Option (Int×Int) :=
 br (BJ (AW (AA x)) 0) (λ_=>some (((-1),6))) λ_=>br (B6 (AW (AA x)) 32) (λ_=>some (((-1),3))) λ_=>bd (loop (λs0=>br (Ae s0.2.2 (AW (AA x))) (λ_=>AP s0.2.2 λk1=>ix x k1 λx2=>bd (Ck x2) λr3=>br (Ai r3.2 0) (λ_=>some (.dn ((0,((r3.2,(s0.2.2,s0.2.2)),()))))) λ_=>some (.nx ((s0.1,(s0.2.1,AH .i64 s0.2.2 1))))) λ_=>some (.dn ((1,(s0,()))))) ((0,(0,0)))) λr4=>br (neq r4.1 0) (λ_=>some (r4.2.1.2.1,r4.2.1.1)) λ_=>some (0,0)
def Fg (x:(List AR)):Option Int :=
 br (BJ (AW (AA x)) 0) (λ_=>some 6) λ_=>br (B6 (AW (AA x)) 32) (λ_=>some 3) λ_=>bd (loop (λs0=>br (Ae s0.1 (AW (AA x))) (λ_=>AP s0.1 λk1=>ix x k1 λx2=>br x2.2 (λ_=>AP s0.1 λk3=>ix x k3 λx4=>br (AY (seq x4.1 [])) (λ_=>some (.dn ((0,((s0.1,2),()))))) λ_=>some (.nx (AH .i64 s0.1 1,s0.2))) λ_=>some (.nx (AH .i64 s0.1 1,s0.2))) λ_=>some (.dn ((1,(s0,()))))) (0,0)) λr5=>br (neq r5.1 0) (λ_=>some r5.2.1.2) λ_=>some 0
def FO (x:((List AR)×(Int×Int))):Option Bool :=
 AP x.2.1 λk0=>ix x.1 k0 λx1=>AP x.2.2 λk2=>ix x.1 k2 λx3=>br (AY (beq x1.2 x3.2)) (λ_=>some x3.2) λ_=>br (AY x1.2) (λ_=>br (AY (seq x1.1 x3.1)) (λ_=>some (B3 x1.1 x3.1)) λ_=>some (Ae x.2.1 x.2.2)) λ_=>some (Ae x.2.1 x.2.2)
def Ax (rec:((List AR)×Int)->Option (Int×Int)) (x:((List AR)×Int)):Option (Int×Int) :=
 br (Hf x.2 (AW (AA x.1))) (λ_=>some ((BF .i64 x.2 (AW (AA x.1)),0))) λ_=>bd (rec (x.1,NF .i64 2 x.2)) λr0=>bd (rec ((x.1,AH .i64 (NF .i64 2 x.2) 1))) λr1=>bd (FO ((x.1,(r0.1,r1.1)))) λr2=>br r2 (λ_=>some (r0.1,r1.1)) λ_=>some (r1.1,r0.1)
def Gb:((List AR)×Int)->Option (Int×Int):=KP Ax 100
def Gc (x:(List AR)):Option EE :=
 gd (Aj (AA x) 1048576) λ_=>AP (AW (AA x)) λk0=>AP (AW (AA x)) λk1=>gd (Aj k1 1048576) λ_=>bd (loop (λs2=>br (Ae s2.1 (AW (AA x))) (λ_=>bd (Gb (x,s2.1)) λr3=>AP s2.1 λk4=>gd (CD k4 (AA s2.2.2.1)) λ_=>ix s2.2.2.1 k4 λx5=>some (.nx ((AH .i64 s2.1 1,(s2.2.1,(lset s2.2.2.1 k4 r3.2,s2.2.2.2)))))) λ_=>some (.dn ((0,(s2,()))))) ((1,(x,(CO k1 0,(0:Int)))))) λr6=>bd (Gb (x,1)) λr7=>some ((r6.2.1.2.1,(r6.2.1.2.2.1,r7.1)))
def EZ (x:(List AR)):Option (EE×Int) :=
 bd (Fg x) λr0=>br (Ai r0 0) (λ_=>some ((([],([],0)),r0))) λ_=>bd (Gc x) λr1=>some (r1,0)
def Cz (x:((List (List AB))×(List Int))):Option AT :=
 gd (Aj (AA x.1) 1048576) λ_=>gd (Aj (AA x.2) 1048576) λ_=>bd (loop (λs0=>br (Ae s0.1 (AW (AA x.1))) (λ_=>AP s0.1 λk1=>ix x.2 k1 λx2=>AP s0.1 λk3=>ix x.1 k3 λx4=>br (AY (BJ x2 (AW (AA x4)))) (λ_=>AP s0.1 λk5=>ix x.1 k5 λx6=>AP s0.1 λk7=>ix x.2 k7 λx8=>AP x8 λk9=>ix x6 k9 λx10=>gd (Aj (AK (AA s0.2) (AA ([(x10.1,BJ x2 (AW (AA x4)))]))) 1048576) λ_=>some (.nx ((AH .i64 s0.1 1,Bl s0.2 ([(x10.1,BJ x2 (AW (AA x4)))]))))) λ_=>gd (Aj (AK (AA s0.2) (AA ([(([]:List UInt8),BJ x2 (AW (AA x4)))]))) 1048576) λ_=>some (.nx ((AH .i64 s0.1 1,Bl s0.2 ([([],BJ x2 (AW (AA x4)))]))))) λ_=>some (.dn ((0,(s0,()))))) (0,[])) λr11=>bd (EZ r11.2.1.2) λr12=>some ((x.1,(x.2,r12.1)))
def HH (x:(List (List AB))):Option (AT×(Int×Int)) :=
 bd (Dh x) λr0=>br (Ai r0.2 0) (λ_=>some ((([],([],([],([],0)))),r0))) λ_=>AP (AW (AA x)) λk1=>AP (AW (AA x)) λk2=>gd (Aj k2 1048576) λ_=>bd (Cz (x,CO k2 0)) λr3=>some ((r3,(0,0)))
def C0 (x:Bool):Option (Bool×AR) :=
 some ((false,([],x)))
def Fh (x:((List (List AB))×Bool)):Option ((AT×((Bool×AR)×((List AB)×Int)))×(Int×Int)) :=
 bd (HH x.1) λr0=>br (Ai r0.2.2 0) (λ_=>some (((([],([],([],([],0)))),((false,([],false)),([],0))),r0.2))) λ_=>bd (C0 x.2) λr1=>some (((r0.1,(r1,([],0))),(0,0)))
def A2 (x:(AL×(Int×Bool))):Option (Int×(AT×((Bool×AR)×((List AB)×Int)))) :=
 br (Hf x.2.1 (AW (AA x.1.2))) (λ_=>none) λ_=>AP x.2.1 λk0=>ix x.1.2 k0 λx1=>ix x1 1 λx2=>ix x1 0 λx3=>bd (Fh ([x2.2,x3.2],x.2.2)) λr4=>some (x.2.1,r4.1)
def Gd (x:((List Int)×(List Int))):Option Bool :=
 br (Ai (AW (AA x.1)) (AW (AA x.2))) (λ_=>some false) λ_=>bd (loop (λs0=>br (Ae s0.1 (AW (AA x.1))) (λ_=>AP s0.1 λk1=>ix x.1 k1 λx2=>AP s0.1 λk3=>ix x.2 k3 λx4=>br (Ai x2 x4) (λ_=>some (.dn ((0,((s0.1,false),()))))) λ_=>some (.nx (AH .i64 s0.1 1,s0.2))) λ_=>some (.dn ((1,(s0,()))))) (0,false)) λr5=>br (neq r5.1 0) (λ_=>some r5.2.1.2) λ_=>some true
def FP (x:(EE×EE)):Option Bool :=
 br (Ai (AW (AA x.1.1)) (AW (AA x.2.1))) (λ_=>some false) λ_=>br (Ai x.1.2.2 x.2.2.2) (λ_=>some false) λ_=>bd (Gd (x.1.2.1,x.2.2.1)) λr0=>br (AY r0) (λ_=>some false) λ_=>bd (loop (λs1=>br (Ae s1.1 (AW (AA x.1.1))) (λ_=>AP s1.1 λk2=>ix x.1.1 k2 λx3=>AP s1.1 λk4=>ix x.2.1 k4 λx5=>br (AY (Bo (seq x3.1 x5.1) (Bo (beq x3.2 x5.2) true))) (λ_=>some (.dn ((0,((s1.1,false),()))))) λ_=>some (.nx (AH .i64 s1.1 1,s1.2))) λ_=>some (.dn ((1,(s1,()))))) (0,false)) λr6=>br (neq r6.1 0) (λ_=>some r6.2.1.2) λ_=>some true
def Di (x:((List (List AB))×(List Int))):Option Int :=
 bd (loop (λs0=>br (Ae s0.2 (AW (AA x.1))) (λ_=>AP s0.2 λk1=>ix x.2 k1 λx2=>AP s0.2 λk3=>ix x.1 k3 λx4=>br (Ae x2 (AW (AA x4))) (λ_=>br (Ae s0.1 0) (λ_=>some (.nx (s0.2,AH .i64 s0.2 1))) λ_=>AP s0.2 λk5=>ix x.1 k5 λx6=>AP s0.2 λk7=>ix x.2 k7 λx8=>AP x8 λk9=>ix x6 k9 λx10=>AP s0.1 λk11=>ix x.1 k11 λx12=>AP s0.1 λk13=>ix x.2 k13 λx14=>AP x14 λk15=>ix x12 k15 λx16=>br (B3 x10.1 x16.1) (λ_=>some (.nx (s0.2,AH .i64 s0.2 1))) λ_=>some (.nx (s0.1,AH .i64 s0.2 1))) λ_=>some (.nx (s0.1,AH .i64 s0.2 1))) λ_=>some (.dn ((0,(s0,()))))) (((-1),0))) λr17=>some r17.2.1.1
def Dj (x:AT):Option (Int×Int) :=
 bd (Dh x.1) λr0=>br (Ai r0.2 0) (λ_=>some r0) λ_=>br (Ai (AW (AA x.2.1)) (AW (AA x.1))) (λ_=>some (((-1),6))) λ_=>bd (loop (λs1=>br (Ae s1.2.2 (AW (AA x.2.1))) (λ_=>AP s1.2.2 λk2=>ix x.2.1 k2 λx3=>br (Ae x3 0) (λ_=>some (.dn ((0,((6,(s1.2.2,s1.2.2)),()))))) λ_=>AP s1.2.2 λk4=>ix x.2.1 k4 λx5=>AP s1.2.2 λk6=>ix x.1 k6 λx7=>br (B6 x5 (AW (AA x7))) (λ_=>some (.dn ((0,((6,(s1.2.2,s1.2.2)),()))))) λ_=>some (.nx ((s1.1,(s1.2.1,AH .i64 s1.2.2 1))))) λ_=>some (.dn ((1,(s1,()))))) ((0,(0,0)))) λr8=>br (neq r8.1 0) (λ_=>some (r8.2.1.2.1,r8.2.1.1)) λ_=>bd (Cz (x.1,x.2.1)) λr9=>bd (FP (x.2.2,r9.2.2)) λr10=>br (AY r10) (λ_=>some (((-1),6))) λ_=>bd (Di (x.1,x.2.1)) λr11=>bd (loop (λs12=>br (Ae s12.2.2 (AW (AA x.1))) (λ_=>br (Hf r11 0) (λ_=>AP s12.2.2 λk13=>ix x.2.1 k13 λx14=>br (BJ x14 0) (λ_=>some (.nx ((s12.1,(s12.2.1,AH .i64 s12.2.2 1))))) λ_=>AP s12.2.2 λk15=>ix x.1 k15 λx16=>AP s12.2.2 λk17=>ix x.2.1 k17 λx18=>AP (BF .i64 x18 1) λk19=>ix x16 k19 λx20=>AP r11 λk21=>ix x.1 k21 λx22=>AP r11 λk23=>ix x.2.1 k23 λx24=>AP x24 λk25=>ix x22 k25 λx26=>br (B3 x26.1 x20.1) (λ_=>some (.dn ((0,((6,(r11,s12.2.2)),()))))) λ_=>br (seq x20.1 x26.1) (λ_=>br (B6 s12.2.2 r11) (λ_=>some (.dn ((0,((6,(r11,s12.2.2)),()))))) λ_=>some (.nx ((s12.1,(s12.2.1,AH .i64 s12.2.2 1))))) λ_=>some (.nx ((s12.1,(s12.2.1,AH .i64 s12.2.2 1))))) λ_=>some (.dn ((1,(s12,()))))) λ_=>some (.dn ((1,(s12,()))))) ((r8.2.1.1,(r8.2.1.2.1,0)))) λr27=>br (neq r27.1 0) (λ_=>some (r27.2.1.2.1,r27.2.1.1)) λ_=>some (0,0)
def EG (x:(AT×((Bool×AR)×((List AB)×Int)))):Option Int :=
 bd (loop (λs0=>br (Ae s0.2 (AW (AA x.1.2.1))) (λ_=>AP s0.2 λk1=>ix x.1.2.1 k1 λx2=>some (.nx (AH .i64 s0.1 x2,AH .i64 s0.2 1))) λ_=>some (.dn ((0,(s0,()))))) (0,0)) λr3=>some r3.2.1.1
def E2 (x:(List (List AB))):Option ((List AB)×((List Int)×Int)) :=
 bd (Dh x) λr0=>br (Ai r0.2 0) (λ_=>some (([],([],r0.2)))) λ_=>AP (AW (AA x)) λk1=>AP (AW (AA x)) λk2=>gd (Aj k2 1048576) λ_=>bd (loop (λ(s3:((List Int)×((List AB)×((List AB)×(Int×((List Int)×(List Int)))))))=>bd (Di (x,s3.2.2.2.2.2)) λr4=>br (Ae r4 0) (λ_=>some (.dn ((0,((s3.2.2.2.2.1,(s3.2.1,0)),()))))) λ_=>AP r4 λk5=>ix x k5 λx6=>AP r4 λk7=>gd (CD k7 (AA s3.2.2.2.2.2)) λ_=>ix s3.2.2.2.2.2 k7 λx8=>AP x8 λk9=>ix x6 k9 λx10=>gd (Aj (AK (AA s3.2.1) (AA [x10])) 1048576) λ_=>gd (Aj (AK (AA s3.2.2.2.2.1) (AA [r4])) 1048576) λ_=>AP r4 λk11=>gd (CD k11 (AA s3.2.2.2.2.2)) λ_=>ix s3.2.2.2.2.2 k11 λx12=>AP r4 λk13=>gd (CD k13 (AA s3.2.2.2.2.2)) λ_=>ix s3.2.2.2.2.2 k13 λx14=>some (.nx ((s3.1,(Bl s3.2.1 [x10],(s3.2.2.1,(s3.2.2.2.1,(Bl s3.2.2.2.2.1 [r4],lset s3.2.2.2.2.2 k13 (AH .i64 x12 1))))))))) (([],([],([],(0,([],CO k2 0))))))) λr15=>some ((r15.2.1.2.1,(r15.2.1.1,r15.2.1.2.2)))
def Fi (x:(Bool×AR)):Option Int :=
 br (B6 (AW (Fx x.2.1)) 32) (λ_=>some 3) λ_=>br (AY x.1) (λ_=>br (AY (seq x.2.1 [])) (λ_=>some 6) λ_=>some 0) λ_=>some 0
def Ge (x:((Bool×AR)×AB)):Option (Bool×((Bool×AR)×Int)) :=
 bd (Fi x.1) λr0=>br (BJ r0 0) (λ_=>bd (A1 x.2) λr1=>br (BJ r1 0) (λ_=>br x.1.1 (λ_=>br (B3 x.2.1 x.1.2.1) (λ_=>some ((false,((false,([],false)),6)))) λ_=>br (Ai r1 0) (λ_=>some ((false,((false,([],false)),r1)))) λ_=>br (AY x.1.1) (λ_=>br x.1.2.2 (λ_=>some ((AY x.2.2.2.1,((true,(x.2.1,x.1.2.2)),0)))) λ_=>some ((true,((true,(x.2.1,x.1.2.2)),0)))) λ_=>br (AY (seq x.2.1 x.1.2.1)) (λ_=>br x.1.2.2 (λ_=>some ((AY x.2.2.2.1,((true,(x.2.1,x.1.2.2)),0)))) λ_=>some ((true,((true,(x.2.1,x.1.2.2)),0)))) λ_=>some ((false,((true,(x.2.1,x.1.2.2)),0)))) λ_=>br (Ai r1 0) (λ_=>some ((false,((false,([],false)),r1)))) λ_=>br (AY x.1.1) (λ_=>br x.1.2.2 (λ_=>some ((AY x.2.2.2.1,((true,(x.2.1,x.1.2.2)),0)))) λ_=>some ((true,((true,(x.2.1,x.1.2.2)),0)))) λ_=>br (AY (seq x.2.1 x.1.2.1)) (λ_=>br x.1.2.2 (λ_=>some ((AY x.2.2.2.1,((true,(x.2.1,x.1.2.2)),0)))) λ_=>some ((true,((true,(x.2.1,x.1.2.2)),0)))) λ_=>some ((false,((true,(x.2.1,x.1.2.2)),0)))) λ_=>br (Ai r1 0) (λ_=>some ((false,((false,([],false)),r1)))) λ_=>br (AY x.1.1) (λ_=>br x.1.2.2 (λ_=>some ((AY x.2.2.2.1,((true,(x.2.1,x.1.2.2)),0)))) λ_=>some ((true,((true,(x.2.1,x.1.2.2)),0)))) λ_=>br (AY (seq x.2.1 x.1.2.1)) (λ_=>br x.1.2.2 (λ_=>some ((AY x.2.2.2.1,((true,(x.2.1,x.1.2.2)),0)))) λ_=>some ((true,((true,(x.2.1,x.1.2.2)),0)))) λ_=>some ((false,((true,(x.2.1,x.1.2.2)),0)))) λ_=>br (BJ r0 0) (λ_=>br x.1.1 (λ_=>br (B3 x.2.1 x.1.2.1) (λ_=>some ((false,((false,([],false)),6)))) λ_=>br (Ai r0 0) (λ_=>some ((false,((false,([],false)),r0)))) λ_=>br (AY x.1.1) (λ_=>br x.1.2.2 (λ_=>some ((AY x.2.2.2.1,((true,(x.2.1,x.1.2.2)),0)))) λ_=>some ((true,((true,(x.2.1,x.1.2.2)),0)))) λ_=>br (AY (seq x.2.1 x.1.2.1)) (λ_=>br x.1.2.2 (λ_=>some ((AY x.2.2.2.1,((true,(x.2.1,x.1.2.2)),0)))) λ_=>some ((true,((true,(x.2.1,x.1.2.2)),0)))) λ_=>some ((false,((true,(x.2.1,x.1.2.2)),0)))) λ_=>br (Ai r0 0) (λ_=>some ((false,((false,([],false)),r0)))) λ_=>br (AY x.1.1) (λ_=>br x.1.2.2 (λ_=>some ((AY x.2.2.2.1,((true,(x.2.1,x.1.2.2)),0)))) λ_=>some ((true,((true,(x.2.1,x.1.2.2)),0)))) λ_=>br (AY (seq x.2.1 x.1.2.1)) (λ_=>br x.1.2.2 (λ_=>some ((AY x.2.2.2.1,((true,(x.2.1,x.1.2.2)),0)))) λ_=>some ((true,((true,(x.2.1,x.1.2.2)),0)))) λ_=>some ((false,((true,(x.2.1,x.1.2.2)),0)))) λ_=>br (Ai r0 0) (λ_=>some ((false,((false,([],false)),r0)))) λ_=>br (AY x.1.1) (λ_=>br x.1.2.2 (λ_=>some ((AY x.2.2.2.1,((true,(x.2.1,x.1.2.2)),0)))) λ_=>some ((true,((true,(x.2.1,x.1.2.2)),0)))) λ_=>br (AY (seq x.2.1 x.1.2.1)) (λ_=>br x.1.2.2 (λ_=>some ((AY x.2.2.2.1,((true,(x.2.1,x.1.2.2)),0)))) λ_=>some ((true,((true,(x.2.1,x.1.2.2)),0)))) λ_=>some ((false,((true,(x.2.1,x.1.2.2)),0)))
def E3 (x:((List AB)×Bool)):Option ((List AB)×(Int×Int)) :=
 br (B6 (AW (AA x.1)) 20000) (λ_=>some (([],((-1),3)))) λ_=>bd (C0 x.2) λr0=>bd (loop (λ(s1:(Int×(Int×((List AB)×((List AB)×(Int×(Bool×AR)))))))=>br (Ae s1.2.1 (AW (AA x.1))) (λ_=>AP s1.2.1 λk2=>ix x.1 k2 λx3=>bd (Ge (s1.2.2.2.2.2,x3)) λr4=>br (Ai r4.2.2 0) (λ_=>some (.dn ((0,((s1.2.1,(s1.2.1,([],(s1.2.2.2.1,(r4.2.2,s1.2.2.2.2.2))))),()))))) λ_=>br r4.1 (λ_=>AP s1.2.1 λk5=>ix x.1 k5 λx6=>gd (Aj (AK (AA s1.2.2.2.1) (AA [x6])) 1048576) λ_=>some (.nx ((s1.1,(AH .i64 s1.2.1 1,(s1.2.2.1,(Bl s1.2.2.2.1 [x6],(s1.2.2.2.2.1,r4.2.1)))))))) λ_=>some (.nx ((s1.1,(AH .i64 s1.2.1 1,(s1.2.2.1,(s1.2.2.2.1,(s1.2.2.2.2.1,r4.2.1)))))))) λ_=>some (.dn ((1,(s1,()))))) ((0,(0,([],([],(0,r0))))))) λr7=>br (neq r7.1 0) (λ_=>some ((r7.2.1.2.2.1,(r7.2.1.1,r7.2.1.2.2.2.2.1)))) λ_=>some ((r7.2.1.2.2.2.1,(0,0)))
def DD (x:((List AB)×Bool)):Option ((List AB)×(Bool×AR)) :=
 bd (E3 x) λr0=>bd (C0 x.2) λr1=>br (B6 (AW (AA x.1)) 0) (λ_=>AP (BF .i64 (AW (AA x.1)) 1) λk2=>ix x.1 k2 λx3=>some ((r0.1,(true,(x3.1,r1.2.2))))) λ_=>some (r0.1,r1)
def By (x:((List AB)×(List AB))):Option Bool :=
 br (Ai (AW (AA x.1)) (AW (AA x.2))) (λ_=>some false) λ_=>bd (loop (λs0=>br (Ae s0.1 (AW (AA x.1))) (λ_=>AP s0.1 λk1=>ix x.1 k1 λx2=>AP s0.1 λk3=>ix x.2 k3 λx4=>br (AY (Bo (seq x2.1 x4.1) (Bo (seq x2.2.1 x4.2.1) (Bo (beq x2.2.2.1 x4.2.2.1) (Bo (BJ x2.2.2.2 x4.2.2.2) true))))) (λ_=>some (.dn ((0,((s0.1,false),()))))) λ_=>some (.nx (AH .i64 s0.1 1,s0.2))) λ_=>some (.dn ((1,(s0,()))))) (0,false)) λr5=>br (neq r5.1 0) (λ_=>some r5.2.1.2) λ_=>some true
def Fj (x:(AT×((Bool×AR)×((List AB)×Int)))):Option Int :=
 bd (Dj x.1) λr0=>br (Ai r0.2 0) (λ_=>some r0.2) λ_=>bd (EG x) λr1=>br (B6 (AW (AA x.2.2.1)) 20000) (λ_=>some 3) λ_=>br (B6 r1 20000) (λ_=>some 3) λ_=>br (Ai x.2.2.2 r1) (λ_=>some 7) λ_=>bd (E2 x.1.1) λr2=>AP r1 λk3=>gd (Aj k3 (AA r2.1)) λ_=>gd (Aj 0 k3) λ_=>bd (DD (B0 r2.1 0 k3,x.2.1.2.2)) λr4=>bd (By (x.2.2.1,r4.1)) λr5=>br (AY r5) (λ_=>some 6) λ_=>br (AY (Bo (beq x.2.1.1 r4.2.1) (Bo (seq x.2.1.2.1 r4.2.2.1) (Bo (beq x.2.1.2.2 r4.2.2.2) true)))) (λ_=>some 6) λ_=>some 0
def Gf (x:AT):Option (Int×Int) :=
 bd (Dj x) λr0=>br (Ai r0.2 0) (λ_=>some (0,r0.2)) λ_=>bd (loop (λs1=>br (Ae s1.1 (AW (AA x.1))) (λ_=>AP s1.1 λk2=>ix x.1 k2 λx3=>AP s1.1 λk4=>ix x.2.1 k4 λx5=>some (.nx ((AH .i64 s1.1 1,BF .i64 (AH .i64 s1.2 (AW (AA x3))) x5)))) λ_=>some (.dn ((0,(s1,()))))) (0,0)) λr6=>some (r6.2.1.2,0)
def BL (x:(AT×((Bool×AR)×((List AB)×Int)))):Option (Int×Int) :=
 bd (Fj x) λr0=>br (Ai r0 0) (λ_=>some (0,r0)) λ_=>bd (Gf x.1) λr1=>some r1
def EH (x:AT):Option (AB×(Int×(AT×Int))) :=
 bd (Dj x) λr0=>br (Ai r0.2 0) (λ_=>some (((([],([],(false,0))):AB),(0,(([],([],([],([],0)))),r0.2))))) λ_=>bd (Di (x.1,x.2.1)) λr1=>br (Ae r1 0) (λ_=>some (((([],([],(false,0))):AB),(0,(([],([],([],([],0)))),12))))) λ_=>gd (Aj (AA x.2.1) 1048576) λ_=>AP r1 λk2=>gd (CD k2 (AA x.2.1)) λ_=>ix x.2.1 k2 λx3=>AP r1 λk4=>gd (CD k4 (AA x.2.1)) λ_=>ix x.2.1 k4 λx5=>AP r1 λk6=>ix x.1 k6 λx7=>AP r1 λk8=>ix x.2.1 k8 λx9=>AP x9 λk10=>ix x7 k10 λx11=>bd (Cz ((x.1,lset x.2.1 k4 (AH .i64 x3 1)))) λr12=>some ((x11,(r1,(r12,0))))
def Ba (x:((AT×((Bool×AR)×((List AB)×Int)))×Int)):Option ((AT×((Bool×AR)×((List AB)×Int)))×(Int×Int)) :=
 bd (BL x.1) λr0=>br (BJ r0.2 0) (λ_=>br (Ae x.2 0) (λ_=>some (((([],([],([],([],0)))),((false,([],false)),([],0))),(0,7)))) λ_=>br (Ai r0.2 0) (λ_=>some (((([],([],([],([],0)))),((false,([],false)),([],0))),(0,r0.2)))) λ_=>bd (EG x.1) λr1=>br (B6 (AH .i64 r1 (N8 x.2 r0.1)) 20000) (λ_=>some (((([],([],([],([],0)))),((false,([],false)),([],0))),(0,3)))) λ_=>bd (loop (λ(s2:(Int×((List (List AB))×((List Int)×((List AR)×((List Int)×(Int×(Bool×((List UInt8)×(Bool×((List AB)×Int)))))))))))=>br (Ae s2.1 (N8 x.2 r0.1)) (λ_=>bd (EH ((s2.2.1,(s2.2.2.1,(s2.2.2.2.1,(s2.2.2.2.2.1,s2.2.2.2.2.2.1)))))) λr3=>some (.nx ((AH .i64 s2.1 1,(r3.2.2.1.1,(r3.2.2.1.2.1,(r3.2.2.1.2.2.1,(r3.2.2.1.2.2.2.1,(r3.2.2.1.2.2.2.2,s2.2.2.2.2.2.2))))))))) λ_=>some (.dn ((0,(s2,()))))) ((0,(x.1.1.1,(x.1.1.2.1,(x.1.1.2.2.1,(x.1.1.2.2.2.1,(x.1.1.2.2.2.2,(x.1.2.1.1,(x.1.2.1.2.1,(x.1.2.1.2.2,x.1.2.2))))))))))) λr4=>bd (E2 x.1.1.1) λr5=>AP (AH .i64 x.1.2.2.2 (N8 x.2 r0.1)) λk6=>gd (Aj k6 (AA r5.1)) λ_=>gd (Aj 0 k6) λ_=>bd (DD (B0 r5.1 0 k6,x.1.2.1.2.2)) λr7=>some ((((r4.2.1.2.1,(r4.2.1.2.2.1,(r4.2.1.2.2.2.1,(r4.2.1.2.2.2.2.1,r4.2.1.2.2.2.2.2.1)))),(r7.2,(r7.1,AH .i64 x.1.2.2.2 (N8 x.2 r0.1)))),(N8 x.2 r0.1,0)))) λ_=>br (Ai r0.2 0) (λ_=>some (((([],([],([],([],0)))),((false,([],false)),([],0))),(0,r0.2)))) λ_=>bd (EG x.1) λr8=>br (B6 (AH .i64 r8 (N8 x.2 r0.1)) 20000) (λ_=>some (((([],([],([],([],0)))),((false,([],false)),([],0))),(0,3)))) λ_=>bd (loop (λ(s9:(Int×((List (List AB))×((List Int)×((List AR)×((List Int)×(Int×(Bool×((List UInt8)×(Bool×((List AB)×Int)))))))))))=>br (Ae s9.1 (N8 x.2 r0.1)) (λ_=>bd (EH ((s9.2.1,(s9.2.2.1,(s9.2.2.2.1,(s9.2.2.2.2.1,s9.2.2.2.2.2.1)))))) λr10=>some (.nx ((AH .i64 s9.1 1,(r10.2.2.1.1,(r10.2.2.1.2.1,(r10.2.2.1.2.2.1,(r10.2.2.1.2.2.2.1,(r10.2.2.1.2.2.2.2,s9.2.2.2.2.2.2))))))))) λ_=>some (.dn ((0,(s9,()))))) ((0,(x.1.1.1,(x.1.1.2.1,(x.1.1.2.2.1,(x.1.1.2.2.2.1,(x.1.1.2.2.2.2,(x.1.2.1.1,(x.1.2.1.2.1,(x.1.2.1.2.2,x.1.2.2))))))))))) λr11=>bd (E2 x.1.1.1) λr12=>AP (AH .i64 x.1.2.2.2 (N8 x.2 r0.1)) λk13=>gd (Aj k13 (AA r12.1)) λ_=>gd (Aj 0 k13) λ_=>bd (DD (B0 r12.1 0 k13,x.1.2.1.2.2)) λr14=>some ((((r11.2.1.2.1,(r11.2.1.2.2.1,(r11.2.1.2.2.2.1,(r11.2.1.2.2.2.2.1,r11.2.1.2.2.2.2.2.1)))),(r14.2,(r14.1,AH .i64 x.1.2.2.2 (N8 x.2 r0.1)))),(N8 x.2 r0.1,0)))
def Gg (x:(AT×AT)):Option Bool :=
 br (Ai (AW (AA x.1.1)) (AW (AA x.2.1))) (λ_=>some false) λ_=>bd (Gd (x.1.2.1,x.2.2.1)) λr0=>br (AY r0) (λ_=>some false) λ_=>bd (FP (x.1.2.2,x.2.2.2)) λr1=>br (AY r1) (λ_=>some false) λ_=>bd (loop (λs2=>br (Ae s2.1 (AW (AA x.1.1))) (λ_=>AP s2.1 λk3=>ix x.1.1 k3 λx4=>AP s2.1 λk5=>ix x.2.1 k5 λx6=>bd (By (x4,x6)) λr7=>br (AY r7) (λ_=>some (.dn ((0,((s2.1,false),()))))) λ_=>some (.nx (AH .i64 s2.1 1,s2.2))) λ_=>some (.dn ((1,(s2,()))))) (0,false)) λr8=>br (neq r8.1 0) (λ_=>some r8.2.1.2) λ_=>some true
def BO (x:((AT×((Bool×AR)×((List AB)×Int)))×(AT×((Bool×AR)×((List AB)×Int))))):Option Bool :=
 bd (Gg (x.1.1,x.2.1)) λr0=>br r0 (λ_=>br (Bo (beq x.1.2.1.1 x.2.2.1.1) (Bo (seq x.1.2.1.2.1 x.2.2.1.2.1) (Bo (beq x.1.2.1.2.2 x.2.2.1.2.2) true))) (λ_=>bd (By (x.1.2.2.1,x.2.2.2.1)) λr1=>br r1 (λ_=>some (BJ x.1.2.2.2 x.2.2.2.2)) λ_=>some false) λ_=>some false) λ_=>some false
def Dk (x:(AL×((List (Int×(AT×((Bool×AR)×((List AB)×Int)))))×Int))):Option (Int×Int) :=
 bd (Cw x.1) λr0=>br (BJ r0.2.2 0) (λ_=>br (Ae x.2.2 1) (λ_=>some (((-1),7))) λ_=>br (B6 x.2.2 1000001) (λ_=>some (((-1),7))) λ_=>br (BJ r0.2.2 0) (λ_=>bd (C3 x.1) λr1=>br (Pu x.2.2 r1) (λ_=>some (((-1),6))) λ_=>br (Ai r0.2.2 0) (λ_=>some (((-1),r0.2.2))) λ_=>bd (Cy x.1) λr2=>bd (loop (λs3=>br (Ae s3.2.2 (AW (AA x.2.1))) (λ_=>AP s3.2.2 λk4=>ix x.2.1 k4 λx5=>br (Hf s3.2.2 (AW (AA r2))) (λ_=>some (.dn ((0,((6,(s3.2.2,s3.2.2)),()))))) λ_=>AP s3.2.2 λk6=>ix r2 k6 λx7=>br (Ai x5.1 x7) (λ_=>some (.dn ((0,((6,(s3.2.2,s3.2.2)),()))))) λ_=>br x5.2.2.1.2.2 (λ_=>bd (BT (x.1,x5.1)) λr8=>br (AY r8) (λ_=>some (.dn ((0,((6,(s3.2.2,s3.2.2)),()))))) λ_=>bd (A2 ((x.1,(x5.1,x5.2.2.1.2.2)))) λr9=>bd (BL r9.2) λr10=>br (Ae x5.2.2.2.2 0) (λ_=>some (.dn ((0,((6,(s3.2.2,s3.2.2)),()))))) λ_=>br (B6 x5.2.2.2.2 r10.1) (λ_=>some (.dn ((0,((6,(s3.2.2,s3.2.2)),()))))) λ_=>bd (Ba (r9.2,x5.2.2.2.2)) λr11=>bd (BO (r11.1,x5.2)) λr12=>br (AY r12) (λ_=>some (.dn ((0,((6,(s3.2.2,s3.2.2)),()))))) λ_=>some (.nx ((s3.1,(s3.2.1,AH .i64 s3.2.2 1))))) λ_=>bd (A2 ((x.1,(x5.1,x5.2.2.1.2.2)))) λr13=>bd (BL r13.2) λr14=>br (Ae x5.2.2.2.2 0) (λ_=>some (.dn ((0,((6,(s3.2.2,s3.2.2)),()))))) λ_=>br (B6 x5.2.2.2.2 r14.1) (λ_=>some (.dn ((0,((6,(s3.2.2,s3.2.2)),()))))) λ_=>bd (Ba (r13.2,x5.2.2.2.2)) λr15=>bd (BO (r15.1,x5.2)) λr16=>br (AY r16) (λ_=>some (.dn ((0,((6,(s3.2.2,s3.2.2)),()))))) λ_=>some (.nx ((s3.1,(s3.2.1,AH .i64 s3.2.2 1))))) λ_=>some (.dn ((1,(s3,()))))) ((0,(0,0)))) λr17=>br (neq r17.1 0) (λ_=>some (r17.2.1.2.1,r17.2.1.1)) λ_=>br (Ae (AW (AA x.2.1)) (AW (AA r2))) (λ_=>some (((-1),4))) λ_=>some (0,0)) λ_=>br (Ai r0.2.2 0) (λ_=>some (((-1),r0.2.2))) λ_=>bd (Cy x.1) λr18=>bd (loop (λs19=>br (Ae s19.2.2 (AW (AA x.2.1))) (λ_=>AP s19.2.2 λk20=>ix x.2.1 k20 λx21=>br (Hf s19.2.2 (AW (AA r18))) (λ_=>some (.dn ((0,((6,(s19.2.2,s19.2.2)),()))))) λ_=>AP s19.2.2 λk22=>ix r18 k22 λx23=>br (Ai x21.1 x23) (λ_=>some (.dn ((0,((6,(s19.2.2,s19.2.2)),()))))) λ_=>br x21.2.2.1.2.2 (λ_=>bd (BT (x.1,x21.1)) λr24=>br (AY r24) (λ_=>some (.dn ((0,((6,(s19.2.2,s19.2.2)),()))))) λ_=>bd (A2 ((x.1,(x21.1,x21.2.2.1.2.2)))) λr25=>bd (BL r25.2) λr26=>br (Ae x21.2.2.2.2 0) (λ_=>some (.dn ((0,((6,(s19.2.2,s19.2.2)),()))))) λ_=>br (B6 x21.2.2.2.2 r26.1) (λ_=>some (.dn ((0,((6,(s19.2.2,s19.2.2)),()))))) λ_=>bd (Ba (r25.2,x21.2.2.2.2)) λr27=>bd (BO (r27.1,x21.2)) λr28=>br (AY r28) (λ_=>some (.dn ((0,((6,(s19.2.2,s19.2.2)),()))))) λ_=>some (.nx ((s19.1,(s19.2.1,AH .i64 s19.2.2 1))))) λ_=>bd (A2 ((x.1,(x21.1,x21.2.2.1.2.2)))) λr29=>bd (BL r29.2) λr30=>br (Ae x21.2.2.2.2 0) (λ_=>some (.dn ((0,((6,(s19.2.2,s19.2.2)),()))))) λ_=>br (B6 x21.2.2.2.2 r30.1) (λ_=>some (.dn ((0,((6,(s19.2.2,s19.2.2)),()))))) λ_=>bd (Ba (r29.2,x21.2.2.2.2)) λr31=>bd (BO (r31.1,x21.2)) λr32=>br (AY r32) (λ_=>some (.dn ((0,((6,(s19.2.2,s19.2.2)),()))))) λ_=>some (.nx ((s19.1,(s19.2.1,AH .i64 s19.2.2 1))))) λ_=>some (.dn ((1,(s19,()))))) ((0,(0,0)))) λr33=>br (neq r33.1 0) (λ_=>some (r33.2.1.2.1,r33.2.1.1)) λ_=>br (Ae (AW (AA x.2.1)) (AW (AA r18))) (λ_=>some (((-1),4))) λ_=>some (0,0)) λ_=>br (BJ r0.2.2 0) (λ_=>bd (C3 x.1) λr34=>br (Pu x.2.2 r34) (λ_=>some (((-1),6))) λ_=>br (Ai r0.2.2 0) (λ_=>some (((-1),r0.2.2))) λ_=>bd (Cy x.1) λr35=>bd (loop (λs36=>br (Ae s36.2.2 (AW (AA x.2.1))) (λ_=>AP s36.2.2 λk37=>ix x.2.1 k37 λx38=>br (Hf s36.2.2 (AW (AA r35))) (λ_=>some (.dn ((0,((6,(s36.2.2,s36.2.2)),()))))) λ_=>AP s36.2.2 λk39=>ix r35 k39 λx40=>br (Ai x38.1 x40) (λ_=>some (.dn ((0,((6,(s36.2.2,s36.2.2)),()))))) λ_=>br x38.2.2.1.2.2 (λ_=>bd (BT (x.1,x38.1)) λr41=>br (AY r41) (λ_=>some (.dn ((0,((6,(s36.2.2,s36.2.2)),()))))) λ_=>bd (A2 ((x.1,(x38.1,x38.2.2.1.2.2)))) λr42=>bd (BL r42.2) λr43=>br (Ae x38.2.2.2.2 0) (λ_=>some (.dn ((0,((6,(s36.2.2,s36.2.2)),()))))) λ_=>br (B6 x38.2.2.2.2 r43.1) (λ_=>some (.dn ((0,((6,(s36.2.2,s36.2.2)),()))))) λ_=>bd (Ba (r42.2,x38.2.2.2.2)) λr44=>bd (BO (r44.1,x38.2)) λr45=>br (AY r45) (λ_=>some (.dn ((0,((6,(s36.2.2,s36.2.2)),()))))) λ_=>some (.nx ((s36.1,(s36.2.1,AH .i64 s36.2.2 1))))) λ_=>bd (A2 ((x.1,(x38.1,x38.2.2.1.2.2)))) λr46=>bd (BL r46.2) λr47=>br (Ae x38.2.2.2.2 0) (λ_=>some (.dn ((0,((6,(s36.2.2,s36.2.2)),()))))) λ_=>br (B6 x38.2.2.2.2 r47.1) (λ_=>some (.dn ((0,((6,(s36.2.2,s36.2.2)),()))))) λ_=>bd (Ba (r46.2,x38.2.2.2.2)) λr48=>bd (BO (r48.1,x38.2)) λr49=>br (AY r49) (λ_=>some (.dn ((0,((6,(s36.2.2,s36.2.2)),()))))) λ_=>some (.nx ((s36.1,(s36.2.1,AH .i64 s36.2.2 1))))) λ_=>some (.dn ((1,(s36,()))))) ((0,(0,0)))) λr50=>br (neq r50.1 0) (λ_=>some (r50.2.1.2.1,r50.2.1.1)) λ_=>br (Ae (AW (AA x.2.1)) (AW (AA r35))) (λ_=>some (((-1),4))) λ_=>some (0,0)) λ_=>br (Ai r0.2.2 0) (λ_=>some (((-1),r0.2.2))) λ_=>bd (Cy x.1) λr51=>bd (loop (λs52=>br (Ae s52.2.2 (AW (AA x.2.1))) (λ_=>AP s52.2.2 λk53=>ix x.2.1 k53 λx54=>br (Hf s52.2.2 (AW (AA r51))) (λ_=>some (.dn ((0,((6,(s52.2.2,s52.2.2)),()))))) λ_=>AP s52.2.2 λk55=>ix r51 k55 λx56=>br (Ai x54.1 x56) (λ_=>some (.dn ((0,((6,(s52.2.2,s52.2.2)),()))))) λ_=>br x54.2.2.1.2.2 (λ_=>bd (BT (x.1,x54.1)) λr57=>br (AY r57) (λ_=>some (.dn ((0,((6,(s52.2.2,s52.2.2)),()))))) λ_=>bd (A2 ((x.1,(x54.1,x54.2.2.1.2.2)))) λr58=>bd (BL r58.2) λr59=>br (Ae x54.2.2.2.2 0) (λ_=>some (.dn ((0,((6,(s52.2.2,s52.2.2)),()))))) λ_=>br (B6 x54.2.2.2.2 r59.1) (λ_=>some (.dn ((0,((6,(s52.2.2,s52.2.2)),()))))) λ_=>bd (Ba (r58.2,x54.2.2.2.2)) λr60=>bd (BO (r60.1,x54.2)) λr61=>br (AY r61) (λ_=>some (.dn ((0,((6,(s52.2.2,s52.2.2)),()))))) λ_=>some (.nx ((s52.1,(s52.2.1,AH .i64 s52.2.2 1))))) λ_=>bd (A2 ((x.1,(x54.1,x54.2.2.1.2.2)))) λr62=>bd (BL r62.2) λr63=>br (Ae x54.2.2.2.2 0) (λ_=>some (.dn ((0,((6,(s52.2.2,s52.2.2)),()))))) λ_=>br (B6 x54.2.2.2.2 r63.1) (λ_=>some (.dn ((0,((6,(s52.2.2,s52.2.2)),()))))) λ_=>bd (Ba (r62.2,x54.2.2.2.2)) λr64=>bd (BO (r64.1,x54.2)) λr65=>br (AY r65) (λ_=>some (.dn ((0,((6,(s52.2.2,s52.2.2)),()))))) λ_=>some (.nx ((s52.1,(s52.2.1,AH .i64 s52.2.2 1))))) λ_=>some (.dn ((1,(s52,()))))) ((0,(0,0)))) λr66=>br (neq r66.1 0) (λ_=>some (r66.2.1.2.1,r66.2.1.1)) λ_=>br (Ae (AW (AA x.2.1)) (AW (AA r51))) (λ_=>some (((-1),4))) λ_=>some (0,0)
end Go.Proofs.YthpkjfabdccpdaaGreat.Pl
namespace Go.Proofs.YthpkjfabdccpdaaGreat.Pl
open Go Go.Proofs.YthpkjfabdccpdaaGreat.Sv
theorem Gh (x:AB):A1 x=some (kE x):=by
 unfold A1 kE;rw [Av,AU,JW];by_cases h1:x.1.length>32
 ·rw [if_pos (by omega),if_pos (.inl h1)]
 rw [if_neg (by omega),Av,AU,JW];by_cases h2:x.2.1.length>64
 ·rw [if_pos (by omega),if_pos (.inr h2)]
 rw [if_neg (by omega : ¬ (x.2.1.length:Int)>64),if_neg (by omega),HP];by_cases h3:x.2.2.1=true
 ·rw [if_pos h3,Bp,Ew];by_cases h4:x.2.1=[]
  ·rw [if_pos h4,if_neg (by simp [h4]),BD,Av];by_cases h5:x.2.2.2<1
   ·simp [h5]
   ·by_cases h6:x.2.2.2>1000000000<;>simp [h5,h6]
  ·rw [if_neg h4,if_pos ⟨h3,h4⟩]
 ·rw [if_neg h3,if_neg (by simp [h3]),BD,Av];by_cases h5:x.2.2.2<1
  ·simp [h5]
  ·by_cases h6:x.2.2.2>1000000000<;>simp [h5,h6]
def Dl:List UInt8->List UInt8->Nat
 | x::a,y::b=>if x=y then Dl a b+1 else 0
 | _,_=>0
theorem bp (x y:UInt8):BJ (S7 x) (S7 y)=decide (x=y):=by
 rw [DN];unfold S7;by_cases h:x=y
 ·simp [h]
 ·have : ¬ ((x.toNat:Int)=(y.toNat:Int)):=λe=>h (UInt8.toNat_inj.1 (by omega));simp [h,this]
theorem Yl (a b:List UInt8) (ha:a.length<=9223372036854775806):E1 (a,b)=some (Dl a b:Int):=by
 unfold E1;simp only [AU,JW]
 have key : ∀ (m:List UInt8) (k n:Nat),a.drop k=m->k<=a.length->k<=b.length->m.length<n->Dp n (λs0=>br (Ae s0 (a.length:Int)) (λ_=>br (Ae s0 (b.length:Int)) (λ_=>AP s0 λk1=>ix a k1 λx2=>AP s0 λk3=>ix b k3 λx4=>br (BJ (S7 x2) (S7 x4)) (λ_=>some (LR.nx (AH .i64 s0 1))) λ_=>some (.dn ((0,(s0,()))))) λ_=>some (.dn ((0,(s0,()))))) λ_=>some (.dn ((0,(s0,()))))) (k:Int)=some ((0:Nat),(((k+Dl m (b.drop k):Nat):Int),())):=by
  intro m
  induction m with
  | nil =>
   intro k n hm hk hkb hn;obtain ⟨n,rfl⟩ : ∃ j,n=j+1:=⟨n-1,by omega⟩
   have hkl:k=a.length:=by
    have:=congrArg List.length hm;simp at this;omega
   subst hkl;refine BX ?_;rw [re];simp [AV,Dl]
  | cons x m ih =>
   intro k n hm hk hkb hn;obtain ⟨n,rfl⟩ : ∃ j,n=j+1:=⟨n-1,by omega⟩
   have hx:a[k]? = some x:=by
    have:=congrArg List.head? hm;rw [List.head?_drop] at this;simpa using this
   have hk':k<a.length:=(List.getElem?_eq_some_iff.1 hx).1
   have hm2:a.drop (k+1)=m:=by
    have:=congrArg List.tail hm;rw [List.tail_drop] at this;simpa using this
   by_cases hb:k<b.length
   ·have hy:b[k]? = some b[k]:=by simp [hb]
    rw [List.drop_eq_getElem_cons hb];unfold Dl;by_cases e:x=b[k]
    ·rw [if_pos e];refine (BS (s':=((k+1:Nat):Int)) ?_).trans ?_
     ·rw [rl hk',AM,rl hb,AM,AE,AI hx,AE,AI hy,bp,Cn,if_pos e,AZ (by omega)]
     ·rw [ih (k+1) n hm2 (by omega) (by omega) (by simp at hn;omega),show k+1+Dl m (b.drop (k+1))=k+(Dl m (b.drop (k+1))+1) by omega]
    ·rw [if_neg e];refine BX ?_;rw [rl hk',AM,rl hb,AM,AE,AI hx,AE,AI hy,bp,Cn,if_neg e];simp
   ·have hb2:k=b.length:=by omega
    refine BX ?_;rw [rl hk',AM,hb2,re,AV,List.drop_length];simp [Dl]
 refine A7 (Cq (n:=a.length+1) (by omega) (key a 0 (a.length+1) (by simp) (by omega) (by omega) (by omega))) ?_;simp
def Lu (a b:H1):Int:=if B3 a b=true then -1 else if a=b then 0 else 1
theorem Ts : ∀ (a b:H1),(Dl a b<=a.length/\Dl a b<=b.length)/\(Dl a b=a.length->Dl a b=b.length->Lu a b=0)/\(Dl a b=a.length->Dl a b≠b.length->Lu a b = -1)/\(Dl a b≠a.length->Dl a b=b.length->Lu a b=1)/\(∀ x y,a[Dl a b]? = some x->b[Dl a b]? = some y->Lu a b=if x.toNat<y.toNat then -1 else 1)
 | [],[]=>by simp [Dl,Lu,Mh]
 | [],y::b=>by simp [Dl,Lu,SG]
 | x::a,[]=>by simp [Dl,Lu,Mh]
 | x::a,y::b=>by
  obtain ⟨⟨h0,h0'⟩,h1,h2,h3,h4⟩:=Ts a b;by_cases e:x=y
  ·subst e
   have ho:Lu (x::a) (x::b)=Lu a b:=by
    unfold Lu;rw [I3];simp
   have hc:Dl (x::a) (x::b)=Dl a b+1:=by simp [Dl]
   rw [ho,hc];refine ⟨⟨by simp;omega,by simp;omega⟩,λu v=>h1 (by simp at u;omega) (by simp at v;omega),λu v=>h2 (by simp at u;omega) (by simp at v;omega),λu v=>h3 (by simp at u;omega) (by simp at v;omega),λp q hp hq=>h4 p q (by simpa using hp) (by simpa using hq)⟩
  ·have hc:Dl (x::a) (y::b)=0:=by simp [Dl,e]
   rw [hc];refine ⟨⟨by omega,by omega⟩,λu=>by simp at u,λu=>by simp at u,λ_ u=>by simp at u,λp q hp hq => ?_⟩;simp at hp hq;subst hp hq;unfold Lu;rw [I3];have hne : ¬ (x::a=y::b):=λh=>e (by injection h);by_cases hlt:x.toNat<y.toNat
   ·have:x<y:=UInt8.lt_iff_toNat_lt.2 hlt;simp [this,hlt]
   ·have : ¬ x<y:=λh=>hlt (UInt8.lt_iff_toNat_lt.1 h);simp [this,hlt,e]
theorem bq (a b:H1) (ha:a.length<=1000000000) (hb:b.length<=1000000000):EX (a,b)=some (Lu a b):=by
 obtain ⟨⟨h0,h0'⟩,h1,h2,h3,h4⟩:=Ts a b;unfold EX;simp only [AU,JW];rw [Yl a b (by omega),AC,BI]
 have hl:(if (Dl a b:Int)<(b.length:Int) then (AP (Dl a b:Int) λk1=>ix a k1 λx2=>AP (Dl a b:Int) λk3=>ix b k3 λx4=>br (Ae (S7 x2) (S7 x4)) (λ_=>some (-1:Int)) λ_=>some 1) else some 1)=(if Dl a b=a.length then (if (Dl a b:Int)<(b.length:Int) then (AP (Dl a b:Int) λk1=>ix a k1 λx2=>AP (Dl a b:Int) λk3=>ix b k3 λx4=>br (Ae (S7 x2) (S7 x4)) (λ_=>some (-1:Int)) λ_=>some 1) else some 1) else some (Lu a b)):=by
  by_cases u:Dl a b=a.length
  ·rw [if_pos u]
  ·rw [if_neg u];by_cases v:Dl a b=b.length
   ·rw [if_neg (by omega),h3 u v]
   ·rw [if_pos (by omega),AE];have hx:a[Dl a b]? = some (a[Dl a b]'(by omega)):=by simp
    have hy:b[Dl a b]? = some (b[Dl a b]'(by omega)):=by simp
    rw [AI hx,AE,AI hy,BD,h4 _ _ hx hy];unfold S7;by_cases w:(a[Dl a b]'(by omega)).toNat<(b[Dl a b]'(by omega)).toNat
    ·rw [if_pos (by omega),if_pos w]
    ·rw [if_neg (by omega),if_neg w]
 by_cases u:Dl a b=a.length
 ·rw [if_pos (by omega),BI];by_cases v:Dl a b=b.length
  ·rw [if_pos (by omega),h1 u v]
  ·rw [if_neg (by omega),BI,if_pos (by omega),h2 u v]
 ·rw [if_neg (by omega),BI,if_neg (by omega),BD,hl,if_neg u]
theorem Xb (a b:H1):Lu a b>=0<->B3 a b=false:=by
 unfold Lu;cases h:B3 a b with
 | true=>simp
 | false=>simp;split<;>omega
theorem G8 (l:List AB) (hl:l.length<=9223372036854775807):Ck l=some (Cd l):=by
 unfold Ck Cd;simp only [AU,AO];rw [Av];by_cases h:l.length>5000
 ·rw [if_pos (by omega),if_pos h]
 rw [if_neg (by omega),if_neg h];obtain ⟨T,hT⟩ : ∃ T,T=Jt none 0 l:=⟨_,rfl⟩;rw [<- hT]
 obtain ⟨r,q1,q2⟩:=EF (l:=l) (σ:=Unit) (s:=((0:Int),((0:Int),(0:Int)))) (λk _=>((0:Int),((0:Int),(k:Int)))) (λm k _=>Jt (if k=0 then none else (l[k-1]?).map (·.1)) k m=T/\(∀ y,k≠0->l[k-1]? = some y->kE y=0)) (λ(r:Nat×((Int×(Int×Int))×Unit))=>(r.1=1/\T=(0,0))\/(r.1=0/\T=(r.2.1.2.1,r.2.1.1)))
  (f:=λs0=>br (Ae s0.2.2 (l.length:Int)) (λ_=>AP s0.2.2 λk1=>ix l k1 λx2=>bd (A1 x2) λr3=>br (BJ r3 0) (λ_=>br (B6 s0.2.2 0) (λ_=>AP (BF .i64 s0.2.2 1) λk4=>ix l k4 λx5=>AP s0.2.2 λk6=>ix l k6 λx7=>bd (EX (x5.1,x7.1)) λr8=>br (Hf r8 0) (λ_=>some (.dn ((0,((6,(s0.2.2,s0.2.2)),()))))) λ_=>br (Ai r3 0) (λ_=>some (.dn ((0,((r3,(s0.2.2,s0.2.2)),()))))) λ_=>some (.nx ((s0.1,(s0.2.1,AH .i64 s0.2.2 1))))) λ_=>br (Ai r3 0) (λ_=>some (.dn ((0,((r3,(s0.2.2,s0.2.2)),()))))) λ_=>some (.nx ((s0.1,(s0.2.1,AH .i64 s0.2.2 1))))) λ_=>br (Ai r3 0) (λ_=>some (.dn ((0,((r3,(s0.2.2,s0.2.2)),()))))) λ_=>some (.nx ((s0.1,(s0.2.1,AH .i64 s0.2.2 1))))) λ_=>some (.dn ((1,(s0,())))))
  () rfl (by omega) ⟨hT.symm,λ_ h=>absurd rfl h⟩ (λ_ h=>by
   refine ⟨_,by simp only;rw [re];rfl,.inl ⟨rfl,?_⟩⟩;rw [<- h.1];simp [Jt]) (λk x m _ hd hx hk h=>by
   simp only;obtain ⟨h,hprev⟩:=h;rw [rl hk,AM,AE,AI hx,Gh,AC,BI];unfold Jt at h
   have next:kE x=0->(T=Jt (some x.1) (k+1) m)->Jt (if k+1=0 then none else (l[k+1-1]?).map (·.1)) (k+1) m=T/\(∀ y,k+1≠0->l[k+1-1]? = some y->kE y=0):=λh0 e=>by
    rw [if_neg (by omega),Nat.add_sub_cancel,hx,e];exact ⟨rfl,λy _ hy=>by cases hy;exact h0⟩
   by_cases h0:kE x=0
   ·rw [if_pos h0,Av];rw [if_neg (by simp [h0])] at h;by_cases hk0:k=0
    ·rw [if_neg (by omega),AN,if_pos h0];rw [if_pos hk0] at h;exact .inl ⟨(),by rw [As hx (by omega)],next h0 h.symm⟩
    ·have hy:l[k-1]? = some (l[k-1]'(by omega)):=by rw [List.getElem?_eq_getElem]
     rw [if_pos (by omega),show BF .i64 (k:Int) 1=((k-1:Nat):Int) by rw [Bu (by omega)];omega,AE,AI hy,AE,AI hx];rw [if_neg hk0,hy] at h;simp only [Option.map_some] at h;rw [bq _ _ (by have:=PZ (hprev _ hk0 hy);omega) (by have:=PZ h0;omega),AC,D0];by_cases hs:B3 (l[k-1]'(by omega)).1 x.1=true
     ·rw [if_neg (λe=>by rw [Xb,hs] at e;cases e),AN,if_pos h0];rw [if_pos hs] at h;exact .inl ⟨(),by rw [As hx (by omega)],next h0 h.symm⟩
     ·rw [if_pos ((Xb _ _).2 (by simpa using hs))];rw [if_neg hs] at h;exact .inr ⟨_,rfl,.inr ⟨rfl,h.symm⟩⟩
   ·rw [if_neg h0,AN,if_neg h0];rw [if_pos h0] at h
    exact .inr ⟨_,rfl,.inr ⟨rfl,h.symm⟩⟩)
 refine A7 q1 ?_;rw [CS];rcases q2 with ⟨q2,q3⟩ | ⟨q2,q3⟩
 ·rw [if_neg (show ¬ r.1=0 by omega),q3]
 ·rw [if_pos q2,q3]
theorem bu (p q:AR) (hp:Ek p) (hq:Ek q):FO ([p,q],(0,1))=some (w0 p q):=by
 unfold FO w0;refine (E0 0 rfl (x:=p) rfl).trans ((E0 1 rfl (x:=q) rfl).trans ?_);rw [beq_eq,CZ,Cn,Bp,HP];by_cases h1:p.2=q.2
 ·rw [if_neg (show ¬ ¬ p.2=q.2 by simp [h1]),if_neg (show ¬ p.2≠q.2 by simp [h1])];by_cases h2:p.2=true
  ·rw [if_pos h2,hp h2,hq (h1 ▸ h2)];rfl
  ·rw [if_neg h2,Bp,Ew];by_cases h3:p.1=q.1
   ·rw [if_pos h3,if_neg (by simp [h3])];rfl
   ·rw [if_neg h3,if_pos h3]
 ·rw [if_pos h1,if_pos h1]
theorem OG (p q:AR) (n:Nat) (k:Int) (h:2<=k) (hk:k<=100):KP Ax (n+1) ([p,q],k)=some (k-2,0):=by
 show Ax (KP Ax n) ([p,q],k)=_;unfold Ax;show br (Hf k 2) (λ_=>some (BF .i64 k 2,0)) _=_;rw [D0,if_pos h,Bu (by omega)]
theorem Pd (p q:AR) (hp:Ek p) (hq:Ek q):Gb ([p,q],1)=some (if w0 p q=true then (0,1) else (1,0)):=by
 show Ax (KP Ax 99) ([p,q],1)=_;unfold Ax;show br (Hf (1:Int) 2) (λ_=>some (BF .i64 (1:Int) 2,0)) (λ_=>bd (KP Ax (98+1) ([p,q],2)) λr0=>bd (KP Ax (98+1) ([p,q],3)) _)=_;rw [D0,if_neg (by omega),OG p q 98 2 (by omega) (by omega),AC,OG p q 98 3 (by omega) (by omega),AC];show bd (FO ([p,q],(0,1))) _=_;rw [bu p q hp hq,AC,HP];cases h:w0 p q<;>rfl
theorem bw (p q:AR) (hp:Ek p) (hq:Ek q):Gc [p,q]=some (Tt p q):=by
 unfold Gc;refine Eq.trans (b:=bd (loop _ (1,([p,q],([0,0],0)))) _) rfl ?_;refine A7 (x:=(0,((2,([p,q],([0,if w0 p q=true then 1 else 0],0))),()))) (Cq (n:=2) (by omega) ((BS (s':=(2,([p,q],([0,if w0 p q=true then 1 else 0],0)))) ?_).trans (BX rfl))) ?_
 ·show bd (Gb ([p,q],1)) _=_;rw [Pd p q hp hq,AC];refine (KS 1 rfl (x:=(0:Int)) rfl).trans ?_;cases h:w0 p q<;>rfl
 ·rw [Pd p q hp hq,AC];unfold Tt;cases h:w0 p q<;>rfl
theorem Ym {l:List AR} (h : ∀ k∈l,Ek k) (h0:l≠[]) (hl:l.length<=32):Fg l=some 0:=by
 unfold Fg;simp only [AU,AO];rw [BI,Av,if_neg (by have:=List.length_pos_iff.2 h0;omega),if_neg (by omega)]
 rw [DC (l:=l) (σ:=Unit) (s:=((0:Int),(0:Int))) (λk _=>((k:Int),(0:Int))) (λ_ _ _=>True) (λ_ _ _=>(1,(((l.length:Int),0),()))) () rfl (by omega) trivial (λst _=>by
  simp only;rw [re];rfl) (λk x m st _ hx hk _=>⟨(),by
   simp only;rw [rl hk,AM,AE,AI hx,HP,As hx (by omega)];by_cases hd:x.2=true
   ·rw [if_pos hd,AE,AI hx,Bp,Ew,if_pos (h x (List.mem_of_getElem? hx) hd)]
   ·rw [if_neg hd],trivial,rfl⟩),AC]
 rfl
theorem Yn (p q:AR) (hp:Ek p) (hq:Ek q):EZ [p,q]=some (Tt p q,0):=by
 unfold EZ;rw [Ym (by simp [hp,hq]) (by simp) (by simp),AC,AN,if_pos rfl,bw p q hp hq,AC]
end Go.Proofs.YthpkjfabdccpdaaGreat.Pl
namespace Go.Proofs.YthpkjfabdccpdaaGreat.Pl
open Go Go.Proofs.YthpkjfabdccpdaaGreat.Sv
theorem HI:By=BQ:=rfl
theorem Pe:Gd=Ag:=rfl
theorem Vf (l m:List AR) (hb:l.length<=9223372036854775806) (hl:l.length=m.length) : ∃ r,loop (λs1=>br (Ae s1.1 (l.length:Int)) (λ_=>AP s1.1 λk2=>ix l k2 λx3=>AP s1.1 λk4=>ix m k4 λx5=>br (AY (Bo (seq x3.1 x5.1) (Bo (Sv.beq x3.2 x5.2) true))) (λ_=>some (LR.dn ((0:Nat),((s1.1,false),())))) λ_=>some (.nx (AH .i64 s1.1 1,s1.2))) λ_=>some (.dn ((1,(s1,()))))) ((0:Int),false)=some r/\((l=m/\r.1=1)\/(l≠m/\r.1=0/\r.2.1.2=false)):=by
 refine I7 l m hl hb (λk x y hx hy => ?_) (by simp only;rw [re];rfl);have hk:=(List.getElem?_eq_some_iff.1 hx).1
 have he : ∀ {β:Type} (u v:Unit->Option β),br (AY (Bo (seq x.1 y.1) (Bo (Sv.beq x.2 y.2) true))) u v=if x=y then v () else u ():=by
  intro β u v;rw [Mm,Lq,beq_eq,JZ,CZ,Cn];by_cases e:x=y
  ·subst e;simp
  ·rw [if_pos (λh=>e (Prod.ext h.1 h.2)),if_neg e]
 constructor
 ·intro e;simp only;rw [rl hk,AM,AE,AI hx,AE,AI hy,he,if_pos e,AZ (by omega)]
 ·intro e;simp only;rw [rl hk,AM,AE,AI hx,AE,AI hy,he,if_neg e]
theorem Pf (s t:EE) (h1:s.1.length<=1000) (h2:s.2.1.length<=1000):FP (s,t)=some (decide (s=t)):=by
 obtain ⟨sk,sl,sw⟩:=s;obtain ⟨tk,tl,tw⟩:=t;simp only at h1 h2;unfold FP;simp only [AU,AO];rw [AN];by_cases e1:(sk.length:Int)=(tk.length:Int);rotate_left
 ·rw [if_neg e1];have : ¬ sk=tk:=λe=>e1 (by rw [e]);simp [this]
 rw [if_pos e1,AN];by_cases e2:sw=tw;rotate_left
 ·rw [if_neg e2];simp [e2]
 rw [if_pos e2,Pe,K1 _ _ (by omega),AC,CZ,Cn];by_cases e3:sl=tl;rotate_left
 ·rw [if_pos e3];simp [e3]
 rw [if_neg (show ¬ ¬ sl=tl by simp [e3])];obtain ⟨r,q1,q2⟩:=Vf sk tk (by omega) (by omega);refine A7 q1 ?_;rw [CS];rcases q2 with ⟨e,q2⟩ | ⟨e,q2,q3⟩
 ·rw [if_neg (show ¬ r.1=0 by omega)];simp [e,e2,e3]
 ·rw [if_pos q2,q3];simp [e]
theorem Tu (s t:AT) (h1:s.1.length<=1000) (h2 : ∀ l∈s.1,l.length<=1000000) (h3:s.2.1.length<=1000) (h4:s.2.2.1.length<=1000) (h5:s.2.2.2.1.length<=1000):Gg (s,t)=some (decide (s=t)):=by
 obtain ⟨sr,sa,st⟩:=s;obtain ⟨tr,ta,tt⟩:=t;simp only at h1 h2 h3 h4 h5;unfold Gg;simp only [AU,AO];rw [AN];by_cases e1:(sr.length:Int)=(tr.length:Int);rotate_left
 ·rw [if_neg e1];have : ¬ sr=tr:=λe=>e1 (by rw [e]);simp [this]
 rw [if_pos e1,Pe,K1 _ _ (by omega),AC,CZ,Cn];by_cases e2:sa=ta;rotate_left
 ·rw [if_pos e2];simp [e2]
 rw [if_neg (show ¬ ¬ sa=ta by simp [e2]),Pf _ _ h4 h5,AC,CZ,Cn];by_cases e3:st=tt;rotate_left
 ·rw [if_pos e3];simp [e3]
 rw [if_neg (show ¬ ¬ st=tt by simp [e3])]
 obtain ⟨r,q1,q2⟩:=I7 sr tr (by omega) (by omega) (f:=λs2=>br (Ae s2.1 (sr.length:Int)) (λ_=>AP s2.1 λk3=>ix sr k3 λx4=>AP s2.1 λk5=>ix tr k5 λx6=>bd (By (x4,x6)) λr7=>br (AY r7) (λ_=>some (.dn ((0,((s2.1,false),()))))) λ_=>some (.nx (AH .i64 s2.1 1,s2.2))) λ_=>some (.dn ((1,(s2,()))))) (λk x y hx hy=>by
   have hk:=(List.getElem?_eq_some_iff.1 hx).1;have hx1:=h2 x (List.mem_of_getElem? hx);constructor
   ·intro e;simp only;rw [rl hk,AM,AE,AI hx,AE,AI hy,HI,GZ _ _ (by omega),AC,CZ,Cn,if_neg (by simp [e]),AZ (by omega)]
   ·intro e;simp only
    rw [rl hk,AM,AE,AI hx,AE,AI hy,HI,GZ _ _ (by omega),AC,CZ,Cn,if_pos e]) (by simp only;rw [re];rfl)
 refine A7 q1 ?_;rw [CS];rcases q2 with ⟨e,q2⟩ | ⟨e,q2,q3⟩
 ·rw [if_neg (show ¬ r.1=0 by omega)];simp [e,e2,e3]
 ·rw [if_pos q2,q3];simp [e]
theorem Pg (x y:JV) (h1:x.1.1.length<=1000) (h2 : ∀ l∈x.1.1,l.length<=1000000) (h3:x.1.2.1.length<=1000) (h4:x.1.2.2.1.length<=1000) (h5:x.1.2.2.2.1.length<=1000) (h6:x.2.2.1.length<=1000000):BO (x,y)=some (decide (x=y)):=by
 obtain ⟨xm,⟨xs,xt,xb⟩,xo,xn⟩:=x;obtain ⟨ym,⟨ys,yt,yb⟩,yo,yn⟩:=y;simp only at h1 h2 h3 h4 h5 h6;unfold BO;simp only [Tu _ _ h1 h2 h3 h4 h5,HI,GZ _ _ (show xo.length<=9223372036854775806 by omega),AC,Cn,DN,Lq,beq_eq,Mm,JZ]
 repeat' split
 all_goals simp_all
section
variable {a b:List AB} (va:VL a) (vb:VL b)
include va vb
theorem Lv:Dh [a,b]=some (0,0):=by
 have la:=va.len;have lb:=vb.len;unfold Dh;refine Eq.trans (b:=bd (loop _ (0,(0,0))) _) rfl ?_;refine A7 (x:=(1,((0,(0,2)),()))) (Ce (s1:=(0,(0,1))) (s2:=(0,(0,2))) ?_ ?_ rfl) rfl
 ·refine (ON 0 rfl rfl (x:=a) rfl).trans ?_;rw [G8 _ (by omega),KQ va,AC];rfl
 ·refine (ON 1 rfl rfl (x:=b) rfl).trans ?_;rw [G8 _ (by omega),KQ vb,AC];rfl
theorem Ja {i j:Nat} (hi:i<=a.length) (hj:j<=b.length):Di ([a,b],[(i:Int),(j:Int)])=some (if i=a.length/\j=b.length then -1 else if IE a b i j=true then 0 else 1):=by
 have la:=va.len;have lb:=vb.len;unfold Di;simp only [AU,AO];refine A7 (x:=(0,((if i=a.length/\j=b.length then -1 else if IE a b i j=true then 0 else 1,2),()))) (Ce (s1:=(if i=a.length then -1 else 0,1)) (s2:=(if i=a.length/\j=b.length then -1 else if IE a b i j=true then 0 else 1,2)) ?_ ?_ rfl) rfl
 ·refine (ON 0 rfl rfl (x:=(i:Int)) rfl).trans ((E0 0 rfl (x:=a) rfl).trans ?_);rw [BD];by_cases h:i=a.length
  ·rw [if_neg (by omega),if_pos h];rfl
  ·rw [if_pos (by omega),if_neg h];rfl
 ·refine (ON 1 rfl rfl (x:=(j:Int)) rfl).trans ((E0 1 rfl (x:=b) rfl).trans ?_);rw [BD];by_cases h:j=b.length
  ·rw [if_neg (by omega)];by_cases h2:i=a.length
   ·rw [if_pos h2,if_pos ⟨h2,h⟩];rfl
   ·rw [if_neg h2,if_neg (λh3=>h2 h3.1)];have hx:a[i]? = some (a[i]'(by omega)):=by simp
    rw [XT hx (List.getElem?_eq_none (by omega))];rfl
  ·have hy:b[j]? = some (b[j]'(by omega)):=by simp
   rw [if_pos (by omega),BD,if_neg (λh3:i=a.length/\j=b.length=>h h3.2)];by_cases h2:i=a.length
   ·rw [if_pos h2,if_pos (by omega),XU (List.getElem?_eq_none (by omega)) hy];rfl
   ·rw [if_neg h2,if_neg (by omega)];have hx:a[i]? = some (a[i]'(by omega)):=by simp
    refine (E0 1 rfl (x:=b) rfl).trans ((E0 1 rfl (x:=(j:Int)) rfl).trans ((E0 j rfl hy).trans ((E0 0 rfl (x:=a) rfl).trans ((E0 0 rfl (x:=(i:Int)) rfl).trans ((E0 i rfl hx).trans ?_)))));rw [GW,PS hx hy];cases hs:B3 (b[j]'(by omega)).1 (a[i]'(by omega)).1<;>rfl
theorem Jb {i j:Nat} (hi:i<=a.length) (hj:j<=b.length):Cz ([a,b],[(i:Int),(j:Int)])=some (Lz a b i j):=by
 have la:=va.len;have lb:=vb.len;unfold Cz;simp only [AU,AO];rw [BE (show [a,b].length<=1048576 from (show 2<=1048576 by omega)),BE (show [(i:Int),(j:Int)].length<=1048576 from (show 2<=1048576 by omega))];refine A7 (x:=(0,((2,[kx a i,kx b j]),()))) (Ce (s1:=(1,[kx a i])) (s2:=(2,[kx a i,kx b j])) ?_ ?_ rfl) ?_
 ·refine (ON 0 rfl rfl (x:=(i:Int)) rfl).trans ((E0 0 rfl (x:=a) rfl).trans ?_);rw [DN,CZ,Cn];by_cases h:i=a.length
  ·have hne:((i:Int)=(a.length:Int)):=by omega
   rw [if_neg (show ¬ ¬ ((i:Int)=(a.length:Int)) by simp [hne]),Ml (List.getElem?_eq_none (by omega))];simp only [hne,decide_true];rfl
  ·have hx:a[i]? = some (a[i]'(by omega)):=by simp
   have hne : ¬ ((i:Int)=(a.length:Int)):=by omega
   rw [if_pos hne];refine (E0 0 rfl (x:=a) rfl).trans ((E0 0 rfl (x:=(i:Int)) rfl).trans ((E0 i rfl hx).trans ?_));rw [GX hx];simp only [hne,decide_false];rfl
 ·refine (ON 1 rfl rfl (x:=(j:Int)) rfl).trans ((E0 1 rfl (x:=b) rfl).trans ?_);rw [DN,CZ,Cn];by_cases h:j=b.length
  ·have hne:((j:Int)=(b.length:Int)):=by omega
   rw [if_neg (show ¬ ¬ ((j:Int)=(b.length:Int)) by simp [hne]),Ml (l:=b) (i:=j) (List.getElem?_eq_none (by omega))];simp only [hne,decide_true];rfl
  ·have hx:b[j]? = some (b[j]'(by omega)):=by simp
   have hne : ¬ ((j:Int)=(b.length:Int)):=by omega
   rw [if_pos hne];refine (E0 1 rfl (x:=b) rfl).trans ((E0 1 rfl (x:=(j:Int)) rfl).trans ((E0 j rfl hx).trans ?_));rw [GX (l:=b) (i:=j) hx];simp only [hne,decide_false];rfl
 ·show bd (EZ [kx a i,kx b j]) _=_;rw [Yn _ _ (Bi _ _) (Bi _ _)];rfl
theorem Xc {i:Nat} {l:List AB} (h:i≠0) (hi:i<=l.length) : ∃ x,l[i-1]? = some x:=⟨l[i-1]'(by omega),by simp⟩
theorem Ni {i j:Nat} (I:Inv a b i j):Dj (Lz a b i j)=some (0,0):=by
 have la:=va.len;have lb:=vb.len;have hi:=I.ia;have hj:=I.jb;unfold Dj;rw [show (Lz a b i j).1=[a,b] from rfl,Lv va vb,AC,AN,if_pos rfl];rw [show (Lz a b i j).2.1=[(i:Int),(j:Int)] from rfl,AN,if_pos (show AW (AA [(i:Int),(j:Int)])=AW (AA [a,b]) from rfl)];refine A7 (x:=(1,((0,(0,2)),()))) (Ce (s1:=(0,(0,1))) (s2:=(0,(0,2))) ?_ ?_ rfl) ?_
 ·refine (ON 0 rfl rfl (x:=(i:Int)) rfl).trans ?_;rw [BD,if_neg (by omega)];refine (E0 0 rfl (x:=(i:Int)) rfl).trans ((E0 0 rfl (x:=a) rfl).trans ?_);rw [Av,if_neg (by simp only [AU,AO];omega)];rfl
 ·refine (ON 1 rfl rfl (x:=(j:Int)) rfl).trans ?_;rw [BD,if_neg (by omega)];refine (E0 1 rfl (x:=(j:Int)) rfl).trans ((E0 1 rfl (x:=b) rfl).trans ?_);rw [Av,if_neg (by simp only [AU,AO];omega)];rfl
 rw [show neq ((1:Nat),(((0:Int),((0:Int),(2:Int))),())).1 0=false from rfl,AV,Jb va vb hi hj,AC,Pf (Lz a b i j).2.2 (Lz a b i j).2.2 (show 2<=1000 by omega) (show 2<=1000 by omega),AC,CZ,Cn,if_neg (show ¬ ¬ (Lz a b i j).2.2=(Lz a b i j).2.2 by simp),Ja va vb hi hj,AC];by_cases hd:i=a.length/\j=b.length
 ·rw [if_pos hd];refine A7 (x:=(1,((0,(0,0)),()))) (Cq (n:=1) (by omega) (BX ?_)) rfl;rfl
 rw [if_neg hd];cases g:IE a b i j with
 | true =>
  rw [if_pos rfl]
  have hil:i<a.length:=by
   refine Nat.lt_of_not_le λh' => ?_;have hb2:j<b.length:=by omega
   rw [XU (List.getElem?_eq_none h') (show b[j]? = some (b[j]'hb2) by simp)] at g;cases g
  have hx:a[i]? = some (a[i]'hil):=by simp
  refine A7 (x:=(1,((0,(0,2)),()))) (Ce (s1:=(0,(0,1))) (s2:=(0,(0,2))) ?_ ?_ rfl) rfl
  ·show br (Ae (0:Int) 2) _ _=_;rw [BD,if_pos (by omega),D0,if_pos (by omega)];refine (E0 0 rfl (x:=(i:Int)) rfl).trans ?_;rw [BI];by_cases h0:i=0
   ·rw [if_pos (by omega)];rfl
   ·rw [if_neg (by omega)];obtain ⟨y,hy⟩:=Xc va vb (l:=a) h0 hi;refine (E0 0 rfl (x:=a) rfl).trans ((E0 0 rfl (x:=(i:Int)) rfl).trans ?_);rw [show BF .i64 (i:Int) 1=((i-1:Nat):Int) by rw [Bu (by omega)];omega,AE,AI hy];refine (E0 0 rfl (x:=a) rfl).trans ((E0 0 rfl (x:=(i:Int)) rfl).trans ((E0 i rfl hx).trans ?_));have hlt:=va.lt hy (show a[i-1+1]? = some _ by rw [show i-1+1=i by omega];exact hx);rw [GW,if_neg (by rw [C1 hlt];simp),Ew,if_neg (VT hlt)];rfl
  ·show br (Ae (1:Int) 2) _ _=_;rw [BD,if_pos (by omega),D0,if_pos (by omega)];refine (E0 1 rfl (x:=(j:Int)) rfl).trans ?_;rw [BI];by_cases h0:j=0
   ·rw [if_pos (by omega)];rfl
   ·rw [if_neg (by omega)];obtain ⟨y,hy⟩:=Xc va vb (l:=b) h0 hj;refine (E0 1 rfl (x:=b) rfl).trans ((E0 1 rfl (x:=(j:Int)) rfl).trans ?_);rw [show BF .i64 (j:Int) 1=((j-1:Nat):Int) by rw [Bu (by omega)];omega,AE,AI hy];refine (E0 0 rfl (x:=a) rfl).trans ((E0 0 rfl (x:=(i:Int)) rfl).trans ((E0 i rfl hx).trans ?_));have hlt:=I.pb (j-1) (by omega) y _ hy hx;rw [GW,if_neg (by rw [C1 hlt];simp),Ew,if_neg (VT hlt)];rfl
 | false =>
  rw [if_neg (by simp)]
  have hjl:j<b.length:=by
   refine Nat.lt_of_not_le λh' => ?_;have ha2:i<a.length:=by omega
   rw [XT (show a[i]? = some (a[i]'ha2) by simp) (List.getElem?_eq_none h')] at g;cases g
  have hx:b[j]? = some (b[j]'hjl):=by simp
  refine A7 (x:=(1,((0,(0,2)),()))) (Ce (s1:=(0,(0,1))) (s2:=(0,(0,2))) ?_ ?_ rfl) rfl
  ·show br (Ae (0:Int) 2) _ _=_;rw [BD,if_pos (by omega),D0,if_pos (by omega)];refine (E0 0 rfl (x:=(i:Int)) rfl).trans ?_;rw [BI];by_cases h0:i=0
   ·rw [if_pos (by omega)];rfl
   ·rw [if_neg (by omega)];obtain ⟨y,hy⟩:=Xc va vb (l:=a) h0 hi;refine (E0 0 rfl (x:=a) rfl).trans ((E0 0 rfl (x:=(i:Int)) rfl).trans ?_);rw [show BF .i64 (i:Int) 1=((i-1:Nat):Int) by rw [Bu (by omega)];omega,AE,AI hy];refine (E0 1 rfl (x:=b) rfl).trans ((E0 1 rfl (x:=(j:Int)) rfl).trans ((E0 j rfl hx).trans ?_));have hle:=I.pa (i-1) (by omega) y _ hy hx;rw [GW,if_neg (by rw [hle];simp),Ew];by_cases he:y.1=(b[j]'hjl).1
    ·rw [if_pos he];rfl
    ·rw [if_neg he];rfl
  ·show br (Ae (1:Int) 2) _ _=_;rw [BD,if_pos (by omega),D0,if_pos (by omega)];refine (E0 1 rfl (x:=(j:Int)) rfl).trans ?_;rw [BI];by_cases h0:j=0
   ·rw [if_pos (by omega)];rfl
   ·rw [if_neg (by omega)];obtain ⟨y,hy⟩:=Xc va vb (l:=b) h0 hj;refine (E0 1 rfl (x:=b) rfl).trans ((E0 1 rfl (x:=(j:Int)) rfl).trans ?_);rw [show BF .i64 (j:Int) 1=((j-1:Nat):Int) by rw [Bu (by omega)];omega,AE,AI hy];refine (E0 1 rfl (x:=b) rfl).trans ((E0 1 rfl (x:=(j:Int)) rfl).trans ((E0 j rfl hx).trans ?_));have hlt:=vb.lt hy (show b[j-1+1]? = some _ by rw [show j-1+1=j by omega];exact hx);rw [GW,if_neg (by rw [C1 hlt];simp),Ew,if_neg (VT hlt)];rfl
end
end Go.Proofs.YthpkjfabdccpdaaGreat.Pl
namespace Go.Proofs.YthpkjfabdccpdaaGreat.Pl
open Go Go.Proofs.YthpkjfabdccpdaaGreat.Sv
section
variable {a b:List AB} (va:VL a) (vb:VL b)
include va vb
theorem bx {n:Nat} {x:AB} (h:n<a.length+b.length) (hx:OM a b n=some x):EH (Ls a b n)=some (x,((PT a b n:Int),(Ls a b (n+1),0))):=by
 obtain ⟨hI,hs⟩:=F1 va vb (n:=n) (by omega);obtain ⟨hI2,hs2⟩:=F1 va vb (n:=n+1) (by omega);have la:=va.len;have lb:=vb.len;have hia:=hI.ia;have hjb:=hI.jb;unfold EH;rw [show Ls a b n=Lz a b (Aq a b n).1 (Aq a b n).2 from rfl,Ni va vb hI,AC,AN,if_pos rfl,show (Lz a b (Aq a b n).1 (Aq a b n).2).1=[a,b] from rfl,show (Lz a b (Aq a b n).1 (Aq a b n).2).2.1=[((Aq a b n).1:Int),((Aq a b n).2:Int)] from rfl,Ja va vb hia hjb,AC,if_neg (λhh:(Aq a b n).1=a.length/\(Aq a b n).2=b.length=>by omega)];unfold OM at hx;have hpos:Aq a b (n+1)=if IE a b (Aq a b n).1 (Aq a b n).2=true then ((Aq a b n).1+1,(Aq a b n).2) else ((Aq a b n).1,(Aq a b n).2+1):=rfl
 unfold Ls PT;cases g:IE a b (Aq a b n).1 (Aq a b n).2 with
 | true =>
  rw [g,if_pos rfl] at hpos;rw [g,if_pos rfl] at hx;have hi:=(List.getElem?_eq_some_iff.1 hx).1;rw [if_pos rfl,BD,if_neg (by omega),BE (show AA [((Aq a b n).1:Int),((Aq a b n).2:Int)]<=1048576 from (show 2<=1048576 by omega))];refine (KS 0 rfl (x:=((Aq a b n).1:Int)) rfl).trans ((KS 0 rfl (x:=((Aq a b n).1:Int)) rfl).trans ((E0 0 rfl (x:=a) rfl).trans ((E0 0 rfl (x:=((Aq a b n).1:Int)) rfl).trans ((E0 _ rfl hx).trans ?_))));rw [AZ (by omega),show lset [((Aq a b n).1:Int),((Aq a b n).2:Int)] 0 (((Aq a b n).1+1:Nat):Int)=[(((Aq a b n).1+1:Nat):Int),((Aq a b n).2:Int)] from rfl,Jb va vb (by omega) hjb,AC,hpos];rfl
 | false =>
  rw [g,if_neg (by simp)] at hpos;rw [g,if_neg (by simp)] at hx;have hi:=(List.getElem?_eq_some_iff.1 hx).1;rw [if_neg (by simp),BD,if_neg (by omega),BE (show AA [((Aq a b n).1:Int),((Aq a b n).2:Int)]<=1048576 from (show 2<=1048576 by omega))];refine (KS 1 rfl (x:=((Aq a b n).2:Int)) rfl).trans ((KS 1 rfl (x:=((Aq a b n).2:Int)) rfl).trans ((E0 1 rfl (x:=b) rfl).trans ((E0 1 rfl (x:=((Aq a b n).2:Int)) rfl).trans ((E0 _ rfl hx).trans ?_))));rw [AZ (by omega),show lset [((Aq a b n).1:Int),((Aq a b n).2:Int)] 1 (((Aq a b n).2+1:Nat):Int)=[((Aq a b n).1:Int),(((Aq a b n).2+1:Nat):Int)] from rfl,Jb va vb hia (by omega),AC,hpos];rfl
theorem bz {n:Nat} (h:n<=a.length+b.length):Gf (Ls a b n)=some (((a.length+b.length-n:Nat):Int),0):=by
 obtain ⟨hI,hs⟩:=F1 va vb (n:=n) h;have la:=va.len;have lb:=vb.len;have ha:=hI.ia;have hb:=hI.jb;unfold Gf;rw [show Ls a b n=Lz a b (Aq a b n).1 (Aq a b n).2 from rfl,Ni va vb hI,AC,AN,if_pos rfl];refine A7 (x:=(0,((2,((a.length+b.length-n:Nat):Int)),()))) (Ce (s1:=(1,(a.length:Int)-((Aq a b n).1:Int))) (s2:=(2,((a.length+b.length-n:Nat):Int))) ?_ ?_ rfl) rfl
 ·refine (ON 0 rfl rfl (x:=a) rfl).trans ((E0 0 rfl (x:=((Aq a b n).1:Int)) rfl).trans ?_);simp only [AU,AO];rw [show AH .i64 (0:Int) (a.length:Int)=(a.length:Int) by rw [CV (by omega),Int.zero_add],Bu (by omega)];rfl
 ·refine (ON 1 rfl rfl (x:=b) rfl).trans ((E0 1 rfl (x:=((Aq a b n).2:Int)) rfl).trans ?_);simp only [AU,AO];show some (LR.nx ((2:Int),BF .i64 (AH .i64 ((a.length:Int)-((Aq a b n).1:Int)) (b.length:Int)) ((Aq a b n).2:Int)))=_;rw [CV (by omega),Bu (by omega),show (a.length:Int)-((Aq a b n).1:Int)+(b.length:Int)-((Aq a b n).2:Int)=((a.length+b.length-n:Nat):Int) by omega]
theorem Xd:E2 [a,b]=some (A4 a b (a.length+b.length),(H4 a b (a.length+b.length),0)):=by
 have la:=va.len;have lb:=vb.len;unfold E2;rw [Lv va vb,AC,AN,if_pos rfl];refine Eq.trans (b:=bd (loop _ ([],([],([],(0,([],[0,0])))))) _) rfl ?_
 refine A7 (x:=(0,((H4 a b (a.length+b.length),(A4 a b (a.length+b.length),0)),())))
  (I6 (λk=>([],(A4 a b k,([],(0,(H4 a b k,[((Aq a b k).1:Int),((Aq a b k).2:Int)])))))) 0 (a.length+b.length) rfl (by omega) (by omega) (λk _ hk => ?_) ?_) rfl
 ·obtain ⟨x,hx,_⟩:=EQ va vb (n:=k) hk;obtain ⟨hI,hs⟩:=F1 va vb (n:=k) (by omega);have hl1:(A4 a b k).length=k:=Cj va vb (by omega);have hl2:=Nd a b k;simp only;rw [Ja va vb hI.ia hI.jb,AC,if_neg (λhh:(Aq a b k).1=a.length/\(Aq a b k).2=b.length=>by omega)];rw [G6 va vb hx];unfold OM at hx;rw [show H4 a b (k+1)=H4 a b k++[(PT a b k:Int)] from rfl];unfold PT;rw [show Aq a b (k+1)=if IE a b (Aq a b k).1 (Aq a b k).2=true then ((Aq a b k).1+1,(Aq a b k).2) else ((Aq a b k).1,(Aq a b k).2+1) from rfl]
  have g1 : ∀ {β:Type} (y:AB) (q:Unit->Option β),gd (Aj (AK (AA (A4 a b k)) (AA [y])) 1048576) q=q ():=λy q=>BE (by simp only [AK,AA,hl1,List.length_cons,List.length_nil];omega) q;have g2 : ∀ {β:Type} (y:Int) (q:Unit->Option β),gd (Aj (AK (AA (H4 a b k)) (AA [y])) 1048576) q=q ():=λy q=>BE (by simp only [AK,AA,hl2,List.length_cons,List.length_nil];omega) q;cases g:IE a b (Aq a b k).1 (Aq a b k).2 with
  | true =>
   rw [g,if_pos rfl] at hx;have hi:=(List.getElem?_eq_some_iff.1 hx).1;simp only [if_true];rw [BD,if_neg (by omega)];refine (E0 0 rfl (x:=a) rfl).trans ((KS 0 rfl (x:=((Aq a b k).1:Int)) rfl).trans ((E0 _ rfl hx).trans ?_));rw [g1,g2];refine (KS 0 rfl (x:=((Aq a b k).1:Int)) rfl).trans ((KS 0 rfl (x:=((Aq a b k).1:Int)) rfl).trans ?_);rw [AZ (by omega)];rfl
  | false =>
   rw [g,if_neg (by simp)] at hx;have hi:=(List.getElem?_eq_some_iff.1 hx).1;simp only [Bool.false_eq_true,if_false];rw [BD,if_neg (by omega)];refine (E0 1 rfl (x:=b) rfl).trans ((KS 1 rfl (x:=((Aq a b k).2:Int)) rfl).trans ((E0 _ rfl hx).trans ?_));rw [g1,g2];refine (KS 1 rfl (x:=((Aq a b k).2:Int)) rfl).trans ((KS 1 rfl (x:=((Aq a b k).2:Int)) rfl).trans ?_);rw [AZ (by omega)];rfl
 ·obtain ⟨hI,hs⟩:=F1 va vb (n:=a.length+b.length) (Nat.le_refl _);simp only;rw [Ja va vb hI.ia hI.jb,AC,if_pos (show (Aq a b (a.length+b.length)).1=a.length/\(Aq a b (a.length+b.length)).2=b.length by have:=hI.ia;have:=hI.jb;omega),BD,if_pos (by omega)]
end
theorem Tv {s:B7} (h1:s.2.1.length<=32) (h2:s.1=false->s.2.1=[]):Fi s=some 0:=by
 unfold Fi;rw [Av,if_neg (by simp only [AU,JW];omega),Bp,HP];cases h:s.1 with
 | true=>rfl
 | false=>rw [if_neg (by simp),Bp,Ew,if_pos (h2 h)]
theorem Vg {s:B7} {x:AB} (h1:s.2.1.length<=32) (h2:s.1=false->s.2.1=[]) (h3:kE x=0) (h4:s.1=true->B3 x.1 s.2.1=false):Ge (s,x)=some (keep s x,((true,(x.1,s.2.2)),0)):=by
 unfold Ge keep;rw [Tv h1 h2,AC,BI,if_pos rfl,Gh,h3,AC,BI,if_pos rfl];obtain ⟨s1,s2,s3⟩:=s;obtain ⟨x1,x2,x3,x4⟩:=x;simp only at h4 ⊢;cases s1 with
 | true =>
  have:=h4 rfl;simp only [AM,GW,this,Bool.false_eq_true,if_false,AN,if_true,Bp,Ew];by_cases he:x1=s2
  ·simp [he,AV]
  ·simp only [he,if_false,decide_false];cases s3<;>cases x3<;>rfl
 | false =>
  simp only [AV,AN,if_true,Bp];cases s3<;>cases x3<;>rfl
theorem Vh {l:List AB} {bt:Bool} (hl:l.length<=20000) (hr:PY (false,([],bt)) l):E3 (l,bt)=some (Ff (false,([],bt)) l,(0,0)):=by
 unfold E3 C0;simp only [AU,AO];rw [Av,if_neg (by omega),AC]
 rw [DC (l:=l) (σ:=B7×List AB) (s:=(0,(0,([],([],(0,(false,([],bt)))))))) (λk st=>((0:Int),((k:Int),(([]:List AB),(st.2,((0:Int),st.1))))))
  (λm k st=>PY st.1 m/\st.1.2.1.length<=32/\(st.1.1=false->st.1.2.1=[])/\st.2.length<=k/\k+m.length=l.length)
  (λm k st=>(1,((0,((l.length:Int),([],(st.2++Ff st.1 m,(0,CT st.1 m))))),()))) ((false,([],bt)),[]) rfl (by omega) ⟨hr,by simp,λ_=>rfl,by simp,by simp⟩ ?_ ?_,AC]
 ·simp;rfl
 ·intro st _;simp only;rw [re,AV];simp [CT,Ff]
 ·rintro k x m ⟨s,out⟩ hm hx hk ⟨⟨h1,h2,h3⟩,h4,h5,h6,h7⟩;simp only at h1 h2 h3 h4 h5 h6 ⊢;refine ⟨((true,(x.1,s.2.2)),out++if keep s x=true then [x] else []),?_,⟨h3,PZ h1,(λh=>by cases h),?_,by simp at h7;omega⟩,?_⟩
  ·rw [rl hk,AM,AE,AI hx,Vg h4 h5 h1 h2,AC,AN,if_pos rfl,HP,AE,AI hx];have hg : ∀ {β:Type} (k:Unit->Option β),gd (Aj (AK out.length [x].length) 1048576) k=k ():=λk=>XY h6 (by simp at h7;omega) x k;rw [hg,As hx (show l.length<=9223372036854775807 by omega)];cases hk2:keep s x<;>simp [Bl]
  ·split<;>simp<;>omega
  ·simp only [CT,Ff,List.append_assoc]
section
variable {a b:List AB} (va:VL a) (vb:VL b)
include va vb
theorem Qy (bt:Bool) {n:Nat} (h:n<=a.length+b.length):DD (A4 a b n,bt)=some (Ff (s0 bt) (A4 a b n),CT (s0 bt) (A4 a b n)):=by
 have la:=va.len;have lb:=vb.len;have hml:(A4 a b n).length=n:=Cj va vb h;unfold DD;simp only [AU,AO];rw [Vh (by omega) (H5 va vb bt h),AC];unfold C0;rw [AC,Av,hml];cases n with
 | zero=>rw [if_neg (by omega)];rfl
 | succ m =>
  obtain ⟨x,hx,_⟩:=EQ va vb (n:=m) (by omega);rw [if_pos (by omega),show BF .i64 ((m+1:Nat):Int) 1=(m:Int) by rw [Bu (by omega)];omega,AE,AI (x:=x) (by rw [I4 va vb h (by omega)];exact hx),KT va vb bt hx]
theorem Tw (bt:Bool) {n:Nat} (h:n<=a.length+b.length):EG (El a b bt n)=some (n:Int):=by
 obtain ⟨hI,hs⟩:=F1 va vb (n:=n) h;have la:=va.len;have lb:=vb.len;unfold EG;refine A7 (x:=(0,(((n:Int),2),()))) (Ce (s1:=(((Aq a b n).1:Int),1)) (s2:=((n:Int),2)) ?_ ?_ rfl) rfl
 ·refine (ON 0 rfl rfl (x:=((Aq a b n).1:Int)) rfl).trans ?_;show some (LR.nx (AH .i64 0 ((Aq a b n).1:Int),(1:Int)))=_;rw [CV (by omega),Int.zero_add]
 ·refine (ON 1 rfl rfl (x:=((Aq a b n).2:Int)) rfl).trans ?_;show some (LR.nx (AH .i64 ((Aq a b n).1:Int) ((Aq a b n).2:Int),(2:Int)))=_;rw [CV (by omega),show ((Aq a b n).1:Int)+((Aq a b n).2:Int)=(n:Int) by omega]
theorem Tx (bt:Bool) {n:Nat} (h:n<=a.length+b.length):Fj (El a b bt n)=some 0:=by
 obtain ⟨hI,hs⟩:=F1 va vb (n:=n) h;have la:=va.len;have lb:=vb.len;have hfl:=I5 (s0 bt) (A4 a b n);have hml:(A4 a b n).length=n:=Cj va vb h;unfold Fj;rw [show (El a b bt n).1=Lz a b (Aq a b n).1 (Aq a b n).2 from rfl,Ni va vb hI,AC,AN,if_pos rfl,Tw va vb bt h,AC];simp only [AU,AO];rw [show (El a b bt n).2.2.1=Ff (s0 bt) (A4 a b n) from rfl,show (El a b bt n).2.2.2=(n:Int) from rfl,show (El a b bt n).2.1=CT (s0 bt) (A4 a b n) from rfl,Av,if_neg (by omega),Av,if_neg (by omega),AN,if_pos rfl];rw [show (Lz a b (Aq a b n).1 (Aq a b n).2).1=[a,b] from rfl,Xd va vb,AC,AE];rw [BE (by rw [Cj va vb (Nat.le_refl _)];exact h),BE (Nat.zero_le _)];rw [show B0 (A4 a b (a.length+b.length)) 0 n=A4 a b n from by unfold B0;rw [List.drop_zero,Nat.sub_zero];exact HY va vb h,GY];rw [show (s0 bt).2.2=bt from rfl,Qy va vb bt h,AC,HI,GZ _ _ (by omega),AC,CZ,Cn,if_neg (by simp),GY,IU,IU,JX];rfl
theorem Lw (bt:Bool) {n:Nat} (h:n<=a.length+b.length):BL (El a b bt n)=some (((a.length+b.length-n:Nat):Int),0):=by
 unfold BL;rw [Tx va vb bt h,AC,AN,if_pos rfl,show (El a b bt n).1=Ls a b n from rfl,bz va vb h];rfl
theorem Vi (bt:Bool) {n:Nat} (h:n<=a.length+b.length) {k:Nat}:Ba (El a b bt n,(k:Int))=some (El a b bt (n+min k (a.length+b.length-n)),(((min k (a.length+b.length-n):Nat):Int),0)):=by
 have la:=va.len;have lb:=vb.len;obtain ⟨u,hu⟩ : ∃ u,u=min k (a.length+b.length-n):=⟨_,rfl⟩
 have him:N8 (k:Int) ((a.length+b.length-n:Nat):Int)=(u:Int):=by
  unfold N8;split<;>omega
 rw [<- hu];unfold Ba;rw [Lw va vb bt h,AC,BI,if_pos rfl];simp only [him,AU,AO];rw [BD,if_neg (by omega),AN,if_pos rfl,Tw va vb bt h,AC,CV (by omega),Av,if_neg (by omega)]
 refine A7 (x:=(0,(((u:Int),((Ls a b (n+u)).1,((Ls a b (n+u)).2.1,((Ls a b (n+u)).2.2.1,((Ls a b (n+u)).2.2.2.1,((Ls a b (n+u)).2.2.2.2,((El a b bt n).2.1.1,((El a b bt n).2.1.2.1,((El a b bt n).2.1.2.2,(El a b bt n).2.2))))))))),())))
  (I6 (λj=>((j:Int),((Ls a b (n+j)).1,((Ls a b (n+j)).2.1,((Ls a b (n+j)).2.2.1,((Ls a b (n+j)).2.2.2.1,((Ls a b (n+j)).2.2.2.2,((El a b bt n).2.1.1,((El a b bt n).2.1.2.1,((El a b bt n).2.1.2.2,(El a b bt n).2.2)))))))))) 0 u rfl (by omega) (by omega) (λj _ hj => ?_) ?_) ?_
 ·obtain ⟨y,hy,_⟩:=EQ va vb (n:=n+j) (by omega);show br (Ae (j:Int) (u:Int)) _ _=_;rw [BD,if_pos (by omega)];show bd (EH (Ls a b (n+j))) _=_;rw [bx va vb (by omega) hy,AC,AZ (by omega)];rfl
 ·show br (Ae (u:Int) (u:Int)) _ _=_;rw [BD,if_neg (by omega)]
 ·rw [show (El a b bt n).1.1=[a,b] from rfl,Xd va vb,AC,show (El a b bt n).2.2.2=(n:Int) from rfl,show AH .i64 (n:Int) (u:Int)=((n+u:Nat):Int) by rw [CV (by omega)];omega,AE];rw [BE (by rw [Cj va vb (Nat.le_refl _)];omega),BE (Nat.zero_le _)];rw [show B0 (A4 a b (a.length+b.length)) 0 (n+u)=A4 a b (n+u) from by unfold B0;rw [List.drop_zero,Nat.sub_zero];exact HY va vb (by omega),show (El a b bt n).2.1.2.2=bt from GY _ _,Qy va vb bt (by omega),AC];rfl
end
end Go.Proofs.YthpkjfabdccpdaaGreat.Pl
namespace Go.Proofs.YthpkjfabdccpdaaGreat.Pl
open Go Go.Proofs.YthpkjfabdccpdaaGreat.Sv
theorem Yo (B:Int) (i:Nat):Bn B (i+1)=2*Bn B i:=by
 unfold Bn;rw [Int.pow_succ,<- Int.mul_assoc,Int.mul_comm]
theorem Tz {B:Int} {i:Nat} (h1:1<=B) (h2:B<=16) (hi:i<=12):DY (B,(i:Int))=some (Bn B i):=by
 unfold DY;refine A7 (x:=(0,((Bn B i,(i:Int)),()))) (H2 (λk=>(Bn B k,(k:Int))) i (by simp [Bn]) (by omega) (λk hk => ?_) ?_) rfl
 ·have h3:=To h1 h2 (show k<=12 by omega);simp only;rw [BD,if_pos (by omega),jD (by omega),AZ (by omega),Yo]
 ·simp only;rw [BD,if_neg (by omega)]
theorem Xe (r:Ao) (hl:r.2.length<=9223372036854775807):EY r=some (if r.1<1\/r.1>1000000 then (-1,7) else Cd r.2):=by
 unfold EY;rw [BD,Av,G8 _ hl,AC];by_cases h:r.1<1
 ·rw [if_pos h,if_pos (.inl h)]
 ·rw [if_neg h];by_cases h2:r.1>1000000
  ·rw [if_pos h2,if_pos (.inr h2)]
  ·rw [if_neg h2,if_neg (by omega)]
theorem UA (r:Ao) (most:Int) (ids:List Int) (hl:r.2.length<=9223372036854775807) (hi:ids.length<=1048576):DZ (r,(most,ids))=some (kR ids most r):=by
 unfold DZ kR;rw [Xe r (by omega),AC];simp only [AU,AO];by_cases h:r.1<1\/r.1>1000000
 ·rw [if_pos h,if_pos h];rfl
 rw [if_neg h,if_neg h,AN];by_cases h2:(Cd r.2).2=0;rotate_left
 ·rw [if_neg h2,if_pos h2]
 rw [if_pos h2,if_neg (show ¬ (Cd r.2).2≠0 by simp [h2]),BI,Av];by_cases h3:r.2.length=0
 ·rw [if_pos (by omega),if_pos h3]
 rw [if_neg (by omega),if_neg h3];by_cases h4:(r.2.length:Int)>most
 ·rw [if_pos h4,if_pos h4]
 rw [if_neg h4,if_neg h4]
 obtain ⟨q,q1,q2⟩:=EF (l:=ids) (σ:=Unit) (s:=((0:Int),(0:Int))) (λk _=>((k:Int),(0:Int))) (λm k _=>r.1∈ids<->r.1∈m) (λ(q:Nat×((Int×Int)×Unit))=>(q.1=1/\r.1 ∉ ids)\/(q.1=0/\r.1∈ids/\q.2.1.2=8))
  (f:=λs1=>br (Ae s1.1 (ids.length:Int)) (λ_=>AP s1.1 λk2=>ix ids k2 λx3=>br (BJ x3 r.1) (λ_=>some (.dn ((0,((s1.1,8),()))))) λ_=>some (.nx (AH .i64 s1.1 1,s1.2))) λ_=>some (.dn ((1,(s1,())))))
  () rfl (by omega) Iff.rfl (λ_ h=>⟨_,by simp only;rw [re];rfl,.inl ⟨rfl,by simpa using h⟩⟩) (λk x m _ hd hx hk h=>by
   simp only;rw [rl hk,AM,AE,AI hx,BI];by_cases e:x=r.1
   ·rw [if_pos e];exact .inr ⟨_,rfl,.inr ⟨rfl,by rw [h,e];simp,rfl⟩⟩
   ·rw [if_neg e];exact .inl ⟨(),by rw [As hx (by omega)],by rw [h,List.mem_cons];exact ⟨λu=>u.elim (λe2=>absurd e2.symm e) id,.inr⟩⟩)
 refine A7 q1 ?_;rw [CS];rcases q2 with ⟨q2,q3⟩ | ⟨q2,q3,q4⟩
 ·rw [if_neg (show ¬ q.1=0 by omega),if_neg q3]
 ·rw [if_pos q2,if_pos q3,q4]
theorem SK (L:AL) (hb:L.2.length<=1048576) (hr : ∀ rs∈L.2,rs.length<=1048576 /\ ∀ r∈rs,r.2.length<=9223372036854775807):Cw L=some (Em L):=by
 unfold Cw Em;simp only [AU,AO];rw [BD,Av,Av];by_cases hB1:L.1<1
 ·rw [if_pos hB1,if_pos (.inl hB1)]
 rw [if_neg hB1];by_cases hB2:L.1>16
 ·rw [if_pos hB2,if_pos (.inr hB2)]
 rw [if_neg hB2,if_neg (show ¬ (L.1<1\/L.1>16) by omega)];by_cases hl:(L.2.length:Int)>12
 ·rw [if_pos hl,if_pos (by omega)]
 rw [if_neg hl,if_neg (by omega)];have hl2:L.2.length<=12:=by omega
 obtain ⟨T,hT⟩ : ∃ T,T=K5 L.1 0 [] L.2:=⟨_,rfl⟩;rw [<- hT]
 have hlast:T=none->(br (B6 (L.2.length:Int) 0) (λ_=>AP (BF .i64 (L.2.length:Int) 1) λk15=>ix L.2 k15 λx16=>br (BJ (x16.length:Int) 0) (λ_=>some ((BF .i64 (L.2.length:Int) 1,((0:Int),(6:Int))))) λ_=>some ((0,(0,0)))) λ_=>some ((0,(0,0))))=some (if L.2.getLast? = some [] then (((L.2.length-1:Nat):Int),(0,6)) else (0,(0,0))):=by
  intro _;rw [Av];by_cases hn:L.2=[]
  ·rw [hn];rfl
  ·have hp:=List.length_pos_iff.2 hn;rw [if_pos (by omega),show BF .i64 (L.2.length:Int) 1=((L.2.length-1:Nat):Int) by rw [Bu (by omega)];omega,AE,List.getLast?_eq_getElem?];have hx:L.2[L.2.length-1]? = some (L.2[L.2.length-1]'(by omega)):=by simp
   rw [AI hx,hx,BI];by_cases he:L.2[L.2.length-1]'(by omega)=[]
   ·rw [he];simp
   ·rw [if_neg (by have:=List.length_pos_iff.2 he;omega),if_neg (by simp [he])]
 obtain ⟨r,q1,q2⟩:=EF (l:=L.2) (σ:=List Int) (s:=((0:Int),(([]:List Int),((0:Int),((0:Int),(0:Int)))))) (λi ids=>((0:Int),(ids,((0:Int),((0:Int),(i:Int))))))
  (λm i ids=>K5 L.1 i ids m=T/\ids.length<=2*i) (λ(r:Nat×((Int×(List Int×(Int×(Int×Int))))×Unit))=>(r.1=1/\T=none)\/(r.1=0/\Q1 T r.2.1.1 r.2.1.2.2.1 r.2.1.2.2.2.1/\T≠none))
  (f:=λ(s0:(Int×((List Int)×(Int×(Int×Int)))))=>br (Ae s0.2.2.2.2 (L.2.length:Int)) (λ_=>AP s0.2.2.2.2 λk1=>ix L.2 k1 λx2=>br (B6 (x2.length:Int) 2) (λ_=>some (.dn ((0,((0,(s0.2.1,(s0.2.2.2.2,(3,s0.2.2.2.2)))),()))))) λ_=>bd (loop (λ(s3:(Int×((List Int)×(Int×(Int×Int)))))=>br (Ae s3.2.2.2.2 (x2.length:Int)) (λ_=>AP s3.2.2.2.2 λk4=>ix x2 k4 λx5=>bd (DY (L.1,s0.2.2.2.2)) λr6=>bd (DZ ((x5,(r6,s3.2.1)))) λr7=>br (Ai r7 0) (λ_=>some (.dn ((0,((s3.2.2.2.2,(s3.2.1,(s0.2.2.2.2,(r7,s3.2.2.2.2)))),()))))) λ_=>AP s3.2.2.2.2 λk8=>ix x2 k8 λx9=>gd (Aj (AK s3.2.1.length [x9.1].length) 1048576) λ_=>some (.nx ((s3.1,(Bl s3.2.1 [x9.1],(s3.2.2.1,(s3.2.2.2.1,AH .i64 s3.2.2.2.2 1))))))) λ_=>some (.dn ((1,(s3,()))))) ((s0.1,(s0.2.1,(s0.2.2.1,(s0.2.2.2.1,0)))))) λr10=>br (neq r10.1 0) (λ_=>some (.dn ((0,((r10.2.1.1,(r10.2.1.2.1,(r10.2.1.2.2.1,(r10.2.1.2.2.2.1,s0.2.2.2.2)))),()))))) λ_=>some (.nx ((r10.2.1.1,(r10.2.1.2.1,(r10.2.1.2.2.1,(r10.2.1.2.2.2.1,AH .i64 s0.2.2.2.2 1))))))) λ_=>some (.dn ((1,(s0,())))))
  [] rfl (by omega) ⟨hT.symm,by simp⟩ (λids h=>by
   refine ⟨_,by simp only;rw [re];rfl,.inl ⟨rfl,?_⟩⟩;rw [<- h.1];rfl) (λi rs m ids hd hx hi h=>by
   obtain ⟨h,hids⟩:=h;simp only;obtain ⟨hrs1,hrs2⟩:=hr rs (List.mem_of_getElem? hx);rw [rl hi,AM,AE,AI hx,Av];unfold K5 at h;by_cases h3:rs.length>2
   ·rw [if_pos (by omega)];rw [if_pos h3] at h;refine .inr ⟨_,rfl,.inr ⟨rfl,?_,by rw [<- h];simp⟩⟩;rw [<- h];exact ⟨rfl,rfl,rfl⟩
   rw [if_neg (by omega)];rw [if_neg h3] at h;obtain ⟨U,hU⟩ : ∃ U,U=K4 (Bn L.1 i) 0 ids rs:=⟨_,rfl⟩;rw [<- hU] at h
   obtain ⟨r,q1,q2⟩:=EF (l:=rs) (σ:=Unit) (s:=((0:Int),(ids,((0:Int),((0:Int),(0:Int)))))) (λk _=>((0:Int),(ids++(rs.take k).map (·.1),((0:Int),((0:Int),(k:Int))))))
    (λm k _=>K4 (Bn L.1 i) k (ids++(rs.take k).map (·.1)) m=U) (λ(r:Nat×((Int×(List Int×(Int×(Int×Int))))×Unit))=>(r.1=1/\U=none/\r.2.1=(0,(ids++rs.map (·.1),(0,(0,(rs.length:Int))))))\/(r.1=0 /\ ∃ k e,U=some (k,e)/\r.2.1.1=(k:Int)/\r.2.1.2.2.1=(i:Int)/\r.2.1.2.2.2.1=e))
    (f:=λ(s3:(Int×((List Int)×(Int×(Int×Int)))))=>br (Ae s3.2.2.2.2 (rs.length:Int)) (λ_=>AP s3.2.2.2.2 λk4=>ix rs k4 λx5=>bd (DY (L.1,(i:Int))) λr6=>bd (DZ ((x5,(r6,s3.2.1)))) λr7=>br (Ai r7 0) (λ_=>some (.dn ((0,((s3.2.2.2.2,(s3.2.1,((i:Int),(r7,s3.2.2.2.2)))),()))))) λ_=>AP s3.2.2.2.2 λk8=>ix rs k8 λx9=>gd (Aj (AK s3.2.1.length [x9.1].length) 1048576) λ_=>some (.nx ((s3.1,(Bl s3.2.1 [x9.1],(s3.2.2.1,(s3.2.2.2.1,AH .i64 s3.2.2.2.2 1))))))) λ_=>some (.dn ((1,(s3,())))))
    () (by simp) (by omega) (by simp [hU]) (λ_ h=>by
     refine ⟨_,by simp only;rw [re];rfl,.inl ⟨rfl,by rw [<- h];rfl,by simp⟩⟩) (λk r m _ hd hx hk h=>by
     simp only;have hr2:=hrs2 r (List.mem_of_getElem? hx);have htk:(rs.take (k+1)).map (·.1)=(rs.take k).map (·.1)++[r.1]:=by rw [List.take_add_one,hx];simp
     have hlen:(ids++(rs.take k).map (·.1)).length<=100:=by simp;omega
     rw [rl hk,AM,AE,AI hx,Tz (by omega) (by omega) (by omega),AC,UA _ _ _ (by omega) (by omega),AC,AN];unfold K4 at h;by_cases h0:kR (ids++(rs.take k).map (·.1)) (Bn L.1 i) r=0
     ·rw [if_neg (λhh:kR (ids++(rs.take k).map (·.1)) (Bn L.1 i) r≠0=>hh h0)] at h;rw [if_pos h0,AE,AI hx,BE (by simp only [AK,List.length_cons,List.length_nil];omega)];refine .inl ⟨(),?_,?_⟩
      ·rw [As hx (by omega),htk,<- List.append_assoc];rfl
      ·rw [htk,<- List.append_assoc];exact h
     ·rw [if_pos h0] at h;rw [if_neg h0]
      exact .inr ⟨_,rfl,.inr ⟨rfl,_,_,h.symm,rfl,rfl,rfl⟩⟩)
   rw [q1,AC,CS];rcases q2 with ⟨q2,q3,q4⟩ | ⟨q2,k,e,q3,q4,q5,q6⟩
   ·rw [if_neg (show ¬ r.1=0 by omega),q4,As hx (by omega)];rw [q3] at h;exact .inl ⟨ids++rs.map (·.1),rfl,h,by simp;omega⟩
   ·rw [if_pos q2];rw [q3] at h;refine .inr ⟨_,rfl,.inr ⟨rfl,?_,by rw [<- h];simp⟩⟩;rw [<- h]
    exact ⟨q4,q5,q6⟩)
 refine A7 q1 ?_;rw [CS];rcases q2 with ⟨q2,q3⟩ | ⟨q2,q3,q4⟩
 ·rw [if_neg (show ¬ r.1=0 by omega),q3];exact hlast q3
 ·rw [if_pos q2];cases hTc:T with
  | none=>exact absurd hTc q4
  | some t =>
   obtain ⟨i,k,e⟩:=t;rw [hTc] at q3;rw [q3.1,q3.2.1,q3.2.2]
def DI (ls:List (List Ao)):List Ao:=ls.flatMap List.reverse
theorem VLev.small {L:AL} (v:VLev L):L.2.length<=1048576 /\ ∀ rs∈L.2,rs.length<=1048576 /\ ∀ r∈rs,r.2.length<=9223372036854775807:=by
 refine ⟨by have:=v.len;omega,λrs hrs => ?_⟩;obtain ⟨i,hi⟩:=List.getElem?_of_mem hrs;obtain ⟨h1,h2⟩:=v.lev i rs hi;exact ⟨by omega,λr hr=>by have:=(h2 r hr).vl.len;omega⟩
theorem KU : ∀ (ls:List (List Ao)),(∀ rs∈ls,rs.length<=2)->(DI ls).length<=2*ls.length
 | [],_=>by simp [DI]
 | rs::ls,h=>by
  have h1:=KU ls λr hr=>h r (by simp [hr]);have h2:=h rs (by simp);unfold DI at h1 ⊢;rw [List.flatMap_cons,List.length_append,List.length_reverse,List.length_cons];omega
theorem VLev.two {L:AL} (v:VLev L) : ∀ rs∈L.2,rs.length<=2:=λrs hrs=>by
 obtain ⟨i,hi⟩:=List.getElem?_of_mem hrs;exact (v.lev i rs hi).1
theorem Ph {L:AL} (v:VLev L):D3 L=some (DI L.2,0):=by
 obtain ⟨hb,hr⟩:=v.small;have hl:=v.len;unfold D3;simp only [AU,AO];rw [SK _ hb hr,Ga v,AC,AN,if_pos rfl]
 rw [DC (l:=L.2) (σ:=List Ao) (s:=(([]:List Ao),(0:Int))) (λi m=>(m,(i:Int))) (λls i m=>(∀ rs∈ls,rs.length<=2)/\m.length<=2*i) (λls _ m=>(0,((m++DI ls,(L.2.length:Int)),()))) [] rfl (by omega) ⟨v.two,by simp⟩ (λm _=>by
  simp only;rw [re,AV];simp [DI]) (λi rs ls m hd hx hi h=>by
   refine ⟨m++rs.reverse,?_,⟨λr hr=>h.1 r (by simp [hr]),by have:=h.1 rs (by simp);simp;omega⟩,by simp [DI]⟩;have h2:=h.1 rs (by simp);have hm:m.length<=24:=by have:=h.2;omega
   simp only;rw [rl hi,AM,AE,AI hx];have gg : ∀ {β:Type} (z:List Ao) (x:Ao) (k:Unit->Option β),z.length<=100->gd (Aj (AK z.length [x].length) 1048576) k=k ():=λz x k hz=>BE (by simp only [AK,List.length_cons,List.length_nil];omega) k
   match rs,h2,hx with
   | [],_,hx =>
    refine A7 (x:=(0,((m,-1),()))) (Cq (n:=1) (by omega) (BX rfl)) ?_;rw [As hx (by omega)];simp
   | [r0],_,hx =>
    refine A7 (x:=(0,((m++[r0],-1),()))) (Cq (n:=2) (by omega) ((BS (s':=(m++[r0],-1)) ?_).trans (BX rfl))) ?_
    ·show br (Hf (0:Int) 0) _ _=_;rw [D0,if_pos (by omega),AE,AI hx];refine (E0 0 rfl (x:=r0) rfl).trans ?_;rw [gg m _ _ (by omega)];rfl
    ·rw [As hx (by omega)];simp
   | [r0,r1],_,hx =>
    refine A7 (x:=(0,((m++[r1]++[r0],-1),()))) (Cq (n:=3) (by omega) ((BS (s':=(m++[r1],0)) ?_).trans ((BS (s':=(m++[r1]++[r0],-1)) ?_).trans (BX rfl)))) ?_
    ·show br (Hf (1:Int) 0) _ _=_;rw [D0,if_pos (by omega),AE,AI hx];refine (E0 1 rfl (x:=r1) rfl).trans ?_;rw [gg m _ _ (by omega)];rfl
    ·show br (Hf (0:Int) 0) _ _=_;rw [D0,if_pos (by omega),AE,AI hx];refine (E0 0 rfl (x:=r0) rfl).trans ?_;rw [gg (m++[r1]) _ _ (by simp;omega)];rfl
    ·rw [As hx (by omega)];simp),AC]
 simp
theorem Gi (a b:Int):Kq a b=max a b:=by unfold Kq;split<;>omega
theorem Fk : ∀ (l:List Ao) (m:Int),0<=m->l.foldl (λm r=>Kq m r.1) m=max m (l.foldl (λm r=>Kq m r.1) 0)
 | [],m,h=>by simp;omega
 | r::l,m,h=>by
  have h1:=Fk l (Kq m r.1) (by rw [Gi];omega);have h2:=Fk l (Kq 0 r.1) (by rw [Gi];omega);simp only [List.foldl_cons];rw [h1,h2,Gi,Gi];omega
theorem QD (l:List Ao) (m:Int) (h:0<=m):l.reverse.foldl (λm r=>Kq m r.1) m=l.foldl (λm r=>Kq m r.1) m:=by
 induction l generalizing m with
 | nil=>rfl
 | cons r l ih =>
  rw [List.reverse_cons,List.foldl_append,ih m h,List.foldl_cons];simp only [List.foldl_cons,List.foldl_nil];rw [Fk l m h,Fk l (Kq m r.1) (by rw [Gi];omega),Gi,Gi];omega
theorem SL (l:List Ao) (m:Int) (h:0<=m):0<=l.foldl (λm r=>Kq m r.1) m:=by
 rw [Fk l m h];omega
theorem Jp : ∀ (ls:List (List Ao)) (m:Int),0<=m->(DI ls).foldl (λm r=>Kq m r.1) m=ls.foldl (λm rs=>rs.foldl (λm r=>Kq m r.1) m) m
 | [],m,_=>rfl
 | rs::ls,m,h=>by
  have h1:=Jp ls (rs.foldl (λm r=>Kq m r.1) m) (SL _ _ h);unfold DI at h1 ⊢;rw [List.flatMap_cons,List.foldl_append,QD rs m h,List.foldl_cons,h1]
theorem SM {L:AL} (v:VLev L):C3 L=some (FN L.2):=by
 have hl:=v.len;have hn:=KU L.2 v.two;unfold C3;simp only [AU,AO];rw [Ph v,AC]
 rw [DC (l:=DI L.2) (σ:=Int) (s:=((0:Int),(0:Int))) (λi m=>(m,(i:Int))) (λ_ _ _=>True) (λl _ m=>(0,((l.foldl (λm r=>Kq m r.1) m,((DI L.2).length:Int)),()))) 0 rfl (by omega) trivial (λm _=>by
  simp only;rw [re,AV];rfl) (λk r l m hd hx hk _=>⟨Kq m r.1,by
   simp only
   rw [rl hk,AM,AE,AI hx,As hx (by omega)],trivial,rfl⟩),AC]
 rw [Jp _ _ (by omega)];rfl
theorem Xf {L:AL} (hl:L.2.length<=1000):Cy L=some (Bc 0 L.2):=by
 unfold Cy;simp only [AU,AO]
 rw [DC (l:=L.2) (σ:=List Int) (s:=(([]:List Int),(0:Int))) (λi m=>(m,(i:Int))) (λls i m=>m++Bc i ls=Bc 0 L.2) (λ_ _ _=>(0,((Bc 0 L.2,(L.2.length:Int)),()))) [] rfl (by omega) rfl (λm h=>by
  simp only;rw [re,AV,<- h];simp [Bc]) (λi rs ls m hd hx hi h=>by
   refine ⟨m++(if rs.length=2 then [(i:Int)] else []),?_,?_,rfl⟩
   ·simp only;rw [rl hi,AM,AE,AI hx,BI]
    have hm:m.length<=1000:=by
     have h4:=congrArg List.length h;have h5:=F8 L.2 0;rw [List.length_append] at h4;omega
    by_cases h4:rs.length=2
    ·rw [if_pos (by omega),if_pos h4,BE (by simp only [AK,List.length_cons,List.length_nil];omega),As hx (by omega)];rfl
    ·rw [if_neg (by omega),if_neg h4,List.append_nil,As hx (by omega)]
   ·rw [List.append_assoc];exact h),AC]
theorem cA {L:AL} (v:VLev L) (k:Int):G7 (L,k)=some (if k<0\/k>=12 then 7 else 0):=by
 obtain ⟨hb,hr⟩:=v.small;unfold G7;rw [SK _ hb hr,Ga v,AC,BI,if_pos rfl,BD,D0];by_cases h1:k<0
 ·rw [if_pos h1,if_pos (.inl h1)]
 ·rw [if_neg h1];by_cases h2:k>=12
  ·rw [if_pos h2,if_pos (.inr h2)]
  ·rw [if_neg h2,if_neg (by omega)]
theorem Pj {L:AL} (v:VLev L) {n:Nat} (hn:n<L.2.length):BT (L,(n:Int))=some (decide ((n:Int)=(L.2.length:Int)-1)):=by
 have hl:=v.len;unfold BT HG;simp only [AU,AO];rw [cA v,AC,if_neg (by omega),AN,if_pos rfl,AC,AZ (by omega)];unfold B6;rw [CZ];by_cases h:(n:Int)=(L.2.length:Int)-1
 ·simp [h]
 ·simp [h];omega
theorem Vj {a b:List AB} (va:VL a) (vb:VL b) (bt:Bool):Fh ([a,b],bt)=some (El a b bt 0,(0,0)):=by
 unfold Fh HH C0;rw [Lv va vb,AC,AN,if_pos rfl];refine Eq.trans (b:=bd (bd (Cz ([a,b],[((0:Nat):Int),((0:Nat):Int)])) _) _) rfl ?_;rw [Jb va vb (Nat.zero_le _) (Nat.zero_le _)];rfl
theorem Qz {L:AL} {n:Nat} {r0 r1:Ao} (bt:Bool) (h:L.2[n]? = some [r0,r1]) (v0:VL r0.2) (v1:VL r1.2):A2 (L,((n:Int),bt))=some ((n:Int),El r1.2 r0.2 bt 0):=by
 have hn:=(List.getElem?_eq_some_iff.1 h).1;unfold A2;simp only [AU,AO];rw [D0,if_neg (by omega),AE,AI h,AI (x:=r1) rfl,AI (x:=r0) rfl,Vj v1 v0];rfl
theorem jM {L:AL} {n:Nat} {r0 r1:Ao} {j:Hj} (h:L.2[n]? = some [r0,r1]) (v0:VL r0.2) (v1:VL r1.2) {β:Type} (A B:Option β) :
  (bd (A2 (L,((n:Int),j.2.2.1.2.2))) λr16=>bd (BL r16.2) λr17=>br (Ae j.2.2.2.2 0) (λ_=>A) λ_=>br (B6 j.2.2.2.2 r17.1) (λ_=>A) λ_=>bd (Ba (r16.2,j.2.2.2.2)) λr18=>bd (BO (r18.1,j.2)) λr19=>br (AY r19) (λ_=>A) λ_=>B)
  = if j.2.2.2.2<0\/j.2.2.2.2>((r1.2.length+r0.2.length:Nat):Int) then A else if El r1.2 r0.2 j.2.2.1.2.2 j.2.2.2.2.toNat=j.2 then B else A:=by
 rw [Qz _ h v0 v1,AC,Lw v1 v0 _ (Nat.zero_le _),AC,BD,Av,Nat.sub_zero];by_cases h1:j.2.2.2.2<0
 ·rw [if_pos h1,if_pos (.inl h1)]
 rw [if_neg h1];by_cases h2:j.2.2.2.2>((r1.2.length+r0.2.length:Nat):Int)
 ·rw [if_pos h2,if_pos (.inr h2)]
 rw [if_neg h2,if_neg (show ¬ (j.2.2.2.2<0\/j.2.2.2.2>((r1.2.length+r0.2.length:Nat):Int)) by omega)];obtain ⟨k,hk⟩ : ∃ k:Nat,j.2.2.2.2=(k:Int):=⟨j.2.2.2.2.toNat,by omega⟩;rw [hk,Vi v1 v0 _ (Nat.zero_le _),AC,Nat.sub_zero,Nat.zero_add,Nat.min_eq_left (by omega),Int.toNat_natCast];obtain ⟨s1,s2,s3,s4,s5,s6⟩:=Nh v1 v0 j.2.2.1.2.2 (n:=k) (by omega);rw [Pg _ _ s1 s2 s3 s4 s5 s6,AC,CZ,Cn];by_cases he:El r1.2 r0.2 j.2.2.1.2.2 k=j.2
 ·rw [if_neg (by simp [he]),if_pos he]
 ·rw [if_pos he,if_neg he]
end Go.Proofs.YthpkjfabdccpdaaGreat.Pl
namespace Go.Proofs.YthpkjfabdccpdaaGreat.Pl
open Go Go.Proofs.YthpkjfabdccpdaaGreat.Sv
theorem UB (s:BC) (hb:s.1.2.length<=1048576) (hr : ∀ rs∈s.1.2,rs.length<=1048576 /\ ∀ r∈rs,r.2.length<=9223372036854775807) (hj:s.2.1.length<=1048576):Dk s=some (Bj s):=by
 unfold Dk Bj;simp only [AU,AO];rw [SK _ hb hr,AC,BI];by_cases h0:(Em s.1).2.2=0;rotate_left
 ·rw [if_neg h0,if_pos h0,BI,if_neg h0,AN,if_neg h0]
 rw [if_pos h0,if_neg (show ¬ (Em s.1).2.2≠0 by simp [h0]),BD,Av];have v:=IV.1 h0;by_cases h1:s.2.2<1
 ·rw [if_pos h1,if_pos (.inl h1)]
 rw [if_neg h1];by_cases h2:s.2.2>1000001
 ·rw [if_pos h2,if_pos (.inr h2)]
 rw [if_neg h2,if_neg (show ¬ (s.2.2<1\/s.2.2>1000001) by omega),BI,if_pos h0,SM v,AC,XR];by_cases h3:s.2.2<=FN s.1.2
 ·rw [if_pos h3,if_pos h3]
 rw [if_neg h3,if_neg h3,AN,if_pos h0,Xf (by have:=v.len;omega),AC];obtain ⟨due,hdue⟩ : ∃ due,due=Bc 0 s.1.2:=⟨_,rfl⟩;have hdl:due.length<=12:=by have:=F8 s.1.2 0;have:=v.len;rw [hdue];omega
 rw [<- hdue];obtain ⟨T,hT⟩ : ∃ T,T=F3 s.1 due 0 s.2.1:=⟨_,rfl⟩;rw [<- hT]
 obtain ⟨r,q1,q2⟩:=EF (l:=s.2.1) (σ:=Unit) (λi _=>((0:Int),((0:Int),(i:Int)))) (λjs i _=>F3 s.1 due i js=T) (λ(r:Nat×((Int×(Int×Int))×Unit))=>(T=none/\r.1=1)\/(∃ i:Nat,T=some i/\r.1=0/\r.2.1.1=6/\r.2.1.2.1=(i:Int)))
  (f:=λs6=>br (Ae s6.2.2 (s.2.1.length:Int)) (λ_=>AP s6.2.2 λk7=>ix s.2.1 k7 λx8=>br (Hf s6.2.2 (due.length:Int)) (λ_=>some (.dn ((0,((6,(s6.2.2,s6.2.2)),()))))) λ_=>AP s6.2.2 λk9=>ix due k9 λx10=>br (Ai x8.1 x10) (λ_=>some (.dn ((0,((6,(s6.2.2,s6.2.2)),()))))) λ_=>br x8.2.2.1.2.2 (λ_=>bd (BT (s.1,x8.1)) λr11=>br (AY r11) (λ_=>some (.dn ((0,((6,(s6.2.2,s6.2.2)),()))))) λ_=>bd (A2 ((s.1,(x8.1,x8.2.2.1.2.2)))) λr12=>bd (BL r12.2) λr13=>br (Ae x8.2.2.2.2 0) (λ_=>some (.dn ((0,((6,(s6.2.2,s6.2.2)),()))))) λ_=>br (B6 x8.2.2.2.2 r13.1) (λ_=>some (.dn ((0,((6,(s6.2.2,s6.2.2)),()))))) λ_=>bd (Ba (r12.2,x8.2.2.2.2)) λr14=>bd (BO (r14.1,x8.2)) λr15=>br (AY r15) (λ_=>some (.dn ((0,((6,(s6.2.2,s6.2.2)),()))))) λ_=>some (.nx ((s6.1,(s6.2.1,AH .i64 s6.2.2 1))))) λ_=>bd (A2 ((s.1,(x8.1,x8.2.2.1.2.2)))) λr16=>bd (BL r16.2) λr17=>br (Ae x8.2.2.2.2 0) (λ_=>some (.dn ((0,((6,(s6.2.2,s6.2.2)),()))))) λ_=>br (B6 x8.2.2.2.2 r17.1) (λ_=>some (.dn ((0,((6,(s6.2.2,s6.2.2)),()))))) λ_=>bd (Ba (r16.2,x8.2.2.2.2)) λr18=>bd (BO (r18.1,x8.2)) λr19=>br (AY r19) (λ_=>some (.dn ((0,((6,(s6.2.2,s6.2.2)),()))))) λ_=>some (.nx ((s6.1,(s6.2.1,AH .i64 s6.2.2 1))))) λ_=>some (.dn ((1,(s6,())))))
  (s:=(0,(0,0))) () rfl (by omega) hT.symm (λ_ h=>by
   refine ⟨_,by simp only;rw [re];rfl,.inl ⟨by rw [<- h];rfl,rfl⟩⟩) (λi j js _ hd hx hi h=>by
   simp only;rw [rl hi,AM,AE,AI hx,D0];unfold F3 at h
   have hbad:K6 s.1 due i j=true -> ∃ r:Nat×((Int×(Int×Int))×Unit),(some (LR.dn ((0,((6,((i:Int),(i:Int))),()))):LR (Int×(Int×Int)) _))=some (.dn r)/\((T=none/\r.1=1)\/(∃ i:Nat,T=some i/\r.1=0/\r.2.1.1=6/\r.2.1.2.1=(i:Int))):=λhb=>by
    rw [if_pos hb] at h;exact ⟨_,rfl,.inr ⟨i,h.symm,rfl,rfl,rfl⟩⟩
   have hgood:K6 s.1 due i j=false -> ∃ st':Unit,(some (LR.nx ((0:Int),((0:Int),AH .i64 (i:Int) 1))):Option (LR _ (Nat×((Int×(Int×Int))×Unit))))=some (.nx ((0:Int),((0:Int),((i+1:Nat):Int))))/\F3 s.1 due (i+1) js=T:=λhg=>by
    rw [if_neg (by simp [hg])] at h;exact ⟨(),by rw [As hx (by omega)],h⟩
   by_cases h1:(i:Int)>=(due.length:Int)
   ·rw [if_pos h1];exact .inr (hbad (by unfold K6;rw [List.getElem?_eq_none (by omega)]))
   rw [if_neg h1,AE];have hd2:due[i]? = some (due[i]'(by omega)):=by simp
   rw [AI hd2,AN];obtain ⟨n,hn,r0,r1,hlv⟩:=Ho (ls:=s.1.2) (i:=0) (k:=i) (d:=due[i]'(by omega)) (by rw [<- hdue];exact hd2);rw [Nat.zero_add] at hn
   have hE:K6 s.1 due i j=(if j.1≠(due[i]'(by omega)) then true else if j.2.2.1.2.2=true/\j.1≠(s.1.2.length:Int)-1 then true else if j.2.2.2.2<0\/j.2.2.2.2>((r1.2.length+r0.2.length:Nat):Int) then true else decide (El r1.2 r0.2 j.2.2.1.2.2 j.2.2.2.2.toNat≠j.2)):=by
    unfold K6;rw [hd2];simp only;rw [hn,Int.toNat_natCast,hlv]
   by_cases h2:j.1=(due[i]'(by omega));rotate_left
   ·rw [if_neg h2];exact .inr (hbad (by rw [hE,if_pos h2]))
   rw [if_pos h2];rw [if_neg (by simp [h2])] at hE;have hjn:j.1=(n:Int):=by rw [h2,hn]
   have hv:=(v.lev n _ hlv).2;have v0:=(hv r0 (by simp)).vl;have v1:=(hv r1 (by simp)).vl;have hnl:=(List.getElem?_eq_some_iff.1 hlv).1;rw [hjn,Pj v hnl,AC,CZ,Cn,jM hlv v0 v1,HP];rw [hjn] at hE;by_cases h3:j.2.2.1.2.2=true/\(n:Int)≠(s.1.2.length:Int)-1
   ·rw [if_pos h3.1,if_pos h3.2];exact .inr (hbad (by rw [hE,if_pos h3]))
   rw [if_neg h3] at hE
   have h4 : ∀ {γ:Type} (A B:γ),(if j.2.2.1.2.2=true then if ¬(n:Int)=(s.1.2.length:Int)-1 then A else B else B)=B:=by
    intro γ A B;by_cases h5:j.2.2.1.2.2=true
    ·rw [if_pos h5,if_neg (λh6=>h3 ⟨h5,h6⟩)]
    ·rw [if_neg h5]
   rw [h4];by_cases h5:j.2.2.2.2<0\/j.2.2.2.2>((r1.2.length+r0.2.length:Nat):Int)
   ·rw [if_pos h5];exact .inr (hbad (by rw [hE,if_pos h5]))
   rw [if_neg h5];rw [if_neg h5] at hE;by_cases h6:El r1.2 r0.2 j.2.2.1.2.2 j.2.2.2.2.toNat=j.2
   ·rw [if_pos h6];exact .inl (hgood (by rw [hE];simp [h6]))
   ·rw [if_neg h6]
    exact .inr (hbad (by rw [hE];simp [h6])))
 refine A7 q1 ?_;rw [CS];rcases q2 with ⟨q2,q3⟩ | ⟨i,q2,q3,q4,q5⟩
 ·rw [if_neg (show ¬ r.1=0 by omega),q2,BD];simp only;by_cases h7:s.2.1.length<due.length
  ·rw [if_pos (by omega),if_pos h7]
  ·rw [if_neg (by omega),if_neg h7]
 ·rw [if_pos q3,q2,q4,q5]
end Go.Proofs.YthpkjfabdccpdaaGreat.Pl
