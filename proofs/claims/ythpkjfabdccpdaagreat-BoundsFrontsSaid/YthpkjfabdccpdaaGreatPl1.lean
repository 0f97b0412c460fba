/- Functions of the program and of the specification as plain functions, and laws about them. No condition. -/
import Derived.Test.YthpkjfabdccpdaaGreatPl0
set_option linter.all false
namespace Go.Proofs.YthpkjfabdccpdaaGreat.Pl
open Go Go.Proofs.YthpkjfabdccpdaaGreat.Sv
set_option linter.unusedVariables false
def Do (x:(Int×Int)):Option Int :=
 bd (loop (λs0=>br (Aj s0.2 x.2) (λ_=>some (.nx (HL .i64 2 s0.1,AF .i64 s0.2 1))) λ_=>some (.dn ((0,(s0,()))))) (x.1,0)) λr1=>some r1.2.1.1
def Cc (x:AH):Option Int :=
 br (B0 (Aa (Eu x.1)) 32) (λ_=>some 3) λ_=>br (B0 (Aa (Eu x.2.1)) 64) (λ_=>some 3) λ_=>br x.2.2.1 (λ_=>br (AU (seq x.2.1 [])) (λ_=>some 6) λ_=>br (Aj x.2.2.2 1) (λ_=>some 7) λ_=>br (B0 x.2.2.2 1000000000) (λ_=>some 7) λ_=>some 0) λ_=>br (Aj x.2.2.2 1) (λ_=>some 7) λ_=>br (B0 x.2.2.2 1000000000) (λ_=>some 7) λ_=>some 0
def EU (x:((List UInt8)×(List UInt8))):Option Int :=
 bd (loop (λs0=>br (Aj s0 (Aa (Eu x.1))) (λ_=>br (Aj s0 (Aa (Eu x.2))) (λ_=>AS s0 λk1=>ix x.1 k1 λx2=>AS s0 λk3=>ix x.2 k3 λx4=>br (CA (Rk x2) (Rk x4)) (λ_=>some (.nx (AF .i64 s0 1))) λ_=>some (.dn ((0,(s0,()))))) λ_=>some (.dn ((0,(s0,()))))) λ_=>some (.dn ((0,(s0,()))))) 0) λr5=>some r5.2.1
def D5 (x:((List UInt8)×(List UInt8))):Option Int :=
 bd (EU x) λr0=>br (CA r0 (Aa (Eu x.1))) (λ_=>br (CA r0 (Aa (Eu x.2))) (λ_=>some 0) λ_=>br (CA r0 (Aa (Eu x.1))) (λ_=>some (-1)) λ_=>br (Aj r0 (Aa (Eu x.2))) (λ_=>AS r0 λk1=>ix x.1 k1 λx2=>AS r0 λk3=>ix x.2 k3 λx4=>br (Aj (Rk x2) (Rk x4)) (λ_=>some (-1)) λ_=>some 1) λ_=>some 1) λ_=>br (CA r0 (Aa (Eu x.1))) (λ_=>some (-1)) λ_=>br (Aj r0 (Aa (Eu x.2))) (λ_=>AS r0 λk5=>ix x.1 k5 λx6=>AS r0 λk7=>ix x.2 k7 λx8=>br (Aj (Rk x6) (Rk x8)) (λ_=>some (-1)) λ_=>some 1) λ_=>some 1
def CS (x:(List AH)):Option (Int×Int) :=
 br (B0 (Aa (AA x)) 5000) (λ_=>some (((-1),3))) λ_=>bd (loop (λs0=>br (Aj s0.2.2 (Aa (AA x))) (λ_=>AS s0.2.2 λk1=>ix x k1 λx2=>bd (Cc x2) λr3=>br (CA r3 0) (λ_=>br (B0 s0.2.2 0) (λ_=>AS (Bp .i64 s0.2.2 1) λk4=>ix x k4 λx5=>AS s0.2.2 λk6=>ix x k6 λx7=>bd (D5 (x5.1,x7.1)) λr8=>br (IP r8 0) (λ_=>some (.dn ((0,((6,(s0.2.2,s0.2.2)),()))))) λ_=>br (BF r3 0) (λ_=>some (.dn ((0,((r3,(s0.2.2,s0.2.2)),()))))) λ_=>some (.nx ((s0.1,(s0.2.1,AF .i64 s0.2.2 1))))) λ_=>br (BF r3 0) (λ_=>some (.dn ((0,((r3,(s0.2.2,s0.2.2)),()))))) λ_=>some (.nx ((s0.1,(s0.2.1,AF .i64 s0.2.2 1))))) λ_=>br (BF r3 0) (λ_=>some (.dn ((0,((r3,(s0.2.2,s0.2.2)),()))))) λ_=>some (.nx ((s0.1,(s0.2.1,AF .i64 s0.2.2 1))))) λ_=>some (.dn ((1,(s0,()))))) ((0,(0,0)))) λr9=>br (neq r9.1 0) (λ_=>some (r9.2.1.2.1,r9.2.1.1)) λ_=>some (0,0)
def E2 (x:B9):Option (Int×Int) :=
 br (Aj x.1 1) (λ_=>some (((-1),7))) λ_=>br (B0 x.1 1000000) (λ_=>some (((-1),7))) λ_=>bd (CS x.2) λr0=>some r0
def Dp (x:(B9×(Int×(List Int)))):Option Int :=
 bd (E2 x.1) λr0=>br (BF r0.2 0) (λ_=>some r0.2) λ_=>br (CA (Aa (AA x.1.2)) 0) (λ_=>some 4) λ_=>br (B0 (Aa (AA x.1.2)) x.2.1) (λ_=>some 3) λ_=>bd (loop (λs1=>br (Aj s1.1 (Aa (AA x.2.2))) (λ_=>AS s1.1 λk2=>ix x.2.2 k2 λx3=>br (CA x3 x.1.1) (λ_=>some (.dn ((0,((s1.1,8),()))))) λ_=>some (.nx (AF .i64 s1.1 1,s1.2))) λ_=>some (.dn ((1,(s1,()))))) (0,0)) λr4=>br (neq r4.1 0) (λ_=>some r4.2.1.2) λ_=>some 0
def Cd (x:AQ):Option (Int×(Int×Int)) :=
 br (Aj x.1 1) (λ_=>some ((0,(0,7)))) λ_=>br (B0 x.1 16) (λ_=>some ((0,(0,7)))) λ_=>br (B0 (Aa (AA x.2)) 12) (λ_=>some ((0,(0,3)))) λ_=>bd (loop (λ(s0:(Int×((List Int)×(Int×(Int×Int)))))=>br (Aj s0.2.2.2.2 (Aa (AA x.2))) (λ_=>AS s0.2.2.2.2 λk1=>ix x.2 k1 λx2=>br (B0 (Aa (AA x2)) 2) (λ_=>some (.dn ((0,((0,(s0.2.1,(s0.2.2.2.2,(3,s0.2.2.2.2)))),()))))) λ_=>bd (loop (λ(s3:(Int×((List Int)×(Int×(Int×Int)))))=>br (Aj s3.2.2.2.2 (Aa (AA x2))) (λ_=>AS s3.2.2.2.2 λk4=>ix x2 k4 λx5=>bd (Do (x.1,s0.2.2.2.2)) λr6=>bd (Dp ((x5,(r6,s3.2.1)))) λr7=>br (BF r7 0) (λ_=>some (.dn ((0,((s3.2.2.2.2,(s3.2.1,(s0.2.2.2.2,(r7,s3.2.2.2.2)))),()))))) λ_=>AS s3.2.2.2.2 λk8=>ix x2 k8 λx9=>gd (Bb (A3 (AA s3.2.1) (AA [x9.1])) 1048576) λ_=>some (.nx ((s3.1,(Bv s3.2.1 [x9.1],(s3.2.2.1,(s3.2.2.2.1,AF .i64 s3.2.2.2.2 1))))))) λ_=>some (.dn ((1,(s3,()))))) ((s0.1,(s0.2.1,(s0.2.2.1,(s0.2.2.2.1,0)))))) λr10=>br (neq r10.1 0) (λ_=>some (.dn ((0,((r10.2.1.1,(r10.2.1.2.1,(r10.2.1.2.2.1,(r10.2.1.2.2.2.1,s0.2.2.2.2)))),()))))) λ_=>some (.nx ((r10.2.1.1,(r10.2.1.2.1,(r10.2.1.2.2.1,(r10.2.1.2.2.2.1,AF .i64 s0.2.2.2.2 1))))))) λ_=>some (.dn ((1,(s0,()))))) ((0,([],(0,(0,0)))))) λr11=>br (neq r11.1 0) (λ_=>some ((r11.2.1.2.2.1,(r11.2.1.1,r11.2.1.2.2.2.1)))) λ_=>br (B0 (Aa (AA x.2)) 0) (λ_=>AS (Bp .i64 (Aa (AA x.2)) 1) λk12=>ix x.2 k12 λx13=>br (CA (Aa (AA x13)) 0) (λ_=>some ((Bp .i64 (Aa (AA x.2)) 1,(0,6)))) λ_=>some ((0,(0,0)))) λ_=>some ((0,(0,0)))
def Db (x:AQ):Option ((List B9)×Int) :=
 bd (Cd x) λr0=>br (BF r0.2.2 0) (λ_=>some ([],r0.2.2)) λ_=>bd (loop (λs1=>br (Aj s1.2 (Aa (AA x.2))) (λ_=>AS s1.2 λk2=>ix x.2 k2 λx3=>bd (loop (λs4=>br (IP s4.2 0) (λ_=>AS s1.2 λk5=>ix x.2 k5 λx6=>AS s4.2 λk7=>ix x6 k7 λx8=>gd (Bb (A3 (AA s4.1) (AA [x8])) 1048576) λ_=>some (.nx (Bv s4.1 [x8],Bp .i64 s4.2 1))) λ_=>some (.dn ((0,(s4,()))))) ((s1.1,Bp .i64 (Aa (AA x3)) 1))) λr9=>some (.nx (r9.2.1.1,AF .i64 s1.2 1))) λ_=>some (.dn ((0,(s1,()))))) ([],0)) λr10=>some (r10.2.1.1,0)
def CB (x:AQ):Option Int :=
 bd (Db x) λr0=>bd (loop (λs1=>br (Aj s1.2 (Aa (AA r0.1))) (λ_=>AS s1.2 λk2=>ix r0.1 k2 λx3=>some (.nx (NK s1.1 x3.1,AF .i64 s1.2 1))) λ_=>some (.dn ((0,(s1,()))))) (0,0)) λr4=>some r4.2.1.1
def Ce (x:AQ):Option (List Int) :=
 bd (loop (λs0=>br (Aj s0.2 (Aa (AA x.2))) (λ_=>AS s0.2 λk1=>ix x.2 k1 λx2=>br (CA (Aa (AA x2)) 2) (λ_=>gd (Bb (A3 (AA s0.1) (AA [s0.2])) 1048576) λ_=>some (.nx (Bv s0.1 [s0.2],AF .i64 s0.2 1))) λ_=>some (.nx (s0.1,AF .i64 s0.2 1))) λ_=>some (.dn ((0,(s0,()))))) ([],0)) λr3=>some r3.2.1.1
def HH (x:(AQ×Int)):Option Int :=
 bd (Cd x.1) λr0=>br (CA r0.2.2 0) (λ_=>br (Aj x.2 0) (λ_=>some 7) λ_=>br (IP x.2 12) (λ_=>some 7) λ_=>some r0.2.2) λ_=>some r0.2.2
def GQ (x:(AQ×Int)):Option (Bool×Int) :=
 bd (HH x) λr0=>br (BF r0 0) (λ_=>some (false,r0)) λ_=>some ((B0 (Aa (AA x.1.2)) (AF .i64 x.2 1),0))
def Bj (x:(AQ×Int)):Option Bool :=
 bd (GQ x) λr0=>some (AU r0.1)
def DD (x:(List (List AH))):Option (Int×Int) :=
 br (CA (Aa (AA x)) 0) (λ_=>some (((-1),6))) λ_=>br (B0 (Aa (AA x)) 32) (λ_=>some (((-1),3))) λ_=>bd (loop (λs0=>br (Aj s0.2.2 (Aa (AA x))) (λ_=>AS s0.2.2 λk1=>ix x k1 λx2=>bd (CS x2) λr3=>br (BF r3.2 0) (λ_=>some (.dn ((0,((r3.2,(s0.2.2,s0.2.2)),()))))) λ_=>some (.nx ((s0.1,(s0.2.1,AF .i64 s0.2.2 1))))) λ_=>some (.dn ((1,(s0,()))))) ((0,(0,0)))) λr4=>br (neq r4.1 0) (λ_=>some (r4.2.1.2.1,r4.2.1.1)) λ_=>some (0,0)
def E3 (x:(List AP)):Option Int :=
 br (CA (Aa (AA x)) 0) (λ_=>some 6) λ_=>br (B0 (Aa (AA x)) 32) (λ_=>some 3) λ_=>bd (loop (λs0=>br (Aj s0.1 (Aa (AA x))) (λ_=>AS s0.1 λk1=>ix x k1 λx2=>br x2.2 (λ_=>AS s0.1 λk3=>ix x k3 λx4=>br (AU (seq x4.1 [])) (λ_=>some (.dn ((0,((s0.1,2),()))))) λ_=>some (.nx (AF .i64 s0.1 1,s0.2))) λ_=>some (.nx (AF .i64 s0.1 1,s0.2))) λ_=>some (.dn ((1,(s0,()))))) (0,0)) λr5=>br (neq r5.1 0) (λ_=>some r5.2.1.2) λ_=>some 0
def Ek (x:((List AP)×(Int×Int))):Option Bool :=
 AS x.2.1 λk0=>ix x.1 k0 λx1=>AS x.2.2 λk2=>ix x.1 k2 λx3=>br (AU (beq x1.2 x3.2)) (λ_=>some x3.2) λ_=>br (AU x1.2) (λ_=>br (AU (seq x1.1 x3.1)) (λ_=>some (Ct x1.1 x3.1)) λ_=>some (Aj x.2.1 x.2.2)) λ_=>some (Aj x.2.1 x.2.2)
def Ao (rec:((List AP)×Int)->Option (Int×Int)) (x:((List AP)×Int)):Option (Int×Int) :=
 br (IP x.2 (Aa (AA x.1))) (λ_=>some ((Bp .i64 x.2 (Aa (AA x.1)),0))) λ_=>bd (rec (x.1,HL .i64 2 x.2)) λr0=>bd (rec ((x.1,AF .i64 (HL .i64 2 x.2) 1))) λr1=>bd (Ek ((x.1,(r0.1,r1.1)))) λr2=>br r2 (λ_=>some (r0.1,r1.1)) λ_=>some (r1.1,r0.1)
def Fq:((List AP)×Int)->Option (Int×Int):=JV Ao 100
def Fs (x:(List AP)):Option Dm :=
 gd (Bb (AA x) 1048576) λ_=>AS (Aa (AA x)) λk0=>AS (Aa (AA x)) λk1=>gd (Bb k1 1048576) λ_=>bd (loop (λs2=>br (Aj s2.1 (Aa (AA x))) (λ_=>bd (Fq (x,s2.1)) λr3=>AS s2.1 λk4=>gd (D9 k4 (AA s2.2.2.1)) λ_=>ix s2.2.2.1 k4 λx5=>some (.nx ((AF .i64 s2.1 1,(s2.2.1,(lset s2.2.2.1 k4 r3.2,s2.2.2.2)))))) λ_=>some (.dn ((0,(s2,()))))) ((1,(x,(IQ k1 0,(0:Int)))))) λr6=>bd (Fq (x,1)) λr7=>some ((r6.2.1.2.1,(r6.2.1.2.2.1,r7.1)))
def D6 (x:(List AP)):Option (Dm×Int) :=
 bd (E3 x) λr0=>br (BF r0 0) (λ_=>some ((([],([],0)),r0))) λ_=>bd (Fs x) λr1=>some (r1,0)
def Cf (x:((List (List AH))×(List Int))):Option AW :=
 gd (Bb (AA x.1) 1048576) λ_=>gd (Bb (AA x.2) 1048576) λ_=>bd (loop (λs0=>br (Aj s0.1 (Aa (AA x.1))) (λ_=>AS s0.1 λk1=>ix x.2 k1 λx2=>AS s0.1 λk3=>ix x.1 k3 λx4=>br (AU (CA x2 (Aa (AA x4)))) (λ_=>AS s0.1 λk5=>ix x.1 k5 λx6=>AS s0.1 λk7=>ix x.2 k7 λx8=>AS x8 λk9=>ix x6 k9 λx10=>gd (Bb (A3 (AA s0.2) (AA ([(x10.1,CA x2 (Aa (AA x4)))]))) 1048576) λ_=>some (.nx ((AF .i64 s0.1 1,Bv s0.2 ([(x10.1,CA x2 (Aa (AA x4)))]))))) λ_=>gd (Bb (A3 (AA s0.2) (AA ([(([]:List UInt8),CA x2 (Aa (AA x4)))]))) 1048576) λ_=>some (.nx ((AF .i64 s0.1 1,Bv s0.2 ([([],CA x2 (Aa (AA x4)))]))))) λ_=>some (.dn ((0,(s0,()))))) (0,[])) λr11=>bd (D6 r11.2.1.2) λr12=>some ((x.1,(x.2,r12.1)))
def GR (x:(List (List AH))):Option (AW×(Int×Int)) :=
 bd (DD x) λr0=>br (BF r0.2 0) (λ_=>some ((([],([],([],([],0)))),r0))) λ_=>AS (Aa (AA x)) λk1=>AS (Aa (AA x)) λk2=>gd (Bb k2 1048576) λ_=>bd (Cf (x,IQ k2 0)) λr3=>some ((r3,(0,0)))
def Cg (x:Bool):Option (Bool×AP) :=
 some ((false,([],x)))
def E4 (x:((List (List AH))×Bool)):Option ((AW×((Bool×AP)×((List AH)×Int)))×(Int×Int)) :=
 bd (GR x.1) λr0=>br (BF r0.2.2 0) (λ_=>some (((([],([],([],([],0)))),((false,([],false)),([],0))),r0.2))) λ_=>bd (Cg x.2) λr1=>some (((r0.1,(r1,([],0))),(0,0)))
def A8 (x:(AQ×(Int×Bool))):Option (Int×(AW×((Bool×AP)×((List AH)×Int)))) :=
 br (IP x.2.1 (Aa (AA x.1.2))) (λ_=>none) λ_=>AS x.2.1 λk0=>ix x.1.2 k0 λx1=>ix x1 1 λx2=>ix x1 0 λx3=>bd (E4 ([x2.2,x3.2],x.2.2)) λr4=>some (x.2.1,r4.1)
def Ft (x:((List Int)×(List Int))):Option Bool :=
 br (BF (Aa (AA x.1)) (Aa (AA x.2))) (λ_=>some false) λ_=>bd (loop (λs0=>br (Aj s0.1 (Aa (AA x.1))) (λ_=>AS s0.1 λk1=>ix x.1 k1 λx2=>AS s0.1 λk3=>ix x.2 k3 λx4=>br (BF x2 x4) (λ_=>some (.dn ((0,((s0.1,false),()))))) λ_=>some (.nx (AF .i64 s0.1 1,s0.2))) λ_=>some (.dn ((1,(s0,()))))) (0,false)) λr5=>br (neq r5.1 0) (λ_=>some r5.2.1.2) λ_=>some true
def El (x:(Dm×Dm)):Option Bool :=
 br (BF (Aa (AA x.1.1)) (Aa (AA x.2.1))) (λ_=>some false) λ_=>br (BF x.1.2.2 x.2.2.2) (λ_=>some false) λ_=>bd (Ft (x.1.2.1,x.2.2.1)) λr0=>br (AU r0) (λ_=>some false) λ_=>bd (loop (λs1=>br (Aj s1.1 (Aa (AA x.1.1))) (λ_=>AS s1.1 λk2=>ix x.1.1 k2 λx3=>AS s1.1 λk4=>ix x.2.1 k4 λx5=>br (AU (Bf (seq x3.1 x5.1) (Bf (beq x3.2 x5.2) true))) (λ_=>some (.dn ((0,((s1.1,false),()))))) λ_=>some (.nx (AF .i64 s1.1 1,s1.2))) λ_=>some (.dn ((1,(s1,()))))) (0,false)) λr6=>br (neq r6.1 0) (λ_=>some r6.2.1.2) λ_=>some true
def DE (x:((List (List AH))×(List Int))):Option Int :=
 bd (loop (λs0=>br (Aj s0.2 (Aa (AA x.1))) (λ_=>AS s0.2 λk1=>ix x.2 k1 λx2=>AS s0.2 λk3=>ix x.1 k3 λx4=>br (Aj x2 (Aa (AA x4))) (λ_=>br (Aj s0.1 0) (λ_=>some (.nx (s0.2,AF .i64 s0.2 1))) λ_=>AS s0.2 λk5=>ix x.1 k5 λx6=>AS s0.2 λk7=>ix x.2 k7 λx8=>AS x8 λk9=>ix x6 k9 λx10=>AS s0.1 λk11=>ix x.1 k11 λx12=>AS s0.1 λk13=>ix x.2 k13 λx14=>AS x14 λk15=>ix x12 k15 λx16=>br (Ct x10.1 x16.1) (λ_=>some (.nx (s0.2,AF .i64 s0.2 1))) λ_=>some (.nx (s0.1,AF .i64 s0.2 1))) λ_=>some (.nx (s0.1,AF .i64 s0.2 1))) λ_=>some (.dn ((0,(s0,()))))) (((-1),0))) λr17=>some r17.2.1.1
def DG (x:AW):Option (Int×Int) :=
 bd (DD x.1) λr0=>br (BF r0.2 0) (λ_=>some r0) λ_=>br (BF (Aa (AA x.2.1)) (Aa (AA x.1))) (λ_=>some (((-1),6))) λ_=>bd (loop (λs1=>br (Aj s1.2.2 (Aa (AA x.2.1))) (λ_=>AS s1.2.2 λk2=>ix x.2.1 k2 λx3=>br (Aj x3 0) (λ_=>some (.dn ((0,((6,(s1.2.2,s1.2.2)),()))))) λ_=>AS s1.2.2 λk4=>ix x.2.1 k4 λx5=>AS s1.2.2 λk6=>ix x.1 k6 λx7=>br (B0 x5 (Aa (AA x7))) (λ_=>some (.dn ((0,((6,(s1.2.2,s1.2.2)),()))))) λ_=>some (.nx ((s1.1,(s1.2.1,AF .i64 s1.2.2 1))))) λ_=>some (.dn ((1,(s1,()))))) ((0,(0,0)))) λr8=>br (neq r8.1 0) (λ_=>some (r8.2.1.2.1,r8.2.1.1)) λ_=>bd (Cf (x.1,x.2.1)) λr9=>bd (El (x.2.2,r9.2.2)) λr10=>br (AU r10) (λ_=>some (((-1),6))) λ_=>bd (DE (x.1,x.2.1)) λr11=>bd (loop (λs12=>br (Aj s12.2.2 (Aa (AA x.1))) (λ_=>br (IP r11 0) (λ_=>AS s12.2.2 λk13=>ix x.2.1 k13 λx14=>br (CA x14 0) (λ_=>some (.nx ((s12.1,(s12.2.1,AF .i64 s12.2.2 1))))) λ_=>AS s12.2.2 λk15=>ix x.1 k15 λx16=>AS s12.2.2 λk17=>ix x.2.1 k17 λx18=>AS (Bp .i64 x18 1) λk19=>ix x16 k19 λx20=>AS r11 λk21=>ix x.1 k21 λx22=>AS r11 λk23=>ix x.2.1 k23 λx24=>AS x24 λk25=>ix x22 k25 λx26=>br (Ct x26.1 x20.1) (λ_=>some (.dn ((0,((6,(r11,s12.2.2)),()))))) λ_=>br (seq x20.1 x26.1) (λ_=>br (B0 s12.2.2 r11) (λ_=>some (.dn ((0,((6,(r11,s12.2.2)),()))))) λ_=>some (.nx ((s12.1,(s12.2.1,AF .i64 s12.2.2 1))))) λ_=>some (.nx ((s12.1,(s12.2.1,AF .i64 s12.2.2 1))))) λ_=>some (.dn ((1,(s12,()))))) λ_=>some (.dn ((1,(s12,()))))) ((r8.2.1.1,(r8.2.1.2.1,0)))) λr27=>br (neq r27.1 0) (λ_=>some (r27.2.1.2.1,r27.2.1.1)) λ_=>some (0,0)
def Dq (x:(AW×((Bool×AP)×((List AH)×Int)))):Option Int :=
 bd (loop (λs0=>br (Aj s0.2 (Aa (AA x.1.2.1))) (λ_=>AS s0.2 λk1=>ix x.1.2.1 k1 λx2=>some (.nx (AF .i64 s0.1 x2,AF .i64 s0.2 1))) λ_=>some (.dn ((0,(s0,()))))) (0,0)) λr3=>some r3.2.1.1
def EV (x:(List (List AH))):Option ((List AH)×((List Int)×Int)) :=
 bd (DD x) λr0=>br (BF r0.2 0) (λ_=>some (([],([],r0.2)))) λ_=>AS (Aa (AA x)) λk1=>AS (Aa (AA x)) λk2=>gd (Bb k2 1048576) λ_=>bd (loop (λ(s3:((List Int)×((List AH)×((List AH)×(Int×((List Int)×(List Int)))))))=>bd (DE (x,s3.2.2.2.2.2)) λr4=>br (Aj r4 0) (λ_=>some (.dn ((0,((s3.2.2.2.2.1,(s3.2.1,0)),()))))) λ_=>AS r4 λk5=>ix x k5 λx6=>AS r4 λk7=>gd (D9 k7 (AA s3.2.2.2.2.2)) λ_=>ix s3.2.2.2.2.2 k7 λx8=>AS x8 λk9=>ix x6 k9 λx10=>gd (Bb (A3 (AA s3.2.1) (AA [x10])) 1048576) λ_=>gd (Bb (A3 (AA s3.2.2.2.2.1) (AA [r4])) 1048576) λ_=>AS r4 λk11=>gd (D9 k11 (AA s3.2.2.2.2.2)) λ_=>ix s3.2.2.2.2.2 k11 λx12=>AS r4 λk13=>gd (D9 k13 (AA s3.2.2.2.2.2)) λ_=>ix s3.2.2.2.2.2 k13 λx14=>some (.nx ((s3.1,(Bv s3.2.1 [x10],(s3.2.2.1,(s3.2.2.2.1,(Bv s3.2.2.2.2.1 [r4],lset s3.2.2.2.2.2 k13 (AF .i64 x12 1))))))))) (([],([],([],(0,([],IQ k2 0))))))) λr15=>some ((r15.2.1.2.1,(r15.2.1.1,r15.2.1.2.2)))
def E5 (x:(Bool×AP)):Option Int :=
 br (B0 (Aa (Eu x.2.1)) 32) (λ_=>some 3) λ_=>br (AU x.1) (λ_=>br (AU (seq x.2.1 [])) (λ_=>some 6) λ_=>some 0) λ_=>some 0
def Fu (x:((Bool×AP)×AH)):Option (Bool×((Bool×AP)×Int)) :=
 bd (E5 x.1) λr0=>br (CA r0 0) (λ_=>bd (Cc x.2) λr1=>br (CA r1 0) (λ_=>br x.1.1 (λ_=>br (Ct x.2.1 x.1.2.1) (λ_=>some ((false,((false,([],false)),6)))) λ_=>br (BF r1 0) (λ_=>some ((false,((false,([],false)),r1)))) λ_=>br (AU x.1.1) (λ_=>br x.1.2.2 (λ_=>some ((AU x.2.2.2.1,((true,(x.2.1,x.1.2.2)),0)))) λ_=>some ((true,((true,(x.2.1,x.1.2.2)),0)))) λ_=>br (AU (seq x.2.1 x.1.2.1)) (λ_=>br x.1.2.2 (λ_=>some ((AU x.2.2.2.1,((true,(x.2.1,x.1.2.2)),0)))) λ_=>some ((true,((true,(x.2.1,x.1.2.2)),0)))) λ_=>some ((false,((true,(x.2.1,x.1.2.2)),0)))) λ_=>br (BF r1 0) (λ_=>some ((false,((false,([],false)),r1)))) λ_=>br (AU x.1.1) (λ_=>br x.1.2.2 (λ_=>some ((AU x.2.2.2.1,((true,(x.2.1,x.1.2.2)),0)))) λ_=>some ((true,((true,(x.2.1,x.1.2.2)),0)))) λ_=>br (AU (seq x.2.1 x.1.2.1)) (λ_=>br x.1.2.2 (λ_=>some ((AU x.2.2.2.1,((true,(x.2.1,x.1.2.2)),0)))) λ_=>some ((true,((true,(x.2.1,x.1.2.2)),0)))) λ_=>some ((false,((true,(x.2.1,x.1.2.2)),0)))) λ_=>br (BF r1 0) (λ_=>some ((false,((false,([],false)),r1)))) λ_=>br (AU x.1.1) (λ_=>br x.1.2.2 (λ_=>some ((AU x.2.2.2.1,((true,(x.2.1,x.1.2.2)),0)))) λ_=>some ((true,((true,(x.2.1,x.1.2.2)),0)))) λ_=>br (AU (seq x.2.1 x.1.2.1)) (λ_=>br x.1.2.2 (λ_=>some ((AU x.2.2.2.1,((true,(x.2.1,x.1.2.2)),0)))) λ_=>some ((true,((true,(x.2.1,x.1.2.2)),0)))) λ_=>some ((false,((true,(x.2.1,x.1.2.2)),0)))) λ_=>br (CA r0 0) (λ_=>br x.1.1 (λ_=>br (Ct x.2.1 x.1.2.1) (λ_=>some ((false,((false,([],false)),6)))) λ_=>br (BF r0 0) (λ_=>some ((false,((false,([],false)),r0)))) λ_=>br (AU x.1.1) (λ_=>br x.1.2.2 (λ_=>some ((AU x.2.2.2.1,((true,(x.2.1,x.1.2.2)),0)))) λ_=>some ((true,((true,(x.2.1,x.1.2.2)),0)))) λ_=>br (AU (seq x.2.1 x.1.2.1)) (λ_=>br x.1.2.2 (λ_=>some ((AU x.2.2.2.1,((true,(x.2.1,x.1.2.2)),0)))) λ_=>some ((true,((true,(x.2.1,x.1.2.2)),0)))) λ_=>some ((false,((true,(x.2.1,x.1.2.2)),0)))) λ_=>br (BF r0 0) (λ_=>some ((false,((false,([],false)),r0)))) λ_=>br (AU x.1.1) (λ_=>br x.1.2.2 (λ_=>some ((AU x.2.2.2.1,((true,(x.2.1,x.1.2.2)),0)))) λ_=>some ((true,((true,(x.2.1,x.1.2.2)),0)))) λ_=>br (AU (seq x.2.1 x.1.2.1)) (λ_=>br x.1.2.2 (λ_=>some ((AU x.2.2.2.1,((true,(x.2.1,x.1.2.2)),0)))) λ_=>some ((true,((true,(x.2.1,x.1.2.2)),0)))) λ_=>some ((false,((true,(x.2.1,x.1.2.2)),0)))) λ_=>br (BF r0 0) (λ_=>some ((false,((false,([],false)),r0)))) λ_=>br (AU x.1.1) (λ_=>br x.1.2.2 (λ_=>some ((AU x.2.2.2.1,((true,(x.2.1,x.1.2.2)),0)))) λ_=>some ((true,((true,(x.2.1,x.1.2.2)),0)))) λ_=>br (AU (seq x.2.1 x.1.2.1)) (λ_=>br x.1.2.2 (λ_=>some ((AU x.2.2.2.1,((true,(x.2.1,x.1.2.2)),0)))) λ_=>some ((true,((true,(x.2.1,x.1.2.2)),0)))) λ_=>some ((false,((true,(x.2.1,x.1.2.2)),0)))
def EW (x:((List AH)×Bool)):Option ((List AH)×(Int×Int)) :=
 br (B0 (Aa (AA x.1)) 20000) (λ_=>some (([],((-1),3)))) λ_=>bd (Cg x.2) λr0=>bd (loop (λ(s1:(Int×(Int×((List AH)×((List AH)×(Int×(Bool×AP)))))))=>br (Aj s1.2.1 (Aa (AA x.1))) (λ_=>AS s1.2.1 λk2=>ix x.1 k2 λx3=>bd (Fu (s1.2.2.2.2.2,x3)) λr4=>br (BF r4.2.2 0) (λ_=>some (.dn ((0,((s1.2.1,(s1.2.1,([],(s1.2.2.2.1,(r4.2.2,s1.2.2.2.2.2))))),()))))) λ_=>br r4.1 (λ_=>AS s1.2.1 λk5=>ix x.1 k5 λx6=>gd (Bb (A3 (AA s1.2.2.2.1) (AA [x6])) 1048576) λ_=>some (.nx ((s1.1,(AF .i64 s1.2.1 1,(s1.2.2.1,(Bv s1.2.2.2.1 [x6],(s1.2.2.2.2.1,r4.2.1)))))))) λ_=>some (.nx ((s1.1,(AF .i64 s1.2.1 1,(s1.2.2.1,(s1.2.2.2.1,(s1.2.2.2.2.1,r4.2.1)))))))) λ_=>some (.dn ((1,(s1,()))))) ((0,(0,([],([],(0,r0))))))) λr7=>br (neq r7.1 0) (λ_=>some ((r7.2.1.2.2.1,(r7.2.1.1,r7.2.1.2.2.2.2.1)))) λ_=>some ((r7.2.1.2.2.2.1,(0,0)))
def Cn (x:((List AH)×Bool)):Option ((List AH)×(Bool×AP)) :=
 bd (EW x) λr0=>bd (Cg x.2) λr1=>br (B0 (Aa (AA x.1)) 0) (λ_=>AS (Bp .i64 (Aa (AA x.1)) 1) λk2=>ix x.1 k2 λx3=>some ((r0.1,(true,(x3.1,r1.2.2))))) λ_=>some (r0.1,r1)
def Bh (x:((List AH)×(List AH))):Option Bool :=
 br (BF (Aa (AA x.1)) (Aa (AA x.2))) (λ_=>some false) λ_=>bd (loop (λs0=>br (Aj s0.1 (Aa (AA x.1))) (λ_=>AS s0.1 λk1=>ix x.1 k1 λx2=>AS s0.1 λk3=>ix x.2 k3 λx4=>br (AU (Bf (seq x2.1 x4.1) (Bf (seq x2.2.1 x4.2.1) (Bf (beq x2.2.2.1 x4.2.2.1) (Bf (CA x2.2.2.2 x4.2.2.2) true))))) (λ_=>some (.dn ((0,((s0.1,false),()))))) λ_=>some (.nx (AF .i64 s0.1 1,s0.2))) λ_=>some (.dn ((1,(s0,()))))) (0,false)) λr5=>br (neq r5.1 0) (λ_=>some r5.2.1.2) λ_=>some true
def E6 (x:(AW×((Bool×AP)×((List AH)×Int)))):Option Int :=
 bd (DG x.1) λr0=>br (BF r0.2 0) (λ_=>some r0.2) λ_=>bd (Dq x) λr1=>br (B0 (Aa (AA x.2.2.1)) 20000) (λ_=>some 3) λ_=>br (B0 r1 20000) (λ_=>some 3) λ_=>br (BF x.2.2.2 r1) (λ_=>some 7) λ_=>bd (EV x.1.1) λr2=>AS r1 λk3=>gd (Bb k3 (AA r2.1)) λ_=>gd (Bb 0 k3) λ_=>bd (Cn (F6 r2.1 0 k3,x.2.1.2.2)) λr4=>bd (Bh (x.2.2.1,r4.1)) λr5=>br (AU r5) (λ_=>some 6) λ_=>br (AU (Bf (beq x.2.1.1 r4.2.1) (Bf (seq x.2.1.2.1 r4.2.2.1) (Bf (beq x.2.1.2.2 r4.2.2.2) true)))) (λ_=>some 6) λ_=>some 0
def Fv (x:AW):Option (Int×Int) :=
 bd (DG x) λr0=>br (BF r0.2 0) (λ_=>some (0,r0.2)) λ_=>bd (loop (λs1=>br (Aj s1.1 (Aa (AA x.1))) (λ_=>AS s1.1 λk2=>ix x.1 k2 λx3=>AS s1.1 λk4=>ix x.2.1 k4 λx5=>some (.nx ((AF .i64 s1.1 1,Bp .i64 (AF .i64 s1.2 (Aa (AA x3))) x5)))) λ_=>some (.dn ((0,(s1,()))))) (0,0)) λr6=>some (r6.2.1.2,0)
def A6 (x:(AW×((Bool×AP)×((List AH)×Int)))):Option (Int×Int) :=
 bd (E6 x) λr0=>br (BF r0 0) (λ_=>some (0,r0)) λ_=>bd (Fv x.1) λr1=>some r1
def Dr (x:AW):Option (AH×(Int×(AW×Int))) :=
 bd (DG x) λr0=>br (BF r0.2 0) (λ_=>some (((([],([],(false,0))):AH),(0,(([],([],([],([],0)))),r0.2))))) λ_=>bd (DE (x.1,x.2.1)) λr1=>br (Aj r1 0) (λ_=>some (((([],([],(false,0))):AH),(0,(([],([],([],([],0)))),12))))) λ_=>gd (Bb (AA x.2.1) 1048576) λ_=>AS r1 λk2=>gd (D9 k2 (AA x.2.1)) λ_=>ix x.2.1 k2 λx3=>AS r1 λk4=>gd (D9 k4 (AA x.2.1)) λ_=>ix x.2.1 k4 λx5=>AS r1 λk6=>ix x.1 k6 λx7=>AS r1 λk8=>ix x.2.1 k8 λx9=>AS x9 λk10=>ix x7 k10 λx11=>bd (Cf ((x.1,lset x.2.1 k4 (AF .i64 x3 1)))) λr12=>some ((x11,(r1,(r12,0))))
def BK (x:((AW×((Bool×AP)×((List AH)×Int)))×Int)):Option ((AW×((Bool×AP)×((List AH)×Int)))×(Int×Int)) :=
 bd (A6 x.1) λr0=>br (CA r0.2 0) (λ_=>br (Aj x.2 0) (λ_=>some (((([],([],([],([],0)))),((false,([],false)),([],0))),(0,7)))) λ_=>br (BF r0.2 0) (λ_=>some (((([],([],([],([],0)))),((false,([],false)),([],0))),(0,r0.2)))) λ_=>bd (Dq x.1) λr1=>br (B0 (AF .i64 r1 (Mz x.2 r0.1)) 20000) (λ_=>some (((([],([],([],([],0)))),((false,([],false)),([],0))),(0,3)))) λ_=>bd (loop (λ(s2:(Int×((List (List AH))×((List Int)×((List AP)×((List Int)×(Int×(Bool×((List UInt8)×(Bool×((List AH)×Int)))))))))))=>br (Aj s2.1 (Mz x.2 r0.1)) (λ_=>bd (Dr ((s2.2.1,(s2.2.2.1,(s2.2.2.2.1,(s2.2.2.2.2.1,s2.2.2.2.2.2.1)))))) λr3=>some (.nx ((AF .i64 s2.1 1,(r3.2.2.1.1,(r3.2.2.1.2.1,(r3.2.2.1.2.2.1,(r3.2.2.1.2.2.2.1,(r3.2.2.1.2.2.2.2,s2.2.2.2.2.2.2))))))))) λ_=>some (.dn ((0,(s2,()))))) ((0,(x.1.1.1,(x.1.1.2.1,(x.1.1.2.2.1,(x.1.1.2.2.2.1,(x.1.1.2.2.2.2,(x.1.2.1.1,(x.1.2.1.2.1,(x.1.2.1.2.2,x.1.2.2))))))))))) λr4=>bd (EV x.1.1.1) λr5=>AS (AF .i64 x.1.2.2.2 (Mz x.2 r0.1)) λk6=>gd (Bb k6 (AA r5.1)) λ_=>gd (Bb 0 k6) λ_=>bd (Cn (F6 r5.1 0 k6,x.1.2.1.2.2)) λr7=>some ((((r4.2.1.2.1,(r4.2.1.2.2.1,(r4.2.1.2.2.2.1,(r4.2.1.2.2.2.2.1,r4.2.1.2.2.2.2.2.1)))),(r7.2,(r7.1,AF .i64 x.1.2.2.2 (Mz x.2 r0.1)))),(Mz x.2 r0.1,0)))) λ_=>br (BF r0.2 0) (λ_=>some (((([],([],([],([],0)))),((false,([],false)),([],0))),(0,r0.2)))) λ_=>bd (Dq x.1) λr8=>br (B0 (AF .i64 r8 (Mz x.2 r0.1)) 20000) (λ_=>some (((([],([],([],([],0)))),((false,([],false)),([],0))),(0,3)))) λ_=>bd (loop (λ(s9:(Int×((List (List AH))×((List Int)×((List AP)×((List Int)×(Int×(Bool×((List UInt8)×(Bool×((List AH)×Int)))))))))))=>br (Aj s9.1 (Mz x.2 r0.1)) (λ_=>bd (Dr ((s9.2.1,(s9.2.2.1,(s9.2.2.2.1,(s9.2.2.2.2.1,s9.2.2.2.2.2.1)))))) λr10=>some (.nx ((AF .i64 s9.1 1,(r10.2.2.1.1,(r10.2.2.1.2.1,(r10.2.2.1.2.2.1,(r10.2.2.1.2.2.2.1,(r10.2.2.1.2.2.2.2,s9.2.2.2.2.2.2))))))))) λ_=>some (.dn ((0,(s9,()))))) ((0,(x.1.1.1,(x.1.1.2.1,(x.1.1.2.2.1,(x.1.1.2.2.2.1,(x.1.1.2.2.2.2,(x.1.2.1.1,(x.1.2.1.2.1,(x.1.2.1.2.2,x.1.2.2))))))))))) λr11=>bd (EV x.1.1.1) λr12=>AS (AF .i64 x.1.2.2.2 (Mz x.2 r0.1)) λk13=>gd (Bb k13 (AA r12.1)) λ_=>gd (Bb 0 k13) λ_=>bd (Cn (F6 r12.1 0 k13,x.1.2.1.2.2)) λr14=>some ((((r11.2.1.2.1,(r11.2.1.2.2.1,(r11.2.1.2.2.2.1,(r11.2.1.2.2.2.2.1,r11.2.1.2.2.2.2.2.1)))),(r14.2,(r14.1,AF .i64 x.1.2.2.2 (Mz x.2 r0.1)))),(Mz x.2 r0.1,0)))
def Fw (x:(AW×AW)):Option Bool :=
 br (BF (Aa (AA x.1.1)) (Aa (AA x.2.1))) (λ_=>some false) λ_=>bd (Ft (x.1.2.1,x.2.2.1)) λr0=>br (AU r0) (λ_=>some false) λ_=>bd (El (x.1.2.2,x.2.2.2)) λr1=>br (AU r1) (λ_=>some false) λ_=>bd (loop (λs2=>br (Aj s2.1 (Aa (AA x.1.1))) (λ_=>AS s2.1 λk3=>ix x.1.1 k3 λx4=>AS s2.1 λk5=>ix x.2.1 k5 λx6=>bd (Bh (x4,x6)) λr7=>br (AU r7) (λ_=>some (.dn ((0,((s2.1,false),()))))) λ_=>some (.nx (AF .i64 s2.1 1,s2.2))) λ_=>some (.dn ((1,(s2,()))))) (0,false)) λr8=>br (neq r8.1 0) (λ_=>some r8.2.1.2) λ_=>some true
def BL (x:((AW×((Bool×AP)×((List AH)×Int)))×(AW×((Bool×AP)×((List AH)×Int))))):Option Bool :=
 bd (Fw (x.1.1,x.2.1)) λr0=>br r0 (λ_=>br (Bf (beq x.1.2.1.1 x.2.2.1.1) (Bf (seq x.1.2.1.2.1 x.2.2.1.2.1) (Bf (beq x.1.2.1.2.2 x.2.2.1.2.2) true))) (λ_=>bd (Bh (x.1.2.2.1,x.2.2.2.1)) λr1=>br r1 (λ_=>some (CA x.1.2.2.2 x.2.2.2.2)) λ_=>some false) λ_=>some false) λ_=>some false
def DH (x:(AQ×((List (Int×(AW×((Bool×AP)×((List AH)×Int)))))×Int))):Option (Int×Int) :=
 bd (Cd x.1) λr0=>br (CA r0.2.2 0) (λ_=>br (Aj x.2.2 1) (λ_=>some (((-1),7))) λ_=>br (B0 x.2.2 1000001) (λ_=>some (((-1),7))) λ_=>br (CA r0.2.2 0) (λ_=>bd (CB x.1) λr1=>br (MG x.2.2 r1) (λ_=>some (((-1),6))) λ_=>br (BF r0.2.2 0) (λ_=>some (((-1),r0.2.2))) λ_=>bd (Ce x.1) λr2=>bd (loop (λs3=>br (Aj s3.2.2 (Aa (AA x.2.1))) (λ_=>AS s3.2.2 λk4=>ix x.2.1 k4 λx5=>br (IP s3.2.2 (Aa (AA r2))) (λ_=>some (.dn ((0,((6,(s3.2.2,s3.2.2)),()))))) λ_=>AS s3.2.2 λk6=>ix r2 k6 λx7=>br (BF x5.1 x7) (λ_=>some (.dn ((0,((6,(s3.2.2,s3.2.2)),()))))) λ_=>br x5.2.2.1.2.2 (λ_=>bd (Bj (x.1,x5.1)) λr8=>br (AU r8) (λ_=>some (.dn ((0,((6,(s3.2.2,s3.2.2)),()))))) λ_=>bd (A8 ((x.1,(x5.1,x5.2.2.1.2.2)))) λr9=>bd (A6 r9.2) λr10=>br (Aj x5.2.2.2.2 0) (λ_=>some (.dn ((0,((6,(s3.2.2,s3.2.2)),()))))) λ_=>br (B0 x5.2.2.2.2 r10.1) (λ_=>some (.dn ((0,((6,(s3.2.2,s3.2.2)),()))))) λ_=>bd (BK (r9.2,x5.2.2.2.2)) λr11=>bd (BL (r11.1,x5.2)) λr12=>br (AU r12) (λ_=>some (.dn ((0,((6,(s3.2.2,s3.2.2)),()))))) λ_=>some (.nx ((s3.1,(s3.2.1,AF .i64 s3.2.2 1))))) λ_=>bd (A8 ((x.1,(x5.1,x5.2.2.1.2.2)))) λr13=>bd (A6 r13.2) λr14=>br (Aj x5.2.2.2.2 0) (λ_=>some (.dn ((0,((6,(s3.2.2,s3.2.2)),()))))) λ_=>br (B0 x5.2.2.2.2 r14.1) (λ_=>some (.dn ((0,((6,(s3.2.2,s3.2.2)),()))))) λ_=>bd (BK (r13.2,x5.2.2.2.2)) λr15=>bd (BL (r15.1,x5.2)) λr16=>br (AU r16) (λ_=>some (.dn ((0,((6,(s3.2.2,s3.2.2)),()))))) λ_=>some (.nx ((s3.1,(s3.2.1,AF .i64 s3.2.2 1))))) λ_=>some (.dn ((1,(s3,()))))) ((0,(0,0)))) λr17=>br (neq r17.1 0) (λ_=>some (r17.2.1.2.1,r17.2.1.1)) λ_=>br (Aj (Aa (AA x.2.1)) (Aa (AA r2))) (λ_=>some (((-1),4))) λ_=>some (0,0)) λ_=>br (BF r0.2.2 0) (λ_=>some (((-1),r0.2.2))) λ_=>bd (Ce x.1) λr18=>bd (loop (λs19=>br (Aj s19.2.2 (Aa (AA x.2.1))) (λ_=>AS s19.2.2 λk20=>ix x.2.1 k20 λx21=>br (IP s19.2.2 (Aa (AA r18))) (λ_=>some (.dn ((0,((6,(s19.2.2,s19.2.2)),()))))) λ_=>AS s19.2.2 λk22=>ix r18 k22 λx23=>br (BF x21.1 x23) (λ_=>some (.dn ((0,((6,(s19.2.2,s19.2.2)),()))))) λ_=>br x21.2.2.1.2.2 (λ_=>bd (Bj (x.1,x21.1)) λr24=>br (AU r24) (λ_=>some (.dn ((0,((6,(s19.2.2,s19.2.2)),()))))) λ_=>bd (A8 ((x.1,(x21.1,x21.2.2.1.2.2)))) λr25=>bd (A6 r25.2) λr26=>br (Aj x21.2.2.2.2 0) (λ_=>some (.dn ((0,((6,(s19.2.2,s19.2.2)),()))))) λ_=>br (B0 x21.2.2.2.2 r26.1) (λ_=>some (.dn ((0,((6,(s19.2.2,s19.2.2)),()))))) λ_=>bd (BK (r25.2,x21.2.2.2.2)) λr27=>bd (BL (r27.1,x21.2)) λr28=>br (AU r28) (λ_=>some (.dn ((0,((6,(s19.2.2,s19.2.2)),()))))) λ_=>some (.nx ((s19.1,(s19.2.1,AF .i64 s19.2.2 1))))) λ_=>bd (A8 ((x.1,(x21.1,x21.2.2.1.2.2)))) λr29=>bd (A6 r29.2) λr30=>br (Aj x21.2.2.2.2 0) (λ_=>some (.dn ((0,((6,(s19.2.2,s19.2.2)),()))))) λ_=>br (B0 x21.2.2.2.2 r30.1) (λ_=>some (.dn ((0,((6,(s19.2.2,s19.2.2)),()))))) λ_=>bd (BK (r29.2,x21.2.2.2.2)) λr31=>bd (BL (r31.1,x21.2)) λr32=>br (AU r32) (λ_=>some (.dn ((0,((6,(s19.2.2,s19.2.2)),()))))) λ_=>some (.nx ((s19.1,(s19.2.1,AF .i64 s19.2.2 1))))) λ_=>some (.dn ((1,(s19,()))))) ((0,(0,0)))) λr33=>br (neq r33.1 0) (λ_=>some (r33.2.1.2.1,r33.2.1.1)) λ_=>br (Aj (Aa (AA x.2.1)) (Aa (AA r18))) (λ_=>some (((-1),4))) λ_=>some (0,0)) λ_=>br (CA r0.2.2 0) (λ_=>bd (CB x.1) λr34=>br (MG x.2.2 r34) (λ_=>some (((-1),6))) λ_=>br (BF r0.2.2 0) (λ_=>some (((-1),r0.2.2))) λ_=>bd (Ce x.1) λr35=>bd (loop (λs36=>br (Aj s36.2.2 (Aa (AA x.2.1))) (λ_=>AS s36.2.2 λk37=>ix x.2.1 k37 λx38=>br (IP s36.2.2 (Aa (AA r35))) (λ_=>some (.dn ((0,((6,(s36.2.2,s36.2.2)),()))))) λ_=>AS s36.2.2 λk39=>ix r35 k39 λx40=>br (BF x38.1 x40) (λ_=>some (.dn ((0,((6,(s36.2.2,s36.2.2)),()))))) λ_=>br x38.2.2.1.2.2 (λ_=>bd (Bj (x.1,x38.1)) λr41=>br (AU r41) (λ_=>some (.dn ((0,((6,(s36.2.2,s36.2.2)),()))))) λ_=>bd (A8 ((x.1,(x38.1,x38.2.2.1.2.2)))) λr42=>bd (A6 r42.2) λr43=>br (Aj x38.2.2.2.2 0) (λ_=>some (.dn ((0,((6,(s36.2.2,s36.2.2)),()))))) λ_=>br (B0 x38.2.2.2.2 r43.1) (λ_=>some (.dn ((0,((6,(s36.2.2,s36.2.2)),()))))) λ_=>bd (BK (r42.2,x38.2.2.2.2)) λr44=>bd (BL (r44.1,x38.2)) λr45=>br (AU r45) (λ_=>some (.dn ((0,((6,(s36.2.2,s36.2.2)),()))))) λ_=>some (.nx ((s36.1,(s36.2.1,AF .i64 s36.2.2 1))))) λ_=>bd (A8 ((x.1,(x38.1,x38.2.2.1.2.2)))) λr46=>bd (A6 r46.2) λr47=>br (Aj x38.2.2.2.2 0) (λ_=>some (.dn ((0,((6,(s36.2.2,s36.2.2)),()))))) λ_=>br (B0 x38.2.2.2.2 r47.1) (λ_=>some (.dn ((0,((6,(s36.2.2,s36.2.2)),()))))) λ_=>bd (BK (r46.2,x38.2.2.2.2)) λr48=>bd (BL (r48.1,x38.2)) λr49=>br (AU r49) (λ_=>some (.dn ((0,((6,(s36.2.2,s36.2.2)),()))))) λ_=>some (.nx ((s36.1,(s36.2.1,AF .i64 s36.2.2 1))))) λ_=>some (.dn ((1,(s36,()))))) ((0,(0,0)))) λr50=>br (neq r50.1 0) (λ_=>some (r50.2.1.2.1,r50.2.1.1)) λ_=>br (Aj (Aa (AA x.2.1)) (Aa (AA r35))) (λ_=>some (((-1),4))) λ_=>some (0,0)) λ_=>br (BF r0.2.2 0) (λ_=>some (((-1),r0.2.2))) λ_=>bd (Ce x.1) λr51=>bd (loop (λs52=>br (Aj s52.2.2 (Aa (AA x.2.1))) (λ_=>AS s52.2.2 λk53=>ix x.2.1 k53 λx54=>br (IP s52.2.2 (Aa (AA r51))) (λ_=>some (.dn ((0,((6,(s52.2.2,s52.2.2)),()))))) λ_=>AS s52.2.2 λk55=>ix r51 k55 λx56=>br (BF x54.1 x56) (λ_=>some (.dn ((0,((6,(s52.2.2,s52.2.2)),()))))) λ_=>br x54.2.2.1.2.2 (λ_=>bd (Bj (x.1,x54.1)) λr57=>br (AU r57) (λ_=>some (.dn ((0,((6,(s52.2.2,s52.2.2)),()))))) λ_=>bd (A8 ((x.1,(x54.1,x54.2.2.1.2.2)))) λr58=>bd (A6 r58.2) λr59=>br (Aj x54.2.2.2.2 0) (λ_=>some (.dn ((0,((6,(s52.2.2,s52.2.2)),()))))) λ_=>br (B0 x54.2.2.2.2 r59.1) (λ_=>some (.dn ((0,((6,(s52.2.2,s52.2.2)),()))))) λ_=>bd (BK (r58.2,x54.2.2.2.2)) λr60=>bd (BL (r60.1,x54.2)) λr61=>br (AU r61) (λ_=>some (.dn ((0,((6,(s52.2.2,s52.2.2)),()))))) λ_=>some (.nx ((s52.1,(s52.2.1,AF .i64 s52.2.2 1))))) λ_=>bd (A8 ((x.1,(x54.1,x54.2.2.1.2.2)))) λr62=>bd (A6 r62.2) λr63=>br (Aj x54.2.2.2.2 0) (λ_=>some (.dn ((0,((6,(s52.2.2,s52.2.2)),()))))) λ_=>br (B0 x54.2.2.2.2 r63.1) (λ_=>some (.dn ((0,((6,(s52.2.2,s52.2.2)),()))))) λ_=>bd (BK (r62.2,x54.2.2.2.2)) λr64=>bd (BL (r64.1,x54.2)) λr65=>br (AU r65) (λ_=>some (.dn ((0,((6,(s52.2.2,s52.2.2)),()))))) λ_=>some (.nx ((s52.1,(s52.2.1,AF .i64 s52.2.2 1))))) λ_=>some (.dn ((1,(s52,()))))) ((0,(0,0)))) λr66=>br (neq r66.1 0) (λ_=>some (r66.2.1.2.1,r66.2.1.1)) λ_=>br (Aj (Aa (AA x.2.1)) (Aa (AA r51))) (λ_=>some (((-1),4))) λ_=>some (0,0)
def Cy (x:(AQ×((List (Int×(AW×((Bool×AP)×((List AH)×Int)))))×Int))):Option ((List Int)×Int) :=
 bd (DH x) λr0=>br (BF r0.2 0) (λ_=>some ([],r0.2)) λ_=>bd (Ce x.1) λr1=>some (r1,0)
def Fx (x:((AQ×((List (Int×(AW×((Bool×AP)×((List AH)×Int)))))×Int))×Int)):Option (Int×Int) :=
 bd (Cy x.1) λr0=>br (BF r0.2 0) (λ_=>some (0,r0.2)) λ_=>bd (loop (λs1=>br (Aj s1.2.2 (Aa (AA r0.1))) (λ_=>AS s1.2.2 λk2=>ix r0.1 k2 λx3=>br (CA x3 x.2) (λ_=>some (.dn ((0,((0,(s1.2.2,s1.2.2)),()))))) λ_=>some (.nx ((s1.1,(s1.2.1,AF .i64 s1.2.2 1))))) λ_=>some (.dn ((1,(s1,()))))) ((0,(0,0)))) λr4=>br (neq r4.1 0) (λ_=>some (r4.2.1.2.1,r4.2.1.1)) λ_=>some (0,4)
def Fy (x:((AQ×((List (Int×(AW×((Bool×AP)×((List AH)×Int)))))×Int))×Int)):Option (Int×Int) :=
 bd (Fx x) λr0=>br (BF r0.2 0) (λ_=>some (0,r0.2)) λ_=>AS r0.1 λk1=>ix x.1.2.1 k1 λx2=>bd (A6 x2.2) λr3=>some r3
end Go.Proofs.YthpkjfabdccpdaaGreat.Pl
namespace Go.Proofs.YthpkjfabdccpdaaGreat.Pl
open Go Go.Proofs.YthpkjfabdccpdaaGreat.Sv
theorem Io (x:AH):Cc x=some (kE x):=by
 unfold Cc kE;rw [Az,AX,Ih];by_cases h1:x.1.length>32
 ·rw [if_pos (by omega),if_pos (.inl h1)]
 rw [if_neg (by omega),Az,AX,Ih];by_cases h2:x.2.1.length>64
 ·rw [if_pos (by omega),if_pos (.inr h2)]
 rw [if_neg (by omega : ¬ (x.2.1.length:Int)>64),if_neg (by omega),GX];by_cases h3:x.2.2.1=true
 ·rw [if_pos h3,BW,EQ];by_cases h4:x.2.1=[]
  ·rw [if_pos h4,if_neg (by simp [h4]),BE,Az];by_cases h5:x.2.2.2<1
   ·simp [h5]
   ·by_cases h6:x.2.2.2>1000000000<;>simp [h5,h6]
  ·rw [if_neg h4,if_pos ⟨h3,h4⟩]
 ·rw [if_neg h3,if_neg (by simp [h3]),BE,Az];by_cases h5:x.2.2.2<1
  ·simp [h5]
  ·by_cases h6:x.2.2.2>1000000000<;>simp [h5,h6]
def DI:List UInt8->List UInt8->Nat
 | x::a,y::b=>if x=y then DI a b+1 else 0
 | _,_=>0
theorem Yx (x y:UInt8):CA (Rk x) (Rk y)=decide (x=y):=by
 rw [Il];unfold Rk;by_cases h:x=y
 ·simp [h]
 ·have : ¬ ((x.toNat:Int)=(y.toNat:Int)):=λe=>h (UInt8.toNat_inj.1 (by omega));simp [h,this]
theorem Wg (a b:List UInt8) (ha:a.length<=9223372036854775806):EU (a,b)=some (DI a b:Int):=by
 unfold EU;simp only [AX,Ih]
 have key : ∀ (m:List UInt8) (k n:Nat),a.drop k=m->k<=a.length->k<=b.length->m.length<n->DO n (λs0=>br (Aj s0 (a.length:Int)) (λ_=>br (Aj s0 (b.length:Int)) (λ_=>AS s0 λk1=>ix a k1 λx2=>AS s0 λk3=>ix b k3 λx4=>br (CA (Rk x2) (Rk x4)) (λ_=>some (LR.nx (AF .i64 s0 1))) λ_=>some (.dn ((0,(s0,()))))) λ_=>some (.dn ((0,(s0,()))))) λ_=>some (.dn ((0,(s0,()))))) (k:Int)=some ((0:Nat),(((k+DI m (b.drop k):Nat):Int),())):=by
  intro m
  induction m with
  | nil =>
   intro k n hm hk hkb hn;obtain ⟨n,rfl⟩ : ∃ j,n=j+1:=⟨n-1,by omega⟩
   have hkl:k=a.length:=by
    have:=congrArg List.length hm;simp at this;omega
   subst hkl;refine Br ?_;rw [re];simp [Av,DI]
  | cons x m ih =>
   intro k n hm hk hkb hn;obtain ⟨n,rfl⟩ : ∃ j,n=j+1:=⟨n-1,by omega⟩
   have hx:a[k]? = some x:=by
    have:=congrArg List.head? hm;rw [List.head?_drop] at this;simpa using this
   have hk':k<a.length:=(List.getElem?_eq_some_iff.1 hx).1
   have hm2:a.drop (k+1)=m:=by
    have:=congrArg List.tail hm;rw [List.tail_drop] at this;simpa using this
   by_cases hb:k<b.length
   ·have hy:b[k]? = some b[k]:=by simp [hb]
    rw [List.drop_eq_getElem_cons hb];unfold DI;by_cases e:x=b[k]
    ·rw [if_pos e];refine (BZ (s':=((k+1:Nat):Int)) ?_).trans ?_
     ·rw [rl hk',AM,rl hb,AM,AG,AJ hx,AG,AJ hy,Yx,Ca,if_pos e,Ad (by omega)]
     ·rw [ih (k+1) n hm2 (by omega) (by omega) (by simp at hn;omega),show k+1+DI m (b.drop (k+1))=k+(DI m (b.drop (k+1))+1) by omega]
    ·rw [if_neg e];refine Br ?_;rw [rl hk',AM,rl hb,AM,AG,AJ hx,AG,AJ hy,Yx,Ca,if_neg e];simp
   ·have hb2:k=b.length:=by omega
    refine Br ?_;rw [rl hk',AM,hb2,re,Av,List.drop_length];simp [DI]
 refine BC (Dn (n:=a.length+1) (by omega) (key a 0 (a.length+1) (by simp) (by omega) (by omega) (by omega))) ?_;simp
def K2 (a b:Ma):Int:=if Ct a b=true then -1 else if a=b then 0 else 1
theorem SS : ∀ (a b:Ma),(DI a b<=a.length/\DI a b<=b.length)/\(DI a b=a.length->DI a b=b.length->K2 a b=0)/\(DI a b=a.length->DI a b≠b.length->K2 a b = -1)/\(DI a b≠a.length->DI a b=b.length->K2 a b=1)/\(∀ x y,a[DI a b]? = some x->b[DI a b]? = some y->K2 a b=if x.toNat<y.toNat then -1 else 1)
 | [],[]=>by simp [DI,K2,Ls]
 | [],y::b=>by simp [DI,K2,Qx]
 | x::a,[]=>by simp [DI,K2,Ls]
 | x::a,y::b=>by
  obtain ⟨⟨h0,h0'⟩,h1,h2,h3,h4⟩:=SS a b;by_cases e:x=y
  ·subst e
   have ho:K2 (x::a) (x::b)=K2 a b:=by
    unfold K2;rw [IA];simp
   have hc:DI (x::a) (x::b)=DI a b+1:=by simp [DI]
   rw [ho,hc];refine ⟨⟨by simp;omega,by simp;omega⟩,λu v=>h1 (by simp at u;omega) (by simp at v;omega),λu v=>h2 (by simp at u;omega) (by simp at v;omega),λu v=>h3 (by simp at u;omega) (by simp at v;omega),λp q hp hq=>h4 p q (by simpa using hp) (by simpa using hq)⟩
  ·have hc:DI (x::a) (y::b)=0:=by simp [DI,e]
   rw [hc];refine ⟨⟨by omega,by omega⟩,λu=>by simp at u,λu=>by simp at u,λ_ u=>by simp at u,λp q hp hq => ?_⟩;simp at hp hq;subst hp hq;unfold K2;rw [IA];have hne : ¬ (x::a=y::b):=λh=>e (by injection h);by_cases hlt:x.toNat<y.toNat
   ·have:x<y:=UInt8.lt_iff_toNat_lt.2 hlt;simp [this,hlt]
   ·have : ¬ x<y:=λh=>hlt (UInt8.lt_iff_toNat_lt.1 h);simp [this,hlt,e]
theorem Yy (a b:Ma) (ha:a.length<=1000000000) (hb:b.length<=1000000000):D5 (a,b)=some (K2 a b):=by
 obtain ⟨⟨h0,h0'⟩,h1,h2,h3,h4⟩:=SS a b;unfold D5;simp only [AX,Ih];rw [Wg a b (by omega),AC,Bg]
 have hl:(if (DI a b:Int)<(b.length:Int) then (AS (DI a b:Int) λk1=>ix a k1 λx2=>AS (DI a b:Int) λk3=>ix b k3 λx4=>br (Aj (Rk x2) (Rk x4)) (λ_=>some (-1:Int)) λ_=>some 1) else some 1)=(if DI a b=a.length then (if (DI a b:Int)<(b.length:Int) then (AS (DI a b:Int) λk1=>ix a k1 λx2=>AS (DI a b:Int) λk3=>ix b k3 λx4=>br (Aj (Rk x2) (Rk x4)) (λ_=>some (-1:Int)) λ_=>some 1) else some 1) else some (K2 a b)):=by
  by_cases u:DI a b=a.length
  ·rw [if_pos u]
  ·rw [if_neg u];by_cases v:DI a b=b.length
   ·rw [if_neg (by omega),h3 u v]
   ·rw [if_pos (by omega),AG];have hx:a[DI a b]? = some (a[DI a b]'(by omega)):=by simp
    have hy:b[DI a b]? = some (b[DI a b]'(by omega)):=by simp
    rw [AJ hx,AG,AJ hy,BE,h4 _ _ hx hy];unfold Rk;by_cases w:(a[DI a b]'(by omega)).toNat<(b[DI a b]'(by omega)).toNat
    ·rw [if_pos (by omega),if_pos w]
    ·rw [if_neg (by omega),if_neg w]
 by_cases u:DI a b=a.length
 ·rw [if_pos (by omega),Bg];by_cases v:DI a b=b.length
  ·rw [if_pos (by omega),h1 u v]
  ·rw [if_neg (by omega),Bg,if_pos (by omega),h2 u v]
 ·rw [if_neg (by omega),Bg,if_neg (by omega),BE,hl,if_neg u]
theorem Ve (a b:Ma):K2 a b>=0<->Ct a b=false:=by
 unfold K2;cases h:Ct a b with
 | true=>simp
 | false=>simp;split<;>omega
theorem GH (l:List AH) (hl:l.length<=9223372036854775807):CS l=some (ER l):=by
 unfold CS ER;simp only [AX,AR];rw [Az];by_cases h:l.length>5000
 ·rw [if_pos (by omega),if_pos h]
 rw [if_neg (by omega),if_neg h];obtain ⟨T,hT⟩ : ∃ T,T=I3 none 0 l:=⟨_,rfl⟩;rw [<- hT]
 obtain ⟨r,q1,q2⟩:=FO (l:=l) (σ:=Unit) (s:=((0:Int),((0:Int),(0:Int)))) (λk _=>((0:Int),((0:Int),(k:Int)))) (λm k _=>I3 (if k=0 then none else (l[k-1]?).map (·.1)) k m=T/\(∀ y,k≠0->l[k-1]? = some y->kE y=0)) (λ(r:Nat×((Int×(Int×Int))×Unit))=>(r.1=1/\T=(0,0))\/(r.1=0/\T=(r.2.1.2.1,r.2.1.1)))
  (f:=λs0=>br (Aj s0.2.2 (l.length:Int)) (λ_=>AS s0.2.2 λk1=>ix l k1 λx2=>bd (Cc x2) λr3=>br (CA r3 0) (λ_=>br (B0 s0.2.2 0) (λ_=>AS (Bp .i64 s0.2.2 1) λk4=>ix l k4 λx5=>AS s0.2.2 λk6=>ix l k6 λx7=>bd (D5 (x5.1,x7.1)) λr8=>br (IP r8 0) (λ_=>some (.dn ((0,((6,(s0.2.2,s0.2.2)),()))))) λ_=>br (BF r3 0) (λ_=>some (.dn ((0,((r3,(s0.2.2,s0.2.2)),()))))) λ_=>some (.nx ((s0.1,(s0.2.1,AF .i64 s0.2.2 1))))) λ_=>br (BF r3 0) (λ_=>some (.dn ((0,((r3,(s0.2.2,s0.2.2)),()))))) λ_=>some (.nx ((s0.1,(s0.2.1,AF .i64 s0.2.2 1))))) λ_=>br (BF r3 0) (λ_=>some (.dn ((0,((r3,(s0.2.2,s0.2.2)),()))))) λ_=>some (.nx ((s0.1,(s0.2.1,AF .i64 s0.2.2 1))))) λ_=>some (.dn ((1,(s0,())))))
  () rfl (by omega) ⟨hT.symm,λ_ h=>absurd rfl h⟩ (λ_ h=>by
   refine ⟨_,by simp only;rw [re];rfl,.inl ⟨rfl,?_⟩⟩;rw [<- h.1];simp [I3]) (λk x m _ hd hx hk h=>by
   simp only;obtain ⟨h,hprev⟩:=h;rw [rl hk,AM,AG,AJ hx,Io,AC,Bg];unfold I3 at h
   have next:kE x=0->(T=I3 (some x.1) (k+1) m)->I3 (if k+1=0 then none else (l[k+1-1]?).map (·.1)) (k+1) m=T/\(∀ y,k+1≠0->l[k+1-1]? = some y->kE y=0):=λh0 e=>by
    rw [if_neg (by omega),Nat.add_sub_cancel,hx,e];exact ⟨rfl,λy _ hy=>by cases hy;exact h0⟩
   by_cases h0:kE x=0
   ·rw [if_pos h0,Az];rw [if_neg (by simp [h0])] at h;by_cases hk0:k=0
    ·rw [if_neg (by omega),AN,if_pos h0];rw [if_pos hk0] at h;exact .inl ⟨(),by rw [Am hx (by omega)],next h0 h.symm⟩
    ·have hy:l[k-1]? = some (l[k-1]'(by omega)):=by rw [List.getElem?_eq_getElem]
     rw [if_pos (by omega),show Bp .i64 (k:Int) 1=((k-1:Nat):Int) by rw [Bt (by omega)];omega,AG,AJ hy,AG,AJ hx];rw [if_neg hk0,hy] at h;simp only [Option.map_some] at h;rw [Yy _ _ (by have:=OP (hprev _ hk0 hy);omega) (by have:=OP h0;omega),AC,Gt];by_cases hs:Ct (l[k-1]'(by omega)).1 x.1=true
     ·rw [if_neg (λe=>by rw [Ve,hs] at e;cases e),AN,if_pos h0];rw [if_pos hs] at h;exact .inl ⟨(),by rw [Am hx (by omega)],next h0 h.symm⟩
     ·rw [if_pos ((Ve _ _).2 (by simpa using hs))];rw [if_neg hs] at h;exact .inr ⟨_,rfl,.inr ⟨rfl,h.symm⟩⟩
   ·rw [if_neg h0,AN,if_neg h0];rw [if_pos h0] at h
    exact .inr ⟨_,rfl,.inr ⟨rfl,h.symm⟩⟩)
 refine BC q1 ?_;rw [Ar];rcases q2 with ⟨q2,q3⟩ | ⟨q2,q3⟩
 ·rw [if_neg (show ¬ r.1=0 by omega),q3]
 ·rw [if_pos q2,q3]
theorem Yz (p q:AP) (hp:EG p) (hq:EG q):Ek ([p,q],(0,1))=some (w0 p q):=by
 unfold Ek w0;refine (ET 0 rfl (x:=p) rfl).trans ((ET 1 rfl (x:=q) rfl).trans ?_);rw [beq_eq,CQ,Ca,BW,GX];by_cases h1:p.2=q.2
 ·rw [if_neg (show ¬ ¬ p.2=q.2 by simp [h1]),if_neg (show ¬ p.2≠q.2 by simp [h1])];by_cases h2:p.2=true
  ·rw [if_pos h2,hp h2,hq (h1 ▸ h2)];rfl
  ·rw [if_neg h2,BW,EQ];by_cases h3:p.1=q.1
   ·rw [if_pos h3,if_neg (by simp [h3])];rfl
   ·rw [if_neg h3,if_pos h3]
 ·rw [if_pos h1,if_pos h1]
theorem NA (p q:AP) (n:Nat) (k:Int) (h:2<=k) (hk:k<=100):JV Ao (n+1) ([p,q],k)=some (k-2,0):=by
 show Ao (JV Ao n) ([p,q],k)=_;unfold Ao;show br (IP k 2) (λ_=>some (Bp .i64 k 2,0)) _=_;rw [Gt,if_pos h,Bt (by omega)]
theorem OU (p q:AP) (hp:EG p) (hq:EG q):Fq ([p,q],1)=some (if w0 p q=true then (0,1) else (1,0)):=by
 show Ao (JV Ao 99) ([p,q],1)=_;unfold Ao;show br (IP (1:Int) 2) (λ_=>some (Bp .i64 (1:Int) 2,0)) (λ_=>bd (JV Ao (98+1) ([p,q],2)) λr0=>bd (JV Ao (98+1) ([p,q],3)) _)=_;rw [Gt,if_neg (by omega),NA p q 98 2 (by omega) (by omega),AC,NA p q 98 3 (by omega) (by omega),AC];show bd (Ek ([p,q],(0,1))) _=_;rw [Yz p q hp hq,AC,GX];cases h:w0 p q<;>rfl
theorem Y5 (p q:AP) (hp:EG p) (hq:EG q):Fs [p,q]=some (Tt p q):=by
 unfold Fs;refine Eq.trans (b:=bd (loop _ (1,([p,q],([0,0],0)))) _) rfl ?_;refine BC (x:=(0,((2,([p,q],([0,if w0 p q=true then 1 else 0],0))),()))) (Dn (n:=2) (by omega) ((BZ (s':=(2,([p,q],([0,if w0 p q=true then 1 else 0],0)))) ?_).trans (Br rfl))) ?_
 ·show bd (Fq ([p,q],1)) _=_;rw [OU p q hp hq,AC];refine (JY 1 rfl (x:=(0:Int)) rfl).trans ?_;cases h:w0 p q<;>rfl
 ·rw [OU p q hp hq,AC];unfold Tt;cases h:w0 p q<;>rfl
theorem Wh {l:List AP} (h : ∀ k∈l,EG k) (h0:l≠[]) (hl:l.length<=32):E3 l=some 0:=by
 unfold E3;simp only [AX,AR];rw [Bg,Az,if_neg (by have:=List.length_pos_iff.2 h0;omega),if_neg (by omega)]
 rw [CY (l:=l) (σ:=Unit) (s:=((0:Int),(0:Int))) (λk _=>((k:Int),(0:Int))) (λ_ _ _=>True) (λ_ _ _=>(1,(((l.length:Int),0),()))) () rfl (by omega) trivial (λst _=>by
  simp only;rw [re];rfl) (λk x m st _ hx hk _=>⟨(),by
   simp only;rw [rl hk,AM,AG,AJ hx,GX,Am hx (by omega)];by_cases hd:x.2=true
   ·rw [if_pos hd,AG,AJ hx,BW,EQ,if_pos (h x (List.mem_of_getElem? hx) hd)]
   ·rw [if_neg hd],trivial,rfl⟩),AC]
 rfl
theorem Wi (p q:AP) (hp:EG p) (hq:EG q):D6 [p,q]=some (Tt p q,0):=by
 unfold D6;rw [Wh (by simp [hp,hq]) (by simp) (by simp),AC,AN,if_pos rfl,Y5 p q hp hq,AC]
end Go.Proofs.YthpkjfabdccpdaaGreat.Pl
namespace Go.Proofs.YthpkjfabdccpdaaGreat.Pl
open Go Go.Proofs.YthpkjfabdccpdaaGreat.Sv
theorem GS:Bh=BG:=rfl
theorem OV:Ft=Ac:=rfl
theorem Tv (l m:List AP) (hb:l.length<=9223372036854775806) (hl:l.length=m.length) : ∃ r,loop (λs1=>br (Aj s1.1 (l.length:Int)) (λ_=>AS s1.1 λk2=>ix l k2 λx3=>AS s1.1 λk4=>ix m k4 λx5=>br (AU (Bf (seq x3.1 x5.1) (Bf (Sv.beq x3.2 x5.2) true))) (λ_=>some (LR.dn ((0:Nat),((s1.1,false),())))) λ_=>some (.nx (AF .i64 s1.1 1,s1.2))) λ_=>some (.dn ((1,(s1,()))))) ((0:Int),false)=some r/\((l=m/\r.1=1)\/(l≠m/\r.1=0/\r.2.1.2=false)):=by
 refine IE l m hl hb (λk x y hx hy => ?_) (by simp only;rw [re];rfl);have hk:=(List.getElem?_eq_some_iff.1 hx).1
 have he : ∀ {β:Type} (u v:Unit->Option β),br (AU (Bf (seq x.1 y.1) (Bf (Sv.beq x.2 y.2) true))) u v=if x=y then v () else u ():=by
  intro β u v;rw [Lw,Kz,beq_eq,Im,CQ,Ca];by_cases e:x=y
  ·subst e;simp
  ·rw [if_pos (λh=>e (Prod.ext h.1 h.2)),if_neg e]
 constructor
 ·intro e;simp only;rw [rl hk,AM,AG,AJ hx,AG,AJ hy,he,if_pos e,Ad (by omega)]
 ·intro e;simp only;rw [rl hk,AM,AG,AJ hx,AG,AJ hy,he,if_neg e]
theorem OW (s t:Dm) (h1:s.1.length<=1000) (h2:s.2.1.length<=1000):El (s,t)=some (decide (s=t)):=by
 obtain ⟨sk,sl,sw⟩:=s;obtain ⟨tk,tl,tw⟩:=t;simp only at h1 h2;unfold El;simp only [AX,AR];rw [AN];by_cases e1:(sk.length:Int)=(tk.length:Int);rotate_left
 ·rw [if_neg e1];have : ¬ sk=tk:=λe=>e1 (by rw [e]);simp [this]
 rw [if_pos e1,AN];by_cases e2:sw=tw;rotate_left
 ·rw [if_neg e2];simp [e2]
 rw [if_pos e2,OV,J8 _ _ (by omega),AC,CQ,Ca];by_cases e3:sl=tl;rotate_left
 ·rw [if_pos e3];simp [e3]
 rw [if_neg (show ¬ ¬ sl=tl by simp [e3])];obtain ⟨r,q1,q2⟩:=Tv sk tk (by omega) (by omega);refine BC q1 ?_;rw [Ar];rcases q2 with ⟨e,q2⟩ | ⟨e,q2,q3⟩
 ·rw [if_neg (show ¬ r.1=0 by omega)];simp [e,e2,e3]
 ·rw [if_pos q2,q3];simp [e]
theorem ST (s t:AW) (h1:s.1.length<=1000) (h2 : ∀ l∈s.1,l.length<=1000000) (h3:s.2.1.length<=1000) (h4:s.2.2.1.length<=1000) (h5:s.2.2.2.1.length<=1000):Fw (s,t)=some (decide (s=t)):=by
 obtain ⟨sr,sa,st⟩:=s;obtain ⟨tr,ta,tt⟩:=t;simp only at h1 h2 h3 h4 h5;unfold Fw;simp only [AX,AR];rw [AN];by_cases e1:(sr.length:Int)=(tr.length:Int);rotate_left
 ·rw [if_neg e1];have : ¬ sr=tr:=λe=>e1 (by rw [e]);simp [this]
 rw [if_pos e1,OV,J8 _ _ (by omega),AC,CQ,Ca];by_cases e2:sa=ta;rotate_left
 ·rw [if_pos e2];simp [e2]
 rw [if_neg (show ¬ ¬ sa=ta by simp [e2]),OW _ _ h4 h5,AC,CQ,Ca];by_cases e3:st=tt;rotate_left
 ·rw [if_pos e3];simp [e3]
 rw [if_neg (show ¬ ¬ st=tt by simp [e3])]
 obtain ⟨r,q1,q2⟩:=IE sr tr (by omega) (by omega) (f:=λs2=>br (Aj s2.1 (sr.length:Int)) (λ_=>AS s2.1 λk3=>ix sr k3 λx4=>AS s2.1 λk5=>ix tr k5 λx6=>bd (Bh (x4,x6)) λr7=>br (AU r7) (λ_=>some (.dn ((0,((s2.1,false),()))))) λ_=>some (.nx (AF .i64 s2.1 1,s2.2))) λ_=>some (.dn ((1,(s2,()))))) (λk x y hx hy=>by
   have hk:=(List.getElem?_eq_some_iff.1 hx).1;have hx1:=h2 x (List.mem_of_getElem? hx);constructor
   ·intro e;simp only;rw [rl hk,AM,AG,AJ hx,AG,AJ hy,GS,Fp _ _ (by omega),AC,CQ,Ca,if_neg (by simp [e]),Ad (by omega)]
   ·intro e;simp only
    rw [rl hk,AM,AG,AJ hx,AG,AJ hy,GS,Fp _ _ (by omega),AC,CQ,Ca,if_pos e]) (by simp only;rw [re];rfl)
 refine BC q1 ?_;rw [Ar];rcases q2 with ⟨e,q2⟩ | ⟨e,q2,q3⟩
 ·rw [if_neg (show ¬ r.1=0 by omega)];simp [e,e2,e3]
 ·rw [if_pos q2,q3];simp [e]
theorem Tw (x y:If) (h1:x.1.1.length<=1000) (h2 : ∀ l∈x.1.1,l.length<=1000000) (h3:x.1.2.1.length<=1000) (h4:x.1.2.2.1.length<=1000) (h5:x.1.2.2.2.1.length<=1000) (h6:x.2.2.1.length<=1000000):BL (x,y)=some (decide (x=y)):=by
 obtain ⟨xm,⟨xs,xt,xb⟩,xo,xn⟩:=x;obtain ⟨ym,⟨ys,yt,yb⟩,yo,yn⟩:=y;simp only at h1 h2 h3 h4 h5 h6;unfold BL;simp only [ST _ _ h1 h2 h3 h4 h5,GS,Fp _ _ (show xo.length<=9223372036854775806 by omega),AC,Ca,Il,Kz,beq_eq,Lw,Im]
 repeat' split
 all_goals simp_all
section
variable {a b:List AH} (va:VL a) (vb:VL b)
include va vb
theorem K3:DD [a,b]=some (0,0):=by
 have la:=va.len;have lb:=vb.len;unfold DD;refine Eq.trans (b:=bd (loop _ (0,(0,0))) _) rfl ?_;refine BC (x:=(1,((0,(0,2)),()))) (CM (s1:=(0,(0,1))) (s2:=(0,(0,2))) ?_ ?_ rfl) rfl
 ·refine (NE 0 rfl rfl (x:=a) rfl).trans ?_;rw [GH _ (by omega),JW va,AC];rfl
 ·refine (NE 1 rfl rfl (x:=b) rfl).trans ?_;rw [GH _ (by omega),JW vb,AC];rfl
theorem Ip {i j:Nat} (hi:i<=a.length) (hj:j<=b.length):DE ([a,b],[(i:Int),(j:Int)])=some (if i=a.length/\j=b.length then -1 else if HN a b i j=true then 0 else 1):=by
 have la:=va.len;have lb:=vb.len;unfold DE;simp only [AX,AR];refine BC (x:=(0,((if i=a.length/\j=b.length then -1 else if HN a b i j=true then 0 else 1,2),()))) (CM (s1:=(if i=a.length then -1 else 0,1)) (s2:=(if i=a.length/\j=b.length then -1 else if HN a b i j=true then 0 else 1,2)) ?_ ?_ rfl) rfl
 ·refine (NE 0 rfl rfl (x:=(i:Int)) rfl).trans ((ET 0 rfl (x:=a) rfl).trans ?_);rw [BE];by_cases h:i=a.length
  ·rw [if_neg (by omega),if_pos h];rfl
  ·rw [if_pos (by omega),if_neg h];rfl
 ·refine (NE 1 rfl rfl (x:=(j:Int)) rfl).trans ((ET 1 rfl (x:=b) rfl).trans ?_);rw [BE];by_cases h:j=b.length
  ·rw [if_neg (by omega)];by_cases h2:i=a.length
   ·rw [if_pos h2,if_pos ⟨h2,h⟩];rfl
   ·rw [if_neg h2,if_neg (λh3=>h2 h3.1)];have hx:a[i]? = some (a[i]'(by omega)):=by simp
    rw [VX hx (List.getElem?_eq_none (by omega))];rfl
  ·have hy:b[j]? = some (b[j]'(by omega)):=by simp
   rw [if_pos (by omega),BE,if_neg (λh3:i=a.length/\j=b.length=>h h3.2)];by_cases h2:i=a.length
   ·rw [if_pos h2,if_pos (by omega),VY (List.getElem?_eq_none (by omega)) hy];rfl
   ·rw [if_neg h2,if_neg (by omega)];have hx:a[i]? = some (a[i]'(by omega)):=by simp
    refine (ET 1 rfl (x:=b) rfl).trans ((ET 1 rfl (x:=(j:Int)) rfl).trans ((ET j rfl hy).trans ((ET 0 rfl (x:=a) rfl).trans ((ET 0 rfl (x:=(i:Int)) rfl).trans ((ET i rfl hx).trans ?_)))));rw [GD,OL hx hy];cases hs:Ct (b[j]'(by omega)).1 (a[i]'(by omega)).1<;>rfl
theorem Iq {i j:Nat} (hi:i<=a.length) (hj:j<=b.length):Cf ([a,b],[(i:Int),(j:Int)])=some (K9 a b i j):=by
 have la:=va.len;have lb:=vb.len;unfold Cf;simp only [AX,AR];rw [C3 (show [a,b].length<=1048576 from (show 2<=1048576 by omega)),C3 (show [(i:Int),(j:Int)].length<=1048576 from (show 2<=1048576 by omega))];refine BC (x:=(0,((2,[kx a i,kx b j]),()))) (CM (s1:=(1,[kx a i])) (s2:=(2,[kx a i,kx b j])) ?_ ?_ rfl) ?_
 ·refine (NE 0 rfl rfl (x:=(i:Int)) rfl).trans ((ET 0 rfl (x:=a) rfl).trans ?_);rw [Il,CQ,Ca];by_cases h:i=a.length
  ·have hne:((i:Int)=(a.length:Int)):=by omega
   rw [if_neg (show ¬ ¬ ((i:Int)=(a.length:Int)) by simp [hne]),Lv (List.getElem?_eq_none (by omega))];simp only [hne,decide_true];rfl
  ·have hx:a[i]? = some (a[i]'(by omega)):=by simp
   have hne : ¬ ((i:Int)=(a.length:Int)):=by omega
   rw [if_pos hne];refine (ET 0 rfl (x:=a) rfl).trans ((ET 0 rfl (x:=(i:Int)) rfl).trans ((ET i rfl hx).trans ?_));rw [Fm hx];simp only [hne,decide_false];rfl
 ·refine (NE 1 rfl rfl (x:=(j:Int)) rfl).trans ((ET 1 rfl (x:=b) rfl).trans ?_);rw [Il,CQ,Ca];by_cases h:j=b.length
  ·have hne:((j:Int)=(b.length:Int)):=by omega
   rw [if_neg (show ¬ ¬ ((j:Int)=(b.length:Int)) by simp [hne]),Lv (l:=b) (i:=j) (List.getElem?_eq_none (by omega))];simp only [hne,decide_true];rfl
  ·have hx:b[j]? = some (b[j]'(by omega)):=by simp
   have hne : ¬ ((j:Int)=(b.length:Int)):=by omega
   rw [if_pos hne];refine (ET 1 rfl (x:=b) rfl).trans ((ET 1 rfl (x:=(j:Int)) rfl).trans ((ET j rfl hx).trans ?_));rw [Fm (l:=b) (i:=j) hx];simp only [hne,decide_false];rfl
 ·show bd (D6 [kx a i,kx b j]) _=_;rw [Wi _ _ (BS _ _) (BS _ _)];rfl
theorem Vf {i:Nat} {l:List AH} (h:i≠0) (hi:i<=l.length) : ∃ x,l[i-1]? = some x:=⟨l[i-1]'(by omega),by simp⟩
theorem Mi {i j:Nat} (I:Inv a b i j):DG (K9 a b i j)=some (0,0):=by
 have la:=va.len;have lb:=vb.len;have hi:=I.ia;have hj:=I.jb;unfold DG;rw [show (K9 a b i j).1=[a,b] from rfl,K3 va vb,AC,AN,if_pos rfl];rw [show (K9 a b i j).2.1=[(i:Int),(j:Int)] from rfl,AN,if_pos (show Aa (AA [(i:Int),(j:Int)])=Aa (AA [a,b]) from rfl)];refine BC (x:=(1,((0,(0,2)),()))) (CM (s1:=(0,(0,1))) (s2:=(0,(0,2))) ?_ ?_ rfl) ?_
 ·refine (NE 0 rfl rfl (x:=(i:Int)) rfl).trans ?_;rw [BE,if_neg (by omega)];refine (ET 0 rfl (x:=(i:Int)) rfl).trans ((ET 0 rfl (x:=a) rfl).trans ?_);rw [Az,if_neg (by simp only [AX,AR];omega)];rfl
 ·refine (NE 1 rfl rfl (x:=(j:Int)) rfl).trans ?_;rw [BE,if_neg (by omega)];refine (ET 1 rfl (x:=(j:Int)) rfl).trans ((ET 1 rfl (x:=b) rfl).trans ?_);rw [Az,if_neg (by simp only [AX,AR];omega)];rfl
 rw [show neq ((1:Nat),(((0:Int),((0:Int),(2:Int))),())).1 0=false from rfl,Av,Iq va vb hi hj,AC,OW (K9 a b i j).2.2 (K9 a b i j).2.2 (show 2<=1000 by omega) (show 2<=1000 by omega),AC,CQ,Ca,if_neg (show ¬ ¬ (K9 a b i j).2.2=(K9 a b i j).2.2 by simp),Ip va vb hi hj,AC];by_cases hd:i=a.length/\j=b.length
 ·rw [if_pos hd];refine BC (x:=(1,((0,(0,0)),()))) (Dn (n:=1) (by omega) (Br ?_)) rfl;rfl
 rw [if_neg hd];cases g:HN a b i j with
 | true =>
  rw [if_pos rfl]
  have hil:i<a.length:=by
   refine Nat.lt_of_not_le λh' => ?_;have hb2:j<b.length:=by omega
   rw [VY (List.getElem?_eq_none h') (show b[j]? = some (b[j]'hb2) by simp)] at g;cases g
  have hx:a[i]? = some (a[i]'hil):=by simp
  refine BC (x:=(1,((0,(0,2)),()))) (CM (s1:=(0,(0,1))) (s2:=(0,(0,2))) ?_ ?_ rfl) rfl
  ·show br (Aj (0:Int) 2) _ _=_;rw [BE,if_pos (by omega),Gt,if_pos (by omega)];refine (ET 0 rfl (x:=(i:Int)) rfl).trans ?_;rw [Bg];by_cases h0:i=0
   ·rw [if_pos (by omega)];rfl
   ·rw [if_neg (by omega)];obtain ⟨y,hy⟩:=Vf va vb (l:=a) h0 hi;refine (ET 0 rfl (x:=a) rfl).trans ((ET 0 rfl (x:=(i:Int)) rfl).trans ?_);rw [show Bp .i64 (i:Int) 1=((i-1:Nat):Int) by rw [Bt (by omega)];omega,AG,AJ hy];refine (ET 0 rfl (x:=a) rfl).trans ((ET 0 rfl (x:=(i:Int)) rfl).trans ((ET i rfl hx).trans ?_));have hlt:=va.lt hy (show a[i-1+1]? = some _ by rw [show i-1+1=i by omega];exact hx);rw [GD,if_neg (by rw [DZ hlt];simp),EQ,if_neg (Te hlt)];rfl
  ·show br (Aj (1:Int) 2) _ _=_;rw [BE,if_pos (by omega),Gt,if_pos (by omega)];refine (ET 1 rfl (x:=(j:Int)) rfl).trans ?_;rw [Bg];by_cases h0:j=0
   ·rw [if_pos (by omega)];rfl
   ·rw [if_neg (by omega)];obtain ⟨y,hy⟩:=Vf va vb (l:=b) h0 hj;refine (ET 1 rfl (x:=b) rfl).trans ((ET 1 rfl (x:=(j:Int)) rfl).trans ?_);rw [show Bp .i64 (j:Int) 1=((j-1:Nat):Int) by rw [Bt (by omega)];omega,AG,AJ hy];refine (ET 0 rfl (x:=a) rfl).trans ((ET 0 rfl (x:=(i:Int)) rfl).trans ((ET i rfl hx).trans ?_));have hlt:=I.pb (j-1) (by omega) y _ hy hx;rw [GD,if_neg (by rw [DZ hlt];simp),EQ,if_neg (Te hlt)];rfl
 | false =>
  rw [if_neg (by simp)]
  have hjl:j<b.length:=by
   refine Nat.lt_of_not_le λh' => ?_;have ha2:i<a.length:=by omega
   rw [VX (show a[i]? = some (a[i]'ha2) by simp) (List.getElem?_eq_none h')] at g;cases g
  have hx:b[j]? = some (b[j]'hjl):=by simp
  refine BC (x:=(1,((0,(0,2)),()))) (CM (s1:=(0,(0,1))) (s2:=(0,(0,2))) ?_ ?_ rfl) rfl
  ·show br (Aj (0:Int) 2) _ _=_;rw [BE,if_pos (by omega),Gt,if_pos (by omega)];refine (ET 0 rfl (x:=(i:Int)) rfl).trans ?_;rw [Bg];by_cases h0:i=0
   ·rw [if_pos (by omega)];rfl
   ·rw [if_neg (by omega)];obtain ⟨y,hy⟩:=Vf va vb (l:=a) h0 hi;refine (ET 0 rfl (x:=a) rfl).trans ((ET 0 rfl (x:=(i:Int)) rfl).trans ?_);rw [show Bp .i64 (i:Int) 1=((i-1:Nat):Int) by rw [Bt (by omega)];omega,AG,AJ hy];refine (ET 1 rfl (x:=b) rfl).trans ((ET 1 rfl (x:=(j:Int)) rfl).trans ((ET j rfl hx).trans ?_));have hle:=I.pa (i-1) (by omega) y _ hy hx;rw [GD,if_neg (by rw [hle];simp),EQ];by_cases he:y.1=(b[j]'hjl).1
    ·rw [if_pos he];rfl
    ·rw [if_neg he];rfl
  ·show br (Aj (1:Int) 2) _ _=_;rw [BE,if_pos (by omega),Gt,if_pos (by omega)];refine (ET 1 rfl (x:=(j:Int)) rfl).trans ?_;rw [Bg];by_cases h0:j=0
   ·rw [if_pos (by omega)];rfl
   ·rw [if_neg (by omega)];obtain ⟨y,hy⟩:=Vf va vb (l:=b) h0 hj;refine (ET 1 rfl (x:=b) rfl).trans ((ET 1 rfl (x:=(j:Int)) rfl).trans ?_);rw [show Bp .i64 (j:Int) 1=((j-1:Nat):Int) by rw [Bt (by omega)];omega,AG,AJ hy];refine (ET 1 rfl (x:=b) rfl).trans ((ET 1 rfl (x:=(j:Int)) rfl).trans ((ET j rfl hx).trans ?_));have hlt:=vb.lt hy (show b[j-1+1]? = some _ by rw [show j-1+1=j by omega];exact hx);rw [GD,if_neg (by rw [DZ hlt];simp),EQ,if_neg (Te hlt)];rfl
end
end Go.Proofs.YthpkjfabdccpdaaGreat.Pl
namespace Go.Proofs.YthpkjfabdccpdaaGreat.Pl
open Go Go.Proofs.YthpkjfabdccpdaaGreat.Sv
section
variable {a b:List AH} (va:VL a) (vb:VL b)
include va vb
theorem Y6 {n:Nat} {x:AH} (h:n<a.length+b.length) (hx:ND a b n=some x):Dr (K1 a b n)=some (x,((OM a b n:Int),(K1 a b (n+1),0))):=by
 obtain ⟨hI,hs⟩:=FN va vb (n:=n) (by omega);obtain ⟨hI2,hs2⟩:=FN va vb (n:=n+1) (by omega);have la:=va.len;have lb:=vb.len;have hia:=hI.ia;have hjb:=hI.jb;unfold Dr;rw [show K1 a b n=K9 a b (Ak a b n).1 (Ak a b n).2 from rfl,Mi va vb hI,AC,AN,if_pos rfl,show (K9 a b (Ak a b n).1 (Ak a b n).2).1=[a,b] from rfl,show (K9 a b (Ak a b n).1 (Ak a b n).2).2.1=[((Ak a b n).1:Int),((Ak a b n).2:Int)] from rfl,Ip va vb hia hjb,AC,if_neg (λhh:(Ak a b n).1=a.length/\(Ak a b n).2=b.length=>by omega)];unfold ND at hx;have hpos:Ak a b (n+1)=if HN a b (Ak a b n).1 (Ak a b n).2=true then ((Ak a b n).1+1,(Ak a b n).2) else ((Ak a b n).1,(Ak a b n).2+1):=rfl
 unfold K1 OM;cases g:HN a b (Ak a b n).1 (Ak a b n).2 with
 | true =>
  rw [g,if_pos rfl] at hpos;rw [g,if_pos rfl] at hx;have hi:=(List.getElem?_eq_some_iff.1 hx).1;rw [if_pos rfl,BE,if_neg (by omega),C3 (show AA [((Ak a b n).1:Int),((Ak a b n).2:Int)]<=1048576 from (show 2<=1048576 by omega))];refine (JY 0 rfl (x:=((Ak a b n).1:Int)) rfl).trans ((JY 0 rfl (x:=((Ak a b n).1:Int)) rfl).trans ((ET 0 rfl (x:=a) rfl).trans ((ET 0 rfl (x:=((Ak a b n).1:Int)) rfl).trans ((ET _ rfl hx).trans ?_))));rw [Ad (by omega),show lset [((Ak a b n).1:Int),((Ak a b n).2:Int)] 0 (((Ak a b n).1+1:Nat):Int)=[(((Ak a b n).1+1:Nat):Int),((Ak a b n).2:Int)] from rfl,Iq va vb (by omega) hjb,AC,hpos];rfl
 | false =>
  rw [g,if_neg (by simp)] at hpos;rw [g,if_neg (by simp)] at hx;have hi:=(List.getElem?_eq_some_iff.1 hx).1;rw [if_neg (by simp),BE,if_neg (by omega),C3 (show AA [((Ak a b n).1:Int),((Ak a b n).2:Int)]<=1048576 from (show 2<=1048576 by omega))];refine (JY 1 rfl (x:=((Ak a b n).2:Int)) rfl).trans ((JY 1 rfl (x:=((Ak a b n).2:Int)) rfl).trans ((ET 1 rfl (x:=b) rfl).trans ((ET 1 rfl (x:=((Ak a b n).2:Int)) rfl).trans ((ET _ rfl hx).trans ?_))));rw [Ad (by omega),show lset [((Ak a b n).1:Int),((Ak a b n).2:Int)] 1 (((Ak a b n).2+1:Nat):Int)=[((Ak a b n).1:Int),(((Ak a b n).2+1:Nat):Int)] from rfl,Iq va vb hia (by omega),AC,hpos];rfl
theorem Y7 {n:Nat} (h:n<=a.length+b.length):Fv (K1 a b n)=some (((a.length+b.length-n:Nat):Int),0):=by
 obtain ⟨hI,hs⟩:=FN va vb (n:=n) h;have la:=va.len;have lb:=vb.len;have ha:=hI.ia;have hb:=hI.jb;unfold Fv;rw [show K1 a b n=K9 a b (Ak a b n).1 (Ak a b n).2 from rfl,Mi va vb hI,AC,AN,if_pos rfl];refine BC (x:=(0,((2,((a.length+b.length-n:Nat):Int)),()))) (CM (s1:=(1,(a.length:Int)-((Ak a b n).1:Int))) (s2:=(2,((a.length+b.length-n:Nat):Int))) ?_ ?_ rfl) rfl
 ·refine (NE 0 rfl rfl (x:=a) rfl).trans ((ET 0 rfl (x:=((Ak a b n).1:Int)) rfl).trans ?_);simp only [AX,AR];rw [show AF .i64 (0:Int) (a.length:Int)=(a.length:Int) by rw [A9 (by omega),Int.zero_add],Bt (by omega)];rfl
 ·refine (NE 1 rfl rfl (x:=b) rfl).trans ((ET 1 rfl (x:=((Ak a b n).2:Int)) rfl).trans ?_);simp only [AX,AR];show some (LR.nx ((2:Int),Bp .i64 (AF .i64 ((a.length:Int)-((Ak a b n).1:Int)) (b.length:Int)) ((Ak a b n).2:Int)))=_;rw [A9 (by omega),Bt (by omega),show (a.length:Int)-((Ak a b n).1:Int)+(b.length:Int)-((Ak a b n).2:Int)=((a.length+b.length-n:Nat):Int) by omega]
theorem Vg:EV [a,b]=some (A0 a b (a.length+b.length),(HF a b (a.length+b.length),0)):=by
 have la:=va.len;have lb:=vb.len;unfold EV;rw [K3 va vb,AC,AN,if_pos rfl];refine Eq.trans (b:=bd (loop _ ([],([],([],(0,([],[0,0])))))) _) rfl ?_
 refine BC (x:=(0,((HF a b (a.length+b.length),(A0 a b (a.length+b.length),0)),())))
  (ID (λk=>([],(A0 a b k,([],(0,(HF a b k,[((Ak a b k).1:Int),((Ak a b k).2:Int)])))))) 0 (a.length+b.length) rfl (by omega) (by omega) (λk _ hk => ?_) ?_) rfl
 ·obtain ⟨x,hx,_⟩:=D0 va vb (n:=k) hk;obtain ⟨hI,hs⟩:=FN va vb (n:=k) (by omega);have hl1:(A0 a b k).length=k:=Ch va vb (by omega);have hl2:=Mf a b k;simp only;rw [Ip va vb hI.ia hI.jb,AC,if_neg (λhh:(Ak a b k).1=a.length/\(Ak a b k).2=b.length=>by omega)];rw [GF va vb hx];unfold ND at hx;rw [show HF a b (k+1)=HF a b k++[(OM a b k:Int)] from rfl];unfold OM;rw [show Ak a b (k+1)=if HN a b (Ak a b k).1 (Ak a b k).2=true then ((Ak a b k).1+1,(Ak a b k).2) else ((Ak a b k).1,(Ak a b k).2+1) from rfl]
  have g1 : ∀ {β:Type} (y:AH) (q:Unit->Option β),gd (Bb (A3 (AA (A0 a b k)) (AA [y])) 1048576) q=q ():=λy q=>C3 (by simp only [A3,AA,hl1,List.length_cons,List.length_nil];omega) q;have g2 : ∀ {β:Type} (y:Int) (q:Unit->Option β),gd (Bb (A3 (AA (HF a b k)) (AA [y])) 1048576) q=q ():=λy q=>C3 (by simp only [A3,AA,hl2,List.length_cons,List.length_nil];omega) q;cases g:HN a b (Ak a b k).1 (Ak a b k).2 with
  | true =>
   rw [g,if_pos rfl] at hx;have hi:=(List.getElem?_eq_some_iff.1 hx).1;simp only [if_true];rw [BE,if_neg (by omega)];refine (ET 0 rfl (x:=a) rfl).trans ((JY 0 rfl (x:=((Ak a b k).1:Int)) rfl).trans ((ET _ rfl hx).trans ?_));rw [g1,g2];refine (JY 0 rfl (x:=((Ak a b k).1:Int)) rfl).trans ((JY 0 rfl (x:=((Ak a b k).1:Int)) rfl).trans ?_);rw [Ad (by omega)];rfl
  | false =>
   rw [g,if_neg (by simp)] at hx;have hi:=(List.getElem?_eq_some_iff.1 hx).1;simp only [Bool.false_eq_true,if_false];rw [BE,if_neg (by omega)];refine (ET 1 rfl (x:=b) rfl).trans ((JY 1 rfl (x:=((Ak a b k).2:Int)) rfl).trans ((ET _ rfl hx).trans ?_));rw [g1,g2];refine (JY 1 rfl (x:=((Ak a b k).2:Int)) rfl).trans ((JY 1 rfl (x:=((Ak a b k).2:Int)) rfl).trans ?_);rw [Ad (by omega)];rfl
 ·obtain ⟨hI,hs⟩:=FN va vb (n:=a.length+b.length) (Nat.le_refl _);simp only;rw [Ip va vb hI.ia hI.jb,AC,if_pos (show (Ak a b (a.length+b.length)).1=a.length/\(Ak a b (a.length+b.length)).2=b.length by have:=hI.ia;have:=hI.jb;omega),BE,if_pos (by omega)]
end
theorem SU {s:CE} (h1:s.2.1.length<=32) (h2:s.1=false->s.2.1=[]):E5 s=some 0:=by
 unfold E5;rw [Az,if_neg (by simp only [AX,Ih];omega),BW,GX];cases h:s.1 with
 | true=>rfl
 | false=>rw [if_neg (by simp),BW,EQ,if_pos (h2 h)]
theorem Tx {s:CE} {x:AH} (h1:s.2.1.length<=32) (h2:s.1=false->s.2.1=[]) (h3:kE x=0) (h4:s.1=true->Ct x.1 s.2.1=false):Fu (s,x)=some (keep s x,((true,(x.1,s.2.2)),0)):=by
 unfold Fu keep;rw [SU h1 h2,AC,Bg,if_pos rfl,Io,h3,AC,Bg,if_pos rfl];obtain ⟨s1,s2,s3⟩:=s;obtain ⟨x1,x2,x3,x4⟩:=x;simp only at h4 ⊢;cases s1 with
 | true =>
  have:=h4 rfl;simp only [AM,GD,this,Bool.false_eq_true,if_false,AN,if_true,BW,EQ];by_cases he:x1=s2
  ·simp [he,Av]
  ·simp only [he,if_false,decide_false];cases s3<;>cases x3<;>rfl
 | false =>
  simp only [Av,AN,if_true,BW];cases s3<;>cases x3<;>rfl
theorem Tz {l:List AH} {bt:Bool} (hl:l.length<=20000) (hr:Q0 (false,([],bt)) l):EW (l,bt)=some (Gp (false,([],bt)) l,(0,0)):=by
 unfold EW Cg;simp only [AX,AR];rw [Az,if_neg (by omega),AC]
 rw [CY (l:=l) (σ:=CE×List AH) (s:=(0,(0,([],([],(0,(false,([],bt)))))))) (λk st=>((0:Int),((k:Int),(([]:List AH),(st.2,((0:Int),st.1))))))
  (λm k st=>Q0 st.1 m/\st.1.2.1.length<=32/\(st.1.1=false->st.1.2.1=[])/\st.2.length<=k/\k+m.length=l.length)
  (λm k st=>(1,((0,((l.length:Int),([],(st.2++Gp st.1 m,(0,CC st.1 m))))),()))) ((false,([],bt)),[]) rfl (by omega) ⟨hr,by simp,λ_=>rfl,by simp,by simp⟩ ?_ ?_,AC]
 ·simp;rfl
 ·intro st _;simp only;rw [re,Av];simp [CC,Gp]
 ·rintro k x m ⟨s,out⟩ hm hx hk ⟨⟨h1,h2,h3⟩,h4,h5,h6,h7⟩;simp only at h1 h2 h3 h4 h5 h6 ⊢;refine ⟨((true,(x.1,s.2.2)),out++if keep s x=true then [x] else []),?_,⟨h3,OP h1,(λh=>by cases h),?_,by simp at h7;omega⟩,?_⟩
  ·rw [rl hk,AM,AG,AJ hx,Tx h4 h5 h1 h2,AC,AN,if_pos rfl,GX,AG,AJ hx];have hg : ∀ {β:Type} (k:Unit->Option β),gd (Bb (A3 out.length [x].length) 1048576) k=k ():=λk=>Vc h6 (by simp at h7;omega) x k;rw [hg,Am hx (show l.length<=9223372036854775807 by omega)];cases hk2:keep s x<;>simp [Bv]
  ·split<;>simp<;>omega
  ·simp only [CC,Gp,List.append_assoc]
section
variable {a b:List AH} (va:VL a) (vb:VL b)
include va vb
theorem Ps (bt:Bool) {n:Nat} (h:n<=a.length+b.length):Cn (A0 a b n,bt)=some (Gp (s0 bt) (A0 a b n),CC (s0 bt) (A0 a b n)):=by
 have la:=va.len;have lb:=vb.len;have hml:(A0 a b n).length=n:=Ch va vb h;unfold Cn;simp only [AX,AR];rw [Tz (by omega) (Ij va vb bt h),AC];unfold Cg;rw [AC,Az,hml];cases n with
 | zero=>rw [if_neg (by omega)];rfl
 | succ m =>
  obtain ⟨x,hx,_⟩:=D0 va vb (n:=m) (by omega);rw [if_pos (by omega),show Bp .i64 ((m+1:Nat):Int) 1=(m:Int) by rw [Bt (by omega)];omega,AG,AJ (x:=x) (by rw [IC va vb h (by omega)];exact hx),Ja va vb bt hx]
theorem SV (bt:Bool) {n:Nat} (h:n<=a.length+b.length):Dq (Es a b bt n)=some (n:Int):=by
 obtain ⟨hI,hs⟩:=FN va vb (n:=n) h;have la:=va.len;have lb:=vb.len;unfold Dq;refine BC (x:=(0,(((n:Int),2),()))) (CM (s1:=(((Ak a b n).1:Int),1)) (s2:=((n:Int),2)) ?_ ?_ rfl) rfl
 ·refine (NE 0 rfl rfl (x:=((Ak a b n).1:Int)) rfl).trans ?_;show some (LR.nx (AF .i64 0 ((Ak a b n).1:Int),(1:Int)))=_;rw [A9 (by omega),Int.zero_add]
 ·refine (NE 1 rfl rfl (x:=((Ak a b n).2:Int)) rfl).trans ?_;show some (LR.nx (AF .i64 ((Ak a b n).1:Int) ((Ak a b n).2:Int),(2:Int)))=_;rw [A9 (by omega),show ((Ak a b n).1:Int)+((Ak a b n).2:Int)=(n:Int) by omega]
theorem SW (bt:Bool) {n:Nat} (h:n<=a.length+b.length):E6 (Es a b bt n)=some 0:=by
 obtain ⟨hI,hs⟩:=FN va vb (n:=n) h;have la:=va.len;have lb:=vb.len;have hfl:=JZ (s0 bt) (A0 a b n);have hml:(A0 a b n).length=n:=Ch va vb h;unfold E6;rw [show (Es a b bt n).1=K9 a b (Ak a b n).1 (Ak a b n).2 from rfl,Mi va vb hI,AC,AN,if_pos rfl,SV va vb bt h,AC];simp only [AX,AR];rw [show (Es a b bt n).2.2.1=Gp (s0 bt) (A0 a b n) from rfl,show (Es a b bt n).2.2.2=(n:Int) from rfl,show (Es a b bt n).2.1=CC (s0 bt) (A0 a b n) from rfl,Az,if_neg (by omega),Az,if_neg (by omega),AN,if_pos rfl];rw [show (K9 a b (Ak a b n).1 (Ak a b n).2).1=[a,b] from rfl,Vg va vb,AC,AG];rw [C3 (by rw [Ch va vb (Nat.le_refl _)];exact h),C3 (Nat.zero_le _)];rw [show F6 (A0 a b (a.length+b.length)) 0 n=A0 a b n from by unfold F6;rw [List.drop_zero,Nat.sub_zero];exact Gq va vb h,Fo];rw [show (s0 bt).2.2=bt from rfl,Ps va vb bt h,AC,GS,Fp _ _ (by omega),AC,CQ,Ca,if_neg (by simp),Fo,Hc,Hc,Ii];rfl
theorem K4 (bt:Bool) {n:Nat} (h:n<=a.length+b.length):A6 (Es a b bt n)=some (((a.length+b.length-n:Nat):Int),0):=by
 unfold A6;rw [SW va vb bt h,AC,AN,if_pos rfl,show (Es a b bt n).1=K1 a b n from rfl,Y7 va vb h];rfl
theorem UA (bt:Bool) {n:Nat} (h:n<=a.length+b.length) {k:Nat}:BK (Es a b bt n,(k:Int))=some (Es a b bt (n+min k (a.length+b.length-n)),(((min k (a.length+b.length-n):Nat):Int),0)):=by
 have la:=va.len;have lb:=vb.len;obtain ⟨u,hu⟩ : ∃ u,u=min k (a.length+b.length-n):=⟨_,rfl⟩
 have him:Mz (k:Int) ((a.length+b.length-n:Nat):Int)=(u:Int):=by
  unfold Mz;split<;>omega
 rw [<- hu];unfold BK;rw [K4 va vb bt h,AC,Bg,if_pos rfl];simp only [him,AX,AR];rw [BE,if_neg (by omega),AN,if_pos rfl,SV va vb bt h,AC,A9 (by omega),Az,if_neg (by omega)]
 refine BC (x:=(0,(((u:Int),((K1 a b (n+u)).1,((K1 a b (n+u)).2.1,((K1 a b (n+u)).2.2.1,((K1 a b (n+u)).2.2.2.1,((K1 a b (n+u)).2.2.2.2,((Es a b bt n).2.1.1,((Es a b bt n).2.1.2.1,((Es a b bt n).2.1.2.2,(Es a b bt n).2.2))))))))),())))
  (ID (λj=>((j:Int),((K1 a b (n+j)).1,((K1 a b (n+j)).2.1,((K1 a b (n+j)).2.2.1,((K1 a b (n+j)).2.2.2.1,((K1 a b (n+j)).2.2.2.2,((Es a b bt n).2.1.1,((Es a b bt n).2.1.2.1,((Es a b bt n).2.1.2.2,(Es a b bt n).2.2)))))))))) 0 u rfl (by omega) (by omega) (λj _ hj => ?_) ?_) ?_
 ·obtain ⟨y,hy,_⟩:=D0 va vb (n:=n+j) (by omega);show br (Aj (j:Int) (u:Int)) _ _=_;rw [BE,if_pos (by omega)];show bd (Dr (K1 a b (n+j))) _=_;rw [Y6 va vb (by omega) hy,AC,Ad (by omega)];rfl
 ·show br (Aj (u:Int) (u:Int)) _ _=_;rw [BE,if_neg (by omega)]
 ·rw [show (Es a b bt n).1.1=[a,b] from rfl,Vg va vb,AC,show (Es a b bt n).2.2.2=(n:Int) from rfl,show AF .i64 (n:Int) (u:Int)=((n+u:Nat):Int) by rw [A9 (by omega)];omega,AG];rw [C3 (by rw [Ch va vb (Nat.le_refl _)];omega),C3 (Nat.zero_le _)];rw [show F6 (A0 a b (a.length+b.length)) 0 (n+u)=A0 a b (n+u) from by unfold F6;rw [List.drop_zero,Nat.sub_zero];exact Gq va vb (by omega),show (Es a b bt n).2.1.2.2=bt from Fo _ _,Ps va vb bt (by omega),AC];rfl
end
end Go.Proofs.YthpkjfabdccpdaaGreat.Pl
namespace Go.Proofs.YthpkjfabdccpdaaGreat.Pl
open Go Go.Proofs.YthpkjfabdccpdaaGreat.Sv
theorem Wj (B:Int) (i:Nat):CR B (i+1)=2*CR B i:=by
 unfold CR;rw [Int.pow_succ,<- Int.mul_assoc,Int.mul_comm]
theorem Y8 {B:Int} {i:Nat} (h1:1<=B) (h2:B<=16) (hi:i<=12):Do (B,(i:Int))=some (CR B i):=by
 unfold Do;refine BC (x:=(0,((CR B i,(i:Int)),()))) (IB (λk=>(CR B k,(k:Int))) i (by simp [CR]) (by omega) (λk hk => ?_) ?_) rfl
 ·have h3:=SQ h1 h2 (show k<=12 by omega);simp only;rw [BE,if_pos (by omega),NQ (by omega),Ad (by omega),Wj]
 ·simp only;rw [BE,if_neg (by omega)]
theorem eY (r:B9) (hl:r.2.length<=9223372036854775807):E2 r=some (if r.1<1\/r.1>1000000 then (-1,7) else ER r.2):=by
 unfold E2;rw [BE,Az,GH _ hl,AC];by_cases h:r.1<1
 ·rw [if_pos h,if_pos (.inl h)]
 ·rw [if_neg h];by_cases h2:r.1>1000000
  ·rw [if_pos h2,if_pos (.inr h2)]
  ·rw [if_neg h2,if_neg (by omega)]
theorem Y9 (r:B9) (most:Int) (ids:List Int) (hl:r.2.length<=9223372036854775807) (hi:ids.length<=1048576):Dp (r,(most,ids))=some (kR ids most r):=by
 unfold Dp kR;rw [eY r (by omega),AC];simp only [AX,AR];by_cases h:r.1<1\/r.1>1000000
 ·rw [if_pos h,if_pos h];rfl
 rw [if_neg h,if_neg h,AN];by_cases h2:(ER r.2).2=0;rotate_left
 ·rw [if_neg h2,if_pos h2]
 rw [if_pos h2,if_neg (show ¬ (ER r.2).2≠0 by simp [h2]),Bg,Az];by_cases h3:r.2.length=0
 ·rw [if_pos (by omega),if_pos h3]
 rw [if_neg (by omega),if_neg h3];by_cases h4:(r.2.length:Int)>most
 ·rw [if_pos h4,if_pos h4]
 rw [if_neg h4,if_neg h4]
 obtain ⟨q,q1,q2⟩:=FO (l:=ids) (σ:=Unit) (s:=((0:Int),(0:Int))) (λk _=>((k:Int),(0:Int))) (λm k _=>r.1∈ids<->r.1∈m) (λ(q:Nat×((Int×Int)×Unit))=>(q.1=1/\r.1 ∉ ids)\/(q.1=0/\r.1∈ids/\q.2.1.2=8))
  (f:=λs1=>br (Aj s1.1 (ids.length:Int)) (λ_=>AS s1.1 λk2=>ix ids k2 λx3=>br (CA x3 r.1) (λ_=>some (.dn ((0,((s1.1,8),()))))) λ_=>some (.nx (AF .i64 s1.1 1,s1.2))) λ_=>some (.dn ((1,(s1,())))))
  () rfl (by omega) Iff.rfl (λ_ h=>⟨_,by simp only;rw [re];rfl,.inl ⟨rfl,by simpa using h⟩⟩) (λk x m _ hd hx hk h=>by
   simp only;rw [rl hk,AM,AG,AJ hx,Bg];by_cases e:x=r.1
   ·rw [if_pos e];exact .inr ⟨_,rfl,.inr ⟨rfl,by rw [h,e];simp,rfl⟩⟩
   ·rw [if_neg e];exact .inl ⟨(),by rw [Am hx (by omega)],by rw [h,List.mem_cons];exact ⟨λu=>u.elim (λe2=>absurd e2.symm e) id,.inr⟩⟩)
 refine BC q1 ?_;rw [Ar];rcases q2 with ⟨q2,q3⟩ | ⟨q2,q3,q4⟩
 ·rw [if_neg (show ¬ q.1=0 by omega),if_neg q3]
 ·rw [if_pos q2,if_pos q3,q4]
theorem UB (L:AQ) (hb:L.2.length<=1048576) (hr : ∀ rs∈L.2,rs.length<=1048576 /\ ∀ r∈rs,r.2.length<=9223372036854775807):Cd L=some (C4 L):=by
 unfold Cd C4;simp only [AX,AR];rw [BE,Az,Az];by_cases hB1:L.1<1
 ·rw [if_pos hB1,if_pos (.inl hB1)]
 rw [if_neg hB1];by_cases hB2:L.1>16
 ·rw [if_pos hB2,if_pos (.inr hB2)]
 rw [if_neg hB2,if_neg (show ¬ (L.1<1\/L.1>16) by omega)];by_cases hl:(L.2.length:Int)>12
 ·rw [if_pos hl,if_pos (by omega)]
 rw [if_neg hl,if_neg (by omega)];have hl2:L.2.length<=12:=by omega
 obtain ⟨T,hT⟩ : ∃ T,T=KE L.1 0 [] L.2:=⟨_,rfl⟩;rw [<- hT]
 have hlast:T=none->(br (B0 (L.2.length:Int) 0) (λ_=>AS (Bp .i64 (L.2.length:Int) 1) λk15=>ix L.2 k15 λx16=>br (CA (x16.length:Int) 0) (λ_=>some ((Bp .i64 (L.2.length:Int) 1,((0:Int),(6:Int))))) λ_=>some ((0,(0,0)))) λ_=>some ((0,(0,0))))=some (if L.2.getLast? = some [] then (((L.2.length-1:Nat):Int),(0,6)) else (0,(0,0))):=by
  intro _;rw [Az];by_cases hn:L.2=[]
  ·rw [hn];rfl
  ·have hp:=List.length_pos_iff.2 hn;rw [if_pos (by omega),show Bp .i64 (L.2.length:Int) 1=((L.2.length-1:Nat):Int) by rw [Bt (by omega)];omega,AG,List.getLast?_eq_getElem?];have hx:L.2[L.2.length-1]? = some (L.2[L.2.length-1]'(by omega)):=by simp
   rw [AJ hx,hx,Bg];by_cases he:L.2[L.2.length-1]'(by omega)=[]
   ·rw [he];simp
   ·rw [if_neg (by have:=List.length_pos_iff.2 he;omega),if_neg (by simp [he])]
 obtain ⟨r,q1,q2⟩:=FO (l:=L.2) (σ:=List Int) (s:=((0:Int),(([]:List Int),((0:Int),((0:Int),(0:Int)))))) (λi ids=>((0:Int),(ids,((0:Int),((0:Int),(i:Int))))))
  (λm i ids=>KE L.1 i ids m=T/\ids.length<=2*i) (λ(r:Nat×((Int×(List Int×(Int×(Int×Int))))×Unit))=>(r.1=1/\T=none)\/(r.1=0/\Q1 T r.2.1.1 r.2.1.2.2.1 r.2.1.2.2.2.1/\T≠none))
  (f:=λ(s0:(Int×((List Int)×(Int×(Int×Int)))))=>br (Aj s0.2.2.2.2 (L.2.length:Int)) (λ_=>AS s0.2.2.2.2 λk1=>ix L.2 k1 λx2=>br (B0 (x2.length:Int) 2) (λ_=>some (.dn ((0,((0,(s0.2.1,(s0.2.2.2.2,(3,s0.2.2.2.2)))),()))))) λ_=>bd (loop (λ(s3:(Int×((List Int)×(Int×(Int×Int)))))=>br (Aj s3.2.2.2.2 (x2.length:Int)) (λ_=>AS s3.2.2.2.2 λk4=>ix x2 k4 λx5=>bd (Do (L.1,s0.2.2.2.2)) λr6=>bd (Dp ((x5,(r6,s3.2.1)))) λr7=>br (BF r7 0) (λ_=>some (.dn ((0,((s3.2.2.2.2,(s3.2.1,(s0.2.2.2.2,(r7,s3.2.2.2.2)))),()))))) λ_=>AS s3.2.2.2.2 λk8=>ix x2 k8 λx9=>gd (Bb (A3 s3.2.1.length [x9.1].length) 1048576) λ_=>some (.nx ((s3.1,(Bv s3.2.1 [x9.1],(s3.2.2.1,(s3.2.2.2.1,AF .i64 s3.2.2.2.2 1))))))) λ_=>some (.dn ((1,(s3,()))))) ((s0.1,(s0.2.1,(s0.2.2.1,(s0.2.2.2.1,0)))))) λr10=>br (neq r10.1 0) (λ_=>some (.dn ((0,((r10.2.1.1,(r10.2.1.2.1,(r10.2.1.2.2.1,(r10.2.1.2.2.2.1,s0.2.2.2.2)))),()))))) λ_=>some (.nx ((r10.2.1.1,(r10.2.1.2.1,(r10.2.1.2.2.1,(r10.2.1.2.2.2.1,AF .i64 s0.2.2.2.2 1))))))) λ_=>some (.dn ((1,(s0,())))))
  [] rfl (by omega) ⟨hT.symm,by simp⟩ (λids h=>by
   refine ⟨_,by simp only;rw [re];rfl,.inl ⟨rfl,?_⟩⟩;rw [<- h.1];rfl) (λi rs m ids hd hx hi h=>by
   obtain ⟨h,hids⟩:=h;simp only;obtain ⟨hrs1,hrs2⟩:=hr rs (List.mem_of_getElem? hx);rw [rl hi,AM,AG,AJ hx,Az];unfold KE at h;by_cases h3:rs.length>2
   ·rw [if_pos (by omega)];rw [if_pos h3] at h;refine .inr ⟨_,rfl,.inr ⟨rfl,?_,by rw [<- h];simp⟩⟩;rw [<- h];exact ⟨rfl,rfl,rfl⟩
   rw [if_neg (by omega)];rw [if_neg h3] at h;obtain ⟨U,hU⟩ : ∃ U,U=KD (CR L.1 i) 0 ids rs:=⟨_,rfl⟩;rw [<- hU] at h
   obtain ⟨r,q1,q2⟩:=FO (l:=rs) (σ:=Unit) (s:=((0:Int),(ids,((0:Int),((0:Int),(0:Int)))))) (λk _=>((0:Int),(ids++(rs.take k).map (·.1),((0:Int),((0:Int),(k:Int))))))
    (λm k _=>KD (CR L.1 i) k (ids++(rs.take k).map (·.1)) m=U) (λ(r:Nat×((Int×(List Int×(Int×(Int×Int))))×Unit))=>(r.1=1/\U=none/\r.2.1=(0,(ids++rs.map (·.1),(0,(0,(rs.length:Int))))))\/(r.1=0 /\ ∃ k e,U=some (k,e)/\r.2.1.1=(k:Int)/\r.2.1.2.2.1=(i:Int)/\r.2.1.2.2.2.1=e))
    (f:=λ(s3:(Int×((List Int)×(Int×(Int×Int)))))=>br (Aj s3.2.2.2.2 (rs.length:Int)) (λ_=>AS s3.2.2.2.2 λk4=>ix rs k4 λx5=>bd (Do (L.1,(i:Int))) λr6=>bd (Dp ((x5,(r6,s3.2.1)))) λr7=>br (BF r7 0) (λ_=>some (.dn ((0,((s3.2.2.2.2,(s3.2.1,((i:Int),(r7,s3.2.2.2.2)))),()))))) λ_=>AS s3.2.2.2.2 λk8=>ix rs k8 λx9=>gd (Bb (A3 s3.2.1.length [x9.1].length) 1048576) λ_=>some (.nx ((s3.1,(Bv s3.2.1 [x9.1],(s3.2.2.1,(s3.2.2.2.1,AF .i64 s3.2.2.2.2 1))))))) λ_=>some (.dn ((1,(s3,())))))
    () (by simp) (by omega) (by simp [hU]) (λ_ h=>by
     refine ⟨_,by simp only;rw [re];rfl,.inl ⟨rfl,by rw [<- h];rfl,by simp⟩⟩) (λk r m _ hd hx hk h=>by
     simp only;have hr2:=hrs2 r (List.mem_of_getElem? hx);have htk:(rs.take (k+1)).map (·.1)=(rs.take k).map (·.1)++[r.1]:=by rw [List.take_add_one,hx];simp
     have hlen:(ids++(rs.take k).map (·.1)).length<=100:=by simp;omega
     rw [rl hk,AM,AG,AJ hx,Y8 (by omega) (by omega) (by omega),AC,Y9 _ _ _ (by omega) (by omega),AC,AN];unfold KD at h;by_cases h0:kR (ids++(rs.take k).map (·.1)) (CR L.1 i) r=0
     ·rw [if_neg (λhh:kR (ids++(rs.take k).map (·.1)) (CR L.1 i) r≠0=>hh h0)] at h;rw [if_pos h0,AG,AJ hx,C3 (by simp only [A3,List.length_cons,List.length_nil];omega)];refine .inl ⟨(),?_,?_⟩
      ·rw [Am hx (by omega),htk,<- List.append_assoc];rfl
      ·rw [htk,<- List.append_assoc];exact h
     ·rw [if_pos h0] at h;rw [if_neg h0]
      exact .inr ⟨_,rfl,.inr ⟨rfl,_,_,h.symm,rfl,rfl,rfl⟩⟩)
   rw [q1,AC,Ar];rcases q2 with ⟨q2,q3,q4⟩ | ⟨q2,k,e,q3,q4,q5,q6⟩
   ·rw [if_neg (show ¬ r.1=0 by omega),q4,Am hx (by omega)];rw [q3] at h;exact .inl ⟨ids++rs.map (·.1),rfl,h,by simp;omega⟩
   ·rw [if_pos q2];rw [q3] at h;refine .inr ⟨_,rfl,.inr ⟨rfl,?_,by rw [<- h];simp⟩⟩;rw [<- h]
    exact ⟨q4,q5,q6⟩)
 refine BC q1 ?_;rw [Ar];rcases q2 with ⟨q2,q3⟩ | ⟨q2,q3,q4⟩
 ·rw [if_neg (show ¬ r.1=0 by omega),q3];exact hlast q3
 ·rw [if_pos q2];cases hTc:T with
  | none=>exact absurd hTc q4
  | some t =>
   obtain ⟨i,k,e⟩:=t;rw [hTc] at q3;rw [q3.1,q3.2.1,q3.2.2]
def C5 (ls:List (List B9)):List B9:=ls.flatMap List.reverse
theorem VLev.small {L:AQ} (v:VLev L):L.2.length<=1048576 /\ ∀ rs∈L.2,rs.length<=1048576 /\ ∀ r∈rs,r.2.length<=9223372036854775807:=by
 refine ⟨by have:=v.len;omega,λrs hrs => ?_⟩;obtain ⟨i,hi⟩:=List.getElem?_of_mem hrs;obtain ⟨h1,h2⟩:=v.lev i rs hi;exact ⟨by omega,λr hr=>by have:=(h2 r hr).vl.len;omega⟩
theorem Jb : ∀ (ls:List (List B9)),(∀ rs∈ls,rs.length<=2)->(C5 ls).length<=2*ls.length
 | [],_=>by simp [C5]
 | rs::ls,h=>by
  have h1:=Jb ls λr hr=>h r (by simp [hr]);have h2:=h rs (by simp);unfold C5 at h1 ⊢;rw [List.flatMap_cons,List.length_append,List.length_reverse,List.length_cons];omega
theorem VLev.two {L:AQ} (v:VLev L) : ∀ rs∈L.2,rs.length<=2:=λrs hrs=>by
 obtain ⟨i,hi⟩:=List.getElem?_of_mem hrs;exact (v.lev i rs hi).1
theorem OX {L:AQ} (v:VLev L):Db L=some (C5 L.2,0):=by
 obtain ⟨hb,hr⟩:=v.small;have hl:=v.len;unfold Db;simp only [AX,AR];rw [UB _ hb hr,In v,AC,AN,if_pos rfl]
 rw [CY (l:=L.2) (σ:=List B9) (s:=(([]:List B9),(0:Int))) (λi m=>(m,(i:Int))) (λls i m=>(∀ rs∈ls,rs.length<=2)/\m.length<=2*i) (λls _ m=>(0,((m++C5 ls,(L.2.length:Int)),()))) [] rfl (by omega) ⟨v.two,by simp⟩ (λm _=>by
  simp only;rw [re,Av];simp [C5]) (λi rs ls m hd hx hi h=>by
   refine ⟨m++rs.reverse,?_,⟨λr hr=>h.1 r (by simp [hr]),by have:=h.1 rs (by simp);simp;omega⟩,by simp [C5]⟩;have h2:=h.1 rs (by simp);have hm:m.length<=24:=by have:=h.2;omega
   simp only;rw [rl hi,AM,AG,AJ hx];have gg : ∀ {β:Type} (z:List B9) (x:B9) (k:Unit->Option β),z.length<=100->gd (Bb (A3 z.length [x].length) 1048576) k=k ():=λz x k hz=>C3 (by simp only [A3,List.length_cons,List.length_nil];omega) k
   match rs,h2,hx with
   | [],_,hx =>
    refine BC (x:=(0,((m,-1),()))) (Dn (n:=1) (by omega) (Br rfl)) ?_;rw [Am hx (by omega)];simp
   | [r0],_,hx =>
    refine BC (x:=(0,((m++[r0],-1),()))) (Dn (n:=2) (by omega) ((BZ (s':=(m++[r0],-1)) ?_).trans (Br rfl))) ?_
    ·show br (IP (0:Int) 0) _ _=_;rw [Gt,if_pos (by omega),AG,AJ hx];refine (ET 0 rfl (x:=r0) rfl).trans ?_;rw [gg m _ _ (by omega)];rfl
    ·rw [Am hx (by omega)];simp
   | [r0,r1],_,hx =>
    refine BC (x:=(0,((m++[r1]++[r0],-1),()))) (Dn (n:=3) (by omega) ((BZ (s':=(m++[r1],0)) ?_).trans ((BZ (s':=(m++[r1]++[r0],-1)) ?_).trans (Br rfl)))) ?_
    ·show br (IP (1:Int) 0) _ _=_;rw [Gt,if_pos (by omega),AG,AJ hx];refine (ET 1 rfl (x:=r1) rfl).trans ?_;rw [gg m _ _ (by omega)];rfl
    ·show br (IP (0:Int) 0) _ _=_;rw [Gt,if_pos (by omega),AG,AJ hx];refine (ET 0 rfl (x:=r0) rfl).trans ?_;rw [gg (m++[r1]) _ _ (by simp;omega)];rfl
    ·rw [Am hx (by omega)];simp),AC]
 simp
theorem Ir (a b:Int):NK a b=max a b:=by unfold NK;split<;>omega
theorem E7 : ∀ (l:List B9) (m:Int),0<=m->l.foldl (λm r=>NK m r.1) m=max m (l.foldl (λm r=>NK m r.1) 0)
 | [],m,h=>by simp;omega
 | r::l,m,h=>by
  have h1:=E7 l (NK m r.1) (by rw [Ir];omega);have h2:=E7 l (NK 0 r.1) (by rw [Ir];omega);simp only [List.foldl_cons];rw [h1,h2,Ir,Ir];omega
theorem O2 (l:List B9) (m:Int) (h:0<=m):l.reverse.foldl (λm r=>NK m r.1) m=l.foldl (λm r=>NK m r.1) m:=by
 induction l generalizing m with
 | nil=>rfl
 | cons r l ih =>
  rw [List.reverse_cons,List.foldl_append,ih m h,List.foldl_cons];simp only [List.foldl_cons,List.foldl_nil];rw [E7 l m h,E7 l (NK m r.1) (by rw [Ir];omega),Ir,Ir];omega
theorem Q6 (l:List B9) (m:Int) (h:0<=m):0<=l.foldl (λm r=>NK m r.1) m:=by
 rw [E7 l m h];omega
theorem I0 : ∀ (ls:List (List B9)) (m:Int),0<=m->(C5 ls).foldl (λm r=>NK m r.1) m=ls.foldl (λm rs=>rs.foldl (λm r=>NK m r.1) m) m
 | [],m,_=>rfl
 | rs::ls,m,h=>by
  have h1:=I0 ls (rs.foldl (λm r=>NK m r.1) m) (Q6 _ _ h);unfold C5 at h1 ⊢;rw [List.flatMap_cons,List.foldl_append,O2 rs m h,List.foldl_cons,h1]
theorem Q7 {L:AQ} (v:VLev L):CB L=some (GG L.2):=by
 have hl:=v.len;have hn:=Jb L.2 v.two;unfold CB;simp only [AX,AR];rw [OX v,AC]
 rw [CY (l:=C5 L.2) (σ:=Int) (s:=((0:Int),(0:Int))) (λi m=>(m,(i:Int))) (λ_ _ _=>True) (λl _ m=>(0,((l.foldl (λm r=>NK m r.1) m,((C5 L.2).length:Int)),()))) 0 rfl (by omega) trivial (λm _=>by
  simp only;rw [re,Av];rfl) (λk r l m hd hx hk _=>⟨NK m r.1,by
   simp only
   rw [rl hk,AM,AG,AJ hx,Am hx (by omega)],trivial,rfl⟩),AC]
 rw [I0 _ _ (by omega)];rfl
theorem Vh {L:AQ} (hl:L.2.length<=1000):Ce L=some (BV 0 L.2):=by
 unfold Ce;simp only [AX,AR]
 rw [CY (l:=L.2) (σ:=List Int) (s:=(([]:List Int),(0:Int))) (λi m=>(m,(i:Int))) (λls i m=>m++BV i ls=BV 0 L.2) (λ_ _ _=>(0,((BV 0 L.2,(L.2.length:Int)),()))) [] rfl (by omega) rfl (λm h=>by
  simp only;rw [re,Av,<- h];simp [BV]) (λi rs ls m hd hx hi h=>by
   refine ⟨m++(if rs.length=2 then [(i:Int)] else []),?_,?_,rfl⟩
   ·simp only;rw [rl hi,AM,AG,AJ hx,Bg]
    have hm:m.length<=1000:=by
     have h4:=congrArg List.length h;have h5:=D4 L.2 0;rw [List.length_append] at h4;omega
    by_cases h4:rs.length=2
    ·rw [if_pos (by omega),if_pos h4,C3 (by simp only [A3,List.length_cons,List.length_nil];omega),Am hx (by omega)];rfl
    ·rw [if_neg (by omega),if_neg h4,List.append_nil,Am hx (by omega)]
   ·rw [List.append_assoc];exact h),AC]
theorem gL {L:AQ} (v:VLev L) (k:Int):HH (L,k)=some (if k<0\/k>=12 then 7 else 0):=by
 obtain ⟨hb,hr⟩:=v.small;unfold HH;rw [UB _ hb hr,In v,AC,Bg,if_pos rfl,BE,Gt];by_cases h1:k<0
 ·rw [if_pos h1,if_pos (.inl h1)]
 ·rw [if_neg h1];by_cases h2:k>=12
  ·rw [if_pos h2,if_pos (.inr h2)]
  ·rw [if_neg h2,if_neg (by omega)]
theorem UC {L:AQ} (v:VLev L) {n:Nat} (hn:n<L.2.length):Bj (L,(n:Int))=some (decide ((n:Int)=(L.2.length:Int)-1)):=by
 have hl:=v.len;unfold Bj GQ;simp only [AX,AR];rw [gL v,AC,if_neg (by omega),AN,if_pos rfl,AC,Ad (by omega)];unfold B0;rw [CQ];by_cases h:(n:Int)=(L.2.length:Int)-1
 ·simp [h]
 ·simp [h];omega
theorem UD {a b:List AH} (va:VL a) (vb:VL b) (bt:Bool):E4 ([a,b],bt)=some (Es a b bt 0,(0,0)):=by
 unfold E4 GR Cg;rw [K3 va vb,AC,AN,if_pos rfl];refine Eq.trans (b:=bd (bd (Cf ([a,b],[((0:Nat):Int),((0:Nat):Int)])) _) _) rfl ?_;rw [Iq va vb (Nat.zero_le _) (Nat.zero_le _)];rfl
theorem Wk {L:AQ} {n:Nat} {r0 r1:B9} (bt:Bool) (h:L.2[n]? = some [r0,r1]) (v0:VL r0.2) (v1:VL r1.2):A8 (L,((n:Int),bt))=some ((n:Int),Es r1.2 r0.2 bt 0):=by
 have hn:=(List.getElem?_eq_some_iff.1 h).1;unfold A8;simp only [AX,AR];rw [Gt,if_neg (by omega),AG,AJ h,AJ (x:=r1) rfl,AJ (x:=r0) rfl,UD v1 v0];rfl
theorem eZ {L:AQ} {n:Nat} {r0 r1:B9} {j:VW} (h:L.2[n]? = some [r0,r1]) (v0:VL r0.2) (v1:VL r1.2) {β:Type} (A B:Option β) :
  (bd (A8 (L,((n:Int),j.2.2.1.2.2))) λr16=>bd (A6 r16.2) λr17=>br (Aj j.2.2.2.2 0) (λ_=>A) λ_=>br (B0 j.2.2.2.2 r17.1) (λ_=>A) λ_=>bd (BK (r16.2,j.2.2.2.2)) λr18=>bd (BL (r18.1,j.2)) λr19=>br (AU r19) (λ_=>A) λ_=>B)
  = if j.2.2.2.2<0\/j.2.2.2.2>((r1.2.length+r0.2.length:Nat):Int) then A else if Es r1.2 r0.2 j.2.2.1.2.2 j.2.2.2.2.toNat=j.2 then B else A:=by
 rw [Wk _ h v0 v1,AC,K4 v1 v0 _ (Nat.zero_le _),AC,BE,Az,Nat.sub_zero];by_cases h1:j.2.2.2.2<0
 ·rw [if_pos h1,if_pos (.inl h1)]
 rw [if_neg h1];by_cases h2:j.2.2.2.2>((r1.2.length+r0.2.length:Nat):Int)
 ·rw [if_pos h2,if_pos (.inr h2)]
 rw [if_neg h2,if_neg (show ¬ (j.2.2.2.2<0\/j.2.2.2.2>((r1.2.length+r0.2.length:Nat):Int)) by omega)];obtain ⟨k,hk⟩ : ∃ k:Nat,j.2.2.2.2=(k:Int):=⟨j.2.2.2.2.toNat,by omega⟩;rw [hk,UA v1 v0 _ (Nat.zero_le _),AC,Nat.sub_zero,Nat.zero_add,Nat.min_eq_left (by omega),Int.toNat_natCast];obtain ⟨s1,s2,s3,s4,s5,s6⟩:=Pr v1 v0 j.2.2.1.2.2 (n:=k) (by omega);rw [Tw _ _ s1 s2 s3 s4 s5 s6,AC,CQ,Ca];by_cases he:Es r1.2 r0.2 j.2.2.1.2.2 k=j.2
 ·rw [if_neg (by simp [he]),if_pos he]
 ·rw [if_pos he,if_neg he]
end Go.Proofs.YthpkjfabdccpdaaGreat.Pl
namespace Go.Proofs.YthpkjfabdccpdaaGreat.Pl
open Go Go.Proofs.YthpkjfabdccpdaaGreat.Sv
theorem SX (s:BJ) (hb:s.1.2.length<=1048576) (hr : ∀ rs∈s.1.2,rs.length<=1048576 /\ ∀ r∈rs,r.2.length<=9223372036854775807) (hj:s.2.1.length<=1048576):DH s=some (AZ s):=by
 unfold DH AZ;simp only [AX,AR];rw [UB _ hb hr,AC,Bg];by_cases h0:(C4 s.1).2.2=0;rotate_left
 ·rw [if_neg h0,if_pos h0,Bg,if_neg h0,AN,if_neg h0]
 rw [if_pos h0,if_neg (show ¬ (C4 s.1).2.2≠0 by simp [h0]),BE,Az];have v:=GZ.1 h0;by_cases h1:s.2.2<1
 ·rw [if_pos h1,if_pos (.inl h1)]
 rw [if_neg h1];by_cases h2:s.2.2>1000001
 ·rw [if_pos h2,if_pos (.inr h2)]
 rw [if_neg h2,if_neg (show ¬ (s.2.2<1\/s.2.2>1000001) by omega),Bg,if_pos h0,Q7 v,AC,Yj];by_cases h3:s.2.2<=GG s.1.2
 ·rw [if_pos h3,if_pos h3]
 rw [if_neg h3,if_neg h3,AN,if_pos h0,Vh (by have:=v.len;omega),AC];obtain ⟨due,hdue⟩ : ∃ due,due=BV 0 s.1.2:=⟨_,rfl⟩;have hdl:due.length<=12:=by have:=D4 s.1.2 0;have:=v.len;rw [hdue];omega
 rw [<- hdue];obtain ⟨T,hT⟩ : ∃ T,T=FP s.1 due 0 s.2.1:=⟨_,rfl⟩;rw [<- hT]
 obtain ⟨r,q1,q2⟩:=FO (l:=s.2.1) (σ:=Unit) (λi _=>((0:Int),((0:Int),(i:Int)))) (λjs i _=>FP s.1 due i js=T) (λ(r:Nat×((Int×(Int×Int))×Unit))=>(T=none/\r.1=1)\/(∃ i:Nat,T=some i/\r.1=0/\r.2.1.1=6/\r.2.1.2.1=(i:Int)))
  (f:=λs6=>br (Aj s6.2.2 (s.2.1.length:Int)) (λ_=>AS s6.2.2 λk7=>ix s.2.1 k7 λx8=>br (IP s6.2.2 (due.length:Int)) (λ_=>some (.dn ((0,((6,(s6.2.2,s6.2.2)),()))))) λ_=>AS s6.2.2 λk9=>ix due k9 λx10=>br (BF x8.1 x10) (λ_=>some (.dn ((0,((6,(s6.2.2,s6.2.2)),()))))) λ_=>br x8.2.2.1.2.2 (λ_=>bd (Bj (s.1,x8.1)) λr11=>br (AU r11) (λ_=>some (.dn ((0,((6,(s6.2.2,s6.2.2)),()))))) λ_=>bd (A8 ((s.1,(x8.1,x8.2.2.1.2.2)))) λr12=>bd (A6 r12.2) λr13=>br (Aj x8.2.2.2.2 0) (λ_=>some (.dn ((0,((6,(s6.2.2,s6.2.2)),()))))) λ_=>br (B0 x8.2.2.2.2 r13.1) (λ_=>some (.dn ((0,((6,(s6.2.2,s6.2.2)),()))))) λ_=>bd (BK (r12.2,x8.2.2.2.2)) λr14=>bd (BL (r14.1,x8.2)) λr15=>br (AU r15) (λ_=>some (.dn ((0,((6,(s6.2.2,s6.2.2)),()))))) λ_=>some (.nx ((s6.1,(s6.2.1,AF .i64 s6.2.2 1))))) λ_=>bd (A8 ((s.1,(x8.1,x8.2.2.1.2.2)))) λr16=>bd (A6 r16.2) λr17=>br (Aj x8.2.2.2.2 0) (λ_=>some (.dn ((0,((6,(s6.2.2,s6.2.2)),()))))) λ_=>br (B0 x8.2.2.2.2 r17.1) (λ_=>some (.dn ((0,((6,(s6.2.2,s6.2.2)),()))))) λ_=>bd (BK (r16.2,x8.2.2.2.2)) λr18=>bd (BL (r18.1,x8.2)) λr19=>br (AU r19) (λ_=>some (.dn ((0,((6,(s6.2.2,s6.2.2)),()))))) λ_=>some (.nx ((s6.1,(s6.2.1,AF .i64 s6.2.2 1))))) λ_=>some (.dn ((1,(s6,())))))
  (s:=(0,(0,0))) () rfl (by omega) hT.symm (λ_ h=>by
   refine ⟨_,by simp only;rw [re];rfl,.inl ⟨by rw [<- h];rfl,rfl⟩⟩) (λi j js _ hd hx hi h=>by
   simp only;rw [rl hi,AM,AG,AJ hx,Gt];unfold FP at h
   have hbad:KF s.1 due i j=true -> ∃ r:Nat×((Int×(Int×Int))×Unit),(some (LR.dn ((0,((6,((i:Int),(i:Int))),()))):LR (Int×(Int×Int)) _))=some (.dn r)/\((T=none/\r.1=1)\/(∃ i:Nat,T=some i/\r.1=0/\r.2.1.1=6/\r.2.1.2.1=(i:Int))):=λhb=>by
    rw [if_pos hb] at h;exact ⟨_,rfl,.inr ⟨i,h.symm,rfl,rfl,rfl⟩⟩
   have hgood:KF s.1 due i j=false -> ∃ st':Unit,(some (LR.nx ((0:Int),((0:Int),AF .i64 (i:Int) 1))):Option (LR _ (Nat×((Int×(Int×Int))×Unit))))=some (.nx ((0:Int),((0:Int),((i+1:Nat):Int))))/\FP s.1 due (i+1) js=T:=λhg=>by
    rw [if_neg (by simp [hg])] at h;exact ⟨(),by rw [Am hx (by omega)],h⟩
   by_cases h1:(i:Int)>=(due.length:Int)
   ·rw [if_pos h1];exact .inr (hbad (by unfold KF;rw [List.getElem?_eq_none (by omega)]))
   rw [if_neg h1,AG];have hd2:due[i]? = some (due[i]'(by omega)):=by simp
   rw [AJ hd2,AN];obtain ⟨n,hn,r0,r1,hlv⟩:=IF (ls:=s.1.2) (i:=0) (k:=i) (d:=due[i]'(by omega)) (by rw [<- hdue];exact hd2);rw [Nat.zero_add] at hn
   have hE:KF s.1 due i j=(if j.1≠(due[i]'(by omega)) then true else if j.2.2.1.2.2=true/\j.1≠(s.1.2.length:Int)-1 then true else if j.2.2.2.2<0\/j.2.2.2.2>((r1.2.length+r0.2.length:Nat):Int) then true else decide (Es r1.2 r0.2 j.2.2.1.2.2 j.2.2.2.2.toNat≠j.2)):=by
    unfold KF;rw [hd2];simp only;rw [hn,Int.toNat_natCast,hlv]
   by_cases h2:j.1=(due[i]'(by omega));rotate_left
   ·rw [if_neg h2];exact .inr (hbad (by rw [hE,if_pos h2]))
   rw [if_pos h2];rw [if_neg (by simp [h2])] at hE;have hjn:j.1=(n:Int):=by rw [h2,hn]
   have hv:=(v.lev n _ hlv).2;have v0:=(hv r0 (by simp)).vl;have v1:=(hv r1 (by simp)).vl;have hnl:=(List.getElem?_eq_some_iff.1 hlv).1;rw [hjn,UC v hnl,AC,CQ,Ca,eZ hlv v0 v1,GX];rw [hjn] at hE;by_cases h3:j.2.2.1.2.2=true/\(n:Int)≠(s.1.2.length:Int)-1
   ·rw [if_pos h3.1,if_pos h3.2];exact .inr (hbad (by rw [hE,if_pos h3]))
   rw [if_neg h3] at hE
   have h4 : ∀ {γ:Type} (A B:γ),(if j.2.2.1.2.2=true then if ¬(n:Int)=(s.1.2.length:Int)-1 then A else B else B)=B:=by
    intro γ A B;by_cases h5:j.2.2.1.2.2=true
    ·rw [if_pos h5,if_neg (λh6=>h3 ⟨h5,h6⟩)]
    ·rw [if_neg h5]
   rw [h4];by_cases h5:j.2.2.2.2<0\/j.2.2.2.2>((r1.2.length+r0.2.length:Nat):Int)
   ·rw [if_pos h5];exact .inr (hbad (by rw [hE,if_pos h5]))
   rw [if_neg h5];rw [if_neg h5] at hE;by_cases h6:Es r1.2 r0.2 j.2.2.1.2.2 j.2.2.2.2.toNat=j.2
   ·rw [if_pos h6];exact .inl (hgood (by rw [hE];simp [h6]))
   ·rw [if_neg h6]
    exact .inr (hbad (by rw [hE];simp [h6])))
 refine BC q1 ?_;rw [Ar];rcases q2 with ⟨q2,q3⟩ | ⟨i,q2,q3,q4,q5⟩
 ·rw [if_neg (show ¬ r.1=0 by omega),q2,BE];simp only;by_cases h7:s.2.1.length<due.length
  ·rw [if_pos (by omega),if_pos h7]
  ·rw [if_neg (by omega),if_neg h7]
 ·rw [if_pos q3,q2,q4,q5]
end Go.Proofs.YthpkjfabdccpdaaGreat.Pl
