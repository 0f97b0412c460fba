/- Functions of the program and of the specification as plain functions, and laws about them. No condition. -/
import Derived.Test.YthpkjfabdccpdaaGreatPs3
set_option linter.all false
namespace Go.Proofs.YthpkjfabdccpdaaGreat.Pl
open Go Go.Proofs.YthpkjfabdccpdaaGreat.Sv
set_option linter.unusedVariables false
abbrev AH:=((List UInt8)×((List UInt8)×(Bool×Int)))
abbrev B9:=(Int×(List AH))
abbrev AQ:=(Int×(List (List B9)))
abbrev AP:=((List UInt8)×Bool)
abbrev Dm:=((List AP)×((List Int)×Int))
abbrev AW:=((List (List AH))×((List Int)×Dm))
abbrev CE:=(Bool×((List UInt8)×Bool))
abbrev If:=(AW×(CE×((List AH)×Int)))
abbrev VW:=(Int×If)
abbrev BJ:=(AQ×((List VW)×Int))
abbrev Ha:=(B9×BJ)
def Eg (x:(List UInt8)):Option Int :=
 br (B0 (Aa (Eu x)) 32) (λ_=>some 3) λ_=>some 0
def Bm (x:AH):Option Int :=
 bd (Eg x.1) λr0=>br (BF r0 0) (λ_=>some 3) λ_=>br (B0 (Aa (Eu x.2.1)) 64) (λ_=>some 3) λ_=>br x.2.2.1 (λ_=>br (AU (seq x.2.1 [])) (λ_=>some 6) λ_=>br (Aj x.2.2.2 1) (λ_=>some 7) λ_=>br (B0 x.2.2.2 1000000000) (λ_=>some 7) λ_=>some 0) λ_=>br (Aj x.2.2.2 1) (λ_=>some 7) λ_=>br (B0 x.2.2.2 1000000000) (λ_=>some 7) λ_=>some 0
def A7 (x:(List AH)):Option (Int×Int) :=
 br (B0 (Aa (AA x)) 5000) (λ_=>some (((-1),3))) λ_=>bd (loop (λs0=>br (Aj s0.2.2 (Aa (AA x))) (λ_=>AS s0.2.2 λk1=>ix x k1 λx2=>bd (Bm x2) λr3=>br (BF r3 0) (λ_=>some (.dn ((0,((r3,(s0.2.2,s0.2.2)),()))))) λ_=>br (B0 s0.2.2 0) (λ_=>AS (Bp .i64 s0.2.2 1) λk4=>ix x k4 λx5=>br (AU (Ct x5.1 x2.1)) (λ_=>some (.dn ((0,((6,(s0.2.2,s0.2.2)),()))))) λ_=>some (.nx ((s0.1,(s0.2.1,AF .i64 s0.2.2 1))))) λ_=>some (.nx ((s0.1,(s0.2.1,AF .i64 s0.2.2 1))))) λ_=>some (.dn ((1,(s0,()))))) ((0,(0,0)))) λr6=>br (neq r6.1 0) (λ_=>some (r6.2.1.2.1,r6.2.1.1)) λ_=>some (0,0)
def Fi (x:B9):Option (Int×Int) :=
 br (Aj x.1 1) (λ_=>some (((-1),7))) λ_=>br (B0 x.1 1000000) (λ_=>some (((-1),7))) λ_=>bd (A7 x.2) λr0=>some r0
def C9 (x:(B9×Int)):Option Int :=
 bd (Fi x.1) λr0=>br (BF r0.2 0) (λ_=>some r0.2) λ_=>br (CA (Aa (AA x.1.2)) 0) (λ_=>some 4) λ_=>br (B0 (Aa (AA x.1.2)) x.2) (λ_=>some 3) λ_=>some 0
def DV (x:AQ):Option (Int×(Int×Int)) :=
 br (Aj x.1 1) (λ_=>some ((0,(0,7)))) λ_=>br (B0 x.1 16) (λ_=>some ((0,(0,7)))) λ_=>br (B0 (Aa (AA x.2)) 12) (λ_=>some ((0,(0,3)))) λ_=>bd (loop (λs0=>br (Aj s0.2.2.2.1 (Aa (AA x.2))) (λ_=>AS s0.2.2.2.1 λk1=>ix x.2 k1 λx2=>br (B0 (Aa (AA x2)) 2) (λ_=>some (.dn ((0,((0,(s0.2.2.2.1,(3,s0.2.2.2))),()))))) λ_=>bd (loop (λs3=>br (Aj s3.2.1 (Aa (AA x2))) (λ_=>AS s3.2.1 λk4=>ix x2 k4 λx5=>gd (IP s0.2.2.2.1 0) λ_=>bd (C9 (x5,LW .i64 x.1 s0.2.2.2.1)) λr6=>br (CA r6 0) (λ_=>br (Rl (NB ((λa7=>(λa8=>CA a7 a8))) s3.2.2.2 x5.1) false) (λ_=>some (.dn ((0,((s3.2.1,(s3.2.1,(8,s3.2.2.2))),()))))) λ_=>br (BF r6 0) (λ_=>some (.dn ((0,((s3.2.1,(s3.2.1,(r6,s3.2.2.2))),()))))) λ_=>some (.nx ((s3.2.1,(AF .i64 s3.2.1 1,(r6,IH ((λa9=>(λa10=>CA a9 a10))) s3.2.2.2 x5.1 true)))))) λ_=>br (BF r6 0) (λ_=>some (.dn ((0,((s3.2.1,(s3.2.1,(r6,s3.2.2.2))),()))))) λ_=>some (.nx ((s3.2.1,(AF .i64 s3.2.1 1,(r6,IH ((λa11=>(λa12=>CA a11 a12))) s3.2.2.2 x5.1 true)))))) λ_=>some (.dn ((1,(s3,()))))) ((0,(0,(s0.2.2.1,s0.2.2.2.2))))) λr13=>br (neq r13.1 0) (λ_=>some (.dn ((0,((r13.2.1.1,(s0.2.2.2.1,(r13.2.1.2.2.1,(s0.2.2.2.1,r13.2.1.2.2.2)))),()))))) λ_=>some (.nx ((r13.2.1.1,(s0.2.2.2.1,(r13.2.1.2.2.1,(AF .i64 s0.2.2.2.1 1,r13.2.1.2.2.2))))))) λ_=>some (.dn ((0,(s0,()))))) ((0,(0,(0,(0,[])))))) λr14=>br (BF r14.2.1.2.2.1 0) (λ_=>some ((r14.2.1.2.1,(r14.2.1.1,r14.2.1.2.2.1)))) λ_=>br (B0 (Aa (AA x.2)) 0) (λ_=>AS (Bp .i64 (Aa (AA x.2)) 1) λk15=>ix x.2 k15 λx16=>br (CA (Aa (AA x16)) 0) (λ_=>some ((Bp .i64 (Aa (AA x.2)) 1,(0,6)))) λ_=>some ((0,(0,0)))) λ_=>some ((0,(0,0)))
def Dx (x:AQ):Option Int :=
 bd (loop (λs0=>br (Aj s0.2 (Aa (AA x.2))) (λ_=>AS s0.2 λk1=>ix x.2 k1 λx2=>bd (loop (λs3=>br (Aj s3.1 (Aa (AA x2))) (λ_=>AS s3.1 λk4=>ix x2 k4 λx5=>some (.nx (AF .i64 s3.1 1,NK s3.2 x5.1))) λ_=>some (.dn ((0,(s3,()))))) (0,s0.1)) λr6=>some (.nx (r6.2.1.2,AF .i64 s0.2 1))) λ_=>some (.dn ((0,(s0,()))))) (0,0)) λr7=>some r7.2.1.1
def E0 (x:(AQ×Int)):Option Bool :=
 some (CA x.2 (Bp .i64 (Aa (AA x.1.2)) 1))
def DA (x:(List (List AH))):Option (Int×Int) :=
 br (CA (Aa (AA x)) 0) (λ_=>some (((-1),6))) λ_=>br (B0 (Aa (AA x)) 32) (λ_=>some (((-1),3))) λ_=>bd (loop (λs0=>br (Aj s0.2.2 (Aa (AA x))) (λ_=>AS s0.2.2 λk1=>ix x k1 λx2=>bd (A7 x2) λr3=>br (BF r3.2 0) (λ_=>some (.dn ((0,((r3.2,(s0.2.2,s0.2.2)),()))))) λ_=>some (.nx ((s0.1,(s0.2.1,AF .i64 s0.2.2 1))))) λ_=>some (.dn ((1,(s0,()))))) ((0,(0,0)))) λr4=>br (neq r4.1 0) (λ_=>some (r4.2.1.2.1,r4.2.1.1)) λ_=>some (0,0)
def CJ (x:Bool):Option (Bool×AP) :=
 some ((false,([],x)))
def Ag (x:(List (List AH))):Option (List (List AH)) :=
 gd (Bb (AA x) 1048576) λ_=>some x
def BB (x:((List AH)×Int)):Option AP :=
 br (CA x.2 (Aa (AA x.1))) (λ_=>some ([],true)) λ_=>AS x.2 λk0=>ix x.1 k0 λx1=>some (x1.1,false)
def Cw (x:AP):Option Bool :=
 br x.2 (λ_=>some (AU (seq x.1 []))) λ_=>some false
def DB (x:(List AP)):Option Int :=
 br (CA (Aa (AA x)) 0) (λ_=>some 6) λ_=>br (B0 (Aa (AA x)) 32) (λ_=>some 3) λ_=>bd (loop (λs0=>br (Aj s0.2 (Aa (AA x))) (λ_=>AS s0.2 λk1=>ix x k1 λx2=>bd (Cw x2) λr3=>br r3 (λ_=>some (.dn ((0,((s0.2,s0.2),()))))) λ_=>some (.nx (s0.1,AF .i64 s0.2 1))) λ_=>some (.dn ((1,(s0,()))))) (0,0)) λr4=>br (neq r4.1 0) (λ_=>br (IP r4.2.1.1 0) (λ_=>some 2) λ_=>some 0) λ_=>br (IP (-1) 0) (λ_=>some 2) λ_=>some 0
def Ah (x:(List AP)):Option (List AP) :=
 gd (Bb (AA x) 1048576) λ_=>some x
def Eh (x:(List AP)):Option Dm :=
 AS (HL .i64 2 (Aa (AA x))) λk0=>AS (HL .i64 2 (Aa (AA x))) λk1=>gd (Bb k1 1048576) λ_=>bd (Ah x) λr2=>AS (Aa (AA x)) λk3=>AS (Aa (AA x)) λk4=>gd (Bb k4 1048576) λ_=>bd (loop (λs5=>br (B0 s5.1 0) (λ_=>br (IP s5.1 (Aa (AA x))) (λ_=>AS s5.1 λk6=>gd (D9 k6 (AA s5.2.1)) λ_=>ix s5.2.1 k6 λx7=>some (.nx ((Bp .i64 s5.1 1,(lset s5.2.1 k6 (Bp .i64 s5.1 (Aa (AA x))),s5.2.2))))) λ_=>AS (HL .i64 2 s5.1) λk8=>gd (D9 k8 (AA s5.2.1)) λ_=>ix s5.2.1 k8 λx9=>AS (AF .i64 (HL .i64 2 s5.1) 1) λk10=>gd (D9 k10 (AA s5.2.1)) λ_=>ix s5.2.1 k10 λx11=>AS x9 λk12=>ix x k12 λx13=>AS x11 λk14=>ix x k14 λx15=>br (AU (beq x13.2 x15.2)) (λ_=>br (AU x15.2) (λ_=>AS s5.1 λk16=>gd (D9 k16 (AA s5.2.1)) λ_=>ix s5.2.1 k16 λx17=>AS s5.1 λk18=>gd (D9 k18 (AA s5.2.2.2.1)) λ_=>ix s5.2.2.2.1 k18 λx19=>some (.nx ((Bp .i64 s5.1 1,(lset s5.2.1 k16 x11,(s5.2.2.1,(lset s5.2.2.2.1 k18 x9,s5.2.2.2.2))))))) λ_=>AS s5.1 λk20=>gd (D9 k20 (AA s5.2.1)) λ_=>ix s5.2.1 k20 λx21=>AS s5.1 λk22=>gd (D9 k22 (AA s5.2.2.2.1)) λ_=>ix s5.2.2.2.1 k22 λx23=>some (.nx ((Bp .i64 s5.1 1,(lset s5.2.1 k20 x9,(s5.2.2.1,(lset s5.2.2.2.1 k22 x11,s5.2.2.2.2))))))) λ_=>br (AU (seq x13.1 x15.1)) (λ_=>br (AU (Ct x13.1 x15.1)) (λ_=>AS s5.1 λk24=>gd (D9 k24 (AA s5.2.1)) λ_=>ix s5.2.1 k24 λx25=>AS s5.1 λk26=>gd (D9 k26 (AA s5.2.2.2.1)) λ_=>ix s5.2.2.2.1 k26 λx27=>some (.nx ((Bp .i64 s5.1 1,(lset s5.2.1 k24 x11,(s5.2.2.1,(lset s5.2.2.2.1 k26 x9,s5.2.2.2.2))))))) λ_=>AS s5.1 λk28=>gd (D9 k28 (AA s5.2.1)) λ_=>ix s5.2.1 k28 λx29=>AS s5.1 λk30=>gd (D9 k30 (AA s5.2.2.2.1)) λ_=>ix s5.2.2.2.1 k30 λx31=>some (.nx ((Bp .i64 s5.1 1,(lset s5.2.1 k28 x9,(s5.2.2.1,(lset s5.2.2.2.1 k30 x11,s5.2.2.2.2))))))) λ_=>br (AU (Aj x9 x11)) (λ_=>AS s5.1 λk32=>gd (D9 k32 (AA s5.2.1)) λ_=>ix s5.2.1 k32 λx33=>AS s5.1 λk34=>gd (D9 k34 (AA s5.2.2.2.1)) λ_=>ix s5.2.2.2.1 k34 λx35=>some (.nx ((Bp .i64 s5.1 1,(lset s5.2.1 k32 x11,(s5.2.2.1,(lset s5.2.2.2.1 k34 x9,s5.2.2.2.2))))))) λ_=>AS s5.1 λk36=>gd (D9 k36 (AA s5.2.1)) λ_=>ix s5.2.1 k36 λx37=>AS s5.1 λk38=>gd (D9 k38 (AA s5.2.2.2.1)) λ_=>ix s5.2.2.2.1 k38 λx39=>some (.nx ((Bp .i64 s5.1 1,(lset s5.2.1 k36 x9,(s5.2.2.1,(lset s5.2.2.2.1 k38 x11,s5.2.2.2.2))))))) λ_=>some (.dn ((0,(s5,()))))) ((Bp .i64 (HL .i64 2 (Aa (AA x))) 1,(IQ k1 0,(r2,(IQ k4 0,(0:Int))))))) λr40=>gd (D9 1 (AA r40.2.1.2.1)) λ_=>ix r40.2.1.2.1 1 λx41=>some ((r40.2.1.2.2.1,(r40.2.1.2.2.2.1,x41)))
def CF (x:(List AP)):Option (Dm×Int) :=
 bd (DB x) λr0=>br (BF r0 0) (λ_=>some ((([],([],0)),r0))) λ_=>bd (Eh x) λr1=>some (r1,0)
def EN (x:((List (List AH))×Bool)):Option ((AW×((Bool×AP)×((List AH)×Int)))×(Int×Int)) :=
 bd (DA x.1) λr0=>br (BF r0.2 0) (λ_=>br (BF r0.2 0) (λ_=>some (((([],([],([],([],0)))),((false,([],false)),([],0))),r0))) λ_=>bd (CJ x.2) λr1=>some (((([],([],([],([],0)))),(r1,([],0))),(0,0)))) λ_=>AS (Aa (AA x.1)) λk2=>AS (Aa (AA x.1)) λk3=>gd (Bb k3 1048576) λ_=>bd (Ag x.1) λr4=>AS (Aa (AA x.1)) λk5=>AS (Aa (AA x.1)) λk6=>gd (Bb k6 1048576) λ_=>bd (loop (λs7=>br (Aj s7.1 (Aa (AA x.1))) (λ_=>AS s7.1 λk8=>ix x.1 k8 λx9=>AS s7.1 λk10=>gd (D9 k10 (AA (IQ k3 (0:Int)))) λ_=>ix (IQ k3 0) k10 λx11=>bd (BB (x9,x11)) λr12=>AS s7.1 λk13=>gd (D9 k13 (AA s7.2)) λ_=>ix s7.2 k13 λx14=>some (.nx (AF .i64 s7.1 1,lset s7.2 k13 r12))) λ_=>some (.dn ((0,(s7,()))))) ((0,IQ k6 ([],false)))) λr15=>bd (CF r15.2.1.2) λr16=>bd (CJ x.2) λr17=>some ((((r4,(IQ k3 0,r16.1)),(r17,([],0))),(0,0)))
def CZ (x:(AQ×(Int×Bool))):Option (Int×(AW×((Bool×AP)×((List AH)×Int)))) :=
 AS x.2.1 λk0=>ix x.1.2 k0 λx1=>ix x1 1 λx2=>ix x1 0 λx3=>bd (EN ([x2.2,x3.2],x.2.2)) λr4=>some (x.2.1,r4.1)
def Fj (x:((List (List AH))×(List Int))):Option Dm :=
 AS (Aa (AA x.1)) λk0=>AS (Aa (AA x.1)) λk1=>gd (Bb k1 1048576) λ_=>bd (loop (λs2=>br (Aj s2.1 (Aa (AA x.1))) (λ_=>AS s2.1 λk3=>ix x.1 k3 λx4=>AS s2.1 λk5=>ix x.2 k5 λx6=>bd (BB (x4,x6)) λr7=>AS s2.1 λk8=>gd (D9 k8 (AA s2.2)) λ_=>ix s2.2 k8 λx9=>some (.nx (AF .i64 s2.1 1,lset s2.2 k8 r7))) λ_=>some (.dn ((0,(s2,()))))) ((0,IQ k1 ([],false)))) λr10=>bd (CF r10.2.1.2) λr11=>some r11.1
def Ai (x:((List AP)×(List AP))):Option Bool :=
 br (BF (Aa (AA x.1)) (Aa (AA x.2))) (λ_=>some false) λ_=>bd (loop (λs0=>br (Aj s0.1 (Aa (AA x.1))) (λ_=>AS s0.1 λk1=>ix x.1 k1 λx2=>AS s0.1 λk3=>ix x.2 k3 λx4=>br (AU (Bf (seq x2.1 x4.1) (Bf (beq x2.2 x4.2) true))) (λ_=>some (.dn ((0,((s0.1,false),()))))) λ_=>some (.nx (AF .i64 s0.1 1,s0.2))) λ_=>some (.dn ((1,(s0,()))))) (0,false)) λr5=>br (neq r5.1 0) (λ_=>some r5.2.1.2) λ_=>some true
def Ac (x:((List Int)×(List Int))):Option Bool :=
 br (BF (Aa (AA x.1)) (Aa (AA x.2))) (λ_=>some false) λ_=>bd (loop (λs0=>br (Aj s0.1 (Aa (AA x.1))) (λ_=>AS s0.1 λk1=>ix x.1 k1 λx2=>AS s0.1 λk3=>ix x.2 k3 λx4=>br (BF x2 x4) (λ_=>some (.dn ((0,((s0.1,false),()))))) λ_=>some (.nx (AF .i64 s0.1 1,s0.2))) λ_=>some (.dn ((1,(s0,()))))) (0,false)) λr5=>br (neq r5.1 0) (λ_=>some r5.2.1.2) λ_=>some true
def D3 (x:(Dm×Dm)):Option Bool :=
 br (CA x.1.2.2 x.2.2.2) (λ_=>bd (Ai (x.1.1,x.2.1)) λr0=>br r0 (λ_=>bd (Ac (x.1.2.1,x.2.2.1)) λr1=>some r1) λ_=>some false) λ_=>some false
def E1 (x:Dm):Option (Int×Int) :=
 bd (DB x.1) λr0=>br (BF r0 0) (λ_=>some (0,r0)) λ_=>br (BF (Aa (AA x.2.1)) (Aa (AA x.1))) (λ_=>some (0,6)) λ_=>bd (Eh x.1) λr1=>bd (loop (λs2=>br (Aj s2.2.1 (Aa (AA r1.2.1))) (λ_=>AS s2.2.1 λk3=>ix r1.2.1 k3 λx4=>AS s2.2.1 λk5=>ix x.2.1 k5 λx6=>br (BF x6 x4) (λ_=>some (.dn ((0,((6,(s2.2.1,s2.2.1)),()))))) λ_=>some (.nx ((s2.1,(AF .i64 s2.2.1 1,s2.2.2))))) λ_=>some (.dn ((1,(s2,()))))) ((0,(0,0)))) λr7=>br (neq r7.1 0) (λ_=>some (r7.2.1.2.2,r7.2.1.1)) λ_=>br (BF x.2.2 r1.2.2) (λ_=>some (0,6)) λ_=>some (0,0)
def Ei (x:Dm):Option Int :=
 bd (E1 x) λr0=>br (BF r0.2 0) (λ_=>some r0.2) λ_=>AS x.2.2 λk1=>ix x.1 k1 λx2=>br x2.2 (λ_=>some 12) λ_=>some 0
def CK (x:Dm):Option (Int×((List UInt8)×Int)) :=
 bd (Ei x) λr0=>br (BF r0 0) (λ_=>some ((0,([],r0)))) λ_=>AS x.2.2 λk1=>ix x.1 k1 λx2=>some ((x.2.2,(x2.1,0)))
def Cm (x:(List UInt8)):Option Bool :=
 some (AU (seq x x))
def CL (x:((List UInt8)×(List UInt8))):Option Int :=
 bd (Cm x.1) λr0=>bd (Cm x.2) λr1=>br r0 (λ_=>br r1 (λ_=>some 0) λ_=>some (-1)) λ_=>br r1 (λ_=>some 1) λ_=>br (Ct x.1 x.2) (λ_=>some (-1)) λ_=>br (Ct x.2 x.1) (λ_=>some 1) λ_=>some 0
def Dy (x:Int):Option Bool :=
 some (BF x x)
def B3 (x:(Int×Int)):Option Int :=
 bd (Dy x.1) λr0=>bd (Dy x.2) λr1=>br r0 (λ_=>br r1 (λ_=>some 0) λ_=>some (-1)) λ_=>br r1 (λ_=>some 1) λ_=>br (Aj x.1 x.2) (λ_=>some (-1)) λ_=>br (B0 x.1 x.2) (λ_=>some 1) λ_=>some 0
def Fk (x:(List Int)):Option Int :=
 bd (loop (λs0=>br (Aj s0.2 (Aa (AA x))) (λ_=>AS s0.2 λk1=>ix x k1 λx2=>br (BF x2 0) (λ_=>some (.dn ((0,((x2,s0.2),()))))) λ_=>some (.nx (s0.1,AF .i64 s0.2 1))) λ_=>some (.dn ((1,(s0,()))))) (0,0)) λr3=>br (neq r3.1 0) (λ_=>some r3.2.1.1) λ_=>some 0
def DC (x:AW):Option (Int×Int) :=
 bd (DA x.1) λr0=>br (BF r0.2 0) (λ_=>some r0) λ_=>br (BF (Aa (AA x.2.1)) (Aa (AA x.1))) (λ_=>some (((-1),6))) λ_=>bd (loop (λs1=>br (Aj s1.2.2 (Aa (AA x.2.1))) (λ_=>AS s1.2.2 λk2=>ix x.2.1 k2 λx3=>br (Aj x3 0) (λ_=>some (.dn ((0,((6,(s1.2.2,s1.2.2)),()))))) λ_=>AS s1.2.2 λk4=>ix x.1 k4 λx5=>br (B0 x3 (Aa (AA x5))) (λ_=>some (.dn ((0,((6,(s1.2.2,s1.2.2)),()))))) λ_=>some (.nx ((s1.1,(s1.2.1,AF .i64 s1.2.2 1))))) λ_=>some (.dn ((1,(s1,()))))) ((0,(0,0)))) λr6=>br (neq r6.1 0) (λ_=>some (r6.2.1.2.1,r6.2.1.1)) λ_=>bd (Fj (x.1,x.2.1)) λr7=>bd (D3 (x.2.2,r7)) λr8=>br (AU r8) (λ_=>some (((-1),6))) λ_=>bd (CK x.2.2) λr9=>br (BF r9.2.2 0) (λ_=>some (0,0)) λ_=>bd (loop (λs10=>br (Aj s10.2.2 (Aa (AA x.2.1))) (λ_=>AS s10.2.2 λk11=>ix x.2.1 k11 λx12=>br (B0 x12 0) (λ_=>AS s10.2.2 λk13=>ix x.1 k13 λx14=>AS (Bp .i64 x12 1) λk15=>ix x14 k15 λx16=>bd (CL (x16.1,r9.2.1)) λr17=>bd (B3 (s10.2.2,r9.1)) λr18=>bd (Fk ([r17,r18])) λr19=>br (B0 r19 0) (λ_=>some (.dn ((0,((6,(r9.1,s10.2.2)),()))))) λ_=>some (.nx ((s10.1,(s10.2.1,AF .i64 s10.2.2 1))))) λ_=>some (.nx ((s10.1,(s10.2.1,AF .i64 s10.2.2 1))))) λ_=>some (.dn ((1,(s10,()))))) ((r9.2.2,(r6.2.1.2.1,0)))) λr20=>br (neq r20.1 0) (λ_=>some (r20.2.1.2.1,r20.2.1.1)) λ_=>some (0,0)
def As (x:(List Int)):Option (List Int) :=
 gd (Bb (AA x) 1048576) λ_=>some x
def BP (x:(Int×(Int×((List AP)×Unit)))):Option Bool :=
 AS x.1 λk0=>ix x.2.2.1 k0 λx1=>AS x.2.1 λk2=>ix x.2.2.1 k2 λx3=>br (AU (beq x1.2 x3.2)) (λ_=>some x3.2) λ_=>br (AU (seq x1.1 x3.1)) (λ_=>some (Ct x1.1 x3.1)) λ_=>some (Aj x.1 x.2.1)
def B5 (x:(Dm×AP)):Option (Dm×(Int×Int)) :=
 bd (Ei x.1) λr0=>br (BF r0 0) (λ_=>some ((([],([],0)),(0,r0)))) λ_=>bd (DB [x.2]) λr1=>br (BF r1 0) (λ_=>some ((([],([],0)),(0,r1)))) λ_=>br (AU x.2.2) (λ_=>AS x.1.2.2 λk2=>ix x.1.1 k2 λx3=>br (Ct x.2.1 x3.1) (λ_=>some ((([],([],0)),(0,6)))) λ_=>bd (Ah x.1.1) λr4=>bd (As x.1.2.1) λr5=>AS x.1.2.2 λk6=>gd (D9 k6 (AA r4)) λ_=>ix r4 k6 λx7=>bd (loop (λs8=>br (CA (HM .i64 s8.2.1 2) 0) (λ_=>some (.dn ((0,((s8.1,(HM .i64 s8.2.1 2,((),s8.2.2.2))),()))))) λ_=>AS (HM .i64 s8.2.1 2) λk9=>gd (D9 k9 (AA s8.2.2.2.1)) λ_=>ix s8.2.2.2.1 k9 λx10=>bd (BP ((x10,(s8.2.2.2.2,(lset r4 k6 x.2,()))))) λr11=>br r11 (λ_=>AS (HM .i64 s8.2.1 2) λk12=>gd (D9 k12 (AA s8.2.2.2.1)) λ_=>ix s8.2.2.2.1 k12 λx13=>AS (HM .i64 s8.2.1 2) λk14=>gd (D9 k14 (AA s8.2.2.2.1)) λ_=>ix s8.2.2.2.1 k14 λx15=>some (.nx ((AF .i64 s8.1 1,(HM .i64 s8.2.1 2,((),(lset s8.2.2.2.1 k14 s8.2.2.2.2,x13))))))) λ_=>some (.nx ((AF .i64 s8.1 1,(HM .i64 s8.2.1 2,((),s8.2.2.2)))))) ((0,(AF .i64 (Aa (AA (lset r4 k6 x.2))) x.1.2.2,((),(r5,x.1.2.2)))))) λr16=>some (((lset r4 k6 x.2,r16.2.1.2.2.2),(r16.2.1.1,0)))) λ_=>bd (Ah x.1.1) λr17=>bd (As x.1.2.1) λr18=>AS x.1.2.2 λk19=>gd (D9 k19 (AA r17)) λ_=>ix r17 k19 λx20=>bd (loop (λs21=>br (CA (HM .i64 s21.2.1 2) 0) (λ_=>some (.dn ((0,((s21.1,(HM .i64 s21.2.1 2,((),s21.2.2.2))),()))))) λ_=>AS (HM .i64 s21.2.1 2) λk22=>gd (D9 k22 (AA s21.2.2.2.1)) λ_=>ix s21.2.2.2.1 k22 λx23=>bd (BP ((x23,(s21.2.2.2.2,(lset r17 k19 x.2,()))))) λr24=>br r24 (λ_=>AS (HM .i64 s21.2.1 2) λk25=>gd (D9 k25 (AA s21.2.2.2.1)) λ_=>ix s21.2.2.2.1 k25 λx26=>AS (HM .i64 s21.2.1 2) λk27=>gd (D9 k27 (AA s21.2.2.2.1)) λ_=>ix s21.2.2.2.1 k27 λx28=>some (.nx ((AF .i64 s21.1 1,(HM .i64 s21.2.1 2,((),(lset s21.2.2.2.1 k27 s21.2.2.2.2,x26))))))) λ_=>some (.nx ((AF .i64 s21.1 1,(HM .i64 s21.2.1 2,((),s21.2.2.2)))))) ((0,(AF .i64 (Aa (AA (lset r17 k19 x.2))) x.1.2.2,((),(r18,x.1.2.2)))))) λr29=>some (((lset r17 k19 x.2,r29.2.1.2.2.2),(r29.2.1.1,0)))
def GY (x:(List (List AH))):Option ((List AH)×((List Int)×Int)) :=
 bd (DA x) λr0=>br (BF r0.2 0) (λ_=>br (BF r0.2 0) (λ_=>some (([],([],r0.2)))) λ_=>bd (loop (λs1=>bd (CK (([],([],0)))) λr2=>br (BF r2.2.2 0) (λ_=>br (BF r2.2.2 0) (λ_=>some (.dn ((0,(s1,()))))) λ_=>gd (Bb (A3 (AA s1.1) (AA ([(([],([],(false,0))):AH)]))) 1048576) λ_=>gd (Bb (A3 (AA s1.2) (AA [0])) 1048576) λ_=>none) λ_=>AS r2.1 λk3=>none) ([],[])) λr4=>some ((r4.2.1.1,(r4.2.1.2,0)))) λ_=>AS (Aa (AA x)) λk5=>AS (Aa (AA x)) λk6=>gd (Bb k6 1048576) λ_=>bd (Ag x) λr7=>AS (Aa (AA x)) λk8=>AS (Aa (AA x)) λk9=>gd (Bb k9 1048576) λ_=>bd (loop (λs10=>br (Aj s10.1 (Aa (AA x))) (λ_=>AS s10.1 λk11=>ix x k11 λx12=>AS s10.1 λk13=>gd (D9 k13 (AA (IQ k6 (0:Int)))) λ_=>ix (IQ k6 0) k13 λx14=>bd (BB (x12,x14)) λr15=>AS s10.1 λk16=>gd (D9 k16 (AA s10.2)) λ_=>ix s10.2 k16 λx17=>some (.nx (AF .i64 s10.1 1,lset s10.2 k16 r15))) λ_=>some (.dn ((0,(s10,()))))) ((0,IQ k9 ([],false)))) λr18=>bd (CF r18.2.1.2) λr19=>bd (loop (λs20=>bd (CK s20.2.2.2.2) λr21=>br (BF r21.2.2 0) (λ_=>br (BF r21.2.2 0) (λ_=>some (.dn ((0,((s20.1,(s20.2.1,((),s20.2.2.2))),()))))) λ_=>gd (Bb (A3 (AA s20.1) (AA ([(([],([],(false,0))):AH)]))) 1048576) λ_=>gd (Bb (A3 (AA s20.2.1) (AA [0])) 1048576) λ_=>gd (D9 0 (AA s20.2.2.2.1)) λ_=>ix s20.2.2.2.1 0 λx22=>gd (D9 0 (AA s20.2.2.2.1)) λ_=>ix s20.2.2.2.1 0 λx23=>gd (D9 0 (AA r7)) λ_=>ix r7 0 λx24=>gd (D9 0 (AA (lset s20.2.2.2.1 0 (AF .i64 x22 1)))) λ_=>ix (lset s20.2.2.2.1 0 (AF .i64 x22 1)) 0 λx25=>bd (BB (x24,x25)) λr26=>bd (B5 (s20.2.2.2.2,r26)) λr27=>some (.nx ((Bv s20.1 ([(([],([],(false,0))):AH)]),(Bv s20.2.1 [0],((),(lset s20.2.2.2.1 0 (AF .i64 x22 1),r27.1))))))) λ_=>AS r21.1 λk28=>gd (D9 k28 (AA r7)) λ_=>ix r7 k28 λx29=>AS r21.1 λk30=>gd (D9 k30 (AA s20.2.2.2.1)) λ_=>ix s20.2.2.2.1 k30 λx31=>AS x31 λk32=>ix x29 k32 λx33=>gd (Bb (A3 (AA s20.1) (AA [x33])) 1048576) λ_=>gd (Bb (A3 (AA s20.2.1) (AA [r21.1])) 1048576) λ_=>AS r21.1 λk34=>gd (D9 k34 (AA s20.2.2.2.1)) λ_=>ix s20.2.2.2.1 k34 λx35=>AS r21.1 λk36=>gd (D9 k36 (AA s20.2.2.2.1)) λ_=>ix s20.2.2.2.1 k36 λx37=>AS r21.1 λk38=>gd (D9 k38 (AA r7)) λ_=>ix r7 k38 λx39=>AS r21.1 λk40=>gd (D9 k40 (AA (lset s20.2.2.2.1 k36 (AF .i64 x35 1)))) λ_=>ix (lset s20.2.2.2.1 k36 (AF .i64 x35 1)) k40 λx41=>bd (BB (x39,x41)) λr42=>bd (B5 (s20.2.2.2.2,r42)) λr43=>some (.nx ((Bv s20.1 [x33],(Bv s20.2.1 [r21.1],((),(lset s20.2.2.2.1 k36 (AF .i64 x35 1),r43.1))))))) (([],([],((),(IQ k6 0,r19.1)))))) λr44=>some ((r44.2.1.1,(r44.2.1.2.1,0)))
def DW (x:(Bool×AP)):Option Int :=
 bd (Eg x.2.1) λr0=>br (BF r0 0) (λ_=>some r0) λ_=>br (AU x.1) (λ_=>br (AU (seq x.2.1 [])) (λ_=>some 6) λ_=>some 0) λ_=>some 0
def A1 (x:AH):Option AH :=
 some x
def Dz (x:((List AH)×Bool)):Option ((List AH)×(Int×Int)) :=
 br (B0 (Aa (AA x.1)) 20000) (λ_=>some (([],((-1),3)))) λ_=>bd (CJ x.2) λr0=>bd (loop (λs1=>br (Aj s1.2.1 (Aa (AA x.1))) (λ_=>AS s1.2.1 λk2=>ix x.1 k2 λx3=>bd (DW s1.2.2.2.1) λr4=>br (BF r4 0) (λ_=>br (BF r4 0) (λ_=>some (.dn ((0,((r4,(s1.2.1,(s1.2.1,s1.2.2.2))),()))))) λ_=>some (.nx ((s1.1,(AF .i64 s1.2.1 1,(s1.2.2.1,((false,([],false)),s1.2.2.2.2))))))) λ_=>bd (Bm x3) λr5=>br (BF r5 0) (λ_=>br (BF r5 0) (λ_=>some (.dn ((0,((r5,(s1.2.1,(s1.2.1,s1.2.2.2))),()))))) λ_=>some (.nx ((s1.1,(AF .i64 s1.2.1 1,(s1.2.2.1,((false,([],false)),s1.2.2.2.2))))))) λ_=>br s1.2.2.2.1.1 (λ_=>br (Ct x3.1 s1.2.2.2.1.2.1) (λ_=>some (.dn ((0,((6,(s1.2.1,(s1.2.1,s1.2.2.2))),()))))) λ_=>br s1.2.2.2.1.1 (λ_=>br (seq x3.1 s1.2.2.2.1.2.1) (λ_=>some (.nx ((s1.1,(AF .i64 s1.2.1 1,(s1.2.2.1,((true,(x3.1,s1.2.2.2.1.2.2)),s1.2.2.2.2))))))) λ_=>br s1.2.2.2.1.2.2 (λ_=>br x3.2.2.1 (λ_=>some (.nx ((s1.1,(AF .i64 s1.2.1 1,(s1.2.2.1,((true,(x3.1,s1.2.2.2.1.2.2)),s1.2.2.2.2))))))) λ_=>bd (A1 x3) λr6=>gd (Bb (A3 (AA s1.2.2.2.2) (AA [r6])) 1048576) λ_=>some (.nx ((s1.1,(AF .i64 s1.2.1 1,(s1.2.2.1,((true,(x3.1,s1.2.2.2.1.2.2)),Bv s1.2.2.2.2 [r6]))))))) λ_=>bd (A1 x3) λr7=>gd (Bb (A3 (AA s1.2.2.2.2) (AA [r7])) 1048576) λ_=>some (.nx ((s1.1,(AF .i64 s1.2.1 1,(s1.2.2.1,((true,(x3.1,s1.2.2.2.1.2.2)),Bv s1.2.2.2.2 [r7]))))))) λ_=>br s1.2.2.2.1.2.2 (λ_=>br x3.2.2.1 (λ_=>some (.nx ((s1.1,(AF .i64 s1.2.1 1,(s1.2.2.1,((true,(x3.1,s1.2.2.2.1.2.2)),s1.2.2.2.2))))))) λ_=>bd (A1 x3) λr8=>gd (Bb (A3 (AA s1.2.2.2.2) (AA [r8])) 1048576) λ_=>some (.nx ((s1.1,(AF .i64 s1.2.1 1,(s1.2.2.1,((true,(x3.1,s1.2.2.2.1.2.2)),Bv s1.2.2.2.2 [r8]))))))) λ_=>bd (A1 x3) λr9=>gd (Bb (A3 (AA s1.2.2.2.2) (AA [r9])) 1048576) λ_=>some (.nx ((s1.1,(AF .i64 s1.2.1 1,(s1.2.2.1,((true,(x3.1,s1.2.2.2.1.2.2)),Bv s1.2.2.2.2 [r9]))))))) λ_=>br s1.2.2.2.1.1 (λ_=>br (seq x3.1 s1.2.2.2.1.2.1) (λ_=>some (.nx ((s1.1,(AF .i64 s1.2.1 1,(s1.2.2.1,((true,(x3.1,s1.2.2.2.1.2.2)),s1.2.2.2.2))))))) λ_=>br s1.2.2.2.1.2.2 (λ_=>br x3.2.2.1 (λ_=>some (.nx ((s1.1,(AF .i64 s1.2.1 1,(s1.2.2.1,((true,(x3.1,s1.2.2.2.1.2.2)),s1.2.2.2.2))))))) λ_=>bd (A1 x3) λr10=>gd (Bb (A3 (AA s1.2.2.2.2) (AA [r10])) 1048576) λ_=>some (.nx ((s1.1,(AF .i64 s1.2.1 1,(s1.2.2.1,((true,(x3.1,s1.2.2.2.1.2.2)),Bv s1.2.2.2.2 [r10]))))))) λ_=>bd (A1 x3) λr11=>gd (Bb (A3 (AA s1.2.2.2.2) (AA [r11])) 1048576) λ_=>some (.nx ((s1.1,(AF .i64 s1.2.1 1,(s1.2.2.1,((true,(x3.1,s1.2.2.2.1.2.2)),Bv s1.2.2.2.2 [r11]))))))) λ_=>br s1.2.2.2.1.2.2 (λ_=>br x3.2.2.1 (λ_=>some (.nx ((s1.1,(AF .i64 s1.2.1 1,(s1.2.2.1,((true,(x3.1,s1.2.2.2.1.2.2)),s1.2.2.2.2))))))) λ_=>bd (A1 x3) λr12=>gd (Bb (A3 (AA s1.2.2.2.2) (AA [r12])) 1048576) λ_=>some (.nx ((s1.1,(AF .i64 s1.2.1 1,(s1.2.2.1,((true,(x3.1,s1.2.2.2.1.2.2)),Bv s1.2.2.2.2 [r12]))))))) λ_=>bd (A1 x3) λr13=>gd (Bb (A3 (AA s1.2.2.2.2) (AA [r13])) 1048576) λ_=>some (.nx ((s1.1,(AF .i64 s1.2.1 1,(s1.2.2.1,((true,(x3.1,s1.2.2.2.1.2.2)),Bv s1.2.2.2.2 [r13]))))))) λ_=>some (.dn ((1,(s1,()))))) ((0,(0,(0,(r0,[])))))) λr14=>br (neq r14.1 0) (λ_=>br (BF r14.2.1.1 0) (λ_=>some (([],(r14.2.1.2.2.1,r14.2.1.1)))) λ_=>some ((r14.2.1.2.2.2.2,(0,0)))) λ_=>some ((r14.2.1.2.2.2.2,(0,0)))
def DY (x:((List AH)×(List AH))):Option Bool :=
 br (BF (Aa (AA x.1)) (Aa (AA x.2))) (λ_=>some false) λ_=>bd (loop (λs0=>br (Aj s0.2 (Aa (AA x.1))) (λ_=>AS s0.2 λk1=>ix x.1 k1 λx2=>AS s0.2 λk3=>ix x.2 k3 λx4=>br (AU (Bf (seq x2.1 x4.1) (Bf (seq x2.2.1 x4.2.1) (Bf (beq x2.2.2.1 x4.2.2.1) (Bf (CA x2.2.2.2 x4.2.2.2) true))))) (λ_=>some (.dn ((0,((false,s0.2),()))))) λ_=>some (.nx (s0.1,AF .i64 s0.2 1))) λ_=>some (.dn ((1,(s0,()))))) (false,0)) λr5=>br (neq r5.1 0) (λ_=>some r5.2.1.1) λ_=>some true
def EO (x:(AW×((Bool×AP)×((List AH)×Int)))):Option Int :=
 bd (DC x.1) λr0=>br (BF r0.2 0) (λ_=>some r0.2) λ_=>bd (loop (λs1=>br (Aj s1.1 (Aa (AA x.1.2.1))) (λ_=>AS s1.1 λk2=>ix x.1.2.1 k2 λx3=>some (.nx (AF .i64 s1.1 1,AF .i64 s1.2 x3))) λ_=>some (.dn ((0,(s1,()))))) (0,0)) λr4=>br (B0 (Aa (AA x.2.2.1)) 20000) (λ_=>some 3) λ_=>br (B0 r4.2.1.2 20000) (λ_=>some 3) λ_=>br (BF x.2.2.2 r4.2.1.2) (λ_=>some 7) λ_=>bd (GY x.1.1) λr5=>br (BF r5.2.2 0) (λ_=>some r5.2.2) λ_=>AS r4.2.1.2 λk6=>gd (Bb k6 (AA r5.1)) λ_=>gd (Bb 0 k6) λ_=>bd (Dz (F6 r5.1 0 k6,x.2.1.2.2)) λr7=>br (BF r7.2.2 0) (λ_=>some r7.2.2) λ_=>bd (CJ x.2.1.2.2) λr8=>br (B0 r4.2.1.2 0) (λ_=>AS (Bp .i64 r4.2.1.2 1) λk9=>ix r5.1 k9 λx10=>bd (DY (x.2.2.1,r7.1)) λr11=>br (AU r11) (λ_=>some 6) λ_=>br (AU (Bf (beq x.2.1.1 true) (Bf (seq x.2.1.2.1 x10.1) (Bf (beq x.2.1.2.2 r8.2.2) true)))) (λ_=>some 6) λ_=>some 0) λ_=>bd (DY (x.2.2.1,r7.1)) λr12=>br (AU r12) (λ_=>some 6) λ_=>br (AU (Bf (beq x.2.1.1 r8.1) (Bf (seq x.2.1.2.1 r8.2.1) (Bf (beq x.2.1.2.2 r8.2.2) true)))) (λ_=>some 6) λ_=>some 0
def Fl (x:AW):Option (Int×Int) :=
 bd (DC x) λr0=>br (BF r0.2 0) (λ_=>some (0,r0.2)) λ_=>bd (loop (λs1=>br (Aj s1.1 (Aa (AA x.1))) (λ_=>AS s1.1 λk2=>ix x.1 k2 λx3=>AS s1.1 λk4=>ix x.2.1 k4 λx5=>some (.nx ((AF .i64 s1.1 1,AF .i64 s1.2 (Bp .i64 (Aa (AA x3)) x5))))) λ_=>some (.dn ((0,(s1,()))))) (0,0)) λr6=>some (r6.2.1.2,0)
def Ba (x:(AW×((Bool×AP)×((List AH)×Int)))):Option (Int×Int) :=
 bd (EO x) λr0=>br (BF r0 0) (λ_=>some (0,r0)) λ_=>bd (Fl x.1) λr1=>some r1
def Bn (x:AW):Option (AH×(Int×(AW×Int))) :=
 bd (DC x) λr0=>br (BF r0.2 0) (λ_=>br (BF r0.2 0) (λ_=>some (((([],([],(false,0))):AH),(0,(([],([],([],([],0)))),r0.2))))) λ_=>none) λ_=>bd (Ag x.1) λr1=>bd (As x.2.1) λr2=>bd (CK x.2.2) λr3=>br (BF r3.2.2 0) (λ_=>br (BF r3.2.2 0) (λ_=>some (((([],([],(false,0))):AH),(0,(([],([],([],([],0)))),r3.2.2))))) λ_=>gd (D9 0 (AA r2)) λ_=>ix r2 0 λx4=>gd (D9 0 (AA r2)) λ_=>ix r2 0 λx5=>gd (D9 0 (AA r1)) λ_=>ix r1 0 λx6=>gd (D9 0 (AA (lset r2 0 (AF .i64 x4 1)))) λ_=>ix (lset r2 0 (AF .i64 x4 1)) 0 λx7=>bd (BB (x6,x7)) λr8=>bd (B5 (x.2.2,r8)) λr9=>some (((([],([],(false,0))):AH),(0,((r1,(lset r2 0 (AF .i64 x4 1),r9.1)),0))))) λ_=>AS r3.1 λk10=>gd (D9 k10 (AA r1)) λ_=>ix r1 k10 λx11=>AS r3.1 λk12=>gd (D9 k12 (AA r2)) λ_=>ix r2 k12 λx13=>AS x13 λk14=>ix x11 k14 λx15=>AS r3.1 λk16=>gd (D9 k16 (AA r2)) λ_=>ix r2 k16 λx17=>AS r3.1 λk18=>gd (D9 k18 (AA r2)) λ_=>ix r2 k18 λx19=>AS r3.1 λk20=>gd (D9 k20 (AA r1)) λ_=>ix r1 k20 λx21=>AS r3.1 λk22=>gd (D9 k22 (AA (lset r2 k18 (AF .i64 x17 1)))) λ_=>ix (lset r2 k18 (AF .i64 x17 1)) k22 λx23=>bd (BB (x21,x23)) λr24=>bd (B5 (x.2.2,r24)) λr25=>some ((x15,(r3.1,((r1,(lset r2 k18 (AF .i64 x17 1),r25.1)),0))))
def Bw (x:((Bool×AP)×AH)):Option (Bool×((Bool×AP)×Int)) :=
 bd (DW x.1) λr0=>br (BF r0 0) (λ_=>some ((false,((false,([],false)),r0)))) λ_=>bd (Bm x.2) λr1=>br (BF r1 0) (λ_=>some ((false,((false,([],false)),r1)))) λ_=>br x.1.1 (λ_=>br (Ct x.2.1 x.1.2.1) (λ_=>some ((false,((false,([],false)),6)))) λ_=>br x.1.1 (λ_=>br (seq x.2.1 x.1.2.1) (λ_=>some ((false,((true,(x.2.1,x.1.2.2)),0)))) λ_=>br x.1.2.2 (λ_=>br x.2.2.2.1 (λ_=>some ((false,((true,(x.2.1,x.1.2.2)),0)))) λ_=>some ((true,((true,(x.2.1,x.1.2.2)),0)))) λ_=>some ((true,((true,(x.2.1,x.1.2.2)),0)))) λ_=>br x.1.2.2 (λ_=>br x.2.2.2.1 (λ_=>some ((false,((true,(x.2.1,x.1.2.2)),0)))) λ_=>some ((true,((true,(x.2.1,x.1.2.2)),0)))) λ_=>some ((true,((true,(x.2.1,x.1.2.2)),0)))) λ_=>br x.1.1 (λ_=>br (seq x.2.1 x.1.2.1) (λ_=>some ((false,((true,(x.2.1,x.1.2.2)),0)))) λ_=>br x.1.2.2 (λ_=>br x.2.2.2.1 (λ_=>some ((false,((true,(x.2.1,x.1.2.2)),0)))) λ_=>some ((true,((true,(x.2.1,x.1.2.2)),0)))) λ_=>some ((true,((true,(x.2.1,x.1.2.2)),0)))) λ_=>br x.1.2.2 (λ_=>br x.2.2.2.1 (λ_=>some ((false,((true,(x.2.1,x.1.2.2)),0)))) λ_=>some ((true,((true,(x.2.1,x.1.2.2)),0)))) λ_=>some ((true,((true,(x.2.1,x.1.2.2)),0)))
def CG (x:((AW×((Bool×AP)×((List AH)×Int)))×Int)):Option ((AW×((Bool×AP)×((List AH)×Int)))×(Int×Int)) :=
 bd (Ba x.1) λr0=>br (BF r0.2 0) (λ_=>some (((([],([],([],([],0)))),((false,([],false)),([],0))),(0,r0.2)))) λ_=>br (Aj x.2 0) (λ_=>some (((([],([],([],([],0)))),((false,([],false)),([],0))),(0,7)))) λ_=>br (B0 (AF .i64 x.1.2.2.2 (Mz x.2 r0.1)) 20000) (λ_=>some (((([],([],([],([],0)))),((false,([],false)),([],0))),(0,3)))) λ_=>gd (Bb (AA x.1.2.2.1) 1048576) λ_=>gd (Bb (AA x.1.1.2.1) 1048576) λ_=>br (Aj 0 (Mz x.2 r0.1)) (λ_=>bd (Bn x.1.1) λr1=>br (BF r1.2.2.2 0) (λ_=>br (BF r1.2.2.2 0) (λ_=>br (BF r1.2.2.2 0) (λ_=>some (((([],([],([],([],0)))),((false,([],false)),([],0))),(0,r1.2.2.2)))) λ_=>some ((x.1,(Mz x.2 r0.1,0)))) λ_=>none) λ_=>bd (Bw (x.1.2.1,r1.1)) λr2=>br (BF r2.2.2 0) (λ_=>br (BF r2.2.2 0) (λ_=>br (BF r2.2.2 0) (λ_=>some (((([],([],([],([],0)))),((false,([],false)),([],0))),(0,r2.2.2)))) λ_=>some ((x.1,(Mz x.2 r0.1,0)))) λ_=>none) λ_=>br r2.1 (λ_=>gd (Bb (A3 (AA x.1.2.2.1) (AA [r1.1])) 1048576) λ_=>bd (loop (λs3=>br (Aj s3.1 (Mz x.2 r0.1)) (λ_=>bd (Bn ((s3.2.2.1,(s3.2.2.2.1,(s3.2.2.2.2.1,(s3.2.2.2.2.2.1,s3.2.2.2.2.2.2.1)))))) λr4=>br (BF r4.2.2.2 0) (λ_=>br (BF r4.2.2.2 0) (λ_=>some (.dn ((0,((s3.1,(r4.2.2.2,s3.2.2)),()))))) λ_=>some (.nx (AF .i64 s3.1 1,s3.2))) λ_=>bd (Bw (((s3.2.2.2.2.2.2.2.1,(s3.2.2.2.2.2.2.2.2.1,s3.2.2.2.2.2.2.2.2.2.1)),r4.1))) λr5=>br (BF r5.2.2 0) (λ_=>br (BF r5.2.2 0) (λ_=>some (.dn ((0,((s3.1,(r5.2.2,s3.2.2)),()))))) λ_=>some (.nx (AF .i64 s3.1 1,s3.2))) λ_=>br r5.1 (λ_=>gd (Bb (A3 (AA s3.2.2.2.2.2.2.2.2.2.2.1) (AA [r4.1])) 1048576) λ_=>some (.nx ((AF .i64 s3.1 1,(s3.2.1,(r4.2.2.1.1,(r4.2.2.1.2.1,(r4.2.2.1.2.2.1,(r4.2.2.1.2.2.2.1,(r4.2.2.1.2.2.2.2,(r5.2.1.1,(r5.2.1.2.1,(r5.2.1.2.2,(Bv s3.2.2.2.2.2.2.2.2.2.2.1 [r4.1],AF .i64 s3.2.2.2.2.2.2.2.2.2.2.2 1)))))))))))))) λ_=>some (.nx ((AF .i64 s3.1 1,(s3.2.1,(r4.2.2.1.1,(r4.2.2.1.2.1,(r4.2.2.1.2.2.1,(r4.2.2.1.2.2.2.1,(r4.2.2.1.2.2.2.2,(r5.2.1.1,(r5.2.1.2.1,(r5.2.1.2.2,(s3.2.2.2.2.2.2.2.2.2.2.1,AF .i64 s3.2.2.2.2.2.2.2.2.2.2.2 1)))))))))))))) λ_=>some (.dn ((1,(s3,()))))) ((1,(0,(r1.2.2.1.1,(r1.2.2.1.2.1,(r1.2.2.1.2.2.1,(r1.2.2.1.2.2.2.1,(r1.2.2.1.2.2.2.2,(r2.2.1.1,(r2.2.1.2.1,(r2.2.1.2.2,(Bv x.1.2.2.1 [r1.1],AF .i64 x.1.2.2.2 1))))))))))))) λr6=>br (neq r6.1 0) (λ_=>br (BF r6.2.1.2.1 0) (λ_=>some (((([],([],([],([],0)))),((false,([],false)),([],0))),(0,r6.2.1.2.1)))) λ_=>some ((((r6.2.1.2.2.1,(r6.2.1.2.2.2.1,(r6.2.1.2.2.2.2.1,(r6.2.1.2.2.2.2.2.1,r6.2.1.2.2.2.2.2.2.1)))),((r6.2.1.2.2.2.2.2.2.2.1,(r6.2.1.2.2.2.2.2.2.2.2.1,r6.2.1.2.2.2.2.2.2.2.2.2.1)),r6.2.1.2.2.2.2.2.2.2.2.2.2)),(Mz x.2 r0.1,0)))) λ_=>some ((((r6.2.1.2.2.1,(r6.2.1.2.2.2.1,(r6.2.1.2.2.2.2.1,(r6.2.1.2.2.2.2.2.1,r6.2.1.2.2.2.2.2.2.1)))),((r6.2.1.2.2.2.2.2.2.2.1,(r6.2.1.2.2.2.2.2.2.2.2.1,r6.2.1.2.2.2.2.2.2.2.2.2.1)),r6.2.1.2.2.2.2.2.2.2.2.2.2)),(Mz x.2 r0.1,0)))) λ_=>bd (loop (λs7=>br (Aj s7.1 (Mz x.2 r0.1)) (λ_=>bd (Bn ((s7.2.2.1,(s7.2.2.2.1,(s7.2.2.2.2.1,(s7.2.2.2.2.2.1,s7.2.2.2.2.2.2.1)))))) λr8=>br (BF r8.2.2.2 0) (λ_=>br (BF r8.2.2.2 0) (λ_=>some (.dn ((0,((s7.1,(r8.2.2.2,s7.2.2)),()))))) λ_=>some (.nx (AF .i64 s7.1 1,s7.2))) λ_=>bd (Bw (((s7.2.2.2.2.2.2.2.1,(s7.2.2.2.2.2.2.2.2.1,s7.2.2.2.2.2.2.2.2.2.1)),r8.1))) λr9=>br (BF r9.2.2 0) (λ_=>br (BF r9.2.2 0) (λ_=>some (.dn ((0,((s7.1,(r9.2.2,s7.2.2)),()))))) λ_=>some (.nx (AF .i64 s7.1 1,s7.2))) λ_=>br r9.1 (λ_=>gd (Bb (A3 (AA s7.2.2.2.2.2.2.2.2.2.2.1) (AA [r8.1])) 1048576) λ_=>some (.nx ((AF .i64 s7.1 1,(s7.2.1,(r8.2.2.1.1,(r8.2.2.1.2.1,(r8.2.2.1.2.2.1,(r8.2.2.1.2.2.2.1,(r8.2.2.1.2.2.2.2,(r9.2.1.1,(r9.2.1.2.1,(r9.2.1.2.2,(Bv s7.2.2.2.2.2.2.2.2.2.2.1 [r8.1],AF .i64 s7.2.2.2.2.2.2.2.2.2.2.2 1)))))))))))))) λ_=>some (.nx ((AF .i64 s7.1 1,(s7.2.1,(r8.2.2.1.1,(r8.2.2.1.2.1,(r8.2.2.1.2.2.1,(r8.2.2.1.2.2.2.1,(r8.2.2.1.2.2.2.2,(r9.2.1.1,(r9.2.1.2.1,(r9.2.1.2.2,(s7.2.2.2.2.2.2.2.2.2.2.1,AF .i64 s7.2.2.2.2.2.2.2.2.2.2.2 1)))))))))))))) λ_=>some (.dn ((1,(s7,()))))) ((1,(0,(r1.2.2.1.1,(r1.2.2.1.2.1,(r1.2.2.1.2.2.1,(r1.2.2.1.2.2.2.1,(r1.2.2.1.2.2.2.2,(r2.2.1.1,(r2.2.1.2.1,(r2.2.1.2.2,(x.1.2.2.1,AF .i64 x.1.2.2.2 1))))))))))))) λr10=>br (neq r10.1 0) (λ_=>br (BF r10.2.1.2.1 0) (λ_=>some (((([],([],([],([],0)))),((false,([],false)),([],0))),(0,r10.2.1.2.1)))) λ_=>some ((((r10.2.1.2.2.1,(r10.2.1.2.2.2.1,(r10.2.1.2.2.2.2.1,(r10.2.1.2.2.2.2.2.1,r10.2.1.2.2.2.2.2.2.1)))),((r10.2.1.2.2.2.2.2.2.2.1,(r10.2.1.2.2.2.2.2.2.2.2.1,r10.2.1.2.2.2.2.2.2.2.2.2.1)),r10.2.1.2.2.2.2.2.2.2.2.2.2)),(Mz x.2 r0.1,0)))) λ_=>some ((((r10.2.1.2.2.1,(r10.2.1.2.2.2.1,(r10.2.1.2.2.2.2.1,(r10.2.1.2.2.2.2.2.1,r10.2.1.2.2.2.2.2.2.1)))),((r10.2.1.2.2.2.2.2.2.2.1,(r10.2.1.2.2.2.2.2.2.2.2.1,r10.2.1.2.2.2.2.2.2.2.2.2.1)),r10.2.1.2.2.2.2.2.2.2.2.2.2)),(Mz x.2 r0.1,0)))) λ_=>some ((x.1,(Mz x.2 r0.1,0)))
def BG (x:((List AH)×(List AH))):Option Bool :=
 br (BF (Aa (AA x.1)) (Aa (AA x.2))) (λ_=>some false) λ_=>bd (loop (λs0=>br (Aj s0.1 (Aa (AA x.1))) (λ_=>AS s0.1 λk1=>ix x.1 k1 λx2=>AS s0.1 λk3=>ix x.2 k3 λx4=>br (AU (Bf (seq x2.1 x4.1) (Bf (seq x2.2.1 x4.2.1) (Bf (beq x2.2.2.1 x4.2.2.1) (Bf (CA x2.2.2.2 x4.2.2.2) true))))) (λ_=>some (.dn ((0,((s0.1,false),()))))) λ_=>some (.nx (AF .i64 s0.1 1,s0.2))) λ_=>some (.dn ((1,(s0,()))))) (0,false)) λr5=>br (neq r5.1 0) (λ_=>some r5.2.1.2) λ_=>some true
def BY (x:((List AH)×(List AH))):Option Bool :=
 bd (BG x) λr0=>some r0
def C1 (x:((AW×((Bool×AP)×((List AH)×Int)))×(AW×((Bool×AP)×((List AH)×Int))))):Option Bool :=
 br (BF (Aa (AA x.1.1.1)) (Aa (AA x.2.1.1))) (λ_=>some false) λ_=>bd (loop (λs0=>br (Aj s0.1 (Aa (AA x.1.1.1))) (λ_=>AS s0.1 λk1=>ix x.1.1.1 k1 λx2=>AS s0.1 λk3=>ix x.2.1.1 k3 λx4=>bd (BY (x2,x4)) λr5=>br (AU r5) (λ_=>some (.dn ((0,((s0.1,false),()))))) λ_=>some (.nx (AF .i64 s0.1 1,s0.2))) λ_=>some (.dn ((1,(s0,()))))) (0,false)) λr6=>br (neq r6.1 0) (λ_=>br r6.2.1.2 (λ_=>bd (Ac (x.1.1.2.1,x.2.1.2.1)) λr7=>br r7 (λ_=>bd (Ai (x.1.1.2.2.1,x.2.1.2.2.1)) λr8=>br r8 (λ_=>bd (Ac (x.1.1.2.2.2.1,x.2.1.2.2.2.1)) λr9=>br r9 (λ_=>br (CA x.1.1.2.2.2.2 x.2.1.2.2.2.2) (λ_=>br (Bf (beq x.1.2.1.1 x.2.2.1.1) (Bf (seq x.1.2.1.2.1 x.2.2.1.2.1) (Bf (beq x.1.2.1.2.2 x.2.2.1.2.2) true))) (λ_=>bd (BY (x.1.2.2.1,x.2.2.2.1)) λr10=>br r10 (λ_=>some (CA x.1.2.2.2 x.2.2.2.2)) λ_=>some false) λ_=>some false) λ_=>some false) λ_=>some false) λ_=>some false) λ_=>some false) λ_=>some false) λ_=>bd (Ac (x.1.1.2.1,x.2.1.2.1)) λr11=>br r11 (λ_=>bd (Ai (x.1.1.2.2.1,x.2.1.2.2.1)) λr12=>br r12 (λ_=>bd (Ac (x.1.1.2.2.2.1,x.2.1.2.2.2.1)) λr13=>br r13 (λ_=>br (CA x.1.1.2.2.2.2 x.2.1.2.2.2.2) (λ_=>br (Bf (beq x.1.2.1.1 x.2.2.1.1) (Bf (seq x.1.2.1.2.1 x.2.2.1.2.1) (Bf (beq x.1.2.1.2.2 x.2.2.1.2.2) true))) (λ_=>bd (BY (x.1.2.2.1,x.2.2.2.1)) λr14=>br r14 (λ_=>some (CA x.1.2.2.2 x.2.2.2.2)) λ_=>some false) λ_=>some false) λ_=>some false) λ_=>some false) λ_=>some false) λ_=>some false
def C2 (x:(AQ×((List (Int×(AW×((Bool×AP)×((List AH)×Int)))))×Int))):Option (Int×Int) :=
 bd (DV x.1) λr0=>br (BF r0.2.2 0) (λ_=>some (((-1),r0.2.2))) λ_=>br (Aj x.2.2 1) (λ_=>some (((-1),7))) λ_=>br (B0 x.2.2 1000001) (λ_=>some (((-1),7))) λ_=>bd (Dx x.1) λr1=>br (MG x.2.2 r1) (λ_=>some (((-1),6))) λ_=>bd (loop (λs2=>br (Aj s2.1 (Aa (AA x.1.2))) (λ_=>AS s2.1 λk3=>ix x.1.2 k3 λx4=>br (CA (Aa (AA x4)) 2) (λ_=>gd (Bb (A3 (AA s2.2) (AA [s2.1])) 1048576) λ_=>some (.nx (AF .i64 s2.1 1,Bv s2.2 [s2.1]))) λ_=>some (.nx (AF .i64 s2.1 1,s2.2))) λ_=>some (.dn ((0,(s2,()))))) (0,[])) λr5=>bd (loop (λs6=>br (Aj s6.2.2 (Aa (AA x.2.1))) (λ_=>AS s6.2.2 λk7=>ix x.2.1 k7 λx8=>br (IP s6.2.2 (Aa (AA r5.2.1.2))) (λ_=>some (.dn ((0,((6,(s6.2.2,s6.2.2)),()))))) λ_=>AS s6.2.2 λk9=>gd (D9 k9 (AA r5.2.1.2)) λ_=>ix r5.2.1.2 k9 λx10=>br (BF x8.1 x10) (λ_=>some (.dn ((0,((6,(s6.2.2,s6.2.2)),()))))) λ_=>br x8.2.2.1.2.2 (λ_=>bd (E0 (x.1,x8.1)) λr11=>br (AU r11) (λ_=>some (.dn ((0,((6,(s6.2.2,s6.2.2)),()))))) λ_=>bd (CZ ((x.1,(x8.1,x8.2.2.1.2.2)))) λr12=>bd (Ba r12.2) λr13=>br (Aj x8.2.2.2.2 0) (λ_=>some (.dn ((0,((6,(s6.2.2,s6.2.2)),()))))) λ_=>br (B0 x8.2.2.2.2 r13.1) (λ_=>some (.dn ((0,((6,(s6.2.2,s6.2.2)),()))))) λ_=>bd (CG (r12.2,x8.2.2.2.2)) λr14=>bd (C1 (r14.1,x8.2)) λr15=>br (AU r15) (λ_=>some (.dn ((0,((6,(s6.2.2,s6.2.2)),()))))) λ_=>some (.nx ((s6.1,(s6.2.1,AF .i64 s6.2.2 1))))) λ_=>bd (CZ ((x.1,(x8.1,x8.2.2.1.2.2)))) λr16=>bd (Ba r16.2) λr17=>br (Aj x8.2.2.2.2 0) (λ_=>some (.dn ((0,((6,(s6.2.2,s6.2.2)),()))))) λ_=>br (B0 x8.2.2.2.2 r17.1) (λ_=>some (.dn ((0,((6,(s6.2.2,s6.2.2)),()))))) λ_=>bd (CG (r16.2,x8.2.2.2.2)) λr18=>bd (C1 (r18.1,x8.2)) λr19=>br (AU r19) (λ_=>some (.dn ((0,((6,(s6.2.2,s6.2.2)),()))))) λ_=>some (.nx ((s6.1,(s6.2.1,AF .i64 s6.2.2 1))))) λ_=>some (.dn ((1,(s6,()))))) ((r0.2.2,(0,0)))) λr20=>br (neq r20.1 0) (λ_=>some (r20.2.1.2.1,r20.2.1.1)) λ_=>br (Aj (Aa (AA x.2.1)) (Aa (AA r5.2.1.2))) (λ_=>some (((-1),4))) λ_=>some (0,0)
end Go.Proofs.YthpkjfabdccpdaaGreat.Pl
namespace Go.Proofs.YthpkjfabdccpdaaGreat.Pl
open Go Go.Proofs.YthpkjfabdccpdaaGreat.Sv
abbrev Ma:=List UInt8
theorem Ls (a:Ma):Ct a []=false:=by unfold Ct;cases a<;>rfl
theorem Qx (b:UInt8) (y:Ma):Ct [] (b::y)=true:=rfl
theorem IA (a b:UInt8) (x y:Ma):Ct (a::x) (b::y)=(decide (a<b)||(a == b&&Ct x y)):=rfl
theorem Ig : ∀ a:Ma,Ct a a=false
 | []=>rfl
 | a::x=>by rw [IA,Ig x];simp
theorem J5 : ∀ {a b c:Ma},Ct a b=true->Ct b c=true->Ct a c=true
 | [],b,[],h1,h2=>by rw [Ls] at h2;cases h2
 | [],b,c::z,_,_=>rfl
 | a::x,[],c,h1,_=>by rw [Ls] at h1;cases h1
 | a::x,b::y,[],_,h2=>by rw [Ls] at h2;cases h2
 | a::x,b::y,c::z,h1,h2=>by
  rw [IA] at h1 h2 ⊢;simp only [Bool.or_eq_true,decide_eq_true_eq,Bool.and_eq_true,beq_iff_eq] at h1 h2 ⊢;rcases h1 with h1 | ⟨rfl,h1⟩
  ·rcases h2 with h2 | ⟨rfl,h2⟩
   ·exact .inl (UInt8.lt_trans h1 h2)
   ·exact .inl h1
  ·rcases h2 with h2 | ⟨rfl,h2⟩
   ·exact .inl h2
   ·exact .inr ⟨rfl,J5 h1 h2⟩
theorem Qy : ∀ a b:Ma,Ct a b=true\/a=b\/Ct b a=true
 | [],[] => .inr (.inl rfl)
 | [],_::_ => .inl rfl
 | _::_,[] => .inr (.inr rfl)
 | a::x,b::y=>by
  rw [IA,IA];simp only [Bool.or_eq_true,decide_eq_true_eq,Bool.and_eq_true,beq_iff_eq,List.cons.injEq];rcases UInt8.lt_or_lt_of_ne (a:=a) (b:=b) |> λh=>Classical.em (a=b) |>.imp id h with h | h | h
  ·subst h;rcases Qy x y with h | h | h
   ·exact .inl (.inr ⟨rfl,h⟩)
   ·exact .inr (.inl ⟨rfl,h⟩)
   ·exact .inr (.inr (.inr ⟨rfl,h⟩))
  ·exact .inl (.inl h)
  ·exact .inr (.inr (.inl h))
theorem DZ {a b:Ma} (h:Ct a b=true):Ct b a=false:=by
 cases h2:Ct b a with
 | false=>rfl
 | true=>have:=J5 h h2;rw [Ig] at this;cases this
theorem Te {a b:Ma} (h:Ct a b=true):a≠b:=λe=>by subst e;rw [Ig] at h;cases h
theorem Yn {a b:Ma} (h:Ct a b=false) (hn:a≠b):Ct b a=true:=by
 rcases Qy a b with h1 | h1 | h1
 ·rw [h] at h1;cases h1
 ·exact absurd h1 hn
 ·exact h1
theorem Tf {a b c:Ma} (h:Ct b a=false) (h2:Ct b c=true):Ct a c=true:=by
 rcases Qy a b with h1 | h1 | h1
 ·exact J5 h1 h2
 ·subst h1;exact h2
 ·rw [h] at h1;cases h1
theorem NR {a b:Ma}:seq a b=true<->a=b:=by unfold seq;simp
theorem Kz (a b:Ma):seq a b=decide (a=b):=by
 cases h:seq a b with
 | true=>rw [NR] at h;simp [h]
 | false =>
  have : ¬ a=b:=λe=>by rw [<- NR] at e;rw [h] at e;cases e
  simp [this]
section
variable {α β σ S:Type}
theorem EQ (a b:Ma) (x y:Unit->Option β):br (seq a b) x y=if a=b then x () else y ():=OJ NR x y
theorem GD (a b:Ma) (x y:Unit->Option β):br (Ct a b) x y=if Ct a b=true then x () else y ():=OJ Iff.rfl x y
theorem Ca (p:Prop) [Decidable p] (x y:Unit->Option β):br (decide p) x y=if p then x () else y ():=OJ (by simp) x y
theorem AG (k:Nat) (c:Nat->Option β):AS (k:Int) c=c k:=by rw [Qw (by omega)];simp
theorem gG {l:List α} {k:Nat} {x:α} (h:l[k]? = some x):Aj (k:Int) (Aa (AA l))=true:=by
 have:=(List.getElem?_eq_some_iff.1 h).1;unfold Aj Aa AA;simp;omega
theorem eO (l:List α):Aj (l.length:Int) (Aa (AA l))=false:=by unfold Aj Aa AA;simp
theorem Ad {k:Nat} (h:k+1<=9223372036854775807):AF .i64 (k:Int) 1=((k+1:Nat):Int):=by
 rw [A9 (by omega)];omega
theorem Am {l:List α} {k:Nat} {x:α} (h:l[k]? = some x) (hl:l.length<=9223372036854775807):AF .i64 (k:Int) 1=((k+1:Nat):Int):=by
 have:=(List.getElem?_eq_some_iff.1 h).1;exact Ad (by omega)
def OK (step:Nat->α->σ->Option (LR σ β)) (fin:σ->Option β):List α->Nat->σ->Option β
 | [],_,s=>fin s
 | x::l,k,s=>match step k x s with
  | none=>none
  | some (.nx s')=>OK step fin l (k+1) s'
  | some (.dn b)=>some b
def mb (mk:σ->S):Option (LR σ β)->Option (LR S β)
 | none=>none
 | some (.nx s)=>some (.nx (mk s))
 | some (.dn b)=>some (.dn b)
def hC:Option β->Option (LR S β)
 | none=>none
 | some b=>some (.dn b)
theorem Th {l:List α} {mk:Nat->σ->S} {f:S->Option (LR S β)} {step:Nat->α->σ->Option (LR σ β)} {fin:σ->Option β}
  (hs : ∀ k x st,l[k]? = some x->f (mk k st)=mb (mk (k+1)) (step k x st)) (he : ∀ st,f (mk l.length st)=hC (fin st)) :
  ∀ (d n k:Nat) (st:σ),l.length-k=d->k<=l.length->d<n->DO n f (mk k st)=OK step fin (l.drop k) k st:=by
 intro d
 induction d with
 | zero =>
  intro n k st h1 h2 h3;have hk:k=l.length:=by omega
  obtain ⟨m,rfl⟩ : ∃ m,n=m+1:=⟨n-1,by omega⟩;subst hk;unfold DO;rw [he,List.drop_length];unfold hC OK;cases fin st<;>rfl
 | succ d ih =>
  intro n k st h1 h2 h3;obtain ⟨m,rfl⟩ : ∃ m,n=m+1:=⟨n-1,by omega⟩;have hk:k<l.length:=by omega
  have hx:l[k]? = some l[k]:=by simp [hk]
  unfold DO;rw [hs k _ st hx,List.drop_eq_getElem_cons hk]
  show _=match step k l[k] st with
   | none=>none
   | some (.nx s')=>OK step fin (l.drop (k+1)) (k+1) s'
   | some (.dn b)=>some b
  cases step k l[k] st with
  | none=>rfl
  | some r=>cases r with
   | nx s'=>exact ih m (k+1) s' (by omega) (by omega) (by omega)
   | dn b=>rfl
theorem WV {l:List α} (mk:Nat->σ->S) (step:Nat->α->σ->Option (LR σ β)) (fin:σ->Option β) {f:S->Option (LR S β)} {s:S} (st:σ) (h0:s=mk 0 st) (hl:l.length<=9223372036854775807)
  (hs : ∀ k x st,l[k]? = some x->f (mk k st)=mb (mk (k+1)) (step k x st)) (he : ∀ st,f (mk l.length st)=hC (fin st)) :
  loop f s=OK step fin l 0 st:=by
 subst h0;have:=Th hs he l.length 18446744073709551616 0 st (by omega) (by omega) (by omega);rw [List.drop_zero] at this;exact this
theorem SI {f:α->Option (LR α β)} {x:β} : ∀ {n m:Nat} {s:α},n<=m->DO n f s=some x->DO m f s=some x
 | 0,_,_,_,h=>by cases h
 | n+1,0,_,hl,_=>by omega
 | n+1,m+1,s,hl,h=>by
  unfold DO at h ⊢;split at h
  ·cases h
  ·rename_i s' e;exact SI (by omega) h
  ·exact h
theorem Dn {f:α->Option (LR α β)} {x:β} {n:Nat} {s:α} (hn:n<=18446744073709551616) (h:DO n f s=some x):loop f s=some x:=SI hn h
theorem BZ {f:α->Option (LR α β)} {n:Nat} {s s':α} (h:f s=some (.nx s')):DO (n+1) f s=DO n f s':=by
 show (match f s with
  | none=>none
  | some (.nx s)=>DO n f s
  | some (.dn x)=>some x)=_
 rw [h]
theorem Br {f:α->Option (LR α β)} {n:Nat} {s:α} {x:β} (h:f s=some (.dn x)):DO (n+1) f s=some x:=by
 show (match f s with
  | none=>none
  | some (.nx s)=>DO n f s
  | some (.dn x)=>some x)=_
 rw [h]
theorem IB {f : S -> Option (LR S β)} {r : β} (mk : Nat -> S) (n : Nat) {s : S} (h0 : s = mk 0) (hn : n < 18446744073709551616) (hs : ∀ k, k < n -> f (mk k) = some (.nx (mk (k + 1)))) (he : f (mk n) = some (.dn r)) : loop f s = some r := by
  subst h0
  have : ∀ d k, k + d = n -> DO (d + 1) f (mk k) = some r := by
    intro d
    induction d with
    | zero => intro k hk; have : k = n := by omega
              subst this; exact Br he
    | succ d ih => intro k hk; rw [BZ (hs k (by omega))]; exact ih (k + 1) (by omega)
  exact Dn (n := n + 1) (by omega) (this n 0 (by omega))
end
end Go.Proofs.YthpkjfabdccpdaaGreat.Pl
namespace Go.Proofs.YthpkjfabdccpdaaGreat.Pl
open Go Go.Proofs.YthpkjfabdccpdaaGreat.Sv
def kE (x:AH):Int:=if x.1.length>32\/x.2.1.length>64 then 3 else if x.2.2.1=true/\x.2.1≠[] then 6 else if x.2.2.2<1\/x.2.2.2>1000000000 then 7 else 0
def I3:Option Ma->Nat->List AH->Int×Int
 | _,_,[]=>(0,0)
 | p,k,x::l=>if kE x≠0 then ((k:Int),kE x) else match p with
  | some q=>if Ct q x.1=true then I3 (some x.1) (k+1) l else ((k:Int),6)
  | none=>I3 (some x.1) (k+1) l
def ER (l:List AH):Int×Int:=if l.length>5000 then (-1,3) else I3 none 0 l
def Asc:Option Ma->List AH->Prop
 | _,[]=>True
 | p,x::l=>(∀ q,p=some q->Ct q x.1=true)/\Asc (some x.1) l
theorem Qz : ∀ {p k l},(I3 p k l).2=0<->(∀ x∈l,kE x=0)/\Asc p l
 | p,k,[]=>by simp [I3,Asc]
 | p,k,x::l=>by
  unfold I3;by_cases h:kE x=0
  ·rw [if_neg (by simp [h])];cases p with
   | none =>
    simp only [Qz (p:=some x.1) (l:=l),Asc,List.mem_cons,forall_eq_or_imp];constructor
    ·rintro ⟨h1,h2⟩;exact ⟨⟨h,h1⟩,(λq hq=>by cases hq),h2⟩
    ·rintro ⟨⟨_,h1⟩,_,h2⟩;exact ⟨h1,h2⟩
   | some q =>
    simp only;by_cases hq:Ct q x.1=true
    ·rw [if_pos hq];simp only [Qz (p:=some x.1) (l:=l),Asc,List.mem_cons,forall_eq_or_imp];constructor
     ·rintro ⟨h1,h2⟩;exact ⟨⟨h,h1⟩,(λq' hq'=>by cases hq';exact hq),h2⟩
     ·rintro ⟨⟨_,h1⟩,_,h2⟩;exact ⟨h1,h2⟩
    ·rw [if_neg hq];constructor
     ·intro h;cases h
     ·rintro ⟨_,h2⟩;exact absurd (h2.1 q rfl) hq
  ·rw [if_pos h];constructor
   ·intro h';exact absurd h' h
   ·rintro ⟨h1,_⟩;exact absurd (h1 x (by simp)) h
theorem Mb : ∀ {p k l},(I3 p k l).2=0->I3 p k l=(0,0)
 | p,k,[],_=>rfl
 | p,k,x::l,h=>by
  unfold I3 at h ⊢;by_cases hx:kE x=0
  ·rw [if_neg (by simp [hx])] at h ⊢;cases p with
   | none=>exact Mb h
   | some q =>
    simp only at h ⊢;by_cases hq:Ct q x.1=true
    ·rw [if_pos hq] at h ⊢;exact Mb h
    ·rw [if_neg hq] at h;cases h
  ·rw [if_pos hx] at h;exact absurd h hx
structure VL (l:List AH):Prop where
 len:l.length<=5000
 ok : ∀ x∈l,kE x=0
 asc:Asc none l
theorem Mc {l:List AH}:(ER l).2=0<->VL l:=by
 unfold ER;by_cases h:l.length>5000
 ·rw [if_pos h];constructor
  ·intro h;cases h
  ·intro h';have:=h'.len;omega
 ·rw [if_neg h];rw [Qz];exact ⟨λ⟨a,b⟩=>⟨by omega,a,b⟩,λh=>⟨h.ok,h.asc⟩⟩
theorem JW {l:List AH} (h:VL l):ER l=(0,0):=by
 have h2:=Mc.2 h;unfold ER at h2 ⊢;rw [if_neg (by have:=h.len;omega)] at h2 ⊢;exact Mb h2
theorem Asc.lt : ∀ {p:Option Ma} {l:List AH},Asc p l -> ∀ {i:Nat} {x y:AH},l[i]? = some x->l[i+1]? = some y->Ct x.1 y.1=true
 | p,x::[],_,0,_,_,_,h2=>by simp at h2
 | p,a::b::l,h,0,x,y,h1,h2=>by
  simp at h1 h2;subst h1;subst h2;exact h.2.1 _ rfl
 | p,a::l,h,i+1,x,y,h1,h2=>by
  simp at h1 h2;exact Asc.lt h.2 h1 h2
theorem VL.lt {l:List AH} (h:VL l) {i:Nat} {x y:AH} (h1:l[i]? = some x) (h2:l[i+1]? = some y):Ct x.1 y.1=true:=h.asc.lt h1 h2
def kx (l:List AH) (i:Nat):AP:=match l[i]? with
 | some x=>(x.1,false)
 | none=>([],true)
def w0 (p q:AP):Bool:=if p.2≠q.2 then q.2 else if p.1≠q.1 then Ct p.1 q.1 else true
def HN (a b:List AH) (i j:Nat):Bool:=w0 (kx a i) (kx b j)
def Ak (a b:List AH):Nat->Nat×Nat
 | 0=>(0,0)
 | n+1=>if HN a b (Ak a b n).1 (Ak a b n).2=true then ((Ak a b n).1+1,(Ak a b n).2) else ((Ak a b n).1,(Ak a b n).2+1)
def ND (a b:List AH) (n:Nat):Option AH:=if HN a b (Ak a b n).1 (Ak a b n).2=true then a[(Ak a b n).1]? else b[(Ak a b n).2]?
structure Inv (a b:List AH) (i j:Nat):Prop where
 ia:i<=a.length
 jb:j<=b.length
 pa : ∀ i',i=i'+1 -> ∀ x y,a[i']? = some x->b[j]? = some y->Ct y.1 x.1=false
 pb : ∀ j',j=j'+1 -> ∀ x y,b[j']? = some x->a[i]? = some y->Ct x.1 y.1=true
theorem OL {a b:List AH} {i j:Nat} {x y:AH} (h1:a[i]? = some x) (h2:b[j]? = some y):HN a b i j = !Ct y.1 x.1:=by
 unfold HN w0 kx;rw [h1,h2];simp only [ne_eq,not_true,if_false];by_cases h:x.1=y.1
 ·rw [if_neg (by simp [h]),h,Ig];rfl
 ·rw [if_pos h];cases hs:Ct x.1 y.1 with
  | true=>rw [DZ hs];rfl
  | false=>rw [Yn hs h];rfl
theorem VX {a b:List AH} {i j:Nat} {x:AH} (h1:a[i]? = some x) (h2:b[j]? = none):HN a b i j=true:=by
 unfold HN w0 kx;rw [h1,h2];rfl
theorem VY {a b:List AH} {i j:Nat} {y:AH} (h1:a[i]? = none) (h2:b[j]? = some y):HN a b i j=false:=by
 unfold HN w0 kx;rw [h1,h2];rfl
theorem SJ {a b:List AH} {i j:Nat} (h1:a[i]? = none) (h2:b[j]? = none):HN a b i j=true:=by
 unfold HN w0 kx;rw [h1,h2];rfl
theorem Inv.zero (a b:List AH):Inv a b 0 0:=⟨by omega,by omega,λ_ h=>by omega,λ_ h=>by omega⟩
theorem Inv.stepA {a b:List AH} (va:VL a) {i j:Nat} (h:Inv a b i j) {x:AH} (hx:a[i]? = some x) (g:HN a b i j=true):Inv a b (i+1) j:=by
 have hi:=(List.getElem?_eq_some_iff.1 hx).1;refine ⟨by omega,h.jb,λi' e x' y h1 h2 => ?_,λj' e x' y h1 h2 => ?_⟩
 ·have:i'=i:=by omega
  subst this;rw [hx] at h1;cases h1;rw [OL hx h2] at g;simpa using g
 ·exact J5 (h.pb j' e x' x h1 hx) (va.lt hx h2)
theorem Inv.stepB {a b:List AH} (vb:VL b) {i j:Nat} (h:Inv a b i j) {y:AH} (hy:b[j]? = some y) (g:HN a b i j=false):Inv a b i (j+1):=by
 have hj:=(List.getElem?_eq_some_iff.1 hy).1;refine ⟨h.ia,by omega,λi' e x' y' h1 h2 => ?_,λj' e x' y' h1 h2 => ?_⟩
 ·have h3:=h.pa i' e x' y h1 hy;exact DZ (Tf h3 (vb.lt hy h2))
 ·have:j'=j:=by omega
  subst this;rw [hy] at h1;cases h1;rw [OL h2 hy] at g;simpa using g
theorem FN {a b:List AH} (va:VL a) (vb:VL b) : ∀ {n:Nat},n<=a.length+b.length->Inv a b (Ak a b n).1 (Ak a b n).2/\(Ak a b n).1+(Ak a b n).2=n
 | 0,_=>⟨Inv.zero a b,rfl⟩
 | n+1,h=>by
  obtain ⟨hI,hs⟩:=FN va vb (n:=n) (by omega);rw [show Ak a b (n+1)=if HN a b (Ak a b n).1 (Ak a b n).2=true then ((Ak a b n).1+1,(Ak a b n).2) else ((Ak a b n).1,(Ak a b n).2+1) from rfl]
  revert hI hs;generalize (Ak a b n).1=i;generalize (Ak a b n).2=j;intro hI hs;cases g:HN a b i j with
  | true =>
   have hi:i<a.length:=by
    refine Nat.lt_of_not_le λh' => ?_;have h1:a[i]? = none:=List.getElem?_eq_none h';have h2:j<b.length:=by have:=hI.ia;omega
    rw [VY h1 (by simp [h2]:b[j]? = some b[j])] at g;cases g
   have:=hI.stepA va (by simp [hi]:a[i]? = some a[i]) g;rw [if_pos rfl];exact ⟨this,by omega⟩
  | false =>
   have hj:j<b.length:=by
    refine Nat.lt_of_not_le λh' => ?_;have h1:b[j]? = none:=List.getElem?_eq_none h';cases h2:a[i]? with
    | none=>rw [SJ h2 h1] at g;cases g
    | some x=>rw [VX h2 h1] at g;cases g
   have:=hI.stepB vb (by simp [hj]:b[j]? = some b[j]) g;rw [if_neg (by simp)];exact ⟨this,by omega⟩
end Go.Proofs.YthpkjfabdccpdaaGreat.Pl
namespace Go.Proofs.YthpkjfabdccpdaaGreat.Pl
open Go Go.Proofs.YthpkjfabdccpdaaGreat.Sv
def Tt (p q:AP):Dm:=([p,q],([0,if w0 p q=true then 1 else 0],if w0 p q=true then 0 else 1))
def K9 (a b:List AH) (i j:Nat):AW:=([a,b],([(i:Int),(j:Int)],Tt (kx a i) (kx b j)))
def fW (a b:List AH) (n:Nat):Ma:=match ND a b n with
 | some x=>x.1
 | none=>[]
def fresh (a b:List AH) (n:Nat) (x:AH):Bool:=decide (n=0)||decide (fW a b (n-1)≠x.1)
def eP (a b:List AH) (bt:Bool):Nat->List AH
 | 0=>[]
 | n+1=>match ND a b n with
  | some x=>if (fresh a b n x && !(bt&&x.2.2.1))=true then eP a b bt n++[x] else eP a b bt n
  | none=>eP a b bt n
def mf (a b:List AH) (bt:Bool) (n:Nat):CE:=(decide (n≠0),(if n=0 then [] else fW a b (n-1),bt))
def mg (a b:List AH) (bt:Bool) (n:Nat):If:=(K9 a b (Ak a b n).1 (Ak a b n).2,(mf a b bt n,(eP a b bt n,(n:Int))))
def A0 (a b:List AH):Nat->List AH
 | 0=>[]
 | n+1=>match ND a b n with
  | some x=>A0 a b n++[x]
  | none=>A0 a b n
section
variable {a b:List AH} (va:VL a) (vb:VL b)
include va vb
theorem D0 {n:Nat} (h:n<a.length+b.length) : ∃ x,ND a b n=some x/\(x∈a\/x∈b):=by
 obtain ⟨hI,hs⟩:=FN va vb (n:=n) (by omega);unfold ND;revert hI hs;generalize (Ak a b n).1=i;generalize (Ak a b n).2=j;intro hI hs;cases g:HN a b i j with
 | true =>
  have hi:i<a.length:=by
   refine Nat.lt_of_not_le λh' => ?_;have h1:a[i]? = none:=List.getElem?_eq_none h';have h2:j<b.length:=by have:=hI.ia;omega
   rw [VY h1 (by simp [h2]:b[j]? = some b[j])] at g;cases g
  exact ⟨a[i],by simp [hi],.inl (List.getElem_mem hi)⟩
 | false =>
  have hj:j<b.length:=by
   refine Nat.lt_of_not_le λh' => ?_;have h1:b[j]? = none:=List.getElem?_eq_none h';cases h2:a[i]? with
   | none=>rw [SJ h2 h1] at g;cases g
   | some x=>rw [VX h2 h1] at g;cases g
  exact ⟨b[j],by simp [hj],.inr (List.getElem_mem hj)⟩
theorem Yo {n:Nat} {x:AH} (h:ND a b n=some x):kE x=0:=by
 have:x∈a\/x∈b:=by
  unfold ND at h;split at h
  ·exact .inl (List.mem_of_getElem? h)
  ·exact .inr (List.mem_of_getElem? h)
 rcases this with h | h
 ·exact va.ok x h
 ·exact vb.ok x h
theorem VZ {n:Nat} (hn:n+1<a.length+b.length) {x y:AH} (h1:ND a b n=some x) (h2:ND a b (n+1)=some y):Ct y.1 x.1=false:=by
 obtain ⟨hI,hs⟩:=FN va vb (n:=n) (by omega);unfold ND at h1 h2;rw [show Ak a b (n+1)=if HN a b (Ak a b n).1 (Ak a b n).2=true then ((Ak a b n).1+1,(Ak a b n).2) else ((Ak a b n).1,(Ak a b n).2+1) from rfl] at h2
 revert hI hs h1 h2;generalize (Ak a b n).1=i;generalize (Ak a b n).2=j;intro h1 h2 hI hs;cases g:HN a b i j with
 | true =>
  rw [if_pos g] at h1;simp only [g,if_true] at h2;have hI':=hI.stepA va h1 g;cases g2:HN a b (i+1) j with
  | true=>rw [if_pos g2] at h2;exact DZ (va.lt h1 h2)
  | false=>rw [if_neg (by simp [g2])] at h2;exact hI'.pa i rfl x y h1 h2
 | false =>
  rw [if_neg (by simp [g])] at h1;simp only [g,if_false,Bool.false_eq_true] at h2;have hI':=hI.stepB vb h1 g;cases g2:HN a b i (j+1) with
  | true=>rw [if_pos g2] at h2;exact DZ (hI'.pb j rfl x y h1 h2)
  | false=>rw [if_neg (by simp [g2])] at h2;exact DZ (vb.lt h1 h2)
theorem Ch : ∀ {n:Nat},n<=a.length+b.length->(A0 a b n).length=n
 | 0,_=>rfl
 | n+1,h=>by
  obtain ⟨x,hx,_⟩:=D0 va vb (n:=n) (by omega);unfold A0;rw [hx];simp [Ch (n:=n) (by omega)]
theorem IC : ∀ {n k:Nat},n<=a.length+b.length->k<n->(A0 a b n)[k]? = ND a b k
 | n+1,k,h,hk=>by
  obtain ⟨x,hx,_⟩:=D0 va vb (n:=n) (by omega);unfold A0;rw [hx];show (A0 a b n++[x])[k]? = _;have hl:=Ch va vb (n:=n) (by omega);by_cases hkn:k<n
  ·rw [List.getElem?_append_left (by omega)];exact IC (by omega) hkn
  ·have:k=n:=by omega
   subst this;rw [List.getElem?_append_right (by omega),hl];simp [hx]
theorem Ti {n m:Nat} (hm:m<=a.length+b.length) (h:n<=m):(A0 a b m).take n=A0 a b n:=by
 apply List.ext_getElem?;intro k;rw [List.getElem?_take];by_cases hk:k<n
 ·rw [if_pos hk,IC va vb hm (by omega),IC va vb (by omega) hk]
 ·rw [if_neg hk,List.getElem?_eq_none];rw [Ch va vb (by omega)];omega
end
end Go.Proofs.YthpkjfabdccpdaaGreat.Pl
namespace Go.Proofs.YthpkjfabdccpdaaGreat.Pl
open Go Go.Proofs.YthpkjfabdccpdaaGreat.Sv
theorem AX (n:Nat):Aa n=(n:Int):=rfl
theorem AR {α:Type} (l:List α):AA l=l.length:=rfl
theorem Ih (l:List UInt8):Eu l=l.length:=rfl
theorem Tj:AU true=false:=rfl
theorem BW {β:Type} (c:Bool) (x y:Unit->Option β):br (AU c) x y=br c y x:=Yk c x y
theorem C3 {β:Type} {a b:Nat} (h:a<=b) (k:Unit->Option β):gd (Bb a b) k=k ():=by rw [gF,if_pos h]
theorem KT (k:Ma):Eg k=some (if k.length>32 then 3 else 0):=by
 unfold Eg;rw [Az,AX,Ih];by_cases h:k.length>32
 ·rw [if_pos (by omega),if_pos h]
 ·rw [if_neg (by omega),if_neg h]
theorem Ej (x:AH):Bm x=some (kE x):=by
 unfold Bm kE;rw [KT,AC,AN];by_cases h1:x.1.length>32
 ·simp [h1]
 rw [if_neg h1,if_pos rfl,Az,AX,Ih];by_cases h2:x.2.1.length>64
 ·rw [if_pos (by omega),if_pos (.inr h2)]
 rw [if_neg (by omega : ¬ (x.2.1.length:Int)>64),if_neg (by omega),GX];by_cases h3:x.2.2.1=true
 ·rw [if_pos h3,BW,EQ];by_cases h4:x.2.1=[]
  ·rw [if_pos h4,if_neg (by simp [h4]),BE,Az];by_cases h5:x.2.2.2<1
   ·simp [h5]
   ·by_cases h6:x.2.2.2>1000000000<;>simp [h5,h6]
  ·rw [if_neg h4,if_pos ⟨h3,h4⟩]
 ·rw [if_neg h3,if_neg (by simp [h3]),BE,Az];by_cases h5:x.2.2.2<1
  ·simp [h5]
  ·by_cases h6:x.2.2.2>1000000000<;>simp [h5,h6]
theorem ES (l:List AH) (hl:l.length<=9223372036854775807):A7 l=some (ER l):=by
 unfold A7 ER;rw [Az,AX,AR];by_cases h:l.length>5000
 ·rw [if_pos (by omega),if_pos h]
 rw [if_neg (by omega),if_neg h]
 have key:=WV (β:=Nat×(Int×Int×Int)×Unit) (l:=l) (λk (_:Int)=>((0:Int),((0:Int),(k:Int))))
  (λk x _=>if kE x≠0 then some (.dn (0,((kE x,((k:Int),(k:Int))),()))) else if k>0 then
    (match l[k-1]? with
    | some y=>if Ct y.1 x.1=true then some (.nx 0) else some (.dn (0,(((6:Int),((k:Int),(k:Int))),())))
    | none=>none) else some (.nx 0))
  (λ_=>some (1,((0,(0,(l.length:Int))),()))) (s:=(0,(0,0))) (0:Int) rfl hl (f:=(λs0=>br (Aj s0.2.2 (Aa (AA l))) (λ_=>AS s0.2.2 λk1=>ix l k1 λx2=>bd (Bm x2) λr3=>br (BF r3 0) (λ_=>some (.dn ((0,((r3,(s0.2.2,s0.2.2)),()))))) λ_=>br (B0 s0.2.2 0) (λ_=>AS (Bp .i64 s0.2.2 1) λk4=>ix l k4 λx5=>br (AU (Ct x5.1 x2.1)) (λ_=>some (.dn ((0,((6,(s0.2.2,s0.2.2)),()))))) λ_=>some (.nx ((s0.1,(s0.2.1,AF .i64 s0.2.2 1))))) λ_=>some (.nx ((s0.1,(s0.2.1,AF .i64 s0.2.2 1))))) λ_=>some (.dn ((1,(s0,()))))))
  (λk x st hx=>by
   simp only;rw [gG hx,AM,AG,AJ hx,Ej,AC,AN];by_cases h1:kE x=0
   ·have hk:k<l.length:=(List.getElem?_eq_some_iff.1 hx).1;simp only [h1,if_true,ne_eq,not_true,if_false];rw [Az];by_cases h2:k>0
    ·rw [if_pos (by omega:(k:Int)>0),if_pos h2,Bt (by omega),show ((k:Int)-1)=((k-1:Nat):Int) by omega,AG];have hy:l[k-1]? = some l[k-1]:=by rw [List.getElem?_eq_getElem (by omega)]
     rw [AJ hy,hy,BW,GD];simp only;by_cases h3:Ct l[k-1].1 x.1=true
     ·rw [if_pos h3,if_pos h3,Am hx hl];rfl
     ·rw [if_neg h3,if_neg h3];rfl
    ·rw [if_neg (by omega : ¬ (k:Int)>0),if_neg h2,Am hx hl];rfl
   ·simp only [h1,if_false,ne_eq,not_false_iff,if_true];rfl)
  (λst=>by
   simp only
   rw [eO,Av];rfl)
 simp only [AX,AR] at key;rw [key]
 have main : ∀ (m:List AH) (k:Nat) (p:Option Ma),l.drop k=m->(p=if k=0 then none else (l[k-1]?).map (·.1)) -> ∀ st,bd (OK (β:=Nat×(Int×Int×Int)×Unit) (λk x (_:Int)=>if kE x≠0 then some (.dn (0,((kE x,((k:Int),(k:Int))),()))) else if k>0 then
    (match l[k-1]? with
    | some y=>if Ct y.1 x.1=true then some (.nx 0) else some (.dn (0,(((6:Int),((k:Int),(k:Int))),())))
    | none=>none) else some (.nx (0:Int))) (λ_=>some (1,((0,(0,(l.length:Int))),()))) m k st) (λr6=>br (neq r6.1 0) (λ_=>some (r6.2.1.2.1,r6.2.1.1)) λ_=>some ((0:Int),(0:Int)))=some (I3 p k m):=by
  intro m
  induction m with
  | nil=>intro k p _ _ st;rfl
  | cons x m ih =>
   intro k p hm hp st
   have hx:l[k]? = some x:=by
    have:=congrArg List.head? hm;rw [List.head?_drop] at this;simpa using this
   have hk:k<l.length:=(List.getElem?_eq_some_iff.1 hx).1
   have hm2:l.drop (k+1)=m:=by
    have:=congrArg List.tail hm;rw [List.tail_drop] at this;simpa using this
   unfold OK I3;by_cases h1:kE x=0
   ·simp only [h1,ne_eq,not_true,if_false];by_cases h2:k>0
    ·have hy:l[k-1]? = some l[k-1]:=by rw [List.getElem?_eq_getElem (by omega)]
     rw [if_pos h2,hy];rw [if_neg (by omega : ¬ k=0),hy] at hp;subst hp;simp only [Option.map_some];by_cases h3:Ct l[k-1].1 x.1=true
     ·rw [if_pos h3,if_pos h3];exact ih (k+1) (some x.1) hm2 (by rw [if_neg (by omega)];simp [hx]) 0
     ·rw [if_neg h3,if_neg h3];rfl
    ·have hk0:k=0:=by omega
     subst hk0;rw [if_neg h2];simp only [if_true] at hp;subst hp;exact ih 1 (some x.1) hm2 (by simp [hx]) 0
   ·simp only [h1,ne_eq,not_false_iff,if_true];rfl
 exact main l 0 none (by simp) (by simp) 0
theorem Lt {α β σ S:Type} {l:List α} (mk:Nat->σ->S) (F:List α->Nat->σ->Option β) {f:S->Option (LR S β)} {s:S} (st:σ) (h0:s=mk 0 st) (hl:l.length<=9223372036854775807)
  (hn : ∀ st,f (mk l.length st)=hC (F [] l.length st))
  (hc : ∀ k x m st,l.drop k=x::m->l[k]? = some x->k<l.length->(∃ st',f (mk k st)=some (.nx (mk (k+1) st'))/\F (x::m) k st=F m (k+1) st')\/f (mk k st)=hC (F (x::m) k st)):loop f s=F l 0 st:=by
 subst h0
 have main : ∀ (m:List α) (k n:Nat) (st:σ),l.drop k=m->k<=l.length->m.length<n->DO n f (mk k st)=F m k st:=by
  intro m
  induction m with
  | nil =>
   intro k n st hm hk hn';obtain ⟨n,rfl⟩ : ∃ j,n=j+1:=⟨n-1,by omega⟩
   have hkl:k=l.length:=by
    have:=congrArg List.length hm;simp at this;omega
   subst hkl;unfold DO;rw [hn];cases F [] l.length st<;>rfl
  | cons x m ih =>
   intro k n st hm hk hn';obtain ⟨n,rfl⟩ : ∃ j,n=j+1:=⟨n-1,by omega⟩
   have hx:l[k]? = some x:=by
    have:=congrArg List.head? hm;rw [List.head?_drop] at this;simpa using this
   have hk':k<l.length:=(List.getElem?_eq_some_iff.1 hx).1
   have hm2:l.drop (k+1)=m:=by
    have:=congrArg List.tail hm;rw [List.tail_drop] at this;simpa using this
   rcases hc k x m st hm hx hk' with ⟨st',h1,h2⟩ | h1
   ·rw [BZ h1,h2];exact ih (k+1) n st' hm2 (by omega) (by simp at hn';omega)
   ·unfold DO;rw [h1];cases F (x::m) k st<;>rfl
 exact main l 0 _ st (by simp) (by omega) (by omega)
theorem rl {α:Type} {l:List α} {k:Nat} (h:k<l.length):Aj (k:Int) (l.length:Int)=true:=by unfold Aj;simp;omega
theorem re {α:Type} (l:List α):Aj (l.length:Int) (l.length:Int)=false:=by unfold Aj;simp
theorem BC {α β:Type} {m:Option α} {x:α} {k:α->Option β} {r:Option β} (h:m=some x) (e:k x=r):bd m k=r:=by subst h;exact e
theorem Md (k:AP):Cw k=some (k.2&&decide (k.1≠[])):=by
 unfold Cw;rw [GX];cases h:k.2 with
 | true=>rw [if_pos rfl,Kz];simp [AU]
 | false=>rw [if_neg (by simp)];rfl
def EG (k:AP):Prop:=k.2=true->k.1=[]
theorem eQ {k:AP} (h:EG k):Cw k=some false:=by
 rw [Md];cases h2:k.2 with
 | true=>simp [h h2]
 | false=>rfl
theorem BS (l:List AH) (i:Nat):EG (kx l i):=by
 unfold kx EG;split<;>simp
theorem GE {l:List AP} (h : ∀ k∈l,EG k) (h0:l≠[]) (hl:l.length<=32):DB l=some 0:=by
 unfold DB;simp only [AX,AR];rw [Bg,Az,if_neg (by have:=List.length_pos_iff.2 h0;omega),if_neg (by omega)]
 rw [Lt (l:=l) (σ:=Unit) (s:=(0,0)) (λk _=>((0:Int),(k:Int))) (λ_ _ _=>some (1,((0,(l.length:Int)),()))) () rfl (by omega) (λst=>by
  simp only;rw [re];rfl) (λk x m st _ hx hk => .inl ⟨(),by
   simp only;rw [rl hk,AM,AG,AJ hx,eQ (h x (List.mem_of_getElem? hx)),AC,Av,Am hx (by omega)],rfl⟩),AC]
 rfl
theorem JX {α:Type} {l:List α} (h:l.length<=1048576):(gd (Bb (AA l) 1048576) λ_=>some l)=some l:=C3 h _
theorem SK (p q:AP):Eh [p,q]=some (Tt p q):=by
 have hw:w0 p q=(if p.2≠q.2 then q.2 else if p.1≠q.1 then Ct p.1 q.1 else true):=rfl
 unfold Eh;simp only [AX,AR,List.length_cons,List.length_nil];rw [show HL .i64 2 ((0+1+1:Nat):Int)=4 from rfl,show Bp .i64 4 1=3 from rfl];unfold Ah;rw [show AS 4=λk=>k 4 from rfl];simp only [C3 (show 4<=1048576 by omega),JX (show [p,q].length<=1048576 by simp),AC];rw [show AS ((0+1+1:Nat):Int)=λk=>k 2 from rfl];simp only [C3 (show 2<=1048576 by omega)];have fin : ∀ {w l:Int} {x:Nat×((Int×(List Int×(List AP×(List Int×Int))))×Unit)},x=(0,((0,([0,w,0,1],([p,q],([0,l],0)))),()))->(gd (D9 1 (AA x.2.1.2.1)) λ_=>ix x.2.1.2.1 1 λx41=>some ((x.2.1.2.2.1,(x.2.1.2.2.2.1,x41))))=some ([p,q],([0,l],w)):=λe=>by subst e;rfl
 have go : ∀ {f:(Int×(List Int×(List AP×(List Int×Int))))->Option (LR (Int×(List Int×(List AP×(List Int×Int)))) (Nat×((Int×(List Int×(List AP×(List Int×Int))))×Unit)))} {w l:Int},f (3,([0,0,0,0],([p,q],([0,0],0))))=some (.nx (2,([0,0,0,1],([p,q],([0,0],0)))))->f (2,([0,0,0,1],([p,q],([0,0],0))))=some (.nx (1,([0,0,0,1],([p,q],([0,0],0))))) ->
   f (1,([0,0,0,1],([p,q],([0,0],0))))=some (.nx (0,([0,w,0,1],([p,q],([0,l],0)))))->f (0,([0,w,0,1],([p,q],([0,l],0))))=some (.dn (0,((0,([0,w,0,1],([p,q],([0,l],0)))),()))) ->
   loop f (3,([0,0,0,0],([p,q],([0,0],0))))=some (0,((0,([0,w,0,1],([p,q],([0,l],0)))),())):=λh1 h2 h3 h4 =>
  Dn (n:=4) (by omega) ((BZ h1).trans ((BZ h2).trans ((BZ h3).trans (Br h4))))
 have st : ∀ {β:Type} (A B:Option β),w0 p q=true->br (AU (beq p.2 q.2)) (λ_=>br (AU q.2) (λ_=>B) λ_=>A) (λ_=>br (AU (seq p.1 q.1)) (λ_=>br (AU (Ct p.1 q.1)) (λ_=>B) λ_=>A) λ_=>A)=A:=fun {β} A B h=>by
  rw [hw] at h;rw [BW (beq p.2 q.2),GX (beq p.2 q.2),BW q.2,GX q.2,BW (seq p.1 q.1),EQ,BW (Ct p.1 q.1),GD];by_cases h1:p.2=q.2
  ·rw [if_neg (by simp [h1])] at h;rw [if_pos (by simp [Sv.beq,h1])];by_cases h2:p.1=q.1
   ·rw [if_pos h2]
   ·rw [if_neg h2];rw [if_pos h2] at h;rw [if_pos h]
  ·rw [if_pos h1] at h;rw [if_neg (by simp [Sv.beq,h1]),if_pos h]
 have st2 : ∀ {β:Type} (A B:Option β),w0 p q≠true->br (AU (beq p.2 q.2)) (λ_=>br (AU q.2) (λ_=>B) λ_=>A) (λ_=>br (AU (seq p.1 q.1)) (λ_=>br (AU (Ct p.1 q.1)) (λ_=>B) λ_=>A) λ_=>A)=B:=fun {β} A B h=>by
  rw [hw] at h;rw [BW (beq p.2 q.2),GX (beq p.2 q.2),BW q.2,GX q.2,BW (seq p.1 q.1),EQ,BW (Ct p.1 q.1),GD];by_cases h1:p.2=q.2
  ·rw [if_neg (by simp [h1])] at h;rw [if_pos (by simp [Sv.beq,h1])];by_cases h2:p.1=q.1
   ·rw [if_neg (by simp [h2])] at h;exact absurd rfl h
   ·rw [if_neg h2];rw [if_pos h2] at h;rw [if_neg h]
  ·rw [if_pos h1] at h;rw [if_neg (by simp [Sv.beq,h1]),if_neg h]
 rw [show IQ 4 (0:Int)=[0,0,0,0] from rfl,show IQ 2 (0:Int)=[0,0] from rfl];by_cases h:w0 p q=true
 ·refine BC (x:=(0,((0,([0,0,0,1],([p,q],([0,1],0)))),()))) ?_ ?_;refine Dn (n:=4) (by omega) ?_;refine (BZ (s':=(2,([0,0,0,1],([p,q],([0,0],0))))) ?_).trans ((BZ (s':=(1,([0,0,0,1],([p,q],([0,0],0))))) ?_).trans ((BZ (s':=(0,([0,0,0,1],([p,q],([0,1],0))))) ?_).trans (Br ?_)))
  ·rfl
  ·rfl
  ·exact st _ _ h
  ·rfl
  ·show some ([p,q],([0,1],0))=_;unfold Tt;simp [h]
 ·refine BC (x:=(0,((0,([0,1,0,1],([p,q],([0,0],0)))),()))) ?_ ?_;refine Dn (n:=4) (by omega) ?_;refine (BZ (s':=(2,([0,0,0,1],([p,q],([0,0],0))))) ?_).trans ((BZ (s':=(1,([0,0,0,1],([p,q],([0,0],0))))) ?_).trans ((BZ (s':=(0,([0,1,0,1],([p,q],([0,0],0))))) ?_).trans (Br ?_)))
  ·rfl
  ·rfl
  ·exact st2 _ _ h
  ·rfl
  ·show some ([p,q],([0,0],1))=_;unfold Tt;simp [h]
theorem Me {p q:AP} (hp:EG p) (hq:EG q):CF [p,q]=some (Tt p q,0):=by
 unfold CF;rw [GE (by simp [hp,hq]) (by simp) (by simp),AC,AN,if_pos rfl,SK,AC]
theorem Tk {p q:AP} (hp:EG p) (hq:EG q):E1 (Tt p q)=some (0,0):=by
 unfold E1;rw [show (Tt p q).1=[p,q] from rfl,GE (by simp [hp,hq]) (by simp) (by simp),AC,AN,if_pos rfl,AN,if_pos (show Aa (AA (Tt p q).2.1)=Aa (AA [p,q]) from rfl),SK,AC];simp only [AX,AR]
 rw [Lt (l:=(Tt p q).2.1) (σ:=Unit) (s:=(0,(0,0))) (λk _=>((0:Int),((k:Int),(0:Int)))) (λ_ _ _=>some (1,((0,(((Tt p q).2.1.length:Int),0)),()))) () rfl (show 2<=9223372036854775807 by omega) (λst=>by
  simp only;rw [re];rfl) (λk x m st _ hx hk => .inl ⟨(),by
   simp only;rw [rl hk,AM,AG,AJ hx,AG,AJ hx,AN,if_pos rfl,Am hx (show 2<=9223372036854775807 by omega)],rfl⟩),AC]
 rw [show neq 1 0=false from rfl,Av,AN,if_pos rfl]
def wn (p q:AP):Nat:=if w0 p q=true then 0 else 1
def wk (p q:AP):AP:=if w0 p q=true then p else q
theorem Tl (p q:AP):(Tt p q).2.2=(wn p q:Int):=by unfold Tt wn;split<;>rfl
theorem Tn (p q:AP):(Tt p q).1[wn p q]? = some (wk p q):=by unfold Tt wn wk;split<;>rfl
theorem SL {p q:AP} (hp:EG p) (hq:EG q):Ei (Tt p q)=some (if (wk p q).2=true then 12 else 0):=by
 unfold Ei;rw [Tk hp hq,AC,AN,if_pos rfl,Tl,AG,AJ (Tn p q),GX];split<;>rfl
theorem HE {p q:AP} (hp:EG p) (hq:EG q):CK (Tt p q)=some (if (wk p q).2=true then (0,([],12)) else ((wn p q:Int),((wk p q).1,0))):=by
 unfold CK;rw [SL hp hq,AC,AN,Tl,AG,AJ (Tn p q)];by_cases h:(wk p q).2=true<;>simp [h]
def rk (p q k:AP):AP×AP:=if w0 p q=true then (k,q) else (p,k)
theorem Yp (p q:AP):BP (0,(1,([p,q],())))=some (w0 p q):=by
 unfold BP w0;show br (AU (beq p.2 q.2)) (λ_=>some q.2) (λ_=>br (AU (seq p.1 q.1)) (λ_=>some (Ct p.1 q.1)) λ_=>some (Aj 0 1))=_;rw [BW (beq p.2 q.2),GX (beq p.2 q.2),BW (seq p.1 q.1),EQ];by_cases h1:p.2=q.2
 ·rw [if_pos (show Sv.beq p.2 q.2=true by simp [Sv.beq,h1]),if_neg (show ¬ p.2≠q.2 by simp [h1])];by_cases h2:p.1=q.1
  ·rw [if_pos h2,if_neg (show ¬ p.1≠q.1 by simp [h2])];rfl
  ·rw [if_neg h2,if_pos h2]
 ·rw [if_neg (show ¬ Sv.beq p.2 q.2=true by simp [Sv.beq,h1]),if_pos h1]
theorem Yq (p q:AP):BP (1,(0,([p,q],())))=some (!w0 p q):=by
 unfold BP w0;show br (AU (beq q.2 p.2)) (λ_=>some p.2) (λ_=>br (AU (seq q.1 p.1)) (λ_=>some (Ct q.1 p.1)) λ_=>some (Aj 1 0))=_;rw [BW (beq q.2 p.2),GX (beq q.2 p.2),BW (seq q.1 p.1),EQ];by_cases h1:p.2=q.2
 ·rw [if_pos (show Sv.beq q.2 p.2=true by simp [Sv.beq,h1]),if_neg (show ¬ p.2≠q.2 by simp [h1])];by_cases h2:p.1=q.1
  ·rw [if_pos h2.symm,if_neg (show ¬ p.1≠q.1 by simp [h2])];rfl
  ·rw [if_neg (show ¬ q.1=p.1 from λe=>h2 e.symm),if_pos h2];cases hs:Ct p.1 q.1 with
   | true=>rw [DZ hs];rfl
   | false=>rw [Yn hs h2];rfl
 ·rw [if_neg (show ¬ Sv.beq q.2 p.2=true by simp [Sv.beq,Ne.symm h1]),if_pos h1];cases hp:p.2<;>cases hq:q.2<;>simp_all
theorem Hb {p q k:AP} (hp:EG p) (hq:EG q) (hk:EG k) (hw:(wk p q).2=false) (hle:k.2=true\/Ct k.1 (wk p q).1=false) :
  ∃ n,B5 (Tt p q,k)=some (Tt (rk p q k).1 (rk p q k).2,(n,0)):=by
 have hlen:(Tt p q).1.length<=1048576:=by show 2<=_;omega
 have hlen2:(Tt p q).2.1.length<=1048576:=by show 2<=_;omega
 have hset:lset (Tt p q).1 (wn p q) k=[(rk p q k).1,(rk p q k).2]:=by unfold Tt wn rk;split<;>rfl
 have hlose:(Tt p q).2.1=[0,(1-(wn p q:Int))]:=by unfold Tt wn;split<;>rfl
 have hwn:wn p q=0\/wn p q=1:=by unfold wn;split<;>simp
 have up : ∀ {f:(Int×(Int×(Unit×(List Int×Int))))->Option (LR (Int×(Int×(Unit×(List Int×Int)))) (Nat×((Int×(Int×(Unit×(List Int×Int))))×Unit)))},
   (f=λs8=>br (CA (HM .i64 s8.2.1 2) 0) (λ_=>some (.dn ((0,((s8.1,(HM .i64 s8.2.1 2,((),s8.2.2.2))),()))))) λ_=>AS (HM .i64 s8.2.1 2) λk9=>gd (D9 k9 (AA s8.2.2.2.1)) λ_=>ix s8.2.2.2.1 k9 λx10=>bd (BP ((x10,(s8.2.2.2.2,([(rk p q k).1,(rk p q k).2],()))))) λr11=>br r11 (λ_=>AS (HM .i64 s8.2.1 2) λk12=>gd (D9 k12 (AA s8.2.2.2.1)) λ_=>ix s8.2.2.2.1 k12 λx13=>AS (HM .i64 s8.2.1 2) λk14=>gd (D9 k14 (AA s8.2.2.2.1)) λ_=>ix s8.2.2.2.1 k14 λx15=>some (.nx ((AF .i64 s8.1 1,(HM .i64 s8.2.1 2,((),(lset s8.2.2.2.1 k14 s8.2.2.2.2,x13))))))) λ_=>some (.nx ((AF .i64 s8.1 1,(HM .i64 s8.2.1 2,((),s8.2.2.2))))))
   -> loop f (0,((2:Int)+wn p q,((),([0,(1-(wn p q:Int))],(wn p q:Int)))))=some (0,((1,(0,((),(Tt (rk p q k).1 (rk p q k).2).2))),())):=by
  intro f hf;subst hf;refine Dn (n:=2) (by omega) ((BZ (s':=(1,(1,((),(Tt (rk p q k).1 (rk p q k).2).2)))) ?_).trans (Br rfl));rcases hwn with h | h
  ·rw [h]
   have hw0:w0 p q=true:=by
    unfold wn at h;by_cases hh:w0 p q=true
    ·exact hh
    ·rw [if_neg hh] at h;cases h
   show bd (BP (1,(0,([(rk p q k).1,(rk p q k).2],())))) _=_;rw [Yq,AC];unfold Tt;cases hz:w0 (rk p q k).1 (rk p q k).2<;>rfl
  ·rw [h];show bd (BP (0,(1,([(rk p q k).1,(rk p q k).2],())))) _=_;rw [Yp,AC];unfold Tt;cases hz:w0 (rk p q k).1 (rk p q k).2<;>rfl
 unfold B5;simp only [SL hp hq,hw,AC,AN,if_true,if_false,Bool.false_eq_true];rw [GE (by simp [hk]) (by simp) (by simp),AC];simp only [if_true,BW];rw [GX];unfold Ah As;simp only [Tl,AG,AJ (Tn p q),C3 hlen,C3 hlen2,AC,GD,Qv,AR,AX,hset];have hlt:wn p q<(Tt p q).1.length:=by show wn p q<2;omega
 have hi:AF .i64 (([(rk p q k).1,(rk p q k).2].length:Nat):Int) (wn p q:Int)=(2:Int)+wn p q:=by
  rw [A9 (by simp;omega)];rfl
 rw [hi,hlose];simp only [AR,Qv] at up;have key:=up rfl;rw [if_pos hlt];by_cases hk2:k.2=true
 ·rw [if_pos hk2,key,AC];exact ⟨_,rfl⟩
 ·rw [if_neg hk2,if_neg (by rcases hle with h | h;exact absurd h hk2;rw [h];simp),key,AC]
  exact ⟨_,rfl⟩
end Go.Proofs.YthpkjfabdccpdaaGreat.Pl
namespace Go.Proofs.YthpkjfabdccpdaaGreat.Pl
open Go Go.Proofs.YthpkjfabdccpdaaGreat.Sv
theorem CM {S β:Type} {f:S->Option (LR S β)} {s0 s1 s2:S} {r:β} (h0:f s0=some (.nx s1)) (h1:f s1=some (.nx s2)) (h2:f s2=some (.dn r)):loop f s0=some r :=
 Dn (n:=3) (by omega) ((BZ h0).trans ((BZ h1).trans (Br h2)))
theorem NE {α β:Type} {c:Bool} {n:Int} {l:List α} {K:Nat->α->Option β} {E:Unit->Option β} (k:Nat) {x:α} (hc:c=true) (hn:n=(k:Int)) (hx:l[k]? = some x):br c (λ_=>AS n λk1=>ix l k1 λx2=>K k1 x2) E=K k x:=by
 subst hc;subst hn;rw [AM,AG,AJ hx]
theorem ET {α β:Type} {n:Int} {l:List α} {K:Nat->α->Option β} (k:Nat) {x:α} (hn:n=(k:Int)) (hx:l[k]? = some x):AS n (λk1=>ix l k1 λx2=>K k1 x2)=K k x:=by
 subst hn;rw [AG,AJ hx]
theorem GP {l:List AH} {i:Nat} (h:i<=l.length):BB (l,(i:Int))=some (kx l i):=by
 unfold BB kx;simp only [AX,AR];rw [Bg];by_cases hi:i=l.length
 ·rw [if_pos (by omega),List.getElem?_eq_none (by omega)]
 ·have hx:l[i]? = some l[i]:=by rw [List.getElem?_eq_getElem (by omega)]
  rw [if_neg (by omega),AG,AJ hx,hx]
section
variable {a b:List AH} (va:VL a) (vb:VL b)
theorem Yr {i j:Nat} (hi:i<=a.length) (hj:j<=b.length):Fj ([a,b],[(i:Int),(j:Int)])=some (Tt (kx a i) (kx b j)):=by
 unfold Fj;refine BC (x:=(0,((2,[kx a i,kx b j]),()))) (CM (s1:=(1,[kx a i,([],false)])) (s2:=(2,[kx a i,kx b j])) ?_ ?_ rfl) ?_
 ·show bd (BB (a,(i:Int))) _=_;rw [GP hi];rfl
 ·show bd (BB (b,(j:Int))) _=_;rw [GP hj];rfl
 ·show bd (CF [kx a i,kx b j]) _=_;rw [Me (BS _ _) (BS _ _)];rfl
include va vb
theorem Lu:A7 a=some (0,0):=by
 rw [ES _ (by have:=va.len;omega),JW va]
theorem K0:DA [a,b]=some (0,0):=by
 unfold DA;refine BC (x:=(1,((0,(0,2)),()))) (CM (s1:=(0,(0,1))) (s2:=(0,(0,2))) ?_ ?_ rfl) rfl
 ·show bd (A7 a) _=_;rw [Lu va va];rfl
 ·show bd (A7 b) _=_;rw [Lu vb vb];rfl
theorem WW (bt:Bool):EN ([a,b],bt)=some (mg a b bt 0,(0,0)):=by
 unfold EN;rw [K0 va vb,AC,AN,if_pos rfl];refine BC (x:=(0,((2,[kx a 0,kx b 0]),()))) (CM (s1:=(1,[kx a 0,([],false)])) (s2:=(2,[kx a 0,kx b 0])) ?_ ?_ rfl) ?_
 ·show bd (BB (a,((0:Nat):Int))) _=_;rw [GP (by omega)];rfl
 ·show bd (BB (b,((0:Nat):Int))) _=_;rw [GP (by omega)];rfl
 ·show bd (CF [kx a 0,kx b 0]) _=_;rw [Me (BS _ _) (BS _ _)];rfl
end
theorem Hc (x:Bool):Sv.beq x x=true:=by cases x<;>rfl
theorem Ii (x:Ma):seq x x=true:=by rw [NR]
theorem To (l:List AP) (h:l.length<=1000):Ai (l,l)=some true:=by
 unfold Ai;simp only [AX,AR]
 rw [AN,if_pos rfl,Lt (l:=l) (σ:=Unit) (s:=(0,false)) (λk _=>((k:Int),false)) (λ_ _ _=>some (1,(((l.length:Int),false),()))) () rfl (by omega) (λst=>by
  simp only;rw [re];rfl) (λk x m st _ hx hk => .inl ⟨(),by
   simp only;rw [rl hk,AM,AG,AJ hx,AG,AJ hx,Ii,Hc,show AU (Bf true (Bf true true))=false from rfl,Av,Am hx (by omega)],rfl⟩),AC]
 rfl
theorem Tp (l:List Int) (h:l.length<=1000):Ac (l,l)=some true:=by
 unfold Ac;simp only [AX,AR]
 rw [AN,if_pos rfl,Lt (l:=l) (σ:=Unit) (s:=(0,false)) (λk _=>((k:Int),false)) (λ_ _ _=>some (1,(((l.length:Int),false),()))) () rfl (by omega) (λst=>by
  simp only;rw [re];rfl) (λk x m st _ hx hk => .inl ⟨(),by
   simp only;rw [rl hk,AM,AG,AJ hx,AG,AJ hx,AN,if_pos rfl,Am hx (by omega)],rfl⟩),AC]
 rfl
theorem WX (t:Dm) (h1:t.1.length<=1000) (h2:t.2.1.length<=1000):D3 (t,t)=some true:=by
 unfold D3;rw [Bg,if_pos rfl,To _ h1,AC,AM,Tp _ h2];rfl
theorem WY (p q:AP):D3 (Tt p q,Tt p q)=some true:=WX _ (show 2<=1000 by omega) (show 2<=1000 by omega)
theorem WZ {a b:List AH} {i j:Nat} (h:HN a b i j=true):wk (kx a i) (kx b j)=kx a i/\wn (kx a i) (kx b j)=0:=by
 unfold HN at h;unfold wk wn;rw [if_pos h,if_pos h];exact ⟨rfl,rfl⟩
theorem Wa {a b:List AH} {i j:Nat} (h:HN a b i j=false):wk (kx a i) (kx b j)=kx b j/\wn (kx a i) (kx b j)=1:=by
 unfold HN at h;unfold wk wn;rw [if_neg (by simp [h]),if_neg (by simp [h])];exact ⟨rfl,rfl⟩
theorem Va (x y:Ma):CL (x,y)=some (if Ct x y=true then -1 else if Ct y x=true then 1 else 0):=by
 unfold CL Cm;simp only [Ii,Tj,AC,Av];rw [GD,GD];split
 ·rfl
 ·split<;>rfl
theorem Vb (x y:Int):B3 (x,y)=some (if x<y then -1 else if x>y then 1 else 0):=by
 unfold B3 Dy;simp only [AC,AN,if_true,BE,Az];split
 ·rfl
 ·split<;>rfl
theorem Ys (x y:Int):Fk [x,y]=some (if x≠0 then x else y):=by
 unfold Fk;by_cases h:x=0
 ·rw [if_neg (by simp [h])];by_cases h2:y=0
  ·refine BC (x:=(1,((0,2),()))) (CM (s1:=(0,1)) (s2:=(0,2)) ?_ ?_ rfl) (by rw [h2];rfl)
   ·refine (NE 0 rfl rfl rfl).trans ?_;rw [AN,if_pos h];rfl
   ·refine (NE 1 rfl rfl rfl).trans ?_;rw [AN,if_pos h2];rfl
  ·refine BC (x:=(0,((y,1),()))) (Dn (n:=2) (by omega) ((BZ (s':=(0,1)) ?_).trans (Br ?_))) rfl
   ·refine (NE 0 rfl rfl rfl).trans ?_;rw [AN,if_pos h];rfl
   ·refine (NE 1 rfl rfl rfl).trans ?_;rw [AN,if_neg h2]
 ·rw [if_pos h];refine BC (x:=(0,((x,0),()))) (Dn (n:=1) (by omega) (Br ?_)) rfl;refine (NE 0 rfl rfl rfl).trans ?_;rw [AN,if_neg h]
section
variable {a b:List AH} (va:VL a) (vb:VL b)
include va vb
theorem J6 {i j:Nat} (I:Inv a b i j):DC (K9 a b i j)=some (0,0):=by
 unfold DC;rw [show (K9 a b i j).1=[a,b] from rfl,K0 va vb,AC,AN,if_pos rfl];rw [show (K9 a b i j).2.1=[(i:Int),(j:Int)] from rfl,AN,if_pos (show Aa (AA [(i:Int),(j:Int)])=Aa (AA [a,b]) from rfl)];refine BC (x:=(1,((0,(0,2)),()))) (CM (s1:=(0,(0,1))) (s2:=(0,(0,2))) ?_ ?_ rfl) ?_
 ·refine (NE 0 rfl rfl rfl).trans ?_;rw [BE,if_neg (by omega),show AS (((0:Int),((0:Int),(0:Int))).2.2)=λ(k:Nat->Option (LR (Int×(Int×Int)) (Nat×((Int×(Int×Int))×Unit))))=>k 0 from rfl];simp only;rw [AJ (x:=a) rfl,Az,if_neg (by have:=I.ia;simp only [AX,AR];omega)];rfl
 ·refine (NE 1 rfl rfl rfl).trans ?_;rw [BE,if_neg (by omega),show AS (((0:Int),((0:Int),(1:Int))).2.2)=λ(k:Nat->Option (LR (Int×(Int×Int)) (Nat×((Int×(Int×Int))×Unit))))=>k 1 from rfl];simp only;rw [AJ (x:=b) rfl,Az,if_neg (by have:=I.jb;simp only [AX,AR];omega)];rfl
 rw [show neq ((1:Nat),(((0:Int),((0:Int),(2:Int))),())).1 0=false from rfl,Av,Yr I.ia I.jb,AC,show (K9 a b i j).2.2=Tt (kx a i) (kx b j) from rfl,WY,AC,show AU true=false from rfl,Av,HE (BS _ _) (BS _ _),AC];by_cases hd:(wk (kx a i) (kx b j)).2=true
 ·rw [if_pos hd];rfl
 rw [if_neg hd,AN,if_pos rfl]
 have la : ∀ {x:AH} {i':Nat},i=i'+1->a[i']? = some x -> ¬ (if (if Ct x.1 (wk (kx a i) (kx b j)).1=true then (-1:Int) else if Ct (wk (kx a i) (kx b j)).1 x.1=true then 1 else 0)≠0 then (if Ct x.1 (wk (kx a i) (kx b j)).1=true then (-1:Int) else if Ct (wk (kx a i) (kx b j)).1 x.1=true then 1 else 0) else (if (0:Int)<(wn (kx a i) (kx b j):Int) then -1 else if (0:Int)>(wn (kx a i) (kx b j):Int) then 1 else 0))>0:=by
  intro x i' hi hx
  have hle:Ct (wk (kx a i) (kx b j)).1 x.1=false:=by
   cases g:HN a b i j with
   | true =>
    rw [(WZ g).1] at hd ⊢;unfold kx at hd ⊢;cases hy:a[i]? with
    | none=>rw [hy] at hd;exact absurd rfl hd
    | some y=>rw [hi] at hy;exact DZ (va.lt hx hy)
   | false =>
    rw [(Wa g).1] at hd ⊢;unfold kx at hd ⊢;cases hy:b[j]? with
    | none=>rw [hy] at hd;exact absurd rfl hd
    | some y=>exact I.pa i' hi x y hx hy
  rw [hle];have : ¬ (0:Int)>(wn (kx a i) (kx b j):Int):=by omega
  by_cases hs:Ct x.1 (wk (kx a i) (kx b j)).1=true
  ·simp [hs]
  ·simp only [hs,Bool.false_eq_true,if_false,ne_eq,not_true,this];split<;>omega
 have lb : ∀ {y:AH} {j':Nat},j=j'+1->b[j']? = some y -> ¬ (if (if Ct y.1 (wk (kx a i) (kx b j)).1=true then (-1:Int) else if Ct (wk (kx a i) (kx b j)).1 y.1=true then 1 else 0)≠0 then (if Ct y.1 (wk (kx a i) (kx b j)).1=true then (-1:Int) else if Ct (wk (kx a i) (kx b j)).1 y.1=true then 1 else 0) else (if (1:Int)<(wn (kx a i) (kx b j):Int) then -1 else if (1:Int)>(wn (kx a i) (kx b j):Int) then 1 else 0))>0:=by
  intro y j' hj hy
  have hlt:Ct y.1 (wk (kx a i) (kx b j)).1=true:=by
   cases g:HN a b i j with
   | true =>
    rw [(WZ g).1] at hd ⊢;unfold kx at hd ⊢;cases hx:a[i]? with
    | none=>rw [hx] at hd;exact absurd rfl hd
    | some x=>exact I.pb j' hj y x hy hx
   | false =>
    rw [(Wa g).1] at hd ⊢;unfold kx at hd ⊢;cases hx:b[j]? with
    | none=>rw [hx] at hd;exact absurd rfl hd
    | some x=>rw [hj] at hx;exact vb.lt hy hx
  rw [hlt];simp
 refine BC (x:=(1,((0,(0,2)),()))) (CM (s1:=(0,(0,1))) (s2:=(0,(0,2))) ?_ ?_ rfl) rfl
 ·refine (NE 0 rfl rfl rfl).trans ?_;rw [Az];by_cases h0:(i:Int)>0
  ·rw [if_pos h0];obtain ⟨i',hi'⟩ : ∃ i',i=i'+1:=⟨i-1,by omega⟩;have hi2:i'<a.length:=by have:=I.ia;omega
   have hx:a[i']? = some a[i']:=by simp [hi2]
   refine (ET 0 rfl (x:=a) rfl).trans ((ET i' ?_ hx).trans ?_)
   ·rw [Bt (by have:=va.len;have:=I.ia;omega)];omega
   rw [Va,AC];show bd (B3 (0,(wn (kx a i) (kx b j):Int))) _=_;rw [Vb,AC,Ys,AC,Az,if_neg (la hi' hx)];rfl
  ·rw [if_neg h0];rfl
 ·refine (NE 1 rfl rfl rfl).trans ?_;rw [Az];by_cases h0:(j:Int)>0
  ·rw [if_pos h0];obtain ⟨j',hj'⟩ : ∃ j',j=j'+1:=⟨j-1,by omega⟩;have hj2:j'<b.length:=by have:=I.jb;omega
   have hy:b[j']? = some b[j']:=by simp [hj2]
   refine (ET 1 rfl (x:=b) rfl).trans ((ET j' ?_ hy).trans ?_)
   ·rw [Bt (by have:=vb.len;have:=I.jb;omega)];omega
   rw [Va,AC];show bd (B3 (1,(wn (kx a i) (kx b j):Int))) _=_;rw [Vb,AC,Ys,AC,Az,if_neg (lb hj' hy)];rfl
  ·rw [if_neg h0];rfl
end
end Go.Proofs.YthpkjfabdccpdaaGreat.Pl
namespace Go.Proofs.YthpkjfabdccpdaaGreat.Pl
open Go Go.Proofs.YthpkjfabdccpdaaGreat.Sv
theorem Fm {l:List AH} {i:Nat} {x:AH} (h:l[i]? = some x):kx l i=(x.1,false):=by unfold kx;rw [h]
theorem Lv {l:List AH} {i:Nat} (h:l[i]? = none):kx l i=([],true):=by unfold kx;rw [h]
theorem NS {l:List AH} (v:VL l) {i:Nat} {x:AH} (h:l[i]? = some x):(kx l (i+1)).2=true\/Ct (kx l (i+1)).1 x.1=false:=by
 cases hy:l[i+1]? with
 | none=>rw [Lv hy];exact .inl rfl
 | some y=>rw [Fm hy];exact .inr (DZ (v.lt h hy))
theorem JY {α β:Type} {n:Int} {l:List α} {K:Nat->α->Option β} (k:Nat) {x:α} (hn:n=(k:Int)) (hx:l[k]? = some x):AS n (λk1=>gd (D9 k1 (AA l)) λ_=>ix l k1 λx2=>K k1 x2)=K k x:=by
 subst hn;rw [AG,Qv,if_pos (show k<AA l from (List.getElem?_eq_some_iff.1 hx).1),AJ hx]
section
variable {a b:List AH} (va:VL a) (vb:VL b)
include va vb
theorem eR {i j:Nat} (I:Inv a b i j) {x:AH} (hx:a[i]? = some x) (g:HN a b i j=true):Bn (K9 a b i j)=some (x,(0,(K9 a b (i+1) j,0))):=by
 obtain ⟨hk,hn⟩:=WZ g;have hi:=(List.getElem?_eq_some_iff.1 hx).1;have hl:=va.len;have hd:(wk (kx a i) (kx b j)).2=false:=by rw [hk,Fm hx]
 obtain ⟨m,hr⟩:=Hb (p:=kx a i) (q:=kx b j) (k:=kx a (i+1)) (BS _ _) (BS _ _) (BS _ _) hd (by rw [hk,Fm hx];exact NS va hx)
 have hrk:rk (kx a i) (kx b j) (kx a (i+1))=(kx a (i+1),kx b j):=by
  unfold rk;unfold HN at g;rw [if_pos g]
 rw [hrk] at hr;unfold Bn;rw [J6 va vb I,AC,AN,if_pos rfl];unfold Ag As;refine BC (JX (show 2<=1048576 by omega)) (BC (JX (show 2<=1048576 by omega)) ?_);rw [show (K9 a b i j).2.2=Tt (kx a i) (kx b j) from rfl,HE (BS _ _) (BS _ _),if_neg (by simp [hd]),AC,AN,if_pos rfl,hn];refine (JY 0 rfl (x:=a) rfl).trans ((JY 0 rfl (x:=(i:Int)) rfl).trans ((ET i rfl hx).trans ((JY 0 rfl (x:=(i:Int)) rfl).trans ((JY 0 rfl (x:=(i:Int)) rfl).trans ((JY 0 rfl (x:=a) rfl).trans ((JY 0 rfl (x:=AF .i64 (i:Int) 1) rfl).trans ?_))))));rw [Ad (by omega),GP (show i+1<=a.length by omega),AC,hr,AC];rfl
theorem eU {i j:Nat} (I:Inv a b i j) {y:AH} (hy:b[j]? = some y) (g:HN a b i j=false):Bn (K9 a b i j)=some (y,(1,(K9 a b i (j+1),0))):=by
 obtain ⟨hk,hn⟩:=Wa g;have hi:=(List.getElem?_eq_some_iff.1 hy).1;have hl:=vb.len;have hd:(wk (kx a i) (kx b j)).2=false:=by rw [hk,Fm hy]
 obtain ⟨m,hr⟩:=Hb (p:=kx a i) (q:=kx b j) (k:=kx b (j+1)) (BS _ _) (BS _ _) (BS _ _) hd (by rw [hk,Fm hy];exact NS vb hy)
 have hrk:rk (kx a i) (kx b j) (kx b (j+1))=(kx a i,kx b (j+1)):=by
  unfold rk;unfold HN at g;rw [if_neg (by simp [g])]
 rw [hrk] at hr;unfold Bn;rw [J6 va vb I,AC,AN,if_pos rfl];unfold Ag As;refine BC (JX (show 2<=1048576 by omega)) (BC (JX (show 2<=1048576 by omega)) ?_);rw [show (K9 a b i j).2.2=Tt (kx a i) (kx b j) from rfl,HE (BS _ _) (BS _ _),if_neg (by simp [hd]),AC,AN,if_pos rfl,hn];refine (JY 1 rfl (x:=b) rfl).trans ((JY 1 rfl (x:=(j:Int)) rfl).trans ((ET j rfl hy).trans ((JY 1 rfl (x:=(j:Int)) rfl).trans ((JY 1 rfl (x:=(j:Int)) rfl).trans ((JY 1 rfl (x:=b) rfl).trans ((JY 1 rfl (x:=AF .i64 (j:Int) 1) rfl).trans ?_))))));rw [Ad (by omega),GP (show j+1<=b.length by omega),AC,hr,AC];rfl
def K1 (a b:List AH) (n:Nat):AW:=K9 a b (Ak a b n).1 (Ak a b n).2
def OM (a b:List AH) (n:Nat):Nat:=if HN a b (Ak a b n).1 (Ak a b n).2=true then 0 else 1
theorem ON {n:Nat} {x:AH} (h:n<a.length+b.length) (hx:ND a b n=some x):Bn (K1 a b n)=some (x,((OM a b n:Int),(K1 a b (n+1),0))):=by
 obtain ⟨hI,hs⟩:=FN va vb (n:=n) (by omega);unfold K1 OM;rw [show Ak a b (n+1)=if HN a b (Ak a b n).1 (Ak a b n).2=true then ((Ak a b n).1+1,(Ak a b n).2) else ((Ak a b n).1,(Ak a b n).2+1) from rfl]
 unfold ND at hx;cases g:HN a b (Ak a b n).1 (Ak a b n).2 with
 | true=>rw [if_pos g] at hx;rw [eR va vb hI hx g];simp
 | false=>rw [if_neg (by simp [g])] at hx;rw [eU va vb hI hx g];simp
end
theorem OO {s:CE} (h1:s.2.1.length<=32) (h2:s.1=false->s.2.1=[]):DW s=some 0:=by
 unfold DW;rw [KT,AC,if_neg (by omega),AN,if_pos rfl,BW,GX];cases h:s.1 with
 | true=>rfl
 | false=>rw [if_neg (by simp),BW,EQ,if_pos (h2 h)]
def keep (s:CE) (x:AH):Bool := !(s.1&&decide (x.1=s.2.1)) && !(s.2.2&&x.2.2.1)
theorem Wb {s:CE} {x:AH} (h1:s.2.1.length<=32) (h2:s.1=false->s.2.1=[]) (h3:kE x=0) (h4:s.1=true->Ct x.1 s.2.1=false):Bw (s,x)=some (keep s x,((true,(x.1,s.2.2)),0)):=by
 unfold Bw keep;rw [OO h1 h2,AC,AN,if_pos rfl,Ej,h3,AC,AN,if_pos rfl];obtain ⟨s1,s2,s3⟩:=s;obtain ⟨x1,x2,x3,x4⟩:=x;simp only at h4 ⊢;cases s1 with
 | true =>
  have:=h4 rfl;simp only [AM,Av,GD,EQ,this,Bool.false_eq_true,if_false];by_cases he:x1=s2
  ·simp [he]
  ·simp only [he,if_false,decide_false];cases s3<;>cases x3<;>rfl
 | false =>
  simp only [AM,Av];cases s3<;>cases x3<;>rfl
def Gp:CE->List AH->List AH
 | _,[]=>[]
 | s,x::l=>(if keep s x=true then [x] else [])++Gp (true,(x.1,s.2.2)) l
theorem JZ : ∀ (s:CE) (l:List AH),(Gp s l).length<=l.length
 | _,[]=>Nat.le_refl _
 | s,x::l=>by
  have:=JZ (true,(x.1,s.2.2)) l;unfold Gp;by_cases h:keep s x=true
  ·rw [if_pos h];simp;omega
  ·rw [if_neg h];simp;omega
def Q0:CE->List AH->Prop
 | _,[]=>True
 | s,x::l=>kE x=0/\(s.1=true->Ct x.1 s.2.1=false)/\Q0 (true,(x.1,s.2.2)) l
theorem OP {x:AH} (h:kE x=0):x.1.length<=32:=by
 unfold kE at h;by_cases hh:x.1.length>32\/x.2.1.length>64
 ·rw [if_pos hh] at h;cases h
 ·omega
theorem CY {α β σ S:Type} {l:List α} (mk:Nat->σ->S) (Inv:List α->Nat->σ->Prop) (F:List α->Nat->σ->β) {f:S->Option (LR S β)} {s:S} (st:σ) (h0:s=mk 0 st) (hl:l.length<=9223372036854775807) (hi:Inv l 0 st)
  (hn : ∀ st,Inv [] l.length st->f (mk l.length st)=some (.dn (F [] l.length st)))
  (hc : ∀ k x m st,l.drop k=x::m->l[k]? = some x->k<l.length->Inv (x::m) k st -> ∃ st',f (mk k st)=some (.nx (mk (k+1) st'))/\Inv m (k+1) st'/\F (x::m) k st=F m (k+1) st'):loop f s=some (F l 0 st):=by
 subst h0
 have main : ∀ (m:List α) (k n:Nat) (st:σ),l.drop k=m->k<=l.length->m.length<n->Inv m k st->DO n f (mk k st)=some (F m k st):=by
  intro m
  induction m with
  | nil =>
   intro k n st hm hk hn' hi;obtain ⟨n,rfl⟩ : ∃ j,n=j+1:=⟨n-1,by omega⟩
   have hkl:k=l.length:=by
    have:=congrArg List.length hm;simp at this;omega
   subst hkl;exact Br (hn st hi)
  | cons x m ih =>
   intro k n st hm hk hn' hi;obtain ⟨n,rfl⟩ : ∃ j,n=j+1:=⟨n-1,by omega⟩
   have hx:l[k]? = some x:=by
    have:=congrArg List.head? hm;rw [List.head?_drop] at this;simpa using this
   have hk':k<l.length:=(List.getElem?_eq_some_iff.1 hx).1
   have hm2:l.drop (k+1)=m:=by
    have:=congrArg List.tail hm;rw [List.tail_drop] at this;simpa using this
   obtain ⟨st',h1,h2,h3⟩:=hc k x m st hm hx hk' hi;rw [BZ h1,h3];exact ih (k+1) n st' hm2 (by omega) (by simp at hn';omega) h2
 exact main l 0 _ st (by simp) (by omega) (by omega) hi
def CC:CE->List AH->CE
 | s,[]=>s
 | s,x::l=>CC (true,(x.1,s.2.2)) l
theorem Q3 {β:Type} {out:List AH} {n:Nat} (h:out.length<=n) (hn:n<=20000) (x:AH) (k:Unit->Option β):gd (Bb (A3 (AA out) (AA [x])) 1048576) k=k ():=C3 (by simp only [A3,AA,List.length_cons,List.length_nil];omega) k
theorem Wc {l:List AH} {bt:Bool} (hl:l.length<=20000) (hr:Q0 (false,([],bt)) l):Dz (l,bt)=some (Gp (false,([],bt)) l,(0,0)):=by
 unfold Dz CJ;simp only [AX,AR];rw [Az,if_neg (by omega),AC]
 rw [CY (l:=l) (σ:=CE×List AH) (s:=(0,(0,(0,((false,([],bt)),[]))))) (λk st=>((0:Int),((k:Int),((0:Int),st))))
  (λm k st=>Q0 st.1 m/\st.1.2.1.length<=32/\(st.1.1=false->st.1.2.1=[])/\st.2.length<=k/\k+m.length=l.length)
  (λm k st=>(1,((0,((l.length:Int),(0,(CC st.1 m,st.2++Gp st.1 m)))),()))) ((false,([],bt)),[]) rfl (by omega) ⟨hr,by simp,λ_=>rfl,by simp,by simp⟩ ?_ ?_,AC]
 ·simp;rfl
 ·intro st _;simp only;rw [re,Av];simp [CC,Gp]
 ·rintro k x m ⟨s,out⟩ hm hx hk ⟨⟨h1,h2,h3⟩,h4,h5,h6,h7⟩;simp only at h1 h2 h3 h4 h5 h6 ⊢;refine ⟨((true,(x.1,s.2.2)),out++if keep s x=true then [x] else []),?_,⟨h3,OP h1,(λh=>by cases h),?_,by simp at h7;omega⟩,?_⟩
  ·rw [rl hk,AM,AG,AJ hx,OO h4 h5,AC,AN,if_pos rfl,Ej,h1,AC,AN,if_pos rfl];unfold keep A1;obtain ⟨s1,s2,s3⟩:=s;obtain ⟨x1,x2,x3,x4⟩:=x;simp only [AC,Am hx (show l.length<=9223372036854775807 by omega)] at h2 ⊢;have hg : ∀ {β:Type} (k:Unit->Option β),gd (Bb (A3 out.length [(x1,(x2,(x3,x4)))].length) 1048576) k=k ():=λk=>Q3 h6 (by simp at h7;omega) (x1,(x2,(x3,x4))) k;cases s1 with
   | true =>
    have h8:=h2 rfl;simp only [AM,Av,EQ,h8,hg];by_cases he:x1=s2
    ·simp [he]
    ·simp only [he,if_false,decide_false];cases s3<;>cases x3<;>simp [AM,Av,Bv]
   | false =>
    simp only [AM,Av,hg];cases s3<;>cases x3<;>simp [AM,Av,Bv]
  ·split<;>simp<;>omega
  ·simp only [CC,Gp,List.append_assoc]
end Go.Proofs.YthpkjfabdccpdaaGreat.Pl
namespace Go.Proofs.YthpkjfabdccpdaaGreat.Pl
open Go Go.Proofs.YthpkjfabdccpdaaGreat.Sv
theorem SM : ∀ (l:List AH) (s:CE) (x:AH),Gp s (l++[x])=Gp s l++(if keep (CC s l) x=true then [x] else [])
 | [],s,x=>by
  show (if keep s x=true then [x] else [])++[]=[]++(if keep s x=true then [x] else [])
  rw [List.append_nil,List.nil_append]
 | y::l,s,x=>by
  show (if keep s y=true then [y] else [])++Gp _ (l++[x])=((if keep s y=true then [y] else [])++Gp _ l)++_
  rw [SM l,List.append_assoc];rfl
theorem J7 : ∀ (l:List AH) (s:CE) (x:AH),CC s (l++[x])=(true,(x.1,(CC s l).2.2))
 | [],s,x=>rfl
 | y::l,s,x=>by simp only [List.cons_append,CC,J7 l]
theorem Fo : ∀ (l:List AH) (s:CE),(CC s l).2.2=s.2.2
 | [],s=>rfl
 | y::l,s=>by rw [CC,Fo l]
theorem SN : ∀ (l:List AH) (s:CE) (x:AH),Q0 s l->kE x=0->((CC s l).1=true->Ct x.1 (CC s l).2.1=false)->Q0 s (l++[x])
 | [],s,x,_,h1,h2=>⟨h1,h2,trivial⟩
 | y::l,s,x,⟨h1,h2,h3⟩,h4,h5=>⟨h1,h2,SN l _ x h3 h4 h5⟩
theorem Pp : ∀ (l:List AH) (s:CE),Q0 s l->s.2.1.length<=32->(s.1=false->s.2.1=[])->(CC s l).2.1.length<=32/\((CC s l).1=false->(CC s l).2.1=[])
 | [],s,_,h1,h2=>⟨h1,h2⟩
 | y::l,s,⟨h3,_,h4⟩,_,_=>Pp l _ h4 (OP h3) (λh=>by cases h)
abbrev s0 (bt:Bool):CE:=(false,([],bt))
def Es (a b:List AH) (bt:Bool) (n:Nat):If:=(K1 a b n,(CC (s0 bt) (A0 a b n),(Gp (s0 bt) (A0 a b n),(n:Int))))
def HF (a b:List AH):Nat->List Int
 | 0=>[]
 | n+1=>HF a b n++[(OM a b n:Int)]
theorem Mf (a b:List AH) : ∀ n,(HF a b n).length=n
 | 0=>rfl
 | n+1=>by simp [HF,Mf a b n]
theorem ID {S β:Type} {f:S->Option (LR S β)} {r:β} (mk:Nat->S) (k0 n:Nat) {s:S} (h0:s=mk k0) (hk:k0<=n) (hn:n<18446744073709551616) (hs : ∀ k,k0<=k->k<n->f (mk k)=some (.nx (mk (k+1)))) (he:f (mk n)=some (.dn r)):loop f s=some r:=by
 have h:=IB (f:=f) (r:=r) (λk=>mk (k0+k)) (n-k0) (s:=s) h0 (by omega) (λk hk=>hs (k0+k) (by omega) (by omega)) (by show f (mk (k0+(n-k0)))=_;rw [show k0+(n-k0)=n by omega];exact he);exact h
theorem OQ (l:List AH) (h:l.length<=100000):DY (l,l)=some true:=by
 unfold DY;simp only [AX,AR]
 rw [AN,if_pos rfl,Lt (l:=l) (σ:=Unit) (s:=(false,0)) (λk _=>(false,(k:Int))) (λ_ _ _=>some (1,((false,(l.length:Int)),()))) () rfl (by omega) (λst=>by
  simp only;rw [re];rfl) (λk x m st _ hx hk => .inl ⟨(),by
   simp only;rw [rl hk,AM,AG,AJ hx,AG,AJ hx,Ii,Ii,Hc,show CA x.2.2.2 x.2.2.2=true by unfold CA;simp,show AU (Bf true (Bf true (Bf true (Bf true true))))=false from rfl,Av,Am hx (by omega)],rfl⟩),AC]
 rfl
section
variable {a b:List AH} (va:VL a) (vb:VL b)
include va vb
theorem GF {n:Nat} {x:AH} (hx:ND a b n=some x):A0 a b (n+1)=A0 a b n++[x]:=by
 show (match ND a b n with
  | some x=>A0 a b n++[x]
  | none=>A0 a b n)=_
 rw [hx]
theorem Ij (bt:Bool) : ∀ {n:Nat},n<=a.length+b.length->Q0 (s0 bt) (A0 a b n)
 | 0,_=>trivial
 | n+1,h=>by
  obtain ⟨x,hx,_⟩:=D0 va vb (n:=n) (by omega);rw [GF va vb hx];refine SN _ _ _ (Ij bt (by omega)) (Yo va vb hx) λ_ => ?_;cases n with
  | zero=>rename_i h1;cases h1
  | succ m =>
   obtain ⟨y,hy,_⟩:=D0 va vb (n:=m) (by omega);rw [GF va vb hy,J7];exact VZ va vb (by omega) hy hx
theorem Tq (bt:Bool) {n:Nat} (h:n<=a.length+b.length):(CC (s0 bt) (A0 a b n)).2.1.length<=32/\((CC (s0 bt) (A0 a b n)).1=false->(CC (s0 bt) (A0 a b n)).2.1=[]) :=
 Pp _ _ (Ij va vb bt h) (by simp) (λ_=>rfl)
theorem eV {n:Nat} (h:n=a.length+b.length):(wk (kx a (Ak a b n).1) (kx b (Ak a b n).2)).2=true:=by
 obtain ⟨hI,hs⟩:=FN va vb (n:=n) (by omega);have h1:=hI.ia;have h2:=hI.jb;rw [Lv (List.getElem?_eq_none (by omega)),Lv (List.getElem?_eq_none (by omega))];rfl
theorem eW {n:Nat} {x:AH} (hx:ND a b n=some x):(wk (kx a (Ak a b n).1) (kx b (Ak a b n).2)).2=false/\wn (kx a (Ak a b n).1) (kx b (Ak a b n).2)=OM a b n:=by
 unfold ND at hx;unfold OM;cases g:HN a b (Ak a b n).1 (Ak a b n).2 with
 | true=>rw [if_pos g] at hx;rw [(WZ g).1,(WZ g).2,Fm hx];exact ⟨rfl,rfl⟩
 | false=>rw [if_neg (by simp [g])] at hx;rw [(Wa g).1,(Wa g).2,Fm hx];exact ⟨rfl,rfl⟩
theorem eX:GY [a,b]=some (A0 a b (a.length+b.length),(HF a b (a.length+b.length),0)):=by
 have la:=va.len;have lb:=vb.len;unfold GY;rw [K0 va vb,AC,AN,if_pos rfl];refine Eq.trans (b:=bd (loop _ (0,[([],false),([],false)])) _) rfl ?_;refine BC (x:=(0,((2,[kx a 0,kx b 0]),()))) (CM (s1:=(1,[kx a 0,([],false)])) (s2:=(2,[kx a 0,kx b 0])) ?_ ?_ rfl) ?_
 ·show bd (BB (a,((0:Nat):Int))) _=_;rw [GP (by omega)];rfl
 ·show bd (BB (b,((0:Nat):Int))) _=_;rw [GP (by omega)];rfl
 rw [show ((0:Nat),(((2:Int),[kx a 0,kx b 0]),())).2.1.2=[kx a 0,kx b 0] from rfl,Me (BS _ _) (BS _ _),AC]
 refine BC (x:=(0,((A0 a b (a.length+b.length),(HF a b (a.length+b.length),((),([((Ak a b (a.length+b.length)).1:Int),((Ak a b (a.length+b.length)).2:Int)],Tt (kx a (Ak a b (a.length+b.length)).1) (kx b (Ak a b (a.length+b.length)).2))))),())))
  (ID (λk=>(A0 a b k,(HF a b k,((),([((Ak a b k).1:Int),((Ak a b k).2:Int)],Tt (kx a (Ak a b k).1) (kx b (Ak a b k).2)))))) 0 (a.length+b.length) rfl (by omega) (by omega) (λk _ hk => ?_) ?_) rfl
 ·obtain ⟨x,hx,_⟩:=D0 va vb (n:=k) hk;obtain ⟨w1,w2⟩:=eW va vb hx;obtain ⟨hI,hs⟩:=FN va vb (n:=k) (by omega);have hl1:(A0 a b k).length=k:=Ch va vb (by omega);have hl2:=Mf a b k;simp only;rw [HE (BS _ _) (BS _ _),if_neg (by simp [w1]),AC,AN,if_pos rfl,w2];rw [GF va vb hx];unfold ND at hx;rw [show HF a b (k+1)=HF a b k++[(OM a b k:Int)] from rfl];unfold OM;rw [show Ak a b (k+1)=if HN a b (Ak a b k).1 (Ak a b k).2=true then ((Ak a b k).1+1,(Ak a b k).2) else ((Ak a b k).1,(Ak a b k).2+1) from rfl]
  have g1 : ∀ {β:Type} (y:AH) (q:Unit->Option β),gd (Bb (A3 (AA (A0 a b k)) (AA [y])) 1048576) q=q ():=λy q=>C3 (by simp only [A3,AA,hl1,List.length_cons,List.length_nil];omega) q;have g2 : ∀ {β:Type} (y:Int) (q:Unit->Option β),gd (Bb (A3 (AA (HF a b k)) (AA [y])) 1048576) q=q ():=λy q=>C3 (by simp only [A3,AA,hl2,List.length_cons,List.length_nil];omega) q;cases g:HN a b (Ak a b k).1 (Ak a b k).2 with
  | true =>
   rw [if_pos g] at hx;obtain ⟨hkk,_⟩:=WZ g;obtain ⟨m,hr⟩:=Hb (p:=kx a (Ak a b k).1) (q:=kx b (Ak a b k).2) (k:=kx a ((Ak a b k).1+1)) (BS _ _) (BS _ _) (BS _ _) w1 (by rw [hkk,Fm hx];exact NS va hx)
   have hrk:rk (kx a (Ak a b k).1) (kx b (Ak a b k).2) (kx a ((Ak a b k).1+1))=(kx a ((Ak a b k).1+1),kx b (Ak a b k).2):=by
    unfold rk;unfold HN at g;rw [if_pos g]
   rw [hrk] at hr;have hi:=(List.getElem?_eq_some_iff.1 hx).1;simp only [if_true];refine (JY 0 rfl (x:=a) rfl).trans ((JY 0 rfl (x:=((Ak a b k).1:Int)) rfl).trans ((ET _ rfl hx).trans ?_));rw [g1,g2];refine (JY 0 rfl (x:=((Ak a b k).1:Int)) rfl).trans ((JY 0 rfl (x:=((Ak a b k).1:Int)) rfl).trans ((JY 0 rfl (x:=a) rfl).trans ((JY 0 rfl (x:=AF .i64 ((Ak a b k).1:Int) 1) rfl).trans ?_)));rw [Ad (by omega),GP (by omega),AC,hr,AC];rfl
  | false =>
   rw [if_neg (by simp [g])] at hx;obtain ⟨hkk,_⟩:=Wa g;obtain ⟨m,hr⟩:=Hb (p:=kx a (Ak a b k).1) (q:=kx b (Ak a b k).2) (k:=kx b ((Ak a b k).2+1)) (BS _ _) (BS _ _) (BS _ _) w1 (by rw [hkk,Fm hx];exact NS vb hx)
   have hrk:rk (kx a (Ak a b k).1) (kx b (Ak a b k).2) (kx b ((Ak a b k).2+1))=(kx a (Ak a b k).1,kx b ((Ak a b k).2+1)):=by
    unfold rk;unfold HN at g;rw [if_neg (by simp [g])]
   rw [hrk] at hr;have hi:=(List.getElem?_eq_some_iff.1 hx).1;simp only [Bool.false_eq_true,if_false];refine (JY 1 rfl (x:=b) rfl).trans ((JY 1 rfl (x:=((Ak a b k).2:Int)) rfl).trans ((ET _ rfl hx).trans ?_));rw [g1,g2];refine (JY 1 rfl (x:=((Ak a b k).2:Int)) rfl).trans ((JY 1 rfl (x:=((Ak a b k).2:Int)) rfl).trans ((JY 1 rfl (x:=b) rfl).trans ((JY 1 rfl (x:=AF .i64 ((Ak a b k).2:Int) 1) rfl).trans ?_)));rw [Ad (by omega),GP (by omega),AC,hr,AC];rfl
 ·simp only;rw [HE (BS _ _) (BS _ _),if_pos (eV va vb rfl),AC,AN,if_neg (by decide),AN,if_neg (by decide)]
end
end Go.Proofs.YthpkjfabdccpdaaGreat.Pl
namespace Go.Proofs.YthpkjfabdccpdaaGreat.Pl
open Go Go.Proofs.YthpkjfabdccpdaaGreat.Sv
theorem Vc {β:Type} {out:List AH} {n:Nat} (h:out.length<=n) (hn:n<=20000) (x:AH) (k:Unit->Option β):gd (Bb (A3 out.length [x].length) 1048576) k=k ():=Q3 h hn x k
section
variable {a b:List AH} (va:VL a) (vb:VL b)
include va vb
theorem Gq {n:Nat} (h:n<=a.length+b.length):(A0 a b (a.length+b.length)).take n=A0 a b n:=Ti va vb (Nat.le_refl _) h
theorem Ja {n:Nat} {x:AH} (bt:Bool) (hx:ND a b n=some x):CC (s0 bt) (A0 a b (n+1))=(true,(x.1,bt)):=by
 rw [GF va vb hx,J7,Fo]
theorem Ts (bt:Bool) {n:Nat} (h:n<=a.length+b.length):EO (Es a b bt n)=some 0:=by
 obtain ⟨hI,hs⟩:=FN va vb (n:=n) h;have la:=va.len;have lb:=vb.len;have hfl:=JZ (s0 bt) (A0 a b n);have hml:(A0 a b n).length=n:=Ch va vb h;unfold EO;rw [show (Es a b bt n).1=K9 a b (Ak a b n).1 (Ak a b n).2 from rfl,J6 va vb hI,AC,AN,if_pos rfl];refine BC (x:=(0,((2,(n:Int)),()))) (CM (s1:=(1,((Ak a b n).1:Int))) (s2:=(2,(n:Int))) ?_ ?_ rfl) ?_
 ·refine (NE 0 rfl rfl (x:=((Ak a b n).1:Int)) rfl).trans ?_;show some (LR.nx ((1:Int),AF .i64 0 ((Ak a b n).1:Int)))=_;rw [A9 (by omega),Int.zero_add]
 ·refine (NE 1 rfl rfl (x:=((Ak a b n).2:Int)) rfl).trans ?_;show some (LR.nx ((2:Int),AF .i64 ((Ak a b n).1:Int) ((Ak a b n).2:Int)))=_;rw [A9 (by omega),show ((Ak a b n).1:Int)+((Ak a b n).2:Int)=(n:Int) by omega]
 simp only [AX,AR];rw [show (Es a b bt n).2.2.1=Gp (s0 bt) (A0 a b n) from rfl,show (Es a b bt n).2.2.2=(n:Int) from rfl,show (Es a b bt n).2.1=CC (s0 bt) (A0 a b n) from rfl,Az,if_neg (by omega),Az,if_neg (by omega),AN,if_pos rfl];rw [show (K9 a b (Ak a b n).1 (Ak a b n).2).1=[a,b] from rfl,eX va vb,AC,AN,if_pos rfl,AG];rw [C3 (by rw [Ch va vb (Nat.le_refl _)];exact h),C3 (Nat.zero_le _)];rw [show F6 (A0 a b (a.length+b.length)) 0 n=A0 a b n from by unfold F6;rw [List.drop_zero,Nat.sub_zero];exact Gq va vb h,Fo];rw [show (s0 bt).2.2=bt from rfl,Wc (by omega) (Ij va vb bt h),AC,AN,if_pos rfl];unfold CJ;rw [AC,Az];cases n with
 | zero =>
  rw [if_neg (by omega),OQ _ (by omega),AC,Tj,Av];show br (AU (Bf (Sv.beq false false) (Bf (seq [] []) (Bf (Sv.beq bt bt) true)))) _ _=_;rw [Hc,Hc,Ii];rfl
 | succ m =>
  obtain ⟨x,hx,_⟩:=D0 va vb (n:=m) (by omega);rw [if_pos (by omega),show Bp .i64 ((m+1:Nat):Int) 1=(m:Int) by rw [Bt (by omega)];omega,AG];rw [AJ (x:=x) (by rw [IC va vb (Nat.le_refl _) (by omega)];exact hx),OQ _ (by omega),AC,Tj,Av,Ja va vb bt hx];rw [Hc,Hc,Ii];rfl
theorem Yt {n:Nat} (h:n<=a.length+b.length):Fl (K1 a b n)=some (((a.length+b.length-n:Nat):Int),0):=by
 obtain ⟨hI,hs⟩:=FN va vb (n:=n) h;have la:=va.len;have lb:=vb.len;have ha:=hI.ia;have hb:=hI.jb;unfold Fl;rw [show K1 a b n=K9 a b (Ak a b n).1 (Ak a b n).2 from rfl,J6 va vb hI,AC,AN,if_pos rfl];refine BC (x:=(0,((2,((a.length+b.length-n:Nat):Int)),()))) (CM (s1:=(1,(a.length:Int)-((Ak a b n).1:Int))) (s2:=(2,((a.length+b.length-n:Nat):Int))) ?_ ?_ rfl) rfl
 ·refine (NE 0 rfl rfl (x:=a) rfl).trans ((ET 0 rfl (x:=((Ak a b n).1:Int)) rfl).trans ?_);simp only [AX,AR];rw [Bt (by omega)];show some (LR.nx ((1:Int),AF .i64 0 ((a.length:Int)-((Ak a b n).1:Int))))=_;rw [A9 (by omega),Int.zero_add]
 ·refine (NE 1 rfl rfl (x:=b) rfl).trans ((ET 1 rfl (x:=((Ak a b n).2:Int)) rfl).trans ?_);simp only [AX,AR];rw [Bt (by omega)];show some (LR.nx ((2:Int),AF .i64 ((a.length:Int)-((Ak a b n).1:Int)) ((b.length:Int)-((Ak a b n).2:Int))))=_;rw [A9 (by omega),show (a.length:Int)-((Ak a b n).1:Int)+((b.length:Int)-((Ak a b n).2:Int))=((a.length+b.length-n:Nat):Int) by omega]
theorem Mg (bt:Bool) {n:Nat} (h:n<=a.length+b.length):Ba (Es a b bt n)=some (((a.length+b.length-n:Nat):Int),0):=by
 unfold Ba;rw [Ts va vb bt h,AC,AN,if_pos rfl,show (Es a b bt n).1=K1 a b n from rfl,Yt va vb h];rfl
theorem OS (bt:Bool) {n:Nat} {x:AH} (hx:ND a b n=some x):Es a b bt (n+1)=(K1 a b (n+1),((true,(x.1,bt)),(Gp (s0 bt) (A0 a b n)++(if keep (CC (s0 bt) (A0 a b n)) x=true then [x] else []),((n+1:Nat):Int)))):=by
 unfold Es;rw [GF va vb hx,J7,Fo,SM]
theorem Ik (bt:Bool) {n:Nat} {x:AH} (hn:n<a.length+b.length) (hx:ND a b n=some x):Bw (CC (s0 bt) (A0 a b n),x)=some (keep (CC (s0 bt) (A0 a b n)) x,((true,(x.1,bt)),0)):=by
 have hlm:=Tq va vb bt (n:=n) (by omega);rw [Wb hlm.1 hlm.2 (Yo va vb hx),Fo];intro h1;cases n with
 | zero=>cases h1
 | succ m =>
  obtain ⟨y,hy,_⟩:=D0 va vb (n:=m) (by omega);rw [Ja va vb bt hy];exact VZ va vb (by omega) hy hx
def fX (k:Int) (s:If):Int×(Int×(List (List AH)×(List Int×(List AP×(List Int×(Int×(Bool×(Ma×(Bool×(List AH×Int)))))))))) :=
 (k,(0,(s.1.1,(s.1.2.1,(s.1.2.2.1,(s.1.2.2.2.1,(s.1.2.2.2.2,(s.2.1.1,(s.2.1.2.1,(s.2.1.2.2,(s.2.2.1,s.2.2.2)))))))))))
theorem Wd (bt:Bool) {n:Nat} (h:n<=a.length+b.length) {k:Nat}:CG (Es a b bt n,(k:Int))=some (Es a b bt (n+min k (a.length+b.length-n)),(((min k (a.length+b.length-n):Nat):Int),0)):=by
 have la:=va.len;have lb:=vb.len;have hml : ∀ m,m<=a.length+b.length->(Gp (s0 bt) (A0 a b m)).length<=m:=λm hm=>by have:=JZ (s0 bt) (A0 a b m);have:=Ch va vb hm;omega
 obtain ⟨u,hu⟩ : ∃ u,u=min k (a.length+b.length-n):=⟨_,rfl⟩
 have him:Mz (k:Int) ((a.length+b.length-n:Nat):Int)=(u:Int):=by
  unfold Mz;split<;>omega
 rw [<- hu];unfold CG;rw [Mg va vb bt h,AC,AN,if_pos rfl];simp only [him,AX,AR];rw [BE,if_neg (by omega),show (Es a b bt n).2.2.2=(n:Int) from rfl,A9 (by omega),Az,if_neg (by omega)];rw [show (Es a b bt n).2.2.1=Gp (s0 bt) (A0 a b n) from rfl,show (Es a b bt n).1=K1 a b n from rfl,C3 (by have:=hml n h;omega),C3 (show (K1 a b n).2.1.length<=1048576 from (show 2<=1048576 by omega)),BE];by_cases h0:u=0
 ·rw [h0,if_neg (by omega)];rfl
 rw [if_pos (by omega)];obtain ⟨x,hx,_⟩:=D0 va vb (n:=n) (by omega);rw [ON va vb (by omega) hx,AC,AN,if_pos rfl,show (Es a b bt n).2.1=CC (s0 bt) (A0 a b n) from rfl,Ik va vb bt (by omega) hx,AC,AN,if_pos rfl]
 have hl : ∀ j,1<=j->j<u -> ∃ y,ND a b (n+j)=some y:=λj h1 h2=>by
  obtain ⟨y,hy,_⟩:=D0 va vb (n:=n+j) (by omega);exact ⟨y,hy⟩
 rw [GX];have hS:=OS va vb bt hx;cases hk:keep (CC (s0 bt) (A0 a b n)) x with
 | true =>
  rw [hk] at hS;rw [if_pos rfl,Vc (hml n h) (by omega)];refine BC (x:=(1,(fX u (Es a b bt (n+u)),()))) (ID (λj=>fX j (Es a b bt (n+j))) 1 u ?_ (by omega) (by omega) (λj h1 h2 => ?_) ?_) ?_
  ·rw [hS,show AF .i64 (n:Int) 1=((n+1:Nat):Int) from Ad (by omega)];rfl
  ·obtain ⟨y,hy⟩:=hl j h1 h2;show br (Aj (j:Int) (u:Int)) _ _=_;rw [BE,if_pos (by omega)];show bd (Bn (K1 a b (n+j))) _=_;rw [ON va vb (by omega) hy,AC,AN,if_pos rfl];show bd (Bw (CC (s0 bt) (A0 a b (n+j)),y)) _=_;rw [Ik va vb bt (by omega) hy,AC,AN,if_pos rfl,GX,show n+(j+1)=n+j+1 by omega,OS va vb bt hy];cases hk2:keep (CC (s0 bt) (A0 a b (n+j))) y with
   | true =>
    rw [if_pos rfl,if_pos rfl];show gd (Bb (A3 (AA (Gp (s0 bt) (A0 a b (n+j)))) (AA [y])) 1048576) _=_;rw [Q3 (hml _ (by omega)) (by omega)];show some (LR.nx (AF .i64 (j:Int) 1,_))=_;unfold fX;simp only [Ad (show j+1<=9223372036854775807 by omega),Bv];rw [show AF .i64 (Es a b bt (n+j)).2.2.2 1=((n+j+1:Nat):Int) from Ad (by omega)];rfl
   | false =>
    rw [if_neg (by simp),if_neg (by simp)];show some (LR.nx (AF .i64 (j:Int) 1,_))=_;unfold fX;simp only [Ad (show j+1<=9223372036854775807 by omega)];rw [show AF .i64 (Es a b bt (n+j)).2.2.2 1=((n+j+1:Nat):Int) from Ad (by omega),List.append_nil];rfl
  ·show br (Aj (u:Int) (u:Int)) _ _=_;rw [BE,if_neg (by omega)]
  ·rfl
 | false =>
  rw [hk] at hS;rw [if_neg (by simp)];refine BC (x:=(1,(fX u (Es a b bt (n+u)),()))) (ID (λj=>fX j (Es a b bt (n+j))) 1 u ?_ (by omega) (by omega) (λj h1 h2 => ?_) ?_) ?_
  ·rw [hS,show AF .i64 (n:Int) 1=((n+1:Nat):Int) from Ad (by omega),if_neg (by simp),List.append_nil];rfl
  ·obtain ⟨y,hy⟩:=hl j h1 h2;show br (Aj (j:Int) (u:Int)) _ _=_;rw [BE,if_pos (by omega)];show bd (Bn (K1 a b (n+j))) _=_;rw [ON va vb (by omega) hy,AC,AN,if_pos rfl];show bd (Bw (CC (s0 bt) (A0 a b (n+j)),y)) _=_;rw [Ik va vb bt (by omega) hy,AC,AN,if_pos rfl,GX,show n+(j+1)=n+j+1 by omega,OS va vb bt hy];cases hk2:keep (CC (s0 bt) (A0 a b (n+j))) y with
   | true =>
    rw [if_pos rfl,if_pos rfl];show gd (Bb (A3 (AA (Gp (s0 bt) (A0 a b (n+j)))) (AA [y])) 1048576) _=_;rw [Q3 (hml _ (by omega)) (by omega)];show some (LR.nx (AF .i64 (j:Int) 1,_))=_;unfold fX;simp only [Ad (show j+1<=9223372036854775807 by omega),Bv];rw [show AF .i64 (Es a b bt (n+j)).2.2.2 1=((n+j+1:Nat):Int) from Ad (by omega)];rfl
   | false =>
    rw [if_neg (by simp),if_neg (by simp)];show some (LR.nx (AF .i64 (j:Int) 1,_))=_;unfold fX;simp only [Ad (show j+1<=9223372036854775807 by omega)];rw [show AF .i64 (Es a b bt (n+j)).2.2.2 1=((n+j+1:Nat):Int) from Ad (by omega),List.append_nil];rfl
  ·show br (Aj (u:Int) (u:Int)) _ _=_;rw [BE,if_neg (by omega)]
  ·rfl
end
end Go.Proofs.YthpkjfabdccpdaaGreat.Pl
namespace Go.Proofs.YthpkjfabdccpdaaGreat.Pl
open Go Go.Proofs.YthpkjfabdccpdaaGreat.Sv
theorem FO {α β σ S:Type} {l:List α} (mk:Nat->σ->S) (I:List α->Nat->σ->Prop) (Q:β->Prop) {f:S->Option (LR S β)} {s:S} (st:σ) (h0:s=mk 0 st) (hl:l.length<=9223372036854775807) (hi:I l 0 st)
  (hn : ∀ st,I [] l.length st -> ∃ r,f (mk l.length st)=some (.dn r)/\Q r)
  (hc : ∀ k x m st,l.drop k=x::m->l[k]? = some x->k<l.length->I (x::m) k st->(∃ st',f (mk k st)=some (.nx (mk (k+1) st'))/\I m (k+1) st') \/ ∃ r,f (mk k st)=some (.dn r)/\Q r) : ∃ r,loop f s=some r/\Q r:=by
 subst h0
 have main : ∀ (m:List α) (k n:Nat) (st:σ),l.drop k=m->k<=l.length->m.length<n->I m k st -> ∃ r,DO n f (mk k st)=some r/\Q r:=by
  intro m
  induction m with
  | nil =>
   intro k n st hm hk hn' hi;obtain ⟨n,rfl⟩ : ∃ j,n=j+1:=⟨n-1,by omega⟩
   have hkl:k=l.length:=by
    have:=congrArg List.length hm;simp at this;omega
   subst hkl;obtain ⟨r,h1,h2⟩:=hn st hi;exact ⟨r,Br h1,h2⟩
  | cons x m ih =>
   intro k n st hm hk hn' hi;obtain ⟨n,rfl⟩ : ∃ j,n=j+1:=⟨n-1,by omega⟩
   have hx:l[k]? = some x:=by
    have:=congrArg List.head? hm;rw [List.head?_drop] at this;simpa using this
   have hk':k<l.length:=(List.getElem?_eq_some_iff.1 hx).1
   have hm2:l.drop (k+1)=m:=by
    have:=congrArg List.tail hm;rw [List.tail_drop] at this;simpa using this
   rcases hc k x m st hm hx hk' hi with ⟨st',h1,h2⟩ | ⟨r,h1,h2⟩
   ·rw [BZ h1];exact ih (k+1) n st' hm2 (by omega) (by simp at hn';omega) h2
   ·exact ⟨r,Br h1,h2⟩
 exact main l 0 _ st (by simp) (by omega) (by omega) hi
theorem IE {α:Type} (l m:List α) (hl:l.length=m.length) (hb:l.length<=9223372036854775806) {f:(Int×Bool)->Option (LR (Int×Bool) (Nat×((Int×Bool)×Unit)))}
  (hs : ∀ (k:Nat) x y,l[k]? = some x->m[k]? = some y->(x=y->f ((k:Int),false)=some (.nx (((k+1:Nat):Int),false)))/\(x≠y->f ((k:Int),false)=some (.dn (0,(((k:Int),false),())))))
  (he:f ((l.length:Int),false)=some (.dn (1,(((l.length:Int),false),())))) :
  ∃ r,loop f (0,false)=some r/\((l=m/\r.1=1)\/(l≠m/\r.1=0/\r.2.1.2=false)):=by
 refine FO (l:=l) (σ:=Unit) (λk _=>((k:Int),false)) (λt k _=>t=l.drop k/\l.take k=m.take k) _ () rfl (by omega) ⟨by simp,by simp⟩ (λst h => ?_) (λk x t st hd hx hk h => ?_)
 ·refine ⟨_,he,.inl ⟨?_,rfl⟩⟩;have:=h.2;rw [List.take_length,hl,List.take_length] at this;exact this
 ·have hk2:k<m.length:=by omega
  have hy:m[k]? = some m[k]:=by simp [hk2]
  by_cases e:x=m[k]
  ·refine .inl ⟨(),(hs k x m[k] hx hy).1 e,?_,?_⟩
   ·have:=congrArg List.tail hd;rw [List.tail_drop] at this;simp at this;exact this.symm
   ·rw [List.take_add_one,List.take_add_one,h.2,hx,hy,e]
  ·refine .inr ⟨_,(hs k x m[k] hx hy).2 e,.inr ⟨?_,rfl,rfl⟩⟩;intro e2;subst e2;rw [hx] at hy;exact e (Option.some.inj hy)
theorem beq_eq (a b:Bool):Sv.beq a b=decide (a=b):=by cases a<;>cases b<;>rfl
theorem Il (a b:Int):CA a b=decide (a=b):=by
 unfold CA;by_cases h:a=b<;>simp [h]
theorem Im (p q:Prop) [Decidable p] [Decidable q]:Bf (decide p) (decide q)=decide (p/\q):=by unfold Bf;simp
theorem CQ (p:Prop) [Decidable p]:AU (decide p)=decide (¬ p):=by unfold AU;simp
theorem Lw (a:Bool):Bf a true=a:=by cases a<;>rfl
theorem We (l m:List AP) (hb:l.length<=9223372036854775806):Ai (l,m)=some (decide (l=m)):=by
 unfold Ai;simp only [AX,AR];rw [AN];by_cases hl:(l.length:Int)=(m.length:Int)
 ·rw [if_pos hl];have hl2:l.length=m.length:=by omega
  obtain ⟨r,h1,h2⟩:=IE l m hl2 hb (f:=λs0=>br (Aj s0.1 (l.length:Int)) (λ_=>AS s0.1 λk1=>ix l k1 λx2=>AS s0.1 λk3=>ix m k3 λx4=>br (AU (Bf (seq x2.1 x4.1) (Bf (Sv.beq x2.2 x4.2) true))) (λ_=>some (.dn ((0,((s0.1,false),()))))) λ_=>some (.nx (AF .i64 s0.1 1,s0.2))) λ_=>some (.dn ((1,(s0,()))))) (λk x y hx hy=>by
    have hk:=(List.getElem?_eq_some_iff.1 hx).1
    have he : ∀ {β:Type} (u v:Unit->Option β),br (AU (Bf (seq x.1 y.1) (Bf (Sv.beq x.2 y.2) true))) u v=if x=y then v () else u ():=by
     intro β u v;rw [Lw,Kz,beq_eq,Im,CQ,Ca];by_cases e:x=y
     ·subst e;simp
     ·rw [if_pos (λh=>e (Prod.ext h.1 h.2)),if_neg e]
    constructor
    ·intro e;simp only;rw [rl hk,AM,AG,AJ hx,AG,AJ hy,he,if_pos e,Ad (by omega)]
    ·intro e;simp only
     rw [rl hk,AM,AG,AJ hx,AG,AJ hy,he,if_neg e]) (by simp only;rw [re];rfl)
  refine BC h1 ?_;rcases h2 with ⟨e,h2⟩ | ⟨e,h2,h3⟩
  ·rw [Ar,h2];simp [e]
  ·rw [Ar,h2];simp [e,h3]
 ·rw [if_neg hl];have : ¬ l=m:=λe=>hl (by rw [e]);simp [this]
theorem J8 (l m:List Int) (hb:l.length<=9223372036854775806):Ac (l,m)=some (decide (l=m)):=by
 unfold Ac;simp only [AX,AR];rw [AN];by_cases hl:(l.length:Int)=(m.length:Int)
 ·rw [if_pos hl];have hl2:l.length=m.length:=by omega
  obtain ⟨r,h1,h2⟩:=IE l m hl2 hb (f:=λs0=>br (Aj s0.1 (l.length:Int)) (λ_=>AS s0.1 λk1=>ix l k1 λx2=>AS s0.1 λk3=>ix m k3 λx4=>br (BF x2 x4) (λ_=>some (.dn ((0,((s0.1,false),()))))) λ_=>some (.nx (AF .i64 s0.1 1,s0.2))) λ_=>some (.dn ((1,(s0,()))))) (λk x y hx hy=>by
    have hk:=(List.getElem?_eq_some_iff.1 hx).1;constructor
    ·intro e;simp only;rw [rl hk,AM,AG,AJ hx,AG,AJ hy,AN,if_pos e,Ad (by omega)]
    ·intro e;simp only
     rw [rl hk,AM,AG,AJ hx,AG,AJ hy,AN,if_neg e]) (by simp only;rw [re];rfl)
  refine BC h1 ?_;rcases h2 with ⟨e,h2⟩ | ⟨e,h2,h3⟩
  ·rw [Ar,h2];simp [e]
  ·rw [Ar,h2];simp [e,h3]
 ·rw [if_neg hl];have : ¬ l=m:=λe=>hl (by rw [e]);simp [this]
theorem SO {β:Type} (x y:AH) (u v:Unit->Option β):br (AU (Bf (seq x.1 y.1) (Bf (seq x.2.1 y.2.1) (Bf (Sv.beq x.2.2.1 y.2.2.1) (Bf (CA x.2.2.2 y.2.2.2) true))))) u v=if x=y then v () else u ():=by
 rw [Lw,Kz,Kz,beq_eq,Il,Im,Im,Im,CQ,Ca];by_cases e:x=y
 ·subst e;simp
 ·rw [if_pos (λh=>e (Prod.ext h.1 (Prod.ext h.2.1 (Prod.ext h.2.2.1 h.2.2.2)))),if_neg e]
theorem Fp (l m:List AH) (hb:l.length<=9223372036854775806):BG (l,m)=some (decide (l=m)):=by
 unfold BG;simp only [AX,AR];rw [AN];by_cases hl:(l.length:Int)=(m.length:Int)
 ·rw [if_pos hl];have hl2:l.length=m.length:=by omega
  obtain ⟨r,h1,h2⟩:=IE l m hl2 hb (f:=λs0=>br (Aj s0.1 (l.length:Int)) (λ_=>AS s0.1 λk1=>ix l k1 λx2=>AS s0.1 λk3=>ix m k3 λx4=>br (AU (Bf (seq x2.1 x4.1) (Bf (seq x2.2.1 x4.2.1) (Bf (Sv.beq x2.2.2.1 x4.2.2.1) (Bf (CA x2.2.2.2 x4.2.2.2) true))))) (λ_=>some (.dn ((0,((s0.1,false),()))))) λ_=>some (.nx (AF .i64 s0.1 1,s0.2))) λ_=>some (.dn ((1,(s0,()))))) (λk x y hx hy=>by
    have hk:=(List.getElem?_eq_some_iff.1 hx).1;constructor
    ·intro e;simp only;rw [rl hk,AM,AG,AJ hx,AG,AJ hy,SO,if_pos e,Ad (by omega)]
    ·intro e;simp only
     rw [rl hk,AM,AG,AJ hx,AG,AJ hy,SO,if_neg e]) (by simp only;rw [re];rfl)
  refine BC h1 ?_;rcases h2 with ⟨e,h2⟩ | ⟨e,h2,h3⟩
  ·rw [Ar,h2];simp [e]
  ·rw [Ar,h2];simp [e,h3]
 ·rw [if_neg hl];have : ¬ l=m:=λe=>hl (by rw [e]);simp [this]
theorem HG (l m:List AH) (hb:l.length<=9223372036854775806):BY (l,m)=some (decide (l=m)):=by
 unfold BY;rw [Fp l m hb];rfl
instance:DecidableEq AH:=inferInstance
instance:DecidableEq (List AH):=inferInstance
instance:DecidableEq (List (List AH)):=inferInstance
instance:DecidableEq AP:=inferInstance
instance:DecidableEq Dm:=inferInstance
instance:DecidableEq AW:=inferInstance
instance:DecidableEq CE:=inferInstance
instance:DecidableEq If:=inferInstance
theorem SP (x y:If) (h1:x.1.1.length<=1000) (h2 : ∀ l∈x.1.1,l.length<=1000000) (h3:x.1.2.1.length<=1000) (h4:x.1.2.2.1.length<=1000) (h5:x.1.2.2.2.1.length<=1000) (h6:x.2.2.1.length<=1000000):C1 (x,y)=some (decide (x=y)):=by
 obtain ⟨⟨xr,xa,xk,xl,xw⟩,⟨xs,xt,xb⟩,xo,xn⟩:=x;obtain ⟨⟨yr,ya,yk,yl,yw⟩,⟨ys,yt,yb⟩,yo,yn⟩:=y;simp only at h1 h2 h3 h4 h5 h6;unfold C1;simp only [AX,AR];rw [AN];by_cases hl:(xr.length:Int)=(yr.length:Int)
 ·rw [if_pos hl];have hl2:xr.length=yr.length:=by omega
  obtain ⟨r,q1,q2⟩:=IE xr yr hl2 (by omega) (f:=λs0=>br (Aj s0.1 (xr.length:Int)) (λ_=>AS s0.1 λk1=>ix xr k1 λx2=>AS s0.1 λk3=>ix yr k3 λx4=>bd (BY (x2,x4)) λr5=>br (AU r5) (λ_=>some (.dn ((0,((s0.1,false),()))))) λ_=>some (.nx (AF .i64 s0.1 1,s0.2))) λ_=>some (.dn ((1,(s0,()))))) (λk x y hx hy=>by
    have hk:=(List.getElem?_eq_some_iff.1 hx).1;have hx1:=h2 x (List.mem_of_getElem? hx);constructor
    ·intro e;simp only;rw [rl hk,AM,AG,AJ hx,AG,AJ hy,HG _ _ (by omega),AC,CQ,Ca,if_neg (by simp [e]),Ad (by omega)]
    ·intro e;simp only
     rw [rl hk,AM,AG,AJ hx,AG,AJ hy,HG _ _ (by omega),AC,CQ,Ca,if_pos e]) (by simp only;rw [re];rfl)
  refine BC q1 ?_;simp only [J8 _ _ (show xa.length<=9223372036854775806 by omega),J8 _ _ (show xl.length<=9223372036854775806 by omega),We _ _ (show xk.length<=9223372036854775806 by omega),HG _ _ (show xo.length<=9223372036854775806 by omega),AC,Ca,Il,Kz,beq_eq,Lw,Im,Ar];rw [GX];rcases q2 with ⟨e,q2⟩ | ⟨e,q2,q3⟩
  ·rw [if_neg (show ¬ r.1=0 by omega)]
   repeat' split
   all_goals simp_all
  ·rw [if_pos q2,if_neg (show ¬ r.2.1.2=true by simp [q3])];simp [e]
 ·rw [if_neg hl];have : ¬ xr=yr:=λe=>hl (by rw [e]);simp [this]
end Go.Proofs.YthpkjfabdccpdaaGreat.Pl
namespace Go.Proofs.YthpkjfabdccpdaaGreat.Pl
open Go Go.Proofs.YthpkjfabdccpdaaGreat.Sv
def kR (ids:List Int) (most:Int) (r:B9):Int :=
 if r.1<1\/r.1>1000000 then 7 else if (ER r.2).2≠0 then (ER r.2).2 else if r.2.length=0 then 4 else if (r.2.length:Int)>most then 3 else if r.1∈ids then 8 else 0
def KD (most:Int):Nat->List Int->List B9->Option (Nat×Int)
 | _,_,[]=>none
 | k,ids,r::rs=>if kR ids most r≠0 then some (k,kR ids most r) else KD most (k+1) (ids++[r.1]) rs
def CR (B:Int) (i:Nat):Int:=B*2 ^ i
def KE (B:Int):Nat->List Int->List (List B9)->Option (Nat×(Nat×Int))
 | _,_,[]=>none
 | i,ids,rs::ls=>if rs.length>2 then some (i,(0,3)) else match KD (CR B i) 0 ids rs with
  | some (k,e)=>some (i,(k,e))
  | none=>KE B (i+1) (ids++rs.map (·.1)) ls
def C4 (L:AQ):Int×(Int×Int) :=
 if L.1<1\/L.1>16 then (0,(0,7)) else if L.2.length>12 then (0,(0,3)) else match KE L.1 0 [] L.2 with
  | some (i,(k,e))=>((i:Int),((k:Int),e))
  | none=>if L.2.getLast? = some [] then (((L.2.length-1:Nat):Int),(0,6)) else (0,(0,0))
theorem Vd {most:Int} : ∀ {rs:List B9} {k:Nat} {ids:List Int} {k':Nat} {e:Int},KD most k ids rs=some (k',e)->e≠0
 | [],_,_,_,_,h=>by cases h
 | r::rs,k,ids,k',e,h=>by
  unfold KD at h;by_cases hk:kR ids most r≠0
  ·rw [if_pos hk] at h;cases h;exact hk
  ·rw [if_neg hk] at h;exact Vd h
theorem Q4 {B:Int} : ∀ {ls:List (List B9)} {i:Nat} {ids:List Int} {i' k':Nat} {e:Int},KE B i ids ls=some (i',(k',e))->e≠0
 | [],_,_,_,_,_,h=>by cases h
 | rs::ls,i,ids,i',k',e,h=>by
  unfold KE at h;by_cases hk:rs.length>2
  ·rw [if_pos hk] at h;cases h;decide
  ·rw [if_neg hk] at h;cases hr:KD (CR B i) 0 ids rs with
   | none=>rw [hr] at h;exact Q4 h
   | some x=>rw [hr] at h;cases h;exact Vd hr
def O1 (ids:List Int):List (Int×Bool):=ids.map λi=>(i,true)
theorem Yu (ids:List Int) (i:Int):Rl (NB (λa b=>CA a b) (O1 ids) i) false=decide (i∈ids):=by
 induction ids with
 | nil=>rfl
 | cons j ids ih =>
  show Rl (bif CA i j then some true else NB (λa b=>CA a b) (O1 ids) i) false=_
  rw [Il];by_cases h:i=j
  ·simp [h,Rl]
  ·simp only [h,decide_false,cond_false,List.mem_cons,false_or];exact ih
theorem Yv {ids:List Int} {i:Int} (h:i ∉ ids):IH (λa b=>CA a b) (O1 ids) i true=O1 (ids++[i]):=by
 induction ids with
 | nil=>rfl
 | cons j ids ih =>
  show (bif CA i j then (i,true)::O1 ids else (j,true)::IH (λa b=>CA a b) (O1 ids) i true)=_
  rw [Il];have h1 : ¬ i=j:=λe=>h (by simp [e]);rw [ih (λe=>h (by simp [e]))];simp only [h1,decide_false,cond_false];rfl
theorem Q5 (r:B9) (hl:r.2.length<=9223372036854775807):Fi r=some (if r.1<1\/r.1>1000000 then (-1,7) else ER r.2):=by
 unfold Fi;rw [BE,Az,ES _ hl,AC];by_cases h:r.1<1
 ·rw [if_pos h,if_pos (.inl h)]
 ·rw [if_neg h];by_cases h2:r.1>1000000
  ·rw [if_pos h2,if_pos (.inr h2)]
  ·rw [if_neg h2,if_neg (by omega)]
theorem Wf (r:B9) (most:Int) (hl:r.2.length<=9223372036854775807):C9 (r,most)=some (kR [] most r):=by
 unfold C9 kR;rw [Q5 r hl,AC];simp only [AX,AR];by_cases h:r.1<1\/r.1>1000000
 ·rw [if_pos h,if_pos h];rfl
 ·rw [if_neg h,if_neg h,AN];by_cases h2:(ER r.2).2=0
  ·rw [if_pos h2,if_neg (by simp [h2]),Bg,Az]
   repeat' split
   all_goals first | rfl | (exfalso;omega) | simp_all
  ·rw [if_neg h2,if_pos h2]
theorem gH (ids:List Int) (most:Int) (r:B9):kR ids most r=if kR [] most r=0 then (if r.1∈ids then 8 else 0) else kR [] most r:=by
 unfold kR
 repeat' split
 all_goals simp_all
theorem gI (i:Nat) (h:i<=12):(2:Int) ^ i<=4096/\1<=(2:Int) ^ i:=by
 have h1:(2:Nat) ^ i<=2 ^ 12:=Nat.pow_le_pow_right (by omega) h;have h2:1<=(2:Nat) ^ i:=Nat.one_le_two_pow;have h3:((2 ^ i:Nat):Int)=(2:Int) ^ i:=by simp
 omega
theorem SQ {B:Int} {i:Nat} (h1:1<=B) (h2:B<=16) (hi:i<=12):1<=CR B i/\CR B i<=65536:=by
 obtain ⟨h3,h4⟩:=gI i hi;unfold CR;constructor
 ·have:=Int.mul_le_mul h1 h4 (by omega) (by omega);omega
 ·have:=Int.mul_le_mul h2 h3 (by omega) (by omega);omega
theorem Pq {B:Int} {i:Nat} (h1:1<=B) (h2:B<=16) (hi:i<=12):LW .i64 B (i:Int)=CR B i:=by
 have h3:=SQ h1 h2 hi;unfold LW;rw [show min ((i:Int).toNat) IntKind.i64.bits=i by rw [Int.toNat_natCast];exact Nat.min_eq_left (Nat.le_trans hi (by decide))];unfold CR at h3 ⊢;exact IntWalk.i64_in _ (by omega)
def Q1:Option (Nat×(Nat×Int))->Int->Int->Int->Prop
 | some (i,(k,e)),a,b,c=>a=(k:Int)/\b=(i:Int)/\c=e
 | none,_,_,c=>c=0
def Q2 (m:List (Int×Bool)):Option (Nat×Int)->Nat->Int->Int->List (Int×Bool)->Prop
 | some (k,e),r,a,c,_=>r=0/\a=(k:Int)/\c=e
 | none,r,_,c,m'=>r=1/\c=0/\m'=m
theorem OT (L:AQ) (hb:L.2.length<=1048576) (hr : ∀ rs∈L.2,rs.length<=1048576 /\ ∀ r∈rs,r.2.length<=9223372036854775807):DV L=some (C4 L):=by
 unfold DV C4;simp only [AX,AR];rw [BE,Az,Az];by_cases hB1:L.1<1
 ·rw [if_pos hB1,if_pos (.inl hB1)]
 rw [if_neg hB1];by_cases hB2:L.1>16
 ·rw [if_pos hB2,if_pos (.inr hB2)]
 rw [if_neg hB2,if_neg (show ¬ (L.1<1\/L.1>16) by omega)];by_cases hl:(L.2.length:Int)>12
 ·rw [if_pos hl,if_pos (by omega)]
 rw [if_neg hl,if_neg (by omega)];have hl2:L.2.length<=12:=by omega
 obtain ⟨T,hT⟩ : ∃ T,T=KE L.1 0 [] L.2:=⟨_,rfl⟩;rw [<- hT]
 have hlast : ∀ r2:Int,r2=0->T=none->(br (BF r2 0) (λ_=>(none:Option (Int×(Int×Int)))) λ_=>br (B0 (L.2.length:Int) 0) (λ_=>AS (Bp .i64 (L.2.length:Int) 1) λk15=>ix L.2 k15 λx16=>br (CA (x16.length:Int) 0) (λ_=>some ((Bp .i64 (L.2.length:Int) 1,(0,6)))) λ_=>some ((0,(0,0)))) λ_=>some ((0,(0,0))))=some (if L.2.getLast? = some [] then (((L.2.length-1:Nat):Int),(0,6)) else (0,(0,0))):=by
  intro r2 h0 _;rw [AN,if_pos h0,Az];by_cases hn:L.2=[]
  ·rw [hn];rfl
  ·have hp:=List.length_pos_iff.2 hn;rw [if_pos (by omega),show Bp .i64 (L.2.length:Int) 1=((L.2.length-1:Nat):Int) by rw [Bt (by omega)];omega,AG,List.getLast?_eq_getElem?];have hx:L.2[L.2.length-1]? = some (L.2[L.2.length-1]'(by omega)):=by simp
   rw [AJ hx,hx,Bg];by_cases he:L.2[L.2.length-1]'(by omega)=[]
   ·rw [he];simp
   ·rw [if_neg (by have:=List.length_pos_iff.2 he;omega),if_neg (by simp [he])]
 obtain ⟨r,q1,q2⟩:=FO (l:=L.2) (σ:=Int×(Int×List Int)) (λi st=>(st.1,(st.2.1,((0:Int),((i:Int),O1 st.2.2)))))
  (λm i st=>KE L.1 i st.2.2 m=T) (λ(r:Nat×((Int×(Int×(Int×(Int×List (Int×Bool)))))×Unit))=>Q1 T r.2.1.1 r.2.1.2.1 r.2.1.2.2.1)
  (f:=λs0=>br (Aj s0.2.2.2.1 (L.2.length:Int)) (λ_=>AS s0.2.2.2.1 λk1=>ix L.2 k1 λx2=>br (B0 (x2.length:Int) 2) (λ_=>some (.dn ((0,((0,(s0.2.2.2.1,(3,s0.2.2.2))),()))))) λ_=>bd (loop (λs3=>br (Aj s3.2.1 (x2.length:Int)) (λ_=>AS s3.2.1 λk4=>ix x2 k4 λx5=>gd (IP s0.2.2.2.1 0) λ_=>bd (C9 (x5,LW .i64 L.1 s0.2.2.2.1)) λr6=>br (CA r6 0) (λ_=>br (Rl (NB ((λa7=>(λa8=>CA a7 a8))) s3.2.2.2 x5.1) false) (λ_=>some (.dn ((0,((s3.2.1,(s3.2.1,(8,s3.2.2.2))),()))))) λ_=>br (BF r6 0) (λ_=>some (.dn ((0,((s3.2.1,(s3.2.1,(r6,s3.2.2.2))),()))))) λ_=>some (.nx ((s3.2.1,(AF .i64 s3.2.1 1,(r6,IH ((λa9=>(λa10=>CA a9 a10))) s3.2.2.2 x5.1 true)))))) λ_=>br (BF r6 0) (λ_=>some (.dn ((0,((s3.2.1,(s3.2.1,(r6,s3.2.2.2))),()))))) λ_=>some (.nx ((s3.2.1,(AF .i64 s3.2.1 1,(r6,IH ((λa11=>(λa12=>CA a11 a12))) s3.2.2.2 x5.1 true)))))) λ_=>some (.dn ((1,(s3,()))))) ((0,(0,(s0.2.2.1,s0.2.2.2.2))))) λr13=>br (neq r13.1 0) (λ_=>some (.dn ((0,((r13.2.1.1,(s0.2.2.2.1,(r13.2.1.2.2.1,(s0.2.2.2.1,r13.2.1.2.2.2)))),()))))) λ_=>some (.nx ((r13.2.1.1,(s0.2.2.2.1,(r13.2.1.2.2.1,(AF .i64 s0.2.2.2.1 1,r13.2.1.2.2.2))))))) λ_=>some (.dn ((0,(s0,())))))
  (s:=(0,(0,(0,(0,[]))))) (0,(0,[])) rfl (by omega) hT.symm (λst h=>by
   refine ⟨_,by simp only;rw [re];rfl,?_⟩;simp only at h ⊢;rw [<- h];exact rfl) (λi rs m st hd hx hi h=>by
   obtain ⟨s1,s2,ids⟩:=st;simp only at h ⊢;obtain ⟨hrs1,hrs2⟩:=hr rs (List.mem_of_getElem? hx);rw [rl hi,AM,AG,AJ hx,Az];unfold KE at h;by_cases h3:rs.length>2
   ·rw [if_pos (by omega)];rw [if_pos h3] at h;refine .inr ⟨_,rfl,?_⟩;rw [<- h];exact ⟨rfl,rfl,rfl⟩
   rw [if_neg (by omega)];rw [if_neg h3] at h;obtain ⟨U,hU⟩ : ∃ U,U=KD (CR L.1 i) 0 ids rs:=⟨_,rfl⟩;rw [<- hU] at h
   obtain ⟨r,q1,q2⟩:=FO (l:=rs) (σ:=Int) (λk st=>(st,((k:Int),((0:Int),O1 (ids++(rs.take k).map (·.1))))))
    (λm k _=>KD (CR L.1 i) k (ids++(rs.take k).map (·.1)) m=U) (λ(r:Nat×((Int×(Int×(Int×List (Int×Bool))))×Unit))=>Q2 (O1 (ids++rs.map (·.1))) U r.1 r.2.1.1 r.2.1.2.2.1 r.2.1.2.2.2)
    (f:=λs3=>br (Aj s3.2.1 (rs.length:Int)) (λ_=>AS s3.2.1 λk4=>ix rs k4 λx5=>gd (IP (i:Int) 0) λ_=>bd (C9 (x5,LW .i64 L.1 (i:Int))) λr6=>br (CA r6 0) (λ_=>br (Rl (NB ((λa7=>(λa8=>CA a7 a8))) s3.2.2.2 x5.1) false) (λ_=>some (.dn ((0,((s3.2.1,(s3.2.1,(8,s3.2.2.2))),()))))) λ_=>br (BF r6 0) (λ_=>some (.dn ((0,((s3.2.1,(s3.2.1,(r6,s3.2.2.2))),()))))) λ_=>some (.nx ((s3.2.1,(AF .i64 s3.2.1 1,(r6,IH ((λa9=>(λa10=>CA a9 a10))) s3.2.2.2 x5.1 true)))))) λ_=>br (BF r6 0) (λ_=>some (.dn ((0,((s3.2.1,(s3.2.1,(r6,s3.2.2.2))),()))))) λ_=>some (.nx ((s3.2.1,(AF .i64 s3.2.1 1,(r6,IH ((λa11=>(λa12=>CA a11 a12))) s3.2.2.2 x5.1 true)))))) λ_=>some (.dn ((1,(s3,())))))
    (s:=(0,(0,(0,O1 ids)))) 0 (by simp) (by omega) (by simp [hU]) (λst h=>by
     refine ⟨_,by simp only;rw [re];rfl,?_⟩;rw [<- h];exact ⟨rfl,rfl,by simp⟩) (λk r m st hd hx hk h=>by
     simp only at h ⊢;have hr2:=hrs2 r (List.mem_of_getElem? hx);have htk:(rs.take (k+1)).map (·.1)=(rs.take k).map (·.1)++[r.1]:=by rw [List.take_add_one,hx];simp
     rw [rl hk,AM,AG,AJ hx,show gd (IP (i:Int) 0)=λ(q:Unit->Option (LR (Int×(Int×(Int×List (Int×Bool)))) (Nat×((Int×(Int×(Int×List (Int×Bool))))×Unit))))=>q () from by unfold IP;simp [gd];rfl,Pq (by omega) (by omega) (by omega)];simp only;rw [Wf _ _ (by omega),AC,Bg,Yu,AN];unfold KD at h;rw [gH] at h;by_cases h0:kR [] (CR L.1 i) r=0
     ·rw [if_pos h0] at h;rw [if_pos h0,if_pos h0,Ca];by_cases hm:r.1∈ids++(rs.take k).map (·.1)
      ·rw [if_pos hm];rw [if_pos hm,if_pos (by decide)] at h;refine .inr ⟨_,rfl,?_⟩;rw [<- h];exact ⟨rfl,rfl,rfl⟩
      ·rw [if_neg hm];rw [if_neg hm,if_neg (by decide)] at h;refine .inl ⟨(k:Int),?_,?_⟩
       ·rw [Yv hm,h0,Am hx (by omega),htk,List.append_assoc]
       ·rw [htk,<- List.append_assoc];exact h
     ·rw [if_neg h0,if_pos h0] at h;rw [if_neg h0,if_neg h0];refine .inr ⟨_,rfl,?_⟩;rw [<- h]
      exact ⟨rfl,rfl,rfl⟩)
   rw [q1,AC,Ar];cases hUc:U with
   | some u =>
    obtain ⟨k,e⟩:=u;rw [hUc] at q2 h;rw [if_pos q2.1];refine .inr ⟨_,rfl,?_⟩;rw [<- h];exact ⟨q2.2.1,rfl,q2.2.2⟩
   | none =>
    rw [hUc] at q2 h;rw [if_neg (show ¬ r.1=0 by have:=q2.1;omega)];refine .inl ⟨(r.2.1.1,((i:Int),ids++rs.map (·.1))),?_,h⟩
    rw [q2.2.1,q2.2.2,Am hx (by omega)])
 refine BC q1 ?_;cases hTc:T with
 | some t =>
  obtain ⟨i,k,e⟩:=t;rw [hTc] at q2 hT;rw [AN,if_neg (by rw [q2.2.2];exact Q4 hT.symm),q2.1,q2.2.1,q2.2.2]
 | none =>
  rw [hTc] at q2;have h:=hlast _ q2 hTc;have q3:r.2.1.2.2.1=0:=q2;rw [AN,if_pos q3] at h ⊢;exact h
end Go.Proofs.YthpkjfabdccpdaaGreat.Pl
namespace Go.Proofs.YthpkjfabdccpdaaGreat.Pl
open Go Go.Proofs.YthpkjfabdccpdaaGreat.Sv
structure VR (most:Int) (r:B9):Prop where
 id1:1<=r.1
 id2:r.1<=1000000
 vl:VL r.2
 ne:r.2≠[]
 le:(r.2.length:Int)<=most
theorem fY {ids:List Int} {most:Int} {r:B9}:kR ids most r=0<->VR most r/\r.1 ∉ ids:=by
 unfold kR;constructor
 ·intro h;by_cases h1:r.1<1\/r.1>1000000
  ·rw [if_pos h1] at h;cases h
  rw [if_neg h1] at h;by_cases h2:(ER r.2).2≠0
  ·rw [if_pos h2] at h;exact absurd h h2
  rw [if_neg h2] at h;by_cases h3:r.2.length=0
  ·rw [if_pos h3] at h;cases h
  rw [if_neg h3] at h;by_cases h4:(r.2.length:Int)>most
  ·rw [if_pos h4] at h;cases h
  rw [if_neg h4] at h;by_cases h5:r.1∈ids
  ·rw [if_pos h5] at h;cases h
  exact ⟨⟨by omega,by omega,Mc.1 (by simpa using h2),by intro e;rw [e] at h3;exact h3 rfl,by omega⟩,h5⟩
 ·rintro ⟨h,h5⟩;rw [if_neg (by have:=h.id1;have:=h.id2;omega),if_neg (by simp [Mc.2 h.vl]),if_neg (by have:=List.length_pos_iff.2 h.ne;omega),if_neg (by have:=h.le;omega),if_neg h5]
def gJ (r:B9):Int:=r.1
theorem Mh {most:Int} : ∀ {rs:List B9} {k:Nat} {ids:List Int},KD most k ids rs=none<->(∀ r∈rs,VR most r/\r.1 ∉ ids)/\(rs.map gJ).Nodup
 | [],k,ids=>by simp [KD]
 | r::rs,k,ids=>by
  unfold KD;by_cases h:kR ids most r=0
  ·rw [if_neg (by simp [h]),Mh (rs:=rs)];have h1:=fY.1 h;simp only [List.mem_cons,forall_eq_or_imp,List.map_cons,List.nodup_cons,List.mem_append,List.not_mem_nil,or_false,List.mem_map,not_exists,not_and,not_or];constructor
   ·rintro ⟨h2,h3⟩;exact ⟨⟨h1,λx hx=>⟨(h2 x hx).1,(h2 x hx).2.1⟩⟩,λx hx e=>(h2 x hx).2.2 e,h3⟩
   ·rintro ⟨⟨_,h2⟩,h3,h4⟩;exact ⟨λx hx=>⟨(h2 x hx).1,(h2 x hx).2,h3 x hx⟩,h4⟩
  ·rw [if_pos h];simp only [reduceCtorEq,false_iff,not_and];intro h2;exact absurd (fY.2 (h2 r (by simp))) h
theorem J9 {B:Int} : ∀ {ls:List (List B9)} {i:Nat} {ids:List Int},KE B i ids ls=none<->(∀ k rs,ls[k]? = some rs->rs.length<=2 /\ ∀ r∈rs,VR (CR B (i+k)) r/\r.1 ∉ ids)/\(ls.flatten.map gJ).Nodup
 | [],i,ids=>by simp [KE]
 | rs::ls,i,ids=>by
  unfold KE;by_cases h:rs.length>2
  ·rw [if_pos h];simp only [reduceCtorEq,false_iff,not_and];intro h2;have:=(h2 0 rs rfl).1;omega
  ·rw [if_neg h];cases hr:KD (CR B i) 0 ids rs with
   | some x =>
    simp only [reduceCtorEq,false_iff,not_and];intro h2 h3
    have h4:KD (CR B i) 0 ids rs=none:=Mh.2 ⟨(h2 0 rs rfl).2,by
     simp only [List.flatten_cons,List.map_append] at h3
     exact (List.nodup_append.1 h3).1⟩
    rw [hr] at h4;cases h4
   | none =>
    have h1:=Mh.1 hr;simp only;rw [J9 (ls:=ls)];simp only [List.flatten_cons,List.map_append,List.mem_append,not_or,List.mem_map];constructor
    ·rintro ⟨h2,h3⟩;refine ⟨λk rs' hk => ?_,?_⟩
     ·cases k with
      | zero=>cases hk;exact ⟨by omega,h1.1⟩
      | succ k =>
       have h4:=h2 k rs' hk
       exact ⟨h4.1,λr hr=>by
        have:=h4.2 r hr;rw [show i+(k+1)=i+1+k by omega]
        exact ⟨this.1,this.2.1⟩⟩
     ·rw [List.nodup_append];refine ⟨h1.2,h3,?_⟩;intro a ha b hb e;subst e;obtain ⟨r,hr,e1⟩:=List.mem_map.1 ha;obtain ⟨r',hr',e2⟩:=List.mem_map.1 hb;obtain ⟨rs',hrs,hr'⟩:=List.mem_flatten.1 hr';obtain ⟨k,hk⟩:=List.getElem?_of_mem hrs;exact ((h2 k rs' hk).2 r' hr').2.2 ⟨r,hr,by unfold gJ at e1 e2;omega⟩
    ·rintro ⟨h2,h3⟩;rw [List.nodup_append] at h3;refine ⟨λk rs' hk => ?_,h3.2.1⟩;have h4:=h2 (k+1) rs' hk;refine ⟨h4.1,λr hr => ?_⟩;have:=h4.2 r hr;rw [show i+(k+1)=i+1+k by omega] at this;refine ⟨this.1,this.2,?_⟩;rintro ⟨r',hr',e⟩;exact h3.2.2 (gJ r') (List.mem_map_of_mem hr') (gJ r) (List.mem_map_of_mem (List.mem_flatten.2 ⟨rs',List.mem_of_getElem? hk,hr⟩)) e
structure VLev (L:AQ):Prop where
 B1:1<=L.1
 B2:L.1<=16
 len:L.2.length<=12
 lev : ∀ i rs,L.2[i]? = some rs->rs.length<=2 /\ ∀ r∈rs,VR (CR L.1 i) r
 ids:(L.2.flatten.map gJ).Nodup
 last:L.2.getLast? ≠ some []
theorem GZ {L:AQ}:(C4 L).2.2=0<->VLev L:=by
 unfold C4;constructor
 ·intro h;by_cases h1:L.1<1\/L.1>16
  ·rw [if_pos h1] at h;cases h
  rw [if_neg h1] at h;by_cases h2:L.2.length>12
  ·rw [if_pos h2] at h;cases h
  rw [if_neg h2] at h;cases hg:KE L.1 0 [] L.2 with
  | some x =>
   obtain ⟨i,k,e⟩:=x;rw [hg] at h;exact absurd h (Q4 hg)
  | none =>
   rw [hg] at h;simp only at h;by_cases h3:L.2.getLast? = some []
   ·rw [if_pos h3] at h;cases h
   ·have h4:=J9.1 hg
    exact ⟨by omega,by omega,by omega,λi rs hi=>by
     have:=h4.1 i rs hi;rw [Nat.zero_add] at this
     exact ⟨this.1,λr hr=>(this.2 r hr).1⟩,h4.2,h3⟩
 ·intro h
  have hg:KE L.1 0 [] L.2=none:=J9.2 ⟨λk rs hk=>by
   have:=h.lev k rs hk;rw [Nat.zero_add]
   exact ⟨this.1,λr hr=>⟨this.2 r hr,by simp⟩⟩,h.ids⟩
  rw [if_neg (by have:=h.B1;have:=h.B2;omega),if_neg (by have:=h.len;omega),hg];simp only;rw [if_neg h.last]
theorem In {L:AQ} (h:VLev L):C4 L=(0,(0,0)):=by
 have hg:KE L.1 0 [] L.2=none:=J9.2 ⟨λk rs hk=>by
  have:=h.lev k rs hk;rw [Nat.zero_add]
  exact ⟨this.1,λr hr=>⟨this.2 r hr,by simp⟩⟩,h.ids⟩
 unfold C4;rw [if_neg (by have:=h.B1;have:=h.B2;omega),if_neg (by have:=h.len;omega),hg];simp only;rw [if_neg h.last]
def GG (l:List (List B9)):Int:=l.foldl (λm rs=>rs.foldl (λm r=>NK m r.1) m) 0
def BV:Nat->List (List B9)->List Int
 | _,[]=>[]
 | i,rs::ls=>(if rs.length=2 then [(i:Int)] else [])++BV (i+1) ls
theorem SR (L:AQ) (hb:L.2.length<=1048576) (hr : ∀ rs∈L.2,rs.length<=1048576):Dx L=some (GG L.2):=by
 unfold Dx;simp only [AX,AR]
 rw [CY (l:=L.2) (σ:=Int) (s:=((0:Int),(0:Int))) (λi m=>(m,(i:Int))) (λ_ _ _=>True) (λls _ m=>(0,((ls.foldl (λm rs=>rs.foldl (λm r=>NK m r.1) m) m,(L.2.length:Int)),()))) 0 rfl (by omega) trivial (λm _=>by
  simp only;rw [re];rfl) (λi rs ls m hd hx hi _=>by
   refine ⟨rs.foldl (λm r=>NK m r.1) m,?_,trivial,rfl⟩;have h1:=hr rs (List.mem_of_getElem? hx);simp only
   rw [rl hi,AM,AG,AJ hx,CY (l:=rs) (σ:=Int) (s:=((0:Int),m)) (λi m=>((i:Int),m)) (λ_ _ _=>True) (λl _ m=>(0,(((rs.length:Int),l.foldl (λm r=>NK m r.1) m),()))) m rfl (by omega) trivial (λm _=>by
    simp only;rw [re];rfl) (λk r l m hd hx hk _=>by
     refine ⟨NK m r.1,?_,trivial,rfl⟩;simp only
     rw [rl hk,AM,AG,AJ hx,Am hx (by omega)]),AC,Am hx (by omega)]),AC]
 rfl
def KF (L:AQ) (due:List Int) (i:Nat) (j:VW):Bool:=match due[i]? with
 | none=>true
 | some d=>if j.1≠d then true else if j.2.2.1.2.2=true/\j.1≠(L.2.length:Int)-1 then true else match L.2[d.toNat]? with
  | some [r0,r1]=>if j.2.2.2.2<0\/j.2.2.2.2>((r1.2.length+r0.2.length:Nat):Int) then true else decide (Es r1.2 r0.2 j.2.2.1.2.2 j.2.2.2.2.toNat≠j.2)
  | _=>true
def FP (L:AQ) (due:List Int):Nat->List VW->Option Nat
 | _,[]=>none
 | i,j::js=>if KF L due i j=true then some i else FP L due (i+1) js
def AZ (s:BJ):Int×Int :=
 if (C4 s.1).2.2≠0 then (-1,(C4 s.1).2.2) else if s.2.2<1\/s.2.2>1000001 then (-1,7) else if s.2.2<=GG s.1.2 then (-1,6) else match FP s.1 (BV 0 s.1.2) 0 s.2.1 with
  | some i=>((i:Int),6)
  | none=>if s.2.1.length<(BV 0 s.1.2).length then (-1,4) else (0,0)
theorem IF : ∀ {ls:List (List B9)} {i k:Nat} {d:Int},(BV i ls)[k]? = some d -> ∃ n:Nat,d=((i+n:Nat):Int) /\ ∃ r0 r1,ls[n]? = some [r0,r1]
 | [],i,k,d,h=>by cases h
 | rs::ls,i,k,d,h=>by
  unfold BV at h;by_cases h2:rs.length=2
  ·rw [if_pos h2] at h;cases k with
   | zero =>
    simp at h;refine ⟨0,by simp [<- h],?_⟩
    match rs,h2 with
    | [r0,r1],_=>exact ⟨r0,r1,rfl⟩
   | succ k =>
    simp at h;obtain ⟨n,h3,h4⟩:=IF h;exact ⟨n+1,by rw [h3];congr 1;omega,h4⟩
  ·rw [if_neg h2] at h;simp at h;obtain ⟨n,h3,h4⟩:=IF h;exact ⟨n+1,by rw [h3];congr 1;omega,h4⟩
theorem D4 : ∀ (ls:List (List B9)) (i:Nat),(BV i ls).length<=ls.length
 | [],i=>Nat.le_refl _
 | rs::ls,i=>by
  have:=D4 ls (i+1);unfold BV;split<;>simp<;>omega
theorem Yw {L:AQ} {n:Nat} {r0 r1:B9} (bt:Bool) (h:L.2[n]? = some [r0,r1]) (v0:VL r0.2) (v1:VL r1.2):CZ (L,((n:Int),bt))=some ((n:Int),Es r1.2 r0.2 bt 0):=by
 unfold CZ;simp only;rw [AG,AJ h,AJ (x:=r1) rfl,AJ (x:=r0) rfl,WW v1 v0];rfl
theorem Pr {a b:List AH} (va:VL a) (vb:VL b) (bt:Bool) {n:Nat} (h:n<=a.length+b.length):(Es a b bt n).1.1.length<=1000/\(∀ l∈(Es a b bt n).1.1,l.length<=1000000)/\(Es a b bt n).1.2.1.length<=1000/\(Es a b bt n).1.2.2.1.length<=1000/\(Es a b bt n).1.2.2.2.1.length<=1000/\(Es a b bt n).2.2.1.length<=1000000:=by
 have la:=va.len;have lb:=vb.len;refine ⟨show 2<=1000 by omega,λl hl => ?_,show 2<=1000 by omega,show 2<=1000 by omega,show 2<=1000 by omega,?_⟩
 ·have:l=a\/l=b:=by simpa [Es,K1,K9] using hl
  rcases this with e | e<;>subst e<;>omega
 ·have h1:=JZ (s0 bt) (A0 a b n);have h2:=Ch va vb h;show (Gp (s0 bt) (A0 a b n)).length<=_;omega
theorem gK {L:AQ} {n:Nat} {r0 r1:B9} {j:VW} (h:L.2[n]? = some [r0,r1]) (v0:VL r0.2) (v1:VL r1.2) {β:Type} (A B:Option β) :
  (bd (CZ (L,((n:Int),j.2.2.1.2.2))) λr16=>bd (Ba r16.2) λr17=>br (Aj j.2.2.2.2 0) (λ_=>A) λ_=>br (B0 j.2.2.2.2 r17.1) (λ_=>A) λ_=>bd (CG (r16.2,j.2.2.2.2)) λr18=>bd (C1 (r18.1,j.2)) λr19=>br (AU r19) (λ_=>A) λ_=>B)
  = if j.2.2.2.2<0\/j.2.2.2.2>((r1.2.length+r0.2.length:Nat):Int) then A else if Es r1.2 r0.2 j.2.2.1.2.2 j.2.2.2.2.toNat=j.2 then B else A:=by
 rw [Yw _ h v0 v1,AC,Mg v1 v0 _ (Nat.zero_le _),AC,BE,Az,Nat.sub_zero];by_cases h1:j.2.2.2.2<0
 ·rw [if_pos h1,if_pos (.inl h1)]
 rw [if_neg h1];by_cases h2:j.2.2.2.2>((r1.2.length+r0.2.length:Nat):Int)
 ·rw [if_pos h2,if_pos (.inr h2)]
 rw [if_neg h2,if_neg (show ¬ (j.2.2.2.2<0\/j.2.2.2.2>((r1.2.length+r0.2.length:Nat):Int)) by omega)];obtain ⟨k,hk⟩ : ∃ k:Nat,j.2.2.2.2=(k:Int):=⟨j.2.2.2.2.toNat,by omega⟩;rw [hk,Wd v1 v0 _ (Nat.zero_le _),AC,Nat.sub_zero,Nat.zero_add,Nat.min_eq_left (by omega),Int.toNat_natCast];obtain ⟨s1,s2,s3,s4,s5,s6⟩:=Pr v1 v0 j.2.2.1.2.2 (n:=k) (by omega);rw [SP _ _ s1 s2 s3 s4 s5 s6,AC,CQ,Ca];by_cases he:Es r1.2 r0.2 j.2.2.1.2.2 k=j.2
 ·rw [if_neg (by simp [he]),if_pos he]
 ·rw [if_pos he,if_neg he]
theorem Tu (s:BJ) (hb:s.1.2.length<=1048576) (hr : ∀ rs∈s.1.2,rs.length<=1048576 /\ ∀ r∈rs,r.2.length<=9223372036854775807) (hj:s.2.1.length<=1048576):C2 s=some (AZ s):=by
 unfold C2 AZ;simp only [AX,AR];rw [OT _ hb hr,AC,AN];by_cases h0:(C4 s.1).2.2=0;rotate_left
 ·rw [if_neg h0,if_pos h0]
 rw [if_pos h0,if_neg (by simp [h0]),BE,Az,SR _ hb (λrs h=>(hr rs h).1),AC];have v:=GZ.1 h0;by_cases h1:s.2.2<1
 ·rw [if_pos h1,if_pos (.inl h1)]
 rw [if_neg h1];by_cases h2:s.2.2>1000001
 ·rw [if_pos h2,if_pos (.inr h2)]
 rw [if_neg h2,if_neg (show ¬ (s.2.2<1\/s.2.2>1000001) by omega),Yj];by_cases h3:s.2.2<=GG s.1.2
 ·rw [if_pos h3,if_pos h3]
 rw [if_neg h3,if_neg h3]
 rw [CY (l:=s.1.2) (σ:=List Int) (s:=((0:Int),([]:List Int))) (λi m=>((i:Int),m)) (λls i m=>m++BV i ls=BV 0 s.1.2) (λ_ _ _=>(0,(((s.1.2.length:Int),BV 0 s.1.2),()))) [] rfl (by omega) rfl (λm h=>by
  simp only;rw [re,Av,<- h];simp [BV]) (λi rs ls m hd hx hi h=>by
   refine ⟨m++(if rs.length=2 then [(i:Int)] else []),?_,?_,rfl⟩
   ·simp only;rw [rl hi,AM,AG,AJ hx,Bg]
    have hm:m.length<=1048575:=by
     have h4:=congrArg List.length h;have h5:=D4 s.1.2 0;have h6:=v.len;rw [List.length_append] at h4;omega
    by_cases h4:rs.length=2
    ·rw [if_pos (by omega),if_pos h4,C3 (by simp only [A3,AA,List.length_cons,List.length_nil];omega),Am hx (by omega)];rfl
    ·rw [if_neg (by omega),if_neg h4,List.append_nil,Am hx (by omega)]
   ·rw [List.append_assoc];exact h),AC]
 simp only;obtain ⟨due,hdue⟩ : ∃ due,due=BV 0 s.1.2:=⟨_,rfl⟩;have hdl:due.length<=12:=by have:=D4 s.1.2 0;have:=v.len;rw [hdue];omega
 rw [<- hdue];obtain ⟨T,hT⟩ : ∃ T,T=FP s.1 due 0 s.2.1:=⟨_,rfl⟩;rw [<- hT]
 obtain ⟨r,q1,q2⟩:=FO (l:=s.2.1) (σ:=Unit) (λi _=>((0:Int),((0:Int),(i:Int)))) (λjs i _=>FP s.1 due i js=T) (λ(r:Nat×((Int×(Int×Int))×Unit))=>(T=none/\r.1=1)\/(∃ i:Nat,T=some i/\r.1=0/\r.2.1.1=6/\r.2.1.2.1=(i:Int)))
  (f:=λs6=>br (Aj s6.2.2 (s.2.1.length:Int)) (λ_=>AS s6.2.2 λk7=>ix s.2.1 k7 λx8=>br (IP s6.2.2 (due.length:Int)) (λ_=>some (.dn ((0,((6,(s6.2.2,s6.2.2)),()))))) λ_=>AS s6.2.2 λk9=>gd (D9 k9 due.length) λ_=>ix due k9 λx10=>br (BF x8.1 x10) (λ_=>some (.dn ((0,((6,(s6.2.2,s6.2.2)),()))))) λ_=>br x8.2.2.1.2.2 (λ_=>bd (E0 (s.1,x8.1)) λr11=>br (AU r11) (λ_=>some (.dn ((0,((6,(s6.2.2,s6.2.2)),()))))) λ_=>bd (CZ ((s.1,(x8.1,x8.2.2.1.2.2)))) λr12=>bd (Ba r12.2) λr13=>br (Aj x8.2.2.2.2 0) (λ_=>some (.dn ((0,((6,(s6.2.2,s6.2.2)),()))))) λ_=>br (B0 x8.2.2.2.2 r13.1) (λ_=>some (.dn ((0,((6,(s6.2.2,s6.2.2)),()))))) λ_=>bd (CG (r12.2,x8.2.2.2.2)) λr14=>bd (C1 (r14.1,x8.2)) λr15=>br (AU r15) (λ_=>some (.dn ((0,((6,(s6.2.2,s6.2.2)),()))))) λ_=>some (.nx ((s6.1,(s6.2.1,AF .i64 s6.2.2 1))))) λ_=>bd (CZ ((s.1,(x8.1,x8.2.2.1.2.2)))) λr16=>bd (Ba r16.2) λr17=>br (Aj x8.2.2.2.2 0) (λ_=>some (.dn ((0,((6,(s6.2.2,s6.2.2)),()))))) λ_=>br (B0 x8.2.2.2.2 r17.1) (λ_=>some (.dn ((0,((6,(s6.2.2,s6.2.2)),()))))) λ_=>bd (CG (r16.2,x8.2.2.2.2)) λr18=>bd (C1 (r18.1,x8.2)) λr19=>br (AU r19) (λ_=>some (.dn ((0,((6,(s6.2.2,s6.2.2)),()))))) λ_=>some (.nx ((s6.1,(s6.2.1,AF .i64 s6.2.2 1))))) λ_=>some (.dn ((1,(s6,())))))
  (s:=(0,(0,0))) () rfl (by omega) hT.symm (λ_ h=>by
   refine ⟨_,by simp only;rw [re];rfl,.inl ⟨by rw [<- h];rfl,rfl⟩⟩) (λi j js _ hd hx hi h=>by
   simp only;rw [rl hi,AM,AG,AJ hx,Gt];unfold FP at h
   have hbad:KF s.1 due i j=true -> ∃ r:Nat×((Int×(Int×Int))×Unit),(some (LR.dn ((0,((6,((i:Int),(i:Int))),()))):LR (Int×(Int×Int)) _))=some (.dn r)/\((T=none/\r.1=1)\/(∃ i:Nat,T=some i/\r.1=0/\r.2.1.1=6/\r.2.1.2.1=(i:Int))):=λhb=>by
    rw [if_pos hb] at h;exact ⟨_,rfl,.inr ⟨i,h.symm,rfl,rfl,rfl⟩⟩
   have hgood:KF s.1 due i j=false -> ∃ st':Unit,(some (LR.nx ((0:Int),((0:Int),AF .i64 (i:Int) 1))):Option (LR _ (Nat×((Int×(Int×Int))×Unit))))=some (.nx ((0:Int),((0:Int),((i+1:Nat):Int))))/\FP s.1 due (i+1) js=T:=λhg=>by
    rw [if_neg (by simp [hg])] at h;exact ⟨(),by rw [Am hx (by omega)],h⟩
   by_cases h1:(i:Int)>=(due.length:Int)
   ·rw [if_pos h1];exact .inr (hbad (by unfold KF;rw [List.getElem?_eq_none (by omega)]))
   rw [if_neg h1,AG,Qv,if_pos (by omega)];have hd2:due[i]? = some (due[i]'(by omega)):=by simp
   rw [AJ hd2,AN];obtain ⟨n,hn,r0,r1,hlv⟩:=IF (ls:=s.1.2) (i:=0) (k:=i) (d:=due[i]'(by omega)) (by rw [<- hdue];exact hd2);rw [Nat.zero_add] at hn
   have hE:KF s.1 due i j=(if j.1≠(due[i]'(by omega)) then true else if j.2.2.1.2.2=true/\j.1≠(s.1.2.length:Int)-1 then true else if j.2.2.2.2<0\/j.2.2.2.2>((r1.2.length+r0.2.length:Nat):Int) then true else decide (Es r1.2 r0.2 j.2.2.1.2.2 j.2.2.2.2.toNat≠j.2)):=by
    unfold KF;rw [hd2];simp only;rw [hn,Int.toNat_natCast,hlv]
   by_cases h2:j.1=(due[i]'(by omega));rotate_left
   ·rw [if_neg h2];exact .inr (hbad (by rw [hE,if_pos h2]))
   rw [if_pos h2];rw [if_neg (by simp [h2])] at hE;have hjn:j.1=(n:Int):=by rw [h2,hn]
   have hv:=(v.lev n _ hlv).2;have v0:=(hv r0 (by simp)).vl;have v1:=(hv r1 (by simp)).vl;have hlow:Bp .i64 (s.1.2.length:Int) 1=(s.1.2.length:Int)-1:=Bt (by omega);unfold E0;simp only [AX,AR];rw [AC,hlow,Il,CQ,Ca,hjn,gK hlv v0 v1,GX];rw [hjn] at hE;by_cases h3:j.2.2.1.2.2=true/\(n:Int)≠(s.1.2.length:Int)-1
   ·rw [if_pos h3.1,if_pos h3.2];exact .inr (hbad (by rw [hE,if_pos h3]))
   rw [if_neg h3] at hE
   have h4 : ∀ {γ:Type} (A B:γ),(if j.2.2.1.2.2=true then if ¬(n:Int)=(s.1.2.length:Int)-1 then A else B else B)=B:=by
    intro γ A B;by_cases h5:j.2.2.1.2.2=true
    ·rw [if_pos h5,if_neg (λh6=>h3 ⟨h5,h6⟩)]
    ·rw [if_neg h5]
   rw [h4];by_cases h5:j.2.2.2.2<0\/j.2.2.2.2>((r1.2.length+r0.2.length:Nat):Int)
   ·rw [if_pos h5];exact .inr (hbad (by rw [hE,if_pos h5]))
   rw [if_neg h5];rw [if_neg h5] at hE;by_cases h6:Es r1.2 r0.2 j.2.2.1.2.2 j.2.2.2.2.toNat=j.2
   ·rw [if_pos h6];exact .inl (hgood (by rw [hE];simp [h6]))
   ·rw [if_neg h6]
    exact .inr (hbad (by rw [hE];simp [h6])))
 rw [h0];refine BC q1 ?_;rw [Ar];rcases q2 with ⟨q2,q3⟩ | ⟨i,q2,q3,q4,q5⟩
 ·rw [if_neg (show ¬ r.1=0 by omega),q2,BE];simp only;by_cases h7:s.2.1.length<due.length
  ·rw [if_pos (by omega),if_pos h7]
  ·rw [if_neg (by omega),if_neg h7]
 ·rw [if_pos q3,q2,q4,q5]
end Go.Proofs.YthpkjfabdccpdaaGreat.Pl
