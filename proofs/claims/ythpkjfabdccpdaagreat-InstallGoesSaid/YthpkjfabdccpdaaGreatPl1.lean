/- Functions of the program and of the specification as plain functions, and laws about them. No condition. -/
import Derived.Test.YthpkjfabdccpdaaGreatPl0
set_option linter.all false
namespace Go.Proofs.YthpkjfabdccpdaaGreat.Pl
open Go Go.Proofs.YthpkjfabdccpdaaGreat.Sv
set_option linter.unusedVariables false
def Ct (x:(Int×Int)):Option Int :=
 bd (loop (λs0=>br (Am s0.2 x.2) (λ_=>some (.nx (Mn .i64 2 s0.1,AH .i64 s0.2 1))) λ_=>some (.dn ((0,(s0,()))))) (x.1,0)) λr1=>some r1.2.1.1
def Dc (x:AD):Option Int :=
 br (CF (Aa (E8 x.1)) 32) (λ_=>some 3) λ_=>br (CF (Aa (E8 x.2.1)) 64) (λ_=>some 3) λ_=>br x.2.2.1 (λ_=>br (AX (seq x.2.1 [])) (λ_=>some 6) λ_=>br (Am x.2.2.2 1) (λ_=>some 7) λ_=>br (CF x.2.2.2 1000000000) (λ_=>some 7) λ_=>some 0) λ_=>br (Am x.2.2.2 1) (λ_=>some 7) λ_=>br (CF x.2.2.2 1000000000) (λ_=>some 7) λ_=>some 0
def Eh (x:((List UInt8)×(List UInt8))):Option Int :=
 bd (loop (λs0=>br (Am s0 (Aa (E8 x.1))) (λ_=>br (Am s0 (Aa (E8 x.2))) (λ_=>AU s0 λk1=>ix x.1 k1 λx2=>AU s0 λk3=>ix x.2 k3 λx4=>br (Ba (SY x2) (SY x4)) (λ_=>some (.nx (AH .i64 s0 1))) λ_=>some (.dn ((0,(s0,()))))) λ_=>some (.dn ((0,(s0,()))))) λ_=>some (.dn ((0,(s0,()))))) 0) λr5=>some r5.2.1
def EM (x:((List UInt8)×(List UInt8))):Option Int :=
 bd (Eh x) λr0=>br (Ba r0 (Aa (E8 x.1))) (λ_=>br (Ba r0 (Aa (E8 x.2))) (λ_=>some 0) λ_=>br (Ba r0 (Aa (E8 x.1))) (λ_=>some (-1)) λ_=>br (Am r0 (Aa (E8 x.2))) (λ_=>AU r0 λk1=>ix x.1 k1 λx2=>AU r0 λk3=>ix x.2 k3 λx4=>br (Am (SY x2) (SY x4)) (λ_=>some (-1)) λ_=>some 1) λ_=>some 1) λ_=>br (Ba r0 (Aa (E8 x.1))) (λ_=>some (-1)) λ_=>br (Am r0 (Aa (E8 x.2))) (λ_=>AU r0 λk5=>ix x.1 k5 λx6=>AU r0 λk7=>ix x.2 k7 λx8=>br (Am (SY x6) (SY x8)) (λ_=>some (-1)) λ_=>some 1) λ_=>some 1
def Cj (x:(List AD)):Option (Int×Int) :=
 br (CF (Aa (AA x)) 5000) (λ_=>some (((-1),3))) λ_=>bd (loop (λs0=>br (Am s0.2.2 (Aa (AA x))) (λ_=>AU s0.2.2 λk1=>ix x k1 λx2=>bd (Dc x2) λr3=>br (Ba r3 0) (λ_=>br (CF s0.2.2 0) (λ_=>AU (B9 .i64 s0.2.2 1) λk4=>ix x k4 λx5=>AU s0.2.2 λk6=>ix x k6 λx7=>bd (EM (x5.1,x7.1)) λr8=>br (Hj r8 0) (λ_=>some (.dn ((0,((6,(s0.2.2,s0.2.2)),()))))) λ_=>br (BC r3 0) (λ_=>some (.dn ((0,((r3,(s0.2.2,s0.2.2)),()))))) λ_=>some (.nx ((s0.1,(s0.2.1,AH .i64 s0.2.2 1))))) λ_=>br (BC r3 0) (λ_=>some (.dn ((0,((r3,(s0.2.2,s0.2.2)),()))))) λ_=>some (.nx ((s0.1,(s0.2.1,AH .i64 s0.2.2 1))))) λ_=>br (BC r3 0) (λ_=>some (.dn ((0,((r3,(s0.2.2,s0.2.2)),()))))) λ_=>some (.nx ((s0.1,(s0.2.1,AH .i64 s0.2.2 1))))) λ_=>some (.dn ((1,(s0,()))))) ((0,(0,0)))) λr9=>br (neq r9.1 0) (λ_=>some (r9.2.1.2.1,r9.2.1.1)) λ_=>some (0,0)
def FH (x:BH):Option (Int×Int) :=
 br (Am x.1 1) (λ_=>some (((-1),7))) λ_=>br (CF x.1 1000000) (λ_=>some (((-1),7))) λ_=>bd (Cj x.2) λr0=>some r0
def Cu (x:(BH×(Int×(List Int)))):Option Int :=
 bd (FH x.1) λr0=>br (BC r0.2 0) (λ_=>some r0.2) λ_=>br (Ba (Aa (AA x.1.2)) 0) (λ_=>some 4) λ_=>br (CF (Aa (AA x.1.2)) x.2.1) (λ_=>some 3) λ_=>bd (loop (λs1=>br (Am s1.1 (Aa (AA x.2.2))) (λ_=>AU s1.1 λk2=>ix x.2.2 k2 λx3=>br (Ba x3 x.1.1) (λ_=>some (.dn ((0,((s1.1,8),()))))) λ_=>some (.nx (AH .i64 s1.1 1,s1.2))) λ_=>some (.dn ((1,(s1,()))))) (0,0)) λr4=>br (neq r4.1 0) (λ_=>some r4.2.1.2) λ_=>some 0
def CB (x:AK):Option (Int×(Int×Int)) :=
 br (Am x.1 1) (λ_=>some ((0,(0,7)))) λ_=>br (CF x.1 16) (λ_=>some ((0,(0,7)))) λ_=>br (CF (Aa (AA x.2)) 12) (λ_=>some ((0,(0,3)))) λ_=>bd (loop (λ(s0:(Int×((List Int)×(Int×(Int×Int)))))=>br (Am s0.2.2.2.2 (Aa (AA x.2))) (λ_=>AU s0.2.2.2.2 λk1=>ix x.2 k1 λx2=>br (CF (Aa (AA x2)) 2) (λ_=>some (.dn ((0,((0,(s0.2.1,(s0.2.2.2.2,(3,s0.2.2.2.2)))),()))))) λ_=>bd (loop (λ(s3:(Int×((List Int)×(Int×(Int×Int)))))=>br (Am s3.2.2.2.2 (Aa (AA x2))) (λ_=>AU s3.2.2.2.2 λk4=>ix x2 k4 λx5=>bd (Ct (x.1,s0.2.2.2.2)) λr6=>bd (Cu ((x5,(r6,s3.2.1)))) λr7=>br (BC r7 0) (λ_=>some (.dn ((0,((s3.2.2.2.2,(s3.2.1,(s0.2.2.2.2,(r7,s3.2.2.2.2)))),()))))) λ_=>AU s3.2.2.2.2 λk8=>ix x2 k8 λx9=>gd (BZ (A2 (AA s3.2.1) (AA [x9.1])) 1048576) λ_=>some (.nx ((s3.1,(CG s3.2.1 [x9.1],(s3.2.2.1,(s3.2.2.2.1,AH .i64 s3.2.2.2.2 1))))))) λ_=>some (.dn ((1,(s3,()))))) ((s0.1,(s0.2.1,(s0.2.2.1,(s0.2.2.2.1,0)))))) λr10=>br (neq r10.1 0) (λ_=>some (.dn ((0,((r10.2.1.1,(r10.2.1.2.1,(r10.2.1.2.2.1,(r10.2.1.2.2.2.1,s0.2.2.2.2)))),()))))) λ_=>some (.nx ((r10.2.1.1,(r10.2.1.2.1,(r10.2.1.2.2.1,(r10.2.1.2.2.2.1,AH .i64 s0.2.2.2.2 1))))))) λ_=>some (.dn ((1,(s0,()))))) ((0,([],(0,(0,0)))))) λr11=>br (neq r11.1 0) (λ_=>some ((r11.2.1.2.2.1,(r11.2.1.1,r11.2.1.2.2.2.1)))) λ_=>br (CF (Aa (AA x.2)) 0) (λ_=>AU (B9 .i64 (Aa (AA x.2)) 1) λk12=>ix x.2 k12 λx13=>br (Ba (Aa (AA x13)) 0) (λ_=>some ((B9 .i64 (Aa (AA x.2)) 1,(0,6)))) λ_=>some ((0,(0,0)))) λ_=>some ((0,(0,0)))
def Dx (x:AK):Option ((List BH)×Int) :=
 bd (CB x) λr0=>br (BC r0.2.2 0) (λ_=>some ([],r0.2.2)) λ_=>bd (loop (λs1=>br (Am s1.2 (Aa (AA x.2))) (λ_=>AU s1.2 λk2=>ix x.2 k2 λx3=>bd (loop (λs4=>br (Hj s4.2 0) (λ_=>AU s1.2 λk5=>ix x.2 k5 λx6=>AU s4.2 λk7=>ix x6 k7 λx8=>gd (BZ (A2 (AA s4.1) (AA [x8])) 1048576) λ_=>some (.nx (CG s4.1 [x8],B9 .i64 s4.2 1))) λ_=>some (.dn ((0,(s4,()))))) ((s1.1,B9 .i64 (Aa (AA x3)) 1))) λr9=>some (.nx (r9.2.1.1,AH .i64 s1.2 1))) λ_=>some (.dn ((0,(s1,()))))) ([],0)) λr10=>some (r10.2.1.1,0)
def CP (x:AK):Option Int :=
 bd (Dx x) λr0=>bd (loop (λs1=>br (Am s1.2 (Aa (AA r0.1))) (λ_=>AU s1.2 λk2=>ix r0.1 k2 λx3=>some (.nx (KN s1.1 x3.1,AH .i64 s1.2 1))) λ_=>some (.dn ((0,(s1,()))))) (0,0)) λr4=>some r4.2.1.1
def DU (x:AK):Option (List Int) :=
 bd (loop (λs0=>br (Am s0.2 (Aa (AA x.2))) (λ_=>AU s0.2 λk1=>ix x.2 k1 λx2=>br (Ba (Aa (AA x2)) 2) (λ_=>gd (BZ (A2 (AA s0.1) (AA [s0.2])) 1048576) λ_=>some (.nx (CG s0.1 [s0.2],AH .i64 s0.2 1))) λ_=>some (.nx (s0.1,AH .i64 s0.2 1))) λ_=>some (.dn ((0,(s0,()))))) ([],0)) λr3=>some r3.2.1.1
def Ha (x:(AK×Int)):Option Int :=
 bd (CB x.1) λr0=>br (Ba r0.2.2 0) (λ_=>br (Am x.2 0) (λ_=>some 7) λ_=>br (Hj x.2 12) (λ_=>some 7) λ_=>some r0.2.2) λ_=>some r0.2.2
def Gl (x:(AK×Int)):Option (Bool×Int) :=
 bd (Ha x) λr0=>br (BC r0 0) (λ_=>some (false,r0)) λ_=>some ((CF (Aa (AA x.1.2)) (AH .i64 x.2 1),0))
def Bp (x:(AK×Int)):Option Bool :=
 bd (Gl x) λr0=>some (AX r0.1)
def Dd (x:(List (List AD))):Option (Int×Int) :=
 br (Ba (Aa (AA x)) 0) (λ_=>some (((-1),6))) λ_=>br (CF (Aa (AA x)) 32) (λ_=>some (((-1),3))) λ_=>bd (loop (λs0=>br (Am s0.2.2 (Aa (AA x))) (λ_=>AU s0.2.2 λk1=>ix x k1 λx2=>bd (Cj x2) λr3=>br (BC r3.2 0) (λ_=>some (.dn ((0,((r3.2,(s0.2.2,s0.2.2)),()))))) λ_=>some (.nx ((s0.1,(s0.2.1,AH .i64 s0.2.2 1))))) λ_=>some (.dn ((1,(s0,()))))) ((0,(0,0)))) λr4=>br (neq r4.1 0) (λ_=>some (r4.2.1.2.1,r4.2.1.1)) λ_=>some (0,0)
def FI (x:(List AO)):Option Int :=
 br (Ba (Aa (AA x)) 0) (λ_=>some 6) λ_=>br (CF (Aa (AA x)) 32) (λ_=>some 3) λ_=>bd (loop (λs0=>br (Am s0.1 (Aa (AA x))) (λ_=>AU s0.1 λk1=>ix x k1 λx2=>br x2.2 (λ_=>AU s0.1 λk3=>ix x k3 λx4=>br (AX (seq x4.1 [])) (λ_=>some (.dn ((0,((s0.1,2),()))))) λ_=>some (.nx (AH .i64 s0.1 1,s0.2))) λ_=>some (.nx (AH .i64 s0.1 1,s0.2))) λ_=>some (.dn ((1,(s0,()))))) (0,0)) λr5=>br (neq r5.1 0) (λ_=>some r5.2.1.2) λ_=>some 0
def E2 (x:((List AO)×(Int×Int))):Option Bool :=
 AU x.2.1 λk0=>ix x.1 k0 λx1=>AU x.2.2 λk2=>ix x.1 k2 λx3=>br (AX (beq x1.2 x3.2)) (λ_=>some x3.2) λ_=>br (AX x1.2) (λ_=>br (AX (seq x1.1 x3.1)) (λ_=>some (CT x1.1 x3.1)) λ_=>some (Am x.2.1 x.2.2)) λ_=>some (Am x.2.1 x.2.2)
def As (rec:((List AO)×Int)->Option (Int×Int)) (x:((List AO)×Int)):Option (Int×Int) :=
 br (Hj x.2 (Aa (AA x.1))) (λ_=>some ((B9 .i64 x.2 (Aa (AA x.1)),0))) λ_=>bd (rec (x.1,Mn .i64 2 x.2)) λr0=>bd (rec ((x.1,AH .i64 (Mn .i64 2 x.2) 1))) λr1=>bd (E2 ((x.1,(r0.1,r1.1)))) λr2=>br r2 (λ_=>some (r0.1,r1.1)) λ_=>some (r1.1,r0.1)
def GB:((List AO)×Int)->Option (Int×Int):=Jt As 100
def GC (x:(List AO)):Option D9 :=
 gd (BZ (AA x) 1048576) λ_=>AU (Aa (AA x)) λk0=>AU (Aa (AA x)) λk1=>gd (BZ k1 1048576) λ_=>bd (loop (λs2=>br (Am s2.1 (Aa (AA x))) (λ_=>bd (GB (x,s2.1)) λr3=>AU s2.1 λk4=>gd (Dz k4 (AA s2.2.2.1)) λ_=>ix s2.2.2.1 k4 λx5=>some (.nx ((AH .i64 s2.1 1,(s2.2.1,(lset s2.2.2.1 k4 r3.2,s2.2.2.2)))))) λ_=>some (.dn ((0,(s2,()))))) ((1,(x,(Dj k1 0,(0:Int)))))) λr6=>bd (GB (x,1)) λr7=>some ((r6.2.1.2.1,(r6.2.1.2.2.1,r7.1)))
def EN (x:(List AO)):Option (D9×Int) :=
 bd (FI x) λr0=>br (BC r0 0) (λ_=>some ((([],([],0)),r0))) λ_=>bd (GC x) λr1=>some (r1,0)
def C2 (x:((List (List AD))×(List Int))):Option AP :=
 gd (BZ (AA x.1) 1048576) λ_=>gd (BZ (AA x.2) 1048576) λ_=>bd (loop (λs0=>br (Am s0.1 (Aa (AA x.1))) (λ_=>AU s0.1 λk1=>ix x.2 k1 λx2=>AU s0.1 λk3=>ix x.1 k3 λx4=>br (AX (Ba x2 (Aa (AA x4)))) (λ_=>AU s0.1 λk5=>ix x.1 k5 λx6=>AU s0.1 λk7=>ix x.2 k7 λx8=>AU x8 λk9=>ix x6 k9 λx10=>gd (BZ (A2 (AA s0.2) (AA ([(x10.1,Ba x2 (Aa (AA x4)))]))) 1048576) λ_=>some (.nx ((AH .i64 s0.1 1,CG s0.2 ([(x10.1,Ba x2 (Aa (AA x4)))]))))) λ_=>gd (BZ (A2 (AA s0.2) (AA ([(([]:List UInt8),Ba x2 (Aa (AA x4)))]))) 1048576) λ_=>some (.nx ((AH .i64 s0.1 1,CG s0.2 ([([],Ba x2 (Aa (AA x4)))]))))) λ_=>some (.dn ((0,(s0,()))))) (0,[])) λr11=>bd (EN r11.2.1.2) λr12=>some ((x.1,(x.2,r12.1)))
def Gm (x:(List (List AD))):Option (AP×(Int×Int)) :=
 bd (Dd x) λr0=>br (BC r0.2 0) (λ_=>some ((([],([],([],([],0)))),r0))) λ_=>AU (Aa (AA x)) λk1=>AU (Aa (AA x)) λk2=>gd (BZ k2 1048576) λ_=>bd (C2 (x,Dj k2 0)) λr3=>some ((r3,(0,0)))
def C3 (x:Bool):Option (Bool×AO) :=
 some ((false,([],x)))
def FJ (x:((List (List AD))×Bool)):Option ((AP×((Bool×AO)×((List AD)×Int)))×(Int×Int)) :=
 bd (Gm x.1) λr0=>br (BC r0.2.2 0) (λ_=>some (((([],([],([],([],0)))),((false,([],false)),([],0))),r0.2))) λ_=>bd (C3 x.2) λr1=>some (((r0.1,(r1,([],0))),(0,0)))
def A0 (x:(AK×(Int×Bool))):Option (Int×(AP×((Bool×AO)×((List AD)×Int)))) :=
 br (Hj x.2.1 (Aa (AA x.1.2))) (λ_=>none) λ_=>AU x.2.1 λk0=>ix x.1.2 k0 λx1=>ix x1 1 λx2=>ix x1 0 λx3=>bd (FJ ([x2.2,x3.2],x.2.2)) λr4=>some (x.2.1,r4.1)
def GD (x:((List Int)×(List Int))):Option Bool :=
 br (BC (Aa (AA x.1)) (Aa (AA x.2))) (λ_=>some false) λ_=>bd (loop (λs0=>br (Am s0.1 (Aa (AA x.1))) (λ_=>AU s0.1 λk1=>ix x.1 k1 λx2=>AU s0.1 λk3=>ix x.2 k3 λx4=>br (BC x2 x4) (λ_=>some (.dn ((0,((s0.1,false),()))))) λ_=>some (.nx (AH .i64 s0.1 1,s0.2))) λ_=>some (.dn ((1,(s0,()))))) (0,false)) λr5=>br (neq r5.1 0) (λ_=>some r5.2.1.2) λ_=>some true
def E3 (x:(D9×D9)):Option Bool :=
 br (BC (Aa (AA x.1.1)) (Aa (AA x.2.1))) (λ_=>some false) λ_=>br (BC x.1.2.2 x.2.2.2) (λ_=>some false) λ_=>bd (GD (x.1.2.1,x.2.2.1)) λr0=>br (AX r0) (λ_=>some false) λ_=>bd (loop (λs1=>br (Am s1.1 (Aa (AA x.1.1))) (λ_=>AU s1.1 λk2=>ix x.1.1 k2 λx3=>AU s1.1 λk4=>ix x.2.1 k4 λx5=>br (AX (Bm (seq x3.1 x5.1) (Bm (beq x3.2 x5.2) true))) (λ_=>some (.dn ((0,((s1.1,false),()))))) λ_=>some (.nx (AH .i64 s1.1 1,s1.2))) λ_=>some (.dn ((1,(s1,()))))) (0,false)) λr6=>br (neq r6.1 0) (λ_=>some r6.2.1.2) λ_=>some true
def De (x:((List (List AD))×(List Int))):Option Int :=
 bd (loop (λs0=>br (Am s0.2 (Aa (AA x.1))) (λ_=>AU s0.2 λk1=>ix x.2 k1 λx2=>AU s0.2 λk3=>ix x.1 k3 λx4=>br (Am x2 (Aa (AA x4))) (λ_=>br (Am s0.1 0) (λ_=>some (.nx (s0.2,AH .i64 s0.2 1))) λ_=>AU s0.2 λk5=>ix x.1 k5 λx6=>AU s0.2 λk7=>ix x.2 k7 λx8=>AU x8 λk9=>ix x6 k9 λx10=>AU s0.1 λk11=>ix x.1 k11 λx12=>AU s0.1 λk13=>ix x.2 k13 λx14=>AU x14 λk15=>ix x12 k15 λx16=>br (CT x10.1 x16.1) (λ_=>some (.nx (s0.2,AH .i64 s0.2 1))) λ_=>some (.nx (s0.1,AH .i64 s0.2 1))) λ_=>some (.nx (s0.1,AH .i64 s0.2 1))) λ_=>some (.dn ((0,(s0,()))))) (((-1),0))) λr17=>some r17.2.1.1
def Df (x:AP):Option (Int×Int) :=
 bd (Dd x.1) λr0=>br (BC r0.2 0) (λ_=>some r0) λ_=>br (BC (Aa (AA x.2.1)) (Aa (AA x.1))) (λ_=>some (((-1),6))) λ_=>bd (loop (λs1=>br (Am s1.2.2 (Aa (AA x.2.1))) (λ_=>AU s1.2.2 λk2=>ix x.2.1 k2 λx3=>br (Am x3 0) (λ_=>some (.dn ((0,((6,(s1.2.2,s1.2.2)),()))))) λ_=>AU s1.2.2 λk4=>ix x.2.1 k4 λx5=>AU s1.2.2 λk6=>ix x.1 k6 λx7=>br (CF x5 (Aa (AA x7))) (λ_=>some (.dn ((0,((6,(s1.2.2,s1.2.2)),()))))) λ_=>some (.nx ((s1.1,(s1.2.1,AH .i64 s1.2.2 1))))) λ_=>some (.dn ((1,(s1,()))))) ((0,(0,0)))) λr8=>br (neq r8.1 0) (λ_=>some (r8.2.1.2.1,r8.2.1.1)) λ_=>bd (C2 (x.1,x.2.1)) λr9=>bd (E3 (x.2.2,r9.2.2)) λr10=>br (AX r10) (λ_=>some (((-1),6))) λ_=>bd (De (x.1,x.2.1)) λr11=>bd (loop (λs12=>br (Am s12.2.2 (Aa (AA x.1))) (λ_=>br (Hj r11 0) (λ_=>AU s12.2.2 λk13=>ix x.2.1 k13 λx14=>br (Ba x14 0) (λ_=>some (.nx ((s12.1,(s12.2.1,AH .i64 s12.2.2 1))))) λ_=>AU s12.2.2 λk15=>ix x.1 k15 λx16=>AU s12.2.2 λk17=>ix x.2.1 k17 λx18=>AU (B9 .i64 x18 1) λk19=>ix x16 k19 λx20=>AU r11 λk21=>ix x.1 k21 λx22=>AU r11 λk23=>ix x.2.1 k23 λx24=>AU x24 λk25=>ix x22 k25 λx26=>br (CT x26.1 x20.1) (λ_=>some (.dn ((0,((6,(r11,s12.2.2)),()))))) λ_=>br (seq x20.1 x26.1) (λ_=>br (CF s12.2.2 r11) (λ_=>some (.dn ((0,((6,(r11,s12.2.2)),()))))) λ_=>some (.nx ((s12.1,(s12.2.1,AH .i64 s12.2.2 1))))) λ_=>some (.nx ((s12.1,(s12.2.1,AH .i64 s12.2.2 1))))) λ_=>some (.dn ((1,(s12,()))))) λ_=>some (.dn ((1,(s12,()))))) ((r8.2.1.1,(r8.2.1.2.1,0)))) λr27=>br (neq r27.1 0) (λ_=>some (r27.2.1.2.1,r27.2.1.1)) λ_=>some (0,0)
def EA (x:(AP×((Bool×AO)×((List AD)×Int)))):Option Int :=
 bd (loop (λs0=>br (Am s0.2 (Aa (AA x.1.2.1))) (λ_=>AU s0.2 λk1=>ix x.1.2.1 k1 λx2=>some (.nx (AH .i64 s0.1 x2,AH .i64 s0.2 1))) λ_=>some (.dn ((0,(s0,()))))) (0,0)) λr3=>some r3.2.1.1
def Ei (x:(List (List AD))):Option ((List AD)×((List Int)×Int)) :=
 bd (Dd x) λr0=>br (BC r0.2 0) (λ_=>some (([],([],r0.2)))) λ_=>AU (Aa (AA x)) λk1=>AU (Aa (AA x)) λk2=>gd (BZ k2 1048576) λ_=>bd (loop (λ(s3:((List Int)×((List AD)×((List AD)×(Int×((List Int)×(List Int)))))))=>bd (De (x,s3.2.2.2.2.2)) λr4=>br (Am r4 0) (λ_=>some (.dn ((0,((s3.2.2.2.2.1,(s3.2.1,0)),()))))) λ_=>AU r4 λk5=>ix x k5 λx6=>AU r4 λk7=>gd (Dz k7 (AA s3.2.2.2.2.2)) λ_=>ix s3.2.2.2.2.2 k7 λx8=>AU x8 λk9=>ix x6 k9 λx10=>gd (BZ (A2 (AA s3.2.1) (AA [x10])) 1048576) λ_=>gd (BZ (A2 (AA s3.2.2.2.2.1) (AA [r4])) 1048576) λ_=>AU r4 λk11=>gd (Dz k11 (AA s3.2.2.2.2.2)) λ_=>ix s3.2.2.2.2.2 k11 λx12=>AU r4 λk13=>gd (Dz k13 (AA s3.2.2.2.2.2)) λ_=>ix s3.2.2.2.2.2 k13 λx14=>some (.nx ((s3.1,(CG s3.2.1 [x10],(s3.2.2.1,(s3.2.2.2.1,(CG s3.2.2.2.2.1 [r4],lset s3.2.2.2.2.2 k13 (AH .i64 x12 1))))))))) (([],([],([],(0,([],Dj k2 0))))))) λr15=>some ((r15.2.1.2.1,(r15.2.1.1,r15.2.1.2.2)))
def FK (x:(Bool×AO)):Option Int :=
 br (CF (Aa (E8 x.2.1)) 32) (λ_=>some 3) λ_=>br (AX x.1) (λ_=>br (AX (seq x.2.1 [])) (λ_=>some 6) λ_=>some 0) λ_=>some 0
def GE (x:((Bool×AO)×AD)):Option (Bool×((Bool×AO)×Int)) :=
 bd (FK x.1) λr0=>br (Ba r0 0) (λ_=>bd (Dc x.2) λr1=>br (Ba r1 0) (λ_=>br x.1.1 (λ_=>br (CT x.2.1 x.1.2.1) (λ_=>some ((false,((false,([],false)),6)))) λ_=>br (BC r1 0) (λ_=>some ((false,((false,([],false)),r1)))) λ_=>br (AX x.1.1) (λ_=>br x.1.2.2 (λ_=>some ((AX x.2.2.2.1,((true,(x.2.1,x.1.2.2)),0)))) λ_=>some ((true,((true,(x.2.1,x.1.2.2)),0)))) λ_=>br (AX (seq x.2.1 x.1.2.1)) (λ_=>br x.1.2.2 (λ_=>some ((AX x.2.2.2.1,((true,(x.2.1,x.1.2.2)),0)))) λ_=>some ((true,((true,(x.2.1,x.1.2.2)),0)))) λ_=>some ((false,((true,(x.2.1,x.1.2.2)),0)))) λ_=>br (BC r1 0) (λ_=>some ((false,((false,([],false)),r1)))) λ_=>br (AX x.1.1) (λ_=>br x.1.2.2 (λ_=>some ((AX x.2.2.2.1,((true,(x.2.1,x.1.2.2)),0)))) λ_=>some ((true,((true,(x.2.1,x.1.2.2)),0)))) λ_=>br (AX (seq x.2.1 x.1.2.1)) (λ_=>br x.1.2.2 (λ_=>some ((AX x.2.2.2.1,((true,(x.2.1,x.1.2.2)),0)))) λ_=>some ((true,((true,(x.2.1,x.1.2.2)),0)))) λ_=>some ((false,((true,(x.2.1,x.1.2.2)),0)))) λ_=>br (BC r1 0) (λ_=>some ((false,((false,([],false)),r1)))) λ_=>br (AX x.1.1) (λ_=>br x.1.2.2 (λ_=>some ((AX x.2.2.2.1,((true,(x.2.1,x.1.2.2)),0)))) λ_=>some ((true,((true,(x.2.1,x.1.2.2)),0)))) λ_=>br (AX (seq x.2.1 x.1.2.1)) (λ_=>br x.1.2.2 (λ_=>some ((AX x.2.2.2.1,((true,(x.2.1,x.1.2.2)),0)))) λ_=>some ((true,((true,(x.2.1,x.1.2.2)),0)))) λ_=>some ((false,((true,(x.2.1,x.1.2.2)),0)))) λ_=>br (Ba r0 0) (λ_=>br x.1.1 (λ_=>br (CT x.2.1 x.1.2.1) (λ_=>some ((false,((false,([],false)),6)))) λ_=>br (BC r0 0) (λ_=>some ((false,((false,([],false)),r0)))) λ_=>br (AX x.1.1) (λ_=>br x.1.2.2 (λ_=>some ((AX x.2.2.2.1,((true,(x.2.1,x.1.2.2)),0)))) λ_=>some ((true,((true,(x.2.1,x.1.2.2)),0)))) λ_=>br (AX (seq x.2.1 x.1.2.1)) (λ_=>br x.1.2.2 (λ_=>some ((AX x.2.2.2.1,((true,(x.2.1,x.1.2.2)),0)))) λ_=>some ((true,((true,(x.2.1,x.1.2.2)),0)))) λ_=>some ((false,((true,(x.2.1,x.1.2.2)),0)))) λ_=>br (BC r0 0) (λ_=>some ((false,((false,([],false)),r0)))) λ_=>br (AX x.1.1) (λ_=>br x.1.2.2 (λ_=>some ((AX x.2.2.2.1,((true,(x.2.1,x.1.2.2)),0)))) λ_=>some ((true,((true,(x.2.1,x.1.2.2)),0)))) λ_=>br (AX (seq x.2.1 x.1.2.1)) (λ_=>br x.1.2.2 (λ_=>some ((AX x.2.2.2.1,((true,(x.2.1,x.1.2.2)),0)))) λ_=>some ((true,((true,(x.2.1,x.1.2.2)),0)))) λ_=>some ((false,((true,(x.2.1,x.1.2.2)),0)))) λ_=>br (BC r0 0) (λ_=>some ((false,((false,([],false)),r0)))) λ_=>br (AX x.1.1) (λ_=>br x.1.2.2 (λ_=>some ((AX x.2.2.2.1,((true,(x.2.1,x.1.2.2)),0)))) λ_=>some ((true,((true,(x.2.1,x.1.2.2)),0)))) λ_=>br (AX (seq x.2.1 x.1.2.1)) (λ_=>br x.1.2.2 (λ_=>some ((AX x.2.2.2.1,((true,(x.2.1,x.1.2.2)),0)))) λ_=>some ((true,((true,(x.2.1,x.1.2.2)),0)))) λ_=>some ((false,((true,(x.2.1,x.1.2.2)),0)))
def Ej (x:((List AD)×Bool)):Option ((List AD)×(Int×Int)) :=
 br (CF (Aa (AA x.1)) 20000) (λ_=>some (([],((-1),3)))) λ_=>bd (C3 x.2) λr0=>bd (loop (λ(s1:(Int×(Int×((List AD)×((List AD)×(Int×(Bool×AO)))))))=>br (Am s1.2.1 (Aa (AA x.1))) (λ_=>AU s1.2.1 λk2=>ix x.1 k2 λx3=>bd (GE (s1.2.2.2.2.2,x3)) λr4=>br (BC r4.2.2 0) (λ_=>some (.dn ((0,((s1.2.1,(s1.2.1,([],(s1.2.2.2.1,(r4.2.2,s1.2.2.2.2.2))))),()))))) λ_=>br r4.1 (λ_=>AU s1.2.1 λk5=>ix x.1 k5 λx6=>gd (BZ (A2 (AA s1.2.2.2.1) (AA [x6])) 1048576) λ_=>some (.nx ((s1.1,(AH .i64 s1.2.1 1,(s1.2.2.1,(CG s1.2.2.2.1 [x6],(s1.2.2.2.2.1,r4.2.1)))))))) λ_=>some (.nx ((s1.1,(AH .i64 s1.2.1 1,(s1.2.2.1,(s1.2.2.2.1,(s1.2.2.2.2.1,r4.2.1)))))))) λ_=>some (.dn ((1,(s1,()))))) ((0,(0,([],([],(0,r0))))))) λr7=>br (neq r7.1 0) (λ_=>some ((r7.2.1.2.2.1,(r7.2.1.1,r7.2.1.2.2.2.2.1)))) λ_=>some ((r7.2.1.2.2.2.1,(0,0)))
def DC (x:((List AD)×Bool)):Option ((List AD)×(Bool×AO)) :=
 bd (Ej x) λr0=>bd (C3 x.2) λr1=>br (CF (Aa (AA x.1)) 0) (λ_=>AU (B9 .i64 (Aa (AA x.1)) 1) λk2=>ix x.1 k2 λx3=>some ((r0.1,(true,(x3.1,r1.2.2))))) λ_=>some (r0.1,r1)
def Bw (x:((List AD)×(List AD))):Option Bool :=
 br (BC (Aa (AA x.1)) (Aa (AA x.2))) (λ_=>some false) λ_=>bd (loop (λs0=>br (Am s0.1 (Aa (AA x.1))) (λ_=>AU s0.1 λk1=>ix x.1 k1 λx2=>AU s0.1 λk3=>ix x.2 k3 λx4=>br (AX (Bm (seq x2.1 x4.1) (Bm (seq x2.2.1 x4.2.1) (Bm (beq x2.2.2.1 x4.2.2.1) (Bm (Ba x2.2.2.2 x4.2.2.2) true))))) (λ_=>some (.dn ((0,((s0.1,false),()))))) λ_=>some (.nx (AH .i64 s0.1 1,s0.2))) λ_=>some (.dn ((1,(s0,()))))) (0,false)) λr5=>br (neq r5.1 0) (λ_=>some r5.2.1.2) λ_=>some true
def FL (x:(AP×((Bool×AO)×((List AD)×Int)))):Option Int :=
 bd (Df x.1) λr0=>br (BC r0.2 0) (λ_=>some r0.2) λ_=>bd (EA x) λr1=>br (CF (Aa (AA x.2.2.1)) 20000) (λ_=>some 3) λ_=>br (CF r1 20000) (λ_=>some 3) λ_=>br (BC x.2.2.2 r1) (λ_=>some 7) λ_=>bd (Ei x.1.1) λr2=>AU r1 λk3=>gd (BZ k3 (AA r2.1)) λ_=>gd (BZ 0 k3) λ_=>bd (DC (Cs r2.1 0 k3,x.2.1.2.2)) λr4=>bd (Bw (x.2.2.1,r4.1)) λr5=>br (AX r5) (λ_=>some 6) λ_=>br (AX (Bm (beq x.2.1.1 r4.2.1) (Bm (seq x.2.1.2.1 r4.2.2.1) (Bm (beq x.2.1.2.2 r4.2.2.2) true)))) (λ_=>some 6) λ_=>some 0
def GF (x:AP):Option (Int×Int) :=
 bd (Df x) λr0=>br (BC r0.2 0) (λ_=>some (0,r0.2)) λ_=>bd (loop (λs1=>br (Am s1.1 (Aa (AA x.1))) (λ_=>AU s1.1 λk2=>ix x.1 k2 λx3=>AU s1.1 λk4=>ix x.2.1 k4 λx5=>some (.nx ((AH .i64 s1.1 1,B9 .i64 (AH .i64 s1.2 (Aa (AA x3))) x5)))) λ_=>some (.dn ((0,(s1,()))))) (0,0)) λr6=>some (r6.2.1.2,0)
def A7 (x:(AP×((Bool×AO)×((List AD)×Int)))):Option (Int×Int) :=
 bd (FL x) λr0=>br (BC r0 0) (λ_=>some (0,r0)) λ_=>bd (GF x.1) λr1=>some r1
def EB (x:AP):Option (AD×(Int×(AP×Int))) :=
 bd (Df x) λr0=>br (BC r0.2 0) (λ_=>some (((([],([],(false,0))):AD),(0,(([],([],([],([],0)))),r0.2))))) λ_=>bd (De (x.1,x.2.1)) λr1=>br (Am r1 0) (λ_=>some (((([],([],(false,0))):AD),(0,(([],([],([],([],0)))),12))))) λ_=>gd (BZ (AA x.2.1) 1048576) λ_=>AU r1 λk2=>gd (Dz k2 (AA x.2.1)) λ_=>ix x.2.1 k2 λx3=>AU r1 λk4=>gd (Dz k4 (AA x.2.1)) λ_=>ix x.2.1 k4 λx5=>AU r1 λk6=>ix x.1 k6 λx7=>AU r1 λk8=>ix x.2.1 k8 λx9=>AU x9 λk10=>ix x7 k10 λx11=>bd (C2 ((x.1,lset x.2.1 k4 (AH .i64 x3 1)))) λr12=>some ((x11,(r1,(r12,0))))
def BJ (x:((AP×((Bool×AO)×((List AD)×Int)))×Int)):Option ((AP×((Bool×AO)×((List AD)×Int)))×(Int×Int)) :=
 bd (A7 x.1) λr0=>br (Ba r0.2 0) (λ_=>br (Am x.2 0) (λ_=>some (((([],([],([],([],0)))),((false,([],false)),([],0))),(0,7)))) λ_=>br (BC r0.2 0) (λ_=>some (((([],([],([],([],0)))),((false,([],false)),([],0))),(0,r0.2)))) λ_=>bd (EA x.1) λr1=>br (CF (AH .i64 r1 (Nf x.2 r0.1)) 20000) (λ_=>some (((([],([],([],([],0)))),((false,([],false)),([],0))),(0,3)))) λ_=>bd (loop (λ(s2:(Int×((List (List AD))×((List Int)×((List AO)×((List Int)×(Int×(Bool×((List UInt8)×(Bool×((List AD)×Int)))))))))))=>br (Am s2.1 (Nf x.2 r0.1)) (λ_=>bd (EB ((s2.2.1,(s2.2.2.1,(s2.2.2.2.1,(s2.2.2.2.2.1,s2.2.2.2.2.2.1)))))) λr3=>some (.nx ((AH .i64 s2.1 1,(r3.2.2.1.1,(r3.2.2.1.2.1,(r3.2.2.1.2.2.1,(r3.2.2.1.2.2.2.1,(r3.2.2.1.2.2.2.2,s2.2.2.2.2.2.2))))))))) λ_=>some (.dn ((0,(s2,()))))) ((0,(x.1.1.1,(x.1.1.2.1,(x.1.1.2.2.1,(x.1.1.2.2.2.1,(x.1.1.2.2.2.2,(x.1.2.1.1,(x.1.2.1.2.1,(x.1.2.1.2.2,x.1.2.2))))))))))) λr4=>bd (Ei x.1.1.1) λr5=>AU (AH .i64 x.1.2.2.2 (Nf x.2 r0.1)) λk6=>gd (BZ k6 (AA r5.1)) λ_=>gd (BZ 0 k6) λ_=>bd (DC (Cs r5.1 0 k6,x.1.2.1.2.2)) λr7=>some ((((r4.2.1.2.1,(r4.2.1.2.2.1,(r4.2.1.2.2.2.1,(r4.2.1.2.2.2.2.1,r4.2.1.2.2.2.2.2.1)))),(r7.2,(r7.1,AH .i64 x.1.2.2.2 (Nf x.2 r0.1)))),(Nf x.2 r0.1,0)))) λ_=>br (BC r0.2 0) (λ_=>some (((([],([],([],([],0)))),((false,([],false)),([],0))),(0,r0.2)))) λ_=>bd (EA x.1) λr8=>br (CF (AH .i64 r8 (Nf x.2 r0.1)) 20000) (λ_=>some (((([],([],([],([],0)))),((false,([],false)),([],0))),(0,3)))) λ_=>bd (loop (λ(s9:(Int×((List (List AD))×((List Int)×((List AO)×((List Int)×(Int×(Bool×((List UInt8)×(Bool×((List AD)×Int)))))))))))=>br (Am s9.1 (Nf x.2 r0.1)) (λ_=>bd (EB ((s9.2.1,(s9.2.2.1,(s9.2.2.2.1,(s9.2.2.2.2.1,s9.2.2.2.2.2.1)))))) λr10=>some (.nx ((AH .i64 s9.1 1,(r10.2.2.1.1,(r10.2.2.1.2.1,(r10.2.2.1.2.2.1,(r10.2.2.1.2.2.2.1,(r10.2.2.1.2.2.2.2,s9.2.2.2.2.2.2))))))))) λ_=>some (.dn ((0,(s9,()))))) ((0,(x.1.1.1,(x.1.1.2.1,(x.1.1.2.2.1,(x.1.1.2.2.2.1,(x.1.1.2.2.2.2,(x.1.2.1.1,(x.1.2.1.2.1,(x.1.2.1.2.2,x.1.2.2))))))))))) λr11=>bd (Ei x.1.1.1) λr12=>AU (AH .i64 x.1.2.2.2 (Nf x.2 r0.1)) λk13=>gd (BZ k13 (AA r12.1)) λ_=>gd (BZ 0 k13) λ_=>bd (DC (Cs r12.1 0 k13,x.1.2.1.2.2)) λr14=>some ((((r11.2.1.2.1,(r11.2.1.2.2.1,(r11.2.1.2.2.2.1,(r11.2.1.2.2.2.2.1,r11.2.1.2.2.2.2.2.1)))),(r14.2,(r14.1,AH .i64 x.1.2.2.2 (Nf x.2 r0.1)))),(Nf x.2 r0.1,0)))
def GG (x:(AP×AP)):Option Bool :=
 br (BC (Aa (AA x.1.1)) (Aa (AA x.2.1))) (λ_=>some false) λ_=>bd (GD (x.1.2.1,x.2.2.1)) λr0=>br (AX r0) (λ_=>some false) λ_=>bd (E3 (x.1.2.2,x.2.2.2)) λr1=>br (AX r1) (λ_=>some false) λ_=>bd (loop (λs2=>br (Am s2.1 (Aa (AA x.1.1))) (λ_=>AU s2.1 λk3=>ix x.1.1 k3 λx4=>AU s2.1 λk5=>ix x.2.1 k5 λx6=>bd (Bw (x4,x6)) λr7=>br (AX r7) (λ_=>some (.dn ((0,((s2.1,false),()))))) λ_=>some (.nx (AH .i64 s2.1 1,s2.2))) λ_=>some (.dn ((1,(s2,()))))) (0,false)) λr8=>br (neq r8.1 0) (λ_=>some r8.2.1.2) λ_=>some true
def BK (x:((AP×((Bool×AO)×((List AD)×Int)))×(AP×((Bool×AO)×((List AD)×Int))))):Option Bool :=
 bd (GG (x.1.1,x.2.1)) λr0=>br r0 (λ_=>br (Bm (beq x.1.2.1.1 x.2.2.1.1) (Bm (seq x.1.2.1.2.1 x.2.2.1.2.1) (Bm (beq x.1.2.1.2.2 x.2.2.1.2.2) true))) (λ_=>bd (Bw (x.1.2.2.1,x.2.2.2.1)) λr1=>br r1 (λ_=>some (Ba x.1.2.2.2 x.2.2.2.2)) λ_=>some false) λ_=>some false) λ_=>some false
def CX (x:(AK×((List (Int×(AP×((Bool×AO)×((List AD)×Int)))))×Int))):Option (Int×Int) :=
 bd (CB x.1) λr0=>br (Ba r0.2.2 0) (λ_=>br (Am x.2.2 1) (λ_=>some (((-1),7))) λ_=>br (CF x.2.2 1000001) (λ_=>some (((-1),7))) λ_=>br (Ba r0.2.2 0) (λ_=>bd (CP x.1) λr1=>br (Vz x.2.2 r1) (λ_=>some (((-1),6))) λ_=>br (BC r0.2.2 0) (λ_=>some (((-1),r0.2.2))) λ_=>bd (DU x.1) λr2=>bd (loop (λs3=>br (Am s3.2.2 (Aa (AA x.2.1))) (λ_=>AU s3.2.2 λk4=>ix x.2.1 k4 λx5=>br (Hj s3.2.2 (Aa (AA r2))) (λ_=>some (.dn ((0,((6,(s3.2.2,s3.2.2)),()))))) λ_=>AU s3.2.2 λk6=>ix r2 k6 λx7=>br (BC x5.1 x7) (λ_=>some (.dn ((0,((6,(s3.2.2,s3.2.2)),()))))) λ_=>br x5.2.2.1.2.2 (λ_=>bd (Bp (x.1,x5.1)) λr8=>br (AX r8) (λ_=>some (.dn ((0,((6,(s3.2.2,s3.2.2)),()))))) λ_=>bd (A0 ((x.1,(x5.1,x5.2.2.1.2.2)))) λr9=>bd (A7 r9.2) λr10=>br (Am x5.2.2.2.2 0) (λ_=>some (.dn ((0,((6,(s3.2.2,s3.2.2)),()))))) λ_=>br (CF x5.2.2.2.2 r10.1) (λ_=>some (.dn ((0,((6,(s3.2.2,s3.2.2)),()))))) λ_=>bd (BJ (r9.2,x5.2.2.2.2)) λr11=>bd (BK (r11.1,x5.2)) λr12=>br (AX r12) (λ_=>some (.dn ((0,((6,(s3.2.2,s3.2.2)),()))))) λ_=>some (.nx ((s3.1,(s3.2.1,AH .i64 s3.2.2 1))))) λ_=>bd (A0 ((x.1,(x5.1,x5.2.2.1.2.2)))) λr13=>bd (A7 r13.2) λr14=>br (Am x5.2.2.2.2 0) (λ_=>some (.dn ((0,((6,(s3.2.2,s3.2.2)),()))))) λ_=>br (CF x5.2.2.2.2 r14.1) (λ_=>some (.dn ((0,((6,(s3.2.2,s3.2.2)),()))))) λ_=>bd (BJ (r13.2,x5.2.2.2.2)) λr15=>bd (BK (r15.1,x5.2)) λr16=>br (AX r16) (λ_=>some (.dn ((0,((6,(s3.2.2,s3.2.2)),()))))) λ_=>some (.nx ((s3.1,(s3.2.1,AH .i64 s3.2.2 1))))) λ_=>some (.dn ((1,(s3,()))))) ((0,(0,0)))) λr17=>br (neq r17.1 0) (λ_=>some (r17.2.1.2.1,r17.2.1.1)) λ_=>br (Am (Aa (AA x.2.1)) (Aa (AA r2))) (λ_=>some (((-1),4))) λ_=>some (0,0)) λ_=>br (BC r0.2.2 0) (λ_=>some (((-1),r0.2.2))) λ_=>bd (DU x.1) λr18=>bd (loop (λs19=>br (Am s19.2.2 (Aa (AA x.2.1))) (λ_=>AU s19.2.2 λk20=>ix x.2.1 k20 λx21=>br (Hj s19.2.2 (Aa (AA r18))) (λ_=>some (.dn ((0,((6,(s19.2.2,s19.2.2)),()))))) λ_=>AU s19.2.2 λk22=>ix r18 k22 λx23=>br (BC x21.1 x23) (λ_=>some (.dn ((0,((6,(s19.2.2,s19.2.2)),()))))) λ_=>br x21.2.2.1.2.2 (λ_=>bd (Bp (x.1,x21.1)) λr24=>br (AX r24) (λ_=>some (.dn ((0,((6,(s19.2.2,s19.2.2)),()))))) λ_=>bd (A0 ((x.1,(x21.1,x21.2.2.1.2.2)))) λr25=>bd (A7 r25.2) λr26=>br (Am x21.2.2.2.2 0) (λ_=>some (.dn ((0,((6,(s19.2.2,s19.2.2)),()))))) λ_=>br (CF x21.2.2.2.2 r26.1) (λ_=>some (.dn ((0,((6,(s19.2.2,s19.2.2)),()))))) λ_=>bd (BJ (r25.2,x21.2.2.2.2)) λr27=>bd (BK (r27.1,x21.2)) λr28=>br (AX r28) (λ_=>some (.dn ((0,((6,(s19.2.2,s19.2.2)),()))))) λ_=>some (.nx ((s19.1,(s19.2.1,AH .i64 s19.2.2 1))))) λ_=>bd (A0 ((x.1,(x21.1,x21.2.2.1.2.2)))) λr29=>bd (A7 r29.2) λr30=>br (Am x21.2.2.2.2 0) (λ_=>some (.dn ((0,((6,(s19.2.2,s19.2.2)),()))))) λ_=>br (CF x21.2.2.2.2 r30.1) (λ_=>some (.dn ((0,((6,(s19.2.2,s19.2.2)),()))))) λ_=>bd (BJ (r29.2,x21.2.2.2.2)) λr31=>bd (BK (r31.1,x21.2)) λr32=>br (AX r32) (λ_=>some (.dn ((0,((6,(s19.2.2,s19.2.2)),()))))) λ_=>some (.nx ((s19.1,(s19.2.1,AH .i64 s19.2.2 1))))) λ_=>some (.dn ((1,(s19,()))))) ((0,(0,0)))) λr33=>br (neq r33.1 0) (λ_=>some (r33.2.1.2.1,r33.2.1.1)) λ_=>br (Am (Aa (AA x.2.1)) (Aa (AA r18))) (λ_=>some (((-1),4))) λ_=>some (0,0)) λ_=>br (Ba r0.2.2 0) (λ_=>bd (CP x.1) λr34=>br (Vz x.2.2 r34) (λ_=>some (((-1),6))) λ_=>br (BC r0.2.2 0) (λ_=>some (((-1),r0.2.2))) λ_=>bd (DU x.1) λr35=>bd (loop (λs36=>br (Am s36.2.2 (Aa (AA x.2.1))) (λ_=>AU s36.2.2 λk37=>ix x.2.1 k37 λx38=>br (Hj s36.2.2 (Aa (AA r35))) (λ_=>some (.dn ((0,((6,(s36.2.2,s36.2.2)),()))))) λ_=>AU s36.2.2 λk39=>ix r35 k39 λx40=>br (BC x38.1 x40) (λ_=>some (.dn ((0,((6,(s36.2.2,s36.2.2)),()))))) λ_=>br x38.2.2.1.2.2 (λ_=>bd (Bp (x.1,x38.1)) λr41=>br (AX r41) (λ_=>some (.dn ((0,((6,(s36.2.2,s36.2.2)),()))))) λ_=>bd (A0 ((x.1,(x38.1,x38.2.2.1.2.2)))) λr42=>bd (A7 r42.2) λr43=>br (Am x38.2.2.2.2 0) (λ_=>some (.dn ((0,((6,(s36.2.2,s36.2.2)),()))))) λ_=>br (CF x38.2.2.2.2 r43.1) (λ_=>some (.dn ((0,((6,(s36.2.2,s36.2.2)),()))))) λ_=>bd (BJ (r42.2,x38.2.2.2.2)) λr44=>bd (BK (r44.1,x38.2)) λr45=>br (AX r45) (λ_=>some (.dn ((0,((6,(s36.2.2,s36.2.2)),()))))) λ_=>some (.nx ((s36.1,(s36.2.1,AH .i64 s36.2.2 1))))) λ_=>bd (A0 ((x.1,(x38.1,x38.2.2.1.2.2)))) λr46=>bd (A7 r46.2) λr47=>br (Am x38.2.2.2.2 0) (λ_=>some (.dn ((0,((6,(s36.2.2,s36.2.2)),()))))) λ_=>br (CF x38.2.2.2.2 r47.1) (λ_=>some (.dn ((0,((6,(s36.2.2,s36.2.2)),()))))) λ_=>bd (BJ (r46.2,x38.2.2.2.2)) λr48=>bd (BK (r48.1,x38.2)) λr49=>br (AX r49) (λ_=>some (.dn ((0,((6,(s36.2.2,s36.2.2)),()))))) λ_=>some (.nx ((s36.1,(s36.2.1,AH .i64 s36.2.2 1))))) λ_=>some (.dn ((1,(s36,()))))) ((0,(0,0)))) λr50=>br (neq r50.1 0) (λ_=>some (r50.2.1.2.1,r50.2.1.1)) λ_=>br (Am (Aa (AA x.2.1)) (Aa (AA r35))) (λ_=>some (((-1),4))) λ_=>some (0,0)) λ_=>br (BC r0.2.2 0) (λ_=>some (((-1),r0.2.2))) λ_=>bd (DU x.1) λr51=>bd (loop (λs52=>br (Am s52.2.2 (Aa (AA x.2.1))) (λ_=>AU s52.2.2 λk53=>ix x.2.1 k53 λx54=>br (Hj s52.2.2 (Aa (AA r51))) (λ_=>some (.dn ((0,((6,(s52.2.2,s52.2.2)),()))))) λ_=>AU s52.2.2 λk55=>ix r51 k55 λx56=>br (BC x54.1 x56) (λ_=>some (.dn ((0,((6,(s52.2.2,s52.2.2)),()))))) λ_=>br x54.2.2.1.2.2 (λ_=>bd (Bp (x.1,x54.1)) λr57=>br (AX r57) (λ_=>some (.dn ((0,((6,(s52.2.2,s52.2.2)),()))))) λ_=>bd (A0 ((x.1,(x54.1,x54.2.2.1.2.2)))) λr58=>bd (A7 r58.2) λr59=>br (Am x54.2.2.2.2 0) (λ_=>some (.dn ((0,((6,(s52.2.2,s52.2.2)),()))))) λ_=>br (CF x54.2.2.2.2 r59.1) (λ_=>some (.dn ((0,((6,(s52.2.2,s52.2.2)),()))))) λ_=>bd (BJ (r58.2,x54.2.2.2.2)) λr60=>bd (BK (r60.1,x54.2)) λr61=>br (AX r61) (λ_=>some (.dn ((0,((6,(s52.2.2,s52.2.2)),()))))) λ_=>some (.nx ((s52.1,(s52.2.1,AH .i64 s52.2.2 1))))) λ_=>bd (A0 ((x.1,(x54.1,x54.2.2.1.2.2)))) λr62=>bd (A7 r62.2) λr63=>br (Am x54.2.2.2.2 0) (λ_=>some (.dn ((0,((6,(s52.2.2,s52.2.2)),()))))) λ_=>br (CF x54.2.2.2.2 r63.1) (λ_=>some (.dn ((0,((6,(s52.2.2,s52.2.2)),()))))) λ_=>bd (BJ (r62.2,x54.2.2.2.2)) λr64=>bd (BK (r64.1,x54.2)) λr65=>br (AX r65) (λ_=>some (.dn ((0,((6,(s52.2.2,s52.2.2)),()))))) λ_=>some (.nx ((s52.1,(s52.2.1,AH .i64 s52.2.2 1))))) λ_=>some (.dn ((1,(s52,()))))) ((0,(0,0)))) λr66=>br (neq r66.1 0) (λ_=>some (r66.2.1.2.1,r66.2.1.1)) λ_=>br (Am (Aa (AA x.2.1)) (Aa (AA r51))) (λ_=>some (((-1),4))) λ_=>some (0,0)
end Go.Proofs.YthpkjfabdccpdaaGreat.Pl
namespace Go.Proofs.YthpkjfabdccpdaaGreat.Pl
open Go Go.Proofs.YthpkjfabdccpdaaGreat.Sv
theorem MN (x:AD):Dc x=some (kE x):=by
 unfold Dc kE;rw [Aq,AV,I5];by_cases h1:x.1.length>32
 ·rw [if_pos (by omega),if_pos (.inl h1)]
 rw [if_neg (by omega),Aq,AV,I5];by_cases h2:x.2.1.length>64
 ·rw [if_pos (by omega),if_pos (.inr h2)]
 rw [if_neg (by omega : ¬ (x.2.1.length:Int)>64),if_neg (by omega),Fo];by_cases h3:x.2.2.1=true
 ·rw [if_pos h3,Bf,EO];by_cases h4:x.2.1=[]
  ·rw [if_pos h4,if_neg (by simp [h4]),BE,Aq];by_cases h5:x.2.2.2<1
   ·simp [h5]
   ·by_cases h6:x.2.2.2>1000000000<;>simp [h5,h6]
  ·rw [if_neg h4,if_pos ⟨h3,h4⟩]
 ·rw [if_neg h3,if_neg (by simp [h3]),BE,Aq];by_cases h5:x.2.2.2<1
  ·simp [h5]
  ·by_cases h6:x.2.2.2>1000000000<;>simp [h5,h6]
def Dg:List UInt8->List UInt8->Nat
 | x::a,y::b=>if x=y then Dg a b+1 else 0
 | _,_=>0
theorem Zu (x y:UInt8):Ba (SY x) (SY y)=decide (x=y):=by
 rw [Eg];unfold SY;by_cases h:x=y
 ·simp [h]
 ·have : ¬ ((x.toNat:Int)=(y.toNat:Int)):=λe=>h (UInt8.toNat_inj.1 (by omega));simp [h,this]
theorem Xb (a b:List UInt8) (ha:a.length<=9223372036854775806):Eh (a,b)=some (Dg a b:Int):=by
 unfold Eh;simp only [AV,I5]
 have key : ∀ (m:List UInt8) (k n:Nat),a.drop k=m->k<=a.length->k<=b.length->m.length<n->D2 n (λs0=>br (Am s0 (a.length:Int)) (λ_=>br (Am s0 (b.length:Int)) (λ_=>AU s0 λk1=>ix a k1 λx2=>AU s0 λk3=>ix b k3 λx4=>br (Ba (SY x2) (SY x4)) (λ_=>some (LR.nx (AH .i64 s0 1))) λ_=>some (.dn ((0,(s0,()))))) λ_=>some (.dn ((0,(s0,()))))) λ_=>some (.dn ((0,(s0,()))))) (k:Int)=some ((0:Nat),(((k+Dg m (b.drop k):Nat):Int),())):=by
  intro m
  induction m with
  | nil =>
   intro k n hm hk hkb hn;obtain ⟨n,rfl⟩ : ∃ j,n=j+1:=⟨n-1,by omega⟩
   have hkl:k=a.length:=by
    have:=congrArg List.length hm;simp at this;omega
   subst hkl;refine BV ?_;rw [re];simp [Ap,Dg]
  | cons x m ih =>
   intro k n hm hk hkb hn;obtain ⟨n,rfl⟩ : ∃ j,n=j+1:=⟨n-1,by omega⟩
   have hx:a[k]? = some x:=by
    have:=congrArg List.head? hm;rw [List.head?_drop] at this;simpa using this
   have hk':k<a.length:=(List.getElem?_eq_some_iff.1 hx).1
   have hm2:a.drop (k+1)=m:=by
    have:=congrArg List.tail hm;rw [List.tail_drop] at this;simpa using this
   by_cases hb:k<b.length
   ·have hy:b[k]? = some b[k]:=by simp [hb]
    rw [List.drop_eq_getElem_cons hb];unfold Dg;by_cases e:x=b[k]
    ·rw [if_pos e];refine (BG (s':=((k+1:Nat):Int)) ?_).trans ?_
     ·rw [rl hk',AM,rl hb,AM,AE,AJ hx,AE,AJ hy,Zu,Cn,if_pos e,Ab (by omega)]
     ·rw [ih (k+1) n hm2 (by omega) (by omega) (by simp at hn;omega),show k+1+Dg m (b.drop (k+1))=k+(Dg m (b.drop (k+1))+1) by omega]
    ·rw [if_neg e];refine BV ?_;rw [rl hk',AM,rl hb,AM,AE,AJ hx,AE,AJ hy,Zu,Cn,if_neg e];simp
   ·have hb2:k=b.length:=by omega
    refine BV ?_;rw [rl hk',AM,hb2,re,Ap,List.drop_length];simp [Dg]
 refine BF (Ch (n:=a.length+1) (by omega) (key a 0 (a.length+1) (by simp) (by omega) (by omega) (by omega))) ?_;simp
def LS (a b:Gu):Int:=if CT a b=true then -1 else if a=b then 0 else 1
theorem TI : ∀ (a b:Gu),(Dg a b<=a.length/\Dg a b<=b.length)/\(Dg a b=a.length->Dg a b=b.length->LS a b=0)/\(Dg a b=a.length->Dg a b≠b.length->LS a b = -1)/\(Dg a b≠a.length->Dg a b=b.length->LS a b=1)/\(∀ x y,a[Dg a b]? = some x->b[Dg a b]? = some y->LS a b=if x.toNat<y.toNat then -1 else 1)
 | [],[]=>by simp [Dg,LS,MI]
 | [],y::b=>by simp [Dg,LS,Rj]
 | x::a,[]=>by simp [Dg,LS,MI]
 | x::a,y::b=>by
  obtain ⟨⟨h0,h0'⟩,h1,h2,h3,h4⟩:=TI a b;by_cases e:x=y
  ·subst e
   have ho:LS (x::a) (x::b)=LS a b:=by
    unfold LS;rw [IW];simp
   have hc:Dg (x::a) (x::b)=Dg a b+1:=by simp [Dg]
   rw [ho,hc];refine ⟨⟨by simp;omega,by simp;omega⟩,λu v=>h1 (by simp at u;omega) (by simp at v;omega),λu v=>h2 (by simp at u;omega) (by simp at v;omega),λu v=>h3 (by simp at u;omega) (by simp at v;omega),λp q hp hq=>h4 p q (by simpa using hp) (by simpa using hq)⟩
  ·have hc:Dg (x::a) (y::b)=0:=by simp [Dg,e]
   rw [hc];refine ⟨⟨by omega,by omega⟩,λu=>by simp at u,λu=>by simp at u,λ_ u=>by simp at u,λp q hp hq => ?_⟩;simp at hp hq;subst hp hq;unfold LS;rw [IW];have hne : ¬ (x::a=y::b):=λh=>e (by injection h);by_cases hlt:x.toNat<y.toNat
   ·have:x<y:=UInt8.lt_iff_toNat_lt.2 hlt;simp [this,hlt]
   ·have : ¬ x<y:=λh=>hlt (UInt8.lt_iff_toNat_lt.1 h);simp [this,hlt,e]
theorem Zv (a b:Gu) (ha:a.length<=1000000000) (hb:b.length<=1000000000):EM (a,b)=some (LS a b):=by
 obtain ⟨⟨h0,h0'⟩,h1,h2,h3,h4⟩:=TI a b;unfold EM;simp only [AV,I5];rw [Xb a b (by omega),AB,B3]
 have hl:(if (Dg a b:Int)<(b.length:Int) then (AU (Dg a b:Int) λk1=>ix a k1 λx2=>AU (Dg a b:Int) λk3=>ix b k3 λx4=>br (Am (SY x2) (SY x4)) (λ_=>some (-1:Int)) λ_=>some 1) else some 1)=(if Dg a b=a.length then (if (Dg a b:Int)<(b.length:Int) then (AU (Dg a b:Int) λk1=>ix a k1 λx2=>AU (Dg a b:Int) λk3=>ix b k3 λx4=>br (Am (SY x2) (SY x4)) (λ_=>some (-1:Int)) λ_=>some 1) else some 1) else some (LS a b)):=by
  by_cases u:Dg a b=a.length
  ·rw [if_pos u]
  ·rw [if_neg u];by_cases v:Dg a b=b.length
   ·rw [if_neg (by omega),h3 u v]
   ·rw [if_pos (by omega),AE];have hx:a[Dg a b]? = some (a[Dg a b]'(by omega)):=by simp
    have hy:b[Dg a b]? = some (b[Dg a b]'(by omega)):=by simp
    rw [AJ hx,AE,AJ hy,BE,h4 _ _ hx hy];unfold SY;by_cases w:(a[Dg a b]'(by omega)).toNat<(b[Dg a b]'(by omega)).toNat
    ·rw [if_pos (by omega),if_pos w]
    ·rw [if_neg (by omega),if_neg w]
 by_cases u:Dg a b=a.length
 ·rw [if_pos (by omega),B3];by_cases v:Dg a b=b.length
  ·rw [if_pos (by omega),h1 u v]
  ·rw [if_neg (by omega),B3,if_pos (by omega),h2 u v]
 ·rw [if_neg (by omega),B3,if_neg (by omega),BE,hl,if_neg u]
theorem WT (a b:Gu):LS a b>=0<->CT a b=false:=by
 unfold LS;cases h:CT a b with
 | true=>simp
 | false=>simp;split<;>omega
theorem Gb (l:List AD) (hl:l.length<=9223372036854775807):Cj l=some (FA l):=by
 unfold Cj FA;simp only [AV,AQ];rw [Aq];by_cases h:l.length>5000
 ·rw [if_pos (by omega),if_pos h]
 rw [if_neg (by omega),if_neg h];obtain ⟨T,hT⟩ : ∃ T,T=Jv none 0 l:=⟨_,rfl⟩;rw [<- hT]
 obtain ⟨r,q1,q2⟩:=FB (l:=l) (σ:=Unit) (s:=((0:Int),((0:Int),(0:Int)))) (λk _=>((0:Int),((0:Int),(k:Int)))) (λm k _=>Jv (if k=0 then none else (l[k-1]?).map (·.1)) k m=T/\(∀ y,k≠0->l[k-1]? = some y->kE y=0)) (λ(r:Nat×((Int×(Int×Int))×Unit))=>(r.1=1/\T=(0,0))\/(r.1=0/\T=(r.2.1.2.1,r.2.1.1)))
  (f:=λs0=>br (Am s0.2.2 (l.length:Int)) (λ_=>AU s0.2.2 λk1=>ix l k1 λx2=>bd (Dc x2) λr3=>br (Ba r3 0) (λ_=>br (CF s0.2.2 0) (λ_=>AU (B9 .i64 s0.2.2 1) λk4=>ix l k4 λx5=>AU s0.2.2 λk6=>ix l k6 λx7=>bd (EM (x5.1,x7.1)) λr8=>br (Hj r8 0) (λ_=>some (.dn ((0,((6,(s0.2.2,s0.2.2)),()))))) λ_=>br (BC r3 0) (λ_=>some (.dn ((0,((r3,(s0.2.2,s0.2.2)),()))))) λ_=>some (.nx ((s0.1,(s0.2.1,AH .i64 s0.2.2 1))))) λ_=>br (BC r3 0) (λ_=>some (.dn ((0,((r3,(s0.2.2,s0.2.2)),()))))) λ_=>some (.nx ((s0.1,(s0.2.1,AH .i64 s0.2.2 1))))) λ_=>br (BC r3 0) (λ_=>some (.dn ((0,((r3,(s0.2.2,s0.2.2)),()))))) λ_=>some (.nx ((s0.1,(s0.2.1,AH .i64 s0.2.2 1))))) λ_=>some (.dn ((1,(s0,())))))
  () rfl (by omega) ⟨hT.symm,λ_ h=>absurd rfl h⟩ (λ_ h=>by
   refine ⟨_,by simp only;rw [re];rfl,.inl ⟨rfl,?_⟩⟩;rw [<- h.1];simp [Jv]) (λk x m _ hd hx hk h=>by
   simp only;obtain ⟨h,hprev⟩:=h;rw [rl hk,AM,AE,AJ hx,MN,AB,B3];unfold Jv at h
   have next:kE x=0->(T=Jv (some x.1) (k+1) m)->Jv (if k+1=0 then none else (l[k+1-1]?).map (·.1)) (k+1) m=T/\(∀ y,k+1≠0->l[k+1-1]? = some y->kE y=0):=λh0 e=>by
    rw [if_neg (by omega),Nat.add_sub_cancel,hx,e];exact ⟨rfl,λy _ hy=>by cases hy;exact h0⟩
   by_cases h0:kE x=0
   ·rw [if_pos h0,Aq];rw [if_neg (by simp [h0])] at h;by_cases hk0:k=0
    ·rw [if_neg (by omega),AS,if_pos h0];rw [if_pos hk0] at h;exact .inl ⟨(),by rw [Al hx (by omega)],next h0 h.symm⟩
    ·have hy:l[k-1]? = some (l[k-1]'(by omega)):=by rw [List.getElem?_eq_getElem]
     rw [if_pos (by omega),show B9 .i64 (k:Int) 1=((k-1:Nat):Int) by rw [B7 (by omega)];omega,AE,AJ hy,AE,AJ hx];rw [if_neg hk0,hy] at h;simp only [Option.map_some] at h;rw [Zv _ _ (by have:=O3 (hprev _ hk0 hy);omega) (by have:=O3 h0;omega),AB,Fe];by_cases hs:CT (l[k-1]'(by omega)).1 x.1=true
     ·rw [if_neg (λe=>by rw [WT,hs] at e;cases e),AS,if_pos h0];rw [if_pos hs] at h;exact .inl ⟨(),by rw [Al hx (by omega)],next h0 h.symm⟩
     ·rw [if_pos ((WT _ _).2 (by simpa using hs))];rw [if_neg hs] at h;exact .inr ⟨_,rfl,.inr ⟨rfl,h.symm⟩⟩
   ·rw [if_neg h0,AS,if_neg h0];rw [if_pos h0] at h
    exact .inr ⟨_,rfl,.inr ⟨rfl,h.symm⟩⟩)
 refine BF q1 ?_;rw [CH];rcases q2 with ⟨q2,q3⟩ | ⟨q2,q3⟩
 ·rw [if_neg (show ¬ r.1=0 by omega),q3]
 ·rw [if_pos q2,q3]
theorem Zw (p q:AO) (hp:EU p) (hq:EU q):E2 ([p,q],(0,1))=some (w0 p q):=by
 unfold E2 w0;refine (Ef 0 rfl (x:=p) rfl).trans ((Ef 1 rfl (x:=q) rfl).trans ?_);rw [beq_eq,CW,Cn,Bf,Fo];by_cases h1:p.2=q.2
 ·rw [if_neg (show ¬ ¬ p.2=q.2 by simp [h1]),if_neg (show ¬ p.2≠q.2 by simp [h1])];by_cases h2:p.2=true
  ·rw [if_pos h2,hp h2,hq (h1 ▸ h2)];rfl
  ·rw [if_neg h2,Bf,EO];by_cases h3:p.1=q.1
   ·rw [if_pos h3,if_neg (by simp [h3])];rfl
   ·rw [if_neg h3,if_pos h3]
 ·rw [if_pos h1,if_pos h1]
theorem Nn (p q:AO) (n:Nat) (k:Int) (h:2<=k) (hk:k<=100):Jt As (n+1) ([p,q],k)=some (k-2,0):=by
 show As (Jt As n) ([p,q],k)=_;unfold As;show br (Hj k 2) (λ_=>some (B9 .i64 k 2,0)) _=_;rw [Fe,if_pos h,B7 (by omega)]
theorem O7 (p q:AO) (hp:EU p) (hq:EU q):GB ([p,q],1)=some (if w0 p q=true then (0,1) else (1,0)):=by
 show As (Jt As 99) ([p,q],1)=_;unfold As;show br (Hj (1:Int) 2) (λ_=>some (B9 .i64 (1:Int) 2,0)) (λ_=>bd (Jt As (98+1) ([p,q],2)) λr0=>bd (Jt As (98+1) ([p,q],3)) _)=_;rw [Fe,if_neg (by omega),Nn p q 98 2 (by omega) (by omega),AB,Nn p q 98 3 (by omega) (by omega),AB];show bd (E2 ([p,q],(0,1))) _=_;rw [Zw p q hp hq,AB,Fo];cases h:w0 p q<;>rfl
theorem Zx (p q:AO) (hp:EU p) (hq:EU q):GC [p,q]=some (Tt p q):=by
 unfold GC;refine Eq.trans (b:=bd (loop _ (1,([p,q],([0,0],0)))) _) rfl ?_;refine BF (x:=(0,((2,([p,q],([0,if w0 p q=true then 1 else 0],0))),()))) (Ch (n:=2) (by omega) ((BG (s':=(2,([p,q],([0,if w0 p q=true then 1 else 0],0)))) ?_).trans (BV rfl))) ?_
 ·show bd (GB ([p,q],1)) _=_;rw [O7 p q hp hq,AB];refine (Jy 1 rfl (x:=(0:Int)) rfl).trans ?_;cases h:w0 p q<;>rfl
 ·rw [O7 p q hp hq,AB];unfold Tt;cases h:w0 p q<;>rfl
theorem Xc {l:List AO} (h : ∀ k∈l,EU k) (h0:l≠[]) (hl:l.length<=32):FI l=some 0:=by
 unfold FI;simp only [AV,AQ];rw [B3,Aq,if_neg (by have:=List.length_pos_iff.2 h0;omega),if_neg (by omega)]
 rw [DB (l:=l) (σ:=Unit) (s:=((0:Int),(0:Int))) (λk _=>((k:Int),(0:Int))) (λ_ _ _=>True) (λ_ _ _=>(1,(((l.length:Int),0),()))) () rfl (by omega) trivial (λst _=>by
  simp only;rw [re];rfl) (λk x m st _ hx hk _=>⟨(),by
   simp only;rw [rl hk,AM,AE,AJ hx,Fo,Al hx (by omega)];by_cases hd:x.2=true
   ·rw [if_pos hd,AE,AJ hx,Bf,EO,if_pos (h x (List.mem_of_getElem? hx) hd)]
   ·rw [if_neg hd],trivial,rfl⟩),AB]
 rfl
theorem Xd (p q:AO) (hp:EU p) (hq:EU q):EN [p,q]=some (Tt p q,0):=by
 unfold EN;rw [Xc (by simp [hp,hq]) (by simp) (by simp),AB,AS,if_pos rfl,Zx p q hp hq,AB]
end Go.Proofs.YthpkjfabdccpdaaGreat.Pl
namespace Go.Proofs.YthpkjfabdccpdaaGreat.Pl
open Go Go.Proofs.YthpkjfabdccpdaaGreat.Sv
theorem Gn:Bw=BP:=rfl
theorem O8:GD=Ad:=rfl
theorem Uz (l m:List AO) (hb:l.length<=9223372036854775806) (hl:l.length=m.length) : ∃ r,loop (λs1=>br (Am s1.1 (l.length:Int)) (λ_=>AU s1.1 λk2=>ix l k2 λx3=>AU s1.1 λk4=>ix m k4 λx5=>br (AX (Bm (seq x3.1 x5.1) (Bm (Sv.beq x3.2 x5.2) true))) (λ_=>some (LR.dn ((0:Nat),((s1.1,false),())))) λ_=>some (.nx (AH .i64 s1.1 1,s1.2))) λ_=>some (.dn ((1,(s1,()))))) ((0:Int),false)=some r/\((l=m/\r.1=1)\/(l≠m/\r.1=0/\r.2.1.2=false)):=by
 refine Ia l m hl hb (λk x y hx hy => ?_) (by simp only;rw [re];rfl);have hk:=(List.getElem?_eq_some_iff.1 hx).1
 have he : ∀ {β:Type} (u v:Unit->Option β),br (AX (Bm (seq x.1 y.1) (Bm (Sv.beq x.2 y.2) true))) u v=if x=y then v () else u ():=by
  intro β u v;rw [MM,LN,beq_eq,I8,CW,Cn];by_cases e:x=y
  ·subst e;simp
  ·rw [if_pos (λh=>e (Prod.ext h.1 h.2)),if_neg e]
 constructor
 ·intro e;simp only;rw [rl hk,AM,AE,AJ hx,AE,AJ hy,he,if_pos e,Ab (by omega)]
 ·intro e;simp only;rw [rl hk,AM,AE,AJ hx,AE,AJ hy,he,if_neg e]
theorem O9 (s t:D9) (h1:s.1.length<=1000) (h2:s.2.1.length<=1000):E3 (s,t)=some (decide (s=t)):=by
 obtain ⟨sk,sl,sw⟩:=s;obtain ⟨tk,tl,tw⟩:=t;simp only at h1 h2;unfold E3;simp only [AV,AQ];rw [AS];by_cases e1:(sk.length:Int)=(tk.length:Int);rotate_left
 ·rw [if_neg e1];have : ¬ sk=tk:=λe=>e1 (by rw [e]);simp [this]
 rw [if_pos e1,AS];by_cases e2:sw=tw;rotate_left
 ·rw [if_neg e2];simp [e2]
 rw [if_pos e2,O8,KZ _ _ (by omega),AB,CW,Cn];by_cases e3:sl=tl;rotate_left
 ·rw [if_pos e3];simp [e3]
 rw [if_neg (show ¬ ¬ sl=tl by simp [e3])];obtain ⟨r,q1,q2⟩:=Uz sk tk (by omega) (by omega);refine BF q1 ?_;rw [CH];rcases q2 with ⟨e,q2⟩ | ⟨e,q2,q3⟩
 ·rw [if_neg (show ¬ r.1=0 by omega)];simp [e,e2,e3]
 ·rw [if_pos q2,q3];simp [e]
theorem TJ (s t:AP) (h1:s.1.length<=1000) (h2 : ∀ l∈s.1,l.length<=1000000) (h3:s.2.1.length<=1000) (h4:s.2.2.1.length<=1000) (h5:s.2.2.2.1.length<=1000):GG (s,t)=some (decide (s=t)):=by
 obtain ⟨sr,sa,st⟩:=s;obtain ⟨tr,ta,tt⟩:=t;simp only at h1 h2 h3 h4 h5;unfold GG;simp only [AV,AQ];rw [AS];by_cases e1:(sr.length:Int)=(tr.length:Int);rotate_left
 ·rw [if_neg e1];have : ¬ sr=tr:=λe=>e1 (by rw [e]);simp [this]
 rw [if_pos e1,O8,KZ _ _ (by omega),AB,CW,Cn];by_cases e2:sa=ta;rotate_left
 ·rw [if_pos e2];simp [e2]
 rw [if_neg (show ¬ ¬ sa=ta by simp [e2]),O9 _ _ h4 h5,AB,CW,Cn];by_cases e3:st=tt;rotate_left
 ·rw [if_pos e3];simp [e3]
 rw [if_neg (show ¬ ¬ st=tt by simp [e3])]
 obtain ⟨r,q1,q2⟩:=Ia sr tr (by omega) (by omega) (f:=λs2=>br (Am s2.1 (sr.length:Int)) (λ_=>AU s2.1 λk3=>ix sr k3 λx4=>AU s2.1 λk5=>ix tr k5 λx6=>bd (Bw (x4,x6)) λr7=>br (AX r7) (λ_=>some (.dn ((0,((s2.1,false),()))))) λ_=>some (.nx (AH .i64 s2.1 1,s2.2))) λ_=>some (.dn ((1,(s2,()))))) (λk x y hx hy=>by
   have hk:=(List.getElem?_eq_some_iff.1 hx).1;have hx1:=h2 x (List.mem_of_getElem? hx);constructor
   ·intro e;simp only;rw [rl hk,AM,AE,AJ hx,AE,AJ hy,Gn,GA _ _ (by omega),AB,CW,Cn,if_neg (by simp [e]),Ab (by omega)]
   ·intro e;simp only
    rw [rl hk,AM,AE,AJ hx,AE,AJ hy,Gn,GA _ _ (by omega),AB,CW,Cn,if_pos e]) (by simp only;rw [re];rfl)
 refine BF q1 ?_;rw [CH];rcases q2 with ⟨e,q2⟩ | ⟨e,q2,q3⟩
 ·rw [if_neg (show ¬ r.1=0 by omega)];simp [e,e2,e3]
 ·rw [if_pos q2,q3];simp [e]
theorem U0 (x y:Hy) (h1:x.1.1.length<=1000) (h2 : ∀ l∈x.1.1,l.length<=1000000) (h3:x.1.2.1.length<=1000) (h4:x.1.2.2.1.length<=1000) (h5:x.1.2.2.2.1.length<=1000) (h6:x.2.2.1.length<=1000000):BK (x,y)=some (decide (x=y)):=by
 obtain ⟨xm,⟨xs,xt,xb⟩,xo,xn⟩:=x;obtain ⟨ym,⟨ys,yt,yb⟩,yo,yn⟩:=y;simp only at h1 h2 h3 h4 h5 h6;unfold BK;simp only [TJ _ _ h1 h2 h3 h4 h5,Gn,GA _ _ (show xo.length<=9223372036854775806 by omega),AB,Cn,Eg,LN,beq_eq,MM,I8]
 repeat' split
 all_goals simp_all
section
variable {a b:List AD} (va:VL a) (vb:VL b)
include va vb
theorem LU:Dd [a,b]=some (0,0):=by
 have la:=va.len;have lb:=vb.len;unfold Dd;refine Eq.trans (b:=bd (loop _ (0,(0,0))) _) rfl ?_;refine BF (x:=(1,((0,(0,2)),()))) (Cb (s1:=(0,(0,1))) (s2:=(0,(0,2))) ?_ ?_ rfl) rfl
 ·refine (Nt 0 rfl rfl (x:=a) rfl).trans ?_;rw [Gb _ (by omega),Jw va,AB];rfl
 ·refine (Nt 1 rfl rfl (x:=b) rfl).trans ?_;rw [Gb _ (by omega),Jw vb,AB];rfl
theorem JB {i j:Nat} (hi:i<=a.length) (hj:j<=b.length):De ([a,b],[(i:Int),(j:Int)])=some (if i=a.length/\j=b.length then -1 else if HK a b i j=true then 0 else 1):=by
 have la:=va.len;have lb:=vb.len;unfold De;simp only [AV,AQ];refine BF (x:=(0,((if i=a.length/\j=b.length then -1 else if HK a b i j=true then 0 else 1,2),()))) (Cb (s1:=(if i=a.length then -1 else 0,1)) (s2:=(if i=a.length/\j=b.length then -1 else if HK a b i j=true then 0 else 1,2)) ?_ ?_ rfl) rfl
 ·refine (Nt 0 rfl rfl (x:=(i:Int)) rfl).trans ((Ef 0 rfl (x:=a) rfl).trans ?_);rw [BE];by_cases h:i=a.length
  ·rw [if_neg (by omega),if_pos h];rfl
  ·rw [if_pos (by omega),if_neg h];rfl
 ·refine (Nt 1 rfl rfl (x:=(j:Int)) rfl).trans ((Ef 1 rfl (x:=b) rfl).trans ?_);rw [BE];by_cases h:j=b.length
  ·rw [if_neg (by omega)];by_cases h2:i=a.length
   ·rw [if_pos h2,if_pos ⟨h2,h⟩];rfl
   ·rw [if_neg h2,if_neg (λh3=>h2 h3.1)];have hx:a[i]? = some (a[i]'(by omega)):=by simp
    rw [WM hx (List.getElem?_eq_none (by omega))];rfl
  ·have hy:b[j]? = some (b[j]'(by omega)):=by simp
   rw [if_pos (by omega),BE,if_neg (λh3:i=a.length/\j=b.length=>h h3.2)];by_cases h2:i=a.length
   ·rw [if_pos h2,if_pos (by omega),WN (List.getElem?_eq_none (by omega)) hy];rfl
   ·rw [if_neg h2,if_neg (by omega)];have hx:a[i]? = some (a[i]'(by omega)):=by simp
    refine (Ef 1 rfl (x:=b) rfl).trans ((Ef 1 rfl (x:=(j:Int)) rfl).trans ((Ef j rfl hy).trans ((Ef 0 rfl (x:=a) rfl).trans ((Ef 0 rfl (x:=(i:Int)) rfl).trans ((Ef i rfl hx).trans ?_)))));rw [F7,Oz hx hy];cases hs:CT (b[j]'(by omega)).1 (a[i]'(by omega)).1<;>rfl
theorem JC {i j:Nat} (hi:i<=a.length) (hj:j<=b.length):C2 ([a,b],[(i:Int),(j:Int)])=some (La a b i j):=by
 have la:=va.len;have lb:=vb.len;unfold C2;simp only [AV,AQ];rw [Bj (show [a,b].length<=1048576 from (show 2<=1048576 by omega)),Bj (show [(i:Int),(j:Int)].length<=1048576 from (show 2<=1048576 by omega))];refine BF (x:=(0,((2,[kx a i,kx b j]),()))) (Cb (s1:=(1,[kx a i])) (s2:=(2,[kx a i,kx b j])) ?_ ?_ rfl) ?_
 ·refine (Nt 0 rfl rfl (x:=(i:Int)) rfl).trans ((Ef 0 rfl (x:=a) rfl).trans ?_);rw [Eg,CW,Cn];by_cases h:i=a.length
  ·have hne:((i:Int)=(a.length:Int)):=by omega
   rw [if_neg (show ¬ ¬ ((i:Int)=(a.length:Int)) by simp [hne]),ML (List.getElem?_eq_none (by omega))];simp only [hne,decide_true];rfl
  ·have hx:a[i]? = some (a[i]'(by omega)):=by simp
   have hne : ¬ ((i:Int)=(a.length:Int)):=by omega
   rw [if_pos hne];refine (Ef 0 rfl (x:=a) rfl).trans ((Ef 0 rfl (x:=(i:Int)) rfl).trans ((Ef i rfl hx).trans ?_));rw [F8 hx];simp only [hne,decide_false];rfl
 ·refine (Nt 1 rfl rfl (x:=(j:Int)) rfl).trans ((Ef 1 rfl (x:=b) rfl).trans ?_);rw [Eg,CW,Cn];by_cases h:j=b.length
  ·have hne:((j:Int)=(b.length:Int)):=by omega
   rw [if_neg (show ¬ ¬ ((j:Int)=(b.length:Int)) by simp [hne]),ML (l:=b) (i:=j) (List.getElem?_eq_none (by omega))];simp only [hne,decide_true];rfl
  ·have hx:b[j]? = some (b[j]'(by omega)):=by simp
   have hne : ¬ ((j:Int)=(b.length:Int)):=by omega
   rw [if_pos hne];refine (Ef 1 rfl (x:=b) rfl).trans ((Ef 1 rfl (x:=(j:Int)) rfl).trans ((Ef j rfl hx).trans ?_));rw [F8 (l:=b) (i:=j) hx];simp only [hne,decide_false];rfl
 ·show bd (EN [kx a i,kx b j]) _=_;rw [Xd _ _ (Bg _ _) (Bg _ _)];rfl
theorem WU {i:Nat} {l:List AD} (h:i≠0) (hi:i<=l.length) : ∃ x,l[i-1]? = some x:=⟨l[i-1]'(by omega),by simp⟩
theorem NM {i j:Nat} (I:Inv a b i j):Df (La a b i j)=some (0,0):=by
 have la:=va.len;have lb:=vb.len;have hi:=I.ia;have hj:=I.jb;unfold Df;rw [show (La a b i j).1=[a,b] from rfl,LU va vb,AB,AS,if_pos rfl];rw [show (La a b i j).2.1=[(i:Int),(j:Int)] from rfl,AS,if_pos (show Aa (AA [(i:Int),(j:Int)])=Aa (AA [a,b]) from rfl)];refine BF (x:=(1,((0,(0,2)),()))) (Cb (s1:=(0,(0,1))) (s2:=(0,(0,2))) ?_ ?_ rfl) ?_
 ·refine (Nt 0 rfl rfl (x:=(i:Int)) rfl).trans ?_;rw [BE,if_neg (by omega)];refine (Ef 0 rfl (x:=(i:Int)) rfl).trans ((Ef 0 rfl (x:=a) rfl).trans ?_);rw [Aq,if_neg (by simp only [AV,AQ];omega)];rfl
 ·refine (Nt 1 rfl rfl (x:=(j:Int)) rfl).trans ?_;rw [BE,if_neg (by omega)];refine (Ef 1 rfl (x:=(j:Int)) rfl).trans ((Ef 1 rfl (x:=b) rfl).trans ?_);rw [Aq,if_neg (by simp only [AV,AQ];omega)];rfl
 rw [show neq ((1:Nat),(((0:Int),((0:Int),(2:Int))),())).1 0=false from rfl,Ap,JC va vb hi hj,AB,O9 (La a b i j).2.2 (La a b i j).2.2 (show 2<=1000 by omega) (show 2<=1000 by omega),AB,CW,Cn,if_neg (show ¬ ¬ (La a b i j).2.2=(La a b i j).2.2 by simp),JB va vb hi hj,AB];by_cases hd:i=a.length/\j=b.length
 ·rw [if_pos hd];refine BF (x:=(1,((0,(0,0)),()))) (Ch (n:=1) (by omega) (BV ?_)) rfl;rfl
 rw [if_neg hd];cases g:HK a b i j with
 | true =>
  rw [if_pos rfl]
  have hil:i<a.length:=by
   refine Nat.lt_of_not_le λh' => ?_;have hb2:j<b.length:=by omega
   rw [WN (List.getElem?_eq_none h') (show b[j]? = some (b[j]'hb2) by simp)] at g;cases g
  have hx:a[i]? = some (a[i]'hil):=by simp
  refine BF (x:=(1,((0,(0,2)),()))) (Cb (s1:=(0,(0,1))) (s2:=(0,(0,2))) ?_ ?_ rfl) rfl
  ·show br (Am (0:Int) 2) _ _=_;rw [BE,if_pos (by omega),Fe,if_pos (by omega)];refine (Ef 0 rfl (x:=(i:Int)) rfl).trans ?_;rw [B3];by_cases h0:i=0
   ·rw [if_pos (by omega)];rfl
   ·rw [if_neg (by omega)];obtain ⟨y,hy⟩:=WU va vb (l:=a) h0 hi;refine (Ef 0 rfl (x:=a) rfl).trans ((Ef 0 rfl (x:=(i:Int)) rfl).trans ?_);rw [show B9 .i64 (i:Int) 1=((i-1:Nat):Int) by rw [B7 (by omega)];omega,AE,AJ hy];refine (Ef 0 rfl (x:=a) rfl).trans ((Ef 0 rfl (x:=(i:Int)) rfl).trans ((Ef i rfl hx).trans ?_));have hlt:=va.lt hy (show a[i-1+1]? = some _ by rw [show i-1+1=i by omega];exact hx);rw [F7,if_neg (by rw [Cg hlt];simp),EO,if_neg (Ju hlt)];rfl
  ·show br (Am (1:Int) 2) _ _=_;rw [BE,if_pos (by omega),Fe,if_pos (by omega)];refine (Ef 1 rfl (x:=(j:Int)) rfl).trans ?_;rw [B3];by_cases h0:j=0
   ·rw [if_pos (by omega)];rfl
   ·rw [if_neg (by omega)];obtain ⟨y,hy⟩:=WU va vb (l:=b) h0 hj;refine (Ef 1 rfl (x:=b) rfl).trans ((Ef 1 rfl (x:=(j:Int)) rfl).trans ?_);rw [show B9 .i64 (j:Int) 1=((j-1:Nat):Int) by rw [B7 (by omega)];omega,AE,AJ hy];refine (Ef 0 rfl (x:=a) rfl).trans ((Ef 0 rfl (x:=(i:Int)) rfl).trans ((Ef i rfl hx).trans ?_));have hlt:=I.pb (j-1) (by omega) y _ hy hx;rw [F7,if_neg (by rw [Cg hlt];simp),EO,if_neg (Ju hlt)];rfl
 | false =>
  rw [if_neg (by simp)]
  have hjl:j<b.length:=by
   refine Nat.lt_of_not_le λh' => ?_;have ha2:i<a.length:=by omega
   rw [WM (show a[i]? = some (a[i]'ha2) by simp) (List.getElem?_eq_none h')] at g;cases g
  have hx:b[j]? = some (b[j]'hjl):=by simp
  refine BF (x:=(1,((0,(0,2)),()))) (Cb (s1:=(0,(0,1))) (s2:=(0,(0,2))) ?_ ?_ rfl) rfl
  ·show br (Am (0:Int) 2) _ _=_;rw [BE,if_pos (by omega),Fe,if_pos (by omega)];refine (Ef 0 rfl (x:=(i:Int)) rfl).trans ?_;rw [B3];by_cases h0:i=0
   ·rw [if_pos (by omega)];rfl
   ·rw [if_neg (by omega)];obtain ⟨y,hy⟩:=WU va vb (l:=a) h0 hi;refine (Ef 0 rfl (x:=a) rfl).trans ((Ef 0 rfl (x:=(i:Int)) rfl).trans ?_);rw [show B9 .i64 (i:Int) 1=((i-1:Nat):Int) by rw [B7 (by omega)];omega,AE,AJ hy];refine (Ef 1 rfl (x:=b) rfl).trans ((Ef 1 rfl (x:=(j:Int)) rfl).trans ((Ef j rfl hx).trans ?_));have hle:=I.pa (i-1) (by omega) y _ hy hx;rw [F7,if_neg (by rw [hle];simp),EO];by_cases he:y.1=(b[j]'hjl).1
    ·rw [if_pos he];rfl
    ·rw [if_neg he];rfl
  ·show br (Am (1:Int) 2) _ _=_;rw [BE,if_pos (by omega),Fe,if_pos (by omega)];refine (Ef 1 rfl (x:=(j:Int)) rfl).trans ?_;rw [B3];by_cases h0:j=0
   ·rw [if_pos (by omega)];rfl
   ·rw [if_neg (by omega)];obtain ⟨y,hy⟩:=WU va vb (l:=b) h0 hj;refine (Ef 1 rfl (x:=b) rfl).trans ((Ef 1 rfl (x:=(j:Int)) rfl).trans ?_);rw [show B9 .i64 (j:Int) 1=((j-1:Nat):Int) by rw [B7 (by omega)];omega,AE,AJ hy];refine (Ef 1 rfl (x:=b) rfl).trans ((Ef 1 rfl (x:=(j:Int)) rfl).trans ((Ef j rfl hx).trans ?_));have hlt:=vb.lt hy (show b[j-1+1]? = some _ by rw [show j-1+1=j by omega];exact hx);rw [F7,if_neg (by rw [Cg hlt];simp),EO,if_neg (Ju hlt)];rfl
end
end Go.Proofs.YthpkjfabdccpdaaGreat.Pl
namespace Go.Proofs.YthpkjfabdccpdaaGreat.Pl
open Go Go.Proofs.YthpkjfabdccpdaaGreat.Sv
section
variable {a b:List AD} (va:VL a) (vb:VL b)
include va vb
theorem Zy {n:Nat} {x:AD} (h:n<a.length+b.length) (hx:Nm a b n=some x):EB (LP a b n)=some (x,((O0 a b n:Int),(LP a b (n+1),0))):=by
 obtain ⟨hI,hs⟩:=Ee va vb (n:=n) (by omega);obtain ⟨hI2,hs2⟩:=Ee va vb (n:=n+1) (by omega);have la:=va.len;have lb:=vb.len;have hia:=hI.ia;have hjb:=hI.jb;unfold EB;rw [show LP a b n=La a b (Ag a b n).1 (Ag a b n).2 from rfl,NM va vb hI,AB,AS,if_pos rfl,show (La a b (Ag a b n).1 (Ag a b n).2).1=[a,b] from rfl,show (La a b (Ag a b n).1 (Ag a b n).2).2.1=[((Ag a b n).1:Int),((Ag a b n).2:Int)] from rfl,JB va vb hia hjb,AB,if_neg (λhh:(Ag a b n).1=a.length/\(Ag a b n).2=b.length=>by omega)];unfold Nm at hx;have hpos:Ag a b (n+1)=if HK a b (Ag a b n).1 (Ag a b n).2=true then ((Ag a b n).1+1,(Ag a b n).2) else ((Ag a b n).1,(Ag a b n).2+1):=rfl
 unfold LP O0;cases g:HK a b (Ag a b n).1 (Ag a b n).2 with
 | true =>
  rw [g,if_pos rfl] at hpos;rw [g,if_pos rfl] at hx;have hi:=(List.getElem?_eq_some_iff.1 hx).1;rw [if_pos rfl,BE,if_neg (by omega),Bj (show AA [((Ag a b n).1:Int),((Ag a b n).2:Int)]<=1048576 from (show 2<=1048576 by omega))];refine (Jy 0 rfl (x:=((Ag a b n).1:Int)) rfl).trans ((Jy 0 rfl (x:=((Ag a b n).1:Int)) rfl).trans ((Ef 0 rfl (x:=a) rfl).trans ((Ef 0 rfl (x:=((Ag a b n).1:Int)) rfl).trans ((Ef _ rfl hx).trans ?_))));rw [Ab (by omega),show lset [((Ag a b n).1:Int),((Ag a b n).2:Int)] 0 (((Ag a b n).1+1:Nat):Int)=[(((Ag a b n).1+1:Nat):Int),((Ag a b n).2:Int)] from rfl,JC va vb (by omega) hjb,AB,hpos];rfl
 | false =>
  rw [g,if_neg (by simp)] at hpos;rw [g,if_neg (by simp)] at hx;have hi:=(List.getElem?_eq_some_iff.1 hx).1;rw [if_neg (by simp),BE,if_neg (by omega),Bj (show AA [((Ag a b n).1:Int),((Ag a b n).2:Int)]<=1048576 from (show 2<=1048576 by omega))];refine (Jy 1 rfl (x:=((Ag a b n).2:Int)) rfl).trans ((Jy 1 rfl (x:=((Ag a b n).2:Int)) rfl).trans ((Ef 1 rfl (x:=b) rfl).trans ((Ef 1 rfl (x:=((Ag a b n).2:Int)) rfl).trans ((Ef _ rfl hx).trans ?_))));rw [Ab (by omega),show lset [((Ag a b n).1:Int),((Ag a b n).2:Int)] 1 (((Ag a b n).2+1:Nat):Int)=[((Ag a b n).1:Int),(((Ag a b n).2+1:Nat):Int)] from rfl,JC va vb hia (by omega),AB,hpos];rfl
theorem Zz {n:Nat} (h:n<=a.length+b.length):GF (LP a b n)=some (((a.length+b.length-n:Nat):Int),0):=by
 obtain ⟨hI,hs⟩:=Ee va vb (n:=n) h;have la:=va.len;have lb:=vb.len;have ha:=hI.ia;have hb:=hI.jb;unfold GF;rw [show LP a b n=La a b (Ag a b n).1 (Ag a b n).2 from rfl,NM va vb hI,AB,AS,if_pos rfl];refine BF (x:=(0,((2,((a.length+b.length-n:Nat):Int)),()))) (Cb (s1:=(1,(a.length:Int)-((Ag a b n).1:Int))) (s2:=(2,((a.length+b.length-n:Nat):Int))) ?_ ?_ rfl) rfl
 ·refine (Nt 0 rfl rfl (x:=a) rfl).trans ((Ef 0 rfl (x:=((Ag a b n).1:Int)) rfl).trans ?_);simp only [AV,AQ];rw [show AH .i64 (0:Int) (a.length:Int)=(a.length:Int) by rw [D8 (by omega),Int.zero_add],B7 (by omega)];rfl
 ·refine (Nt 1 rfl rfl (x:=b) rfl).trans ((Ef 1 rfl (x:=((Ag a b n).2:Int)) rfl).trans ?_);simp only [AV,AQ];show some (LR.nx ((2:Int),B9 .i64 (AH .i64 ((a.length:Int)-((Ag a b n).1:Int)) (b.length:Int)) ((Ag a b n).2:Int)))=_;rw [D8 (by omega),B7 (by omega),show (a.length:Int)-((Ag a b n).1:Int)+(b.length:Int)-((Ag a b n).2:Int)=((a.length+b.length-n:Nat):Int) by omega]
theorem WV:Ei [a,b]=some (Ar a b (a.length+b.length),(HY a b (a.length+b.length),0)):=by
 have la:=va.len;have lb:=vb.len;unfold Ei;rw [LU va vb,AB,AS,if_pos rfl];refine Eq.trans (b:=bd (loop _ ([],([],([],(0,([],[0,0])))))) _) rfl ?_
 refine BF (x:=(0,((HY a b (a.length+b.length),(Ar a b (a.length+b.length),0)),())))
  (IZ (λk=>([],(Ar a b k,([],(0,(HY a b k,[((Ag a b k).1:Int),((Ag a b k).2:Int)])))))) 0 (a.length+b.length) rfl (by omega) (by omega) (λk _ hk => ?_) ?_) rfl
 ·obtain ⟨x,hx,_⟩:=Dv va vb (n:=k) hk;obtain ⟨hI,hs⟩:=Ee va vb (n:=k) (by omega);have hl1:(Ar a b k).length=k:=Ci va vb (by omega);have hl2:=NI a b k;simp only;rw [JB va vb hI.ia hI.jb,AB,if_neg (λhh:(Ag a b k).1=a.length/\(Ag a b k).2=b.length=>by omega)];rw [FY va vb hx];unfold Nm at hx;rw [show HY a b (k+1)=HY a b k++[(O0 a b k:Int)] from rfl];unfold O0;rw [show Ag a b (k+1)=if HK a b (Ag a b k).1 (Ag a b k).2=true then ((Ag a b k).1+1,(Ag a b k).2) else ((Ag a b k).1,(Ag a b k).2+1) from rfl]
  have g1 : ∀ {β:Type} (y:AD) (q:Unit->Option β),gd (BZ (A2 (AA (Ar a b k)) (AA [y])) 1048576) q=q ():=λy q=>Bj (by simp only [A2,AA,hl1,List.length_cons,List.length_nil];omega) q;have g2 : ∀ {β:Type} (y:Int) (q:Unit->Option β),gd (BZ (A2 (AA (HY a b k)) (AA [y])) 1048576) q=q ():=λy q=>Bj (by simp only [A2,AA,hl2,List.length_cons,List.length_nil];omega) q;cases g:HK a b (Ag a b k).1 (Ag a b k).2 with
  | true =>
   rw [g,if_pos rfl] at hx;have hi:=(List.getElem?_eq_some_iff.1 hx).1;simp only [if_true];rw [BE,if_neg (by omega)];refine (Ef 0 rfl (x:=a) rfl).trans ((Jy 0 rfl (x:=((Ag a b k).1:Int)) rfl).trans ((Ef _ rfl hx).trans ?_));rw [g1,g2];refine (Jy 0 rfl (x:=((Ag a b k).1:Int)) rfl).trans ((Jy 0 rfl (x:=((Ag a b k).1:Int)) rfl).trans ?_);rw [Ab (by omega)];rfl
  | false =>
   rw [g,if_neg (by simp)] at hx;have hi:=(List.getElem?_eq_some_iff.1 hx).1;simp only [Bool.false_eq_true,if_false];rw [BE,if_neg (by omega)];refine (Ef 1 rfl (x:=b) rfl).trans ((Jy 1 rfl (x:=((Ag a b k).2:Int)) rfl).trans ((Ef _ rfl hx).trans ?_));rw [g1,g2];refine (Jy 1 rfl (x:=((Ag a b k).2:Int)) rfl).trans ((Jy 1 rfl (x:=((Ag a b k).2:Int)) rfl).trans ?_);rw [Ab (by omega)];rfl
 ·obtain ⟨hI,hs⟩:=Ee va vb (n:=a.length+b.length) (Nat.le_refl _);simp only;rw [JB va vb hI.ia hI.jb,AB,if_pos (show (Ag a b (a.length+b.length)).1=a.length/\(Ag a b (a.length+b.length)).2=b.length by have:=hI.ia;have:=hI.jb;omega),BE,if_pos (by omega)]
end
theorem TK {s:Bt} (h1:s.2.1.length<=32) (h2:s.1=false->s.2.1=[]):FK s=some 0:=by
 unfold FK;rw [Aq,if_neg (by simp only [AV,I5];omega),Bf,Fo];cases h:s.1 with
 | true=>rfl
 | false=>rw [if_neg (by simp),Bf,EO,if_pos (h2 h)]
theorem U1 {s:Bt} {x:AD} (h1:s.2.1.length<=32) (h2:s.1=false->s.2.1=[]) (h3:kE x=0) (h4:s.1=true->CT x.1 s.2.1=false):GE (s,x)=some (keep s x,((true,(x.1,s.2.2)),0)):=by
 unfold GE keep;rw [TK h1 h2,AB,B3,if_pos rfl,MN,h3,AB,B3,if_pos rfl];obtain ⟨s1,s2,s3⟩:=s;obtain ⟨x1,x2,x3,x4⟩:=x;simp only at h4 ⊢;cases s1 with
 | true =>
  have:=h4 rfl;simp only [AM,F7,this,Bool.false_eq_true,if_false,AS,if_true,Bf,EO];by_cases he:x1=s2
  ·simp [he,Ap]
  ·simp only [he,if_false,decide_false];cases s3<;>cases x3<;>rfl
 | false =>
  simp only [Ap,AS,if_true,Bf];cases s3<;>cases x3<;>rfl
theorem U2 {l:List AD} {bt:Bool} (hl:l.length<=20000) (hr:NH (false,([],bt)) l):Ej (l,bt)=some (EV (false,([],bt)) l,(0,0)):=by
 unfold Ej C3;simp only [AV,AQ];rw [Aq,if_neg (by omega),AB]
 rw [DB (l:=l) (σ:=Bt×List AD) (s:=(0,(0,([],([],(0,(false,([],bt)))))))) (λk st=>((0:Int),((k:Int),(([]:List AD),(st.2,((0:Int),st.1))))))
  (λm k st=>NH st.1 m/\st.1.2.1.length<=32/\(st.1.1=false->st.1.2.1=[])/\st.2.length<=k/\k+m.length=l.length)
  (λm k st=>(1,((0,((l.length:Int),([],(st.2++EV st.1 m,(0,CQ st.1 m))))),()))) ((false,([],bt)),[]) rfl (by omega) ⟨hr,by simp,λ_=>rfl,by simp,by simp⟩ ?_ ?_,AB]
 ·simp;rfl
 ·intro st _;simp only;rw [re,Ap];simp [CQ,EV]
 ·rintro k x m ⟨s,out⟩ hm hx hk ⟨⟨h1,h2,h3⟩,h4,h5,h6,h7⟩;simp only at h1 h2 h3 h4 h5 h6 ⊢;refine ⟨((true,(x.1,s.2.2)),out++if keep s x=true then [x] else []),?_,⟨h3,O3 h1,(λh=>by cases h),?_,by simp at h7;omega⟩,?_⟩
  ·rw [rl hk,AM,AE,AJ hx,U1 h4 h5 h1 h2,AB,AS,if_pos rfl,Fo,AE,AJ hx];have hg : ∀ {β:Type} (k:Unit->Option β),gd (BZ (A2 out.length [x].length) 1048576) k=k ():=λk=>WR h6 (by simp at h7;omega) x k;rw [hg,Al hx (show l.length<=9223372036854775807 by omega)];cases hk2:keep s x<;>simp [CG]
  ·split<;>simp<;>omega
  ·simp only [CQ,EV,List.append_assoc]
section
variable {a b:List AD} (va:VL a) (vb:VL b)
include va vb
theorem QW (bt:Bool) {n:Nat} (h:n<=a.length+b.length):DC (Ar a b n,bt)=some (EV (s0 bt) (Ar a b n),CQ (s0 bt) (Ar a b n)):=by
 have la:=va.len;have lb:=vb.len;have hml:(Ar a b n).length=n:=Ci va vb h;unfold DC;simp only [AV,AQ];rw [U2 (by omega) (GZ va vb bt h),AB];unfold C3;rw [AB,Aq,hml];cases n with
 | zero=>rw [if_neg (by omega)];rfl
 | succ m =>
  obtain ⟨x,hx,_⟩:=Dv va vb (n:=m) (by omega);rw [if_pos (by omega),show B9 .i64 ((m+1:Nat):Int) 1=(m:Int) by rw [B7 (by omega)];omega,AE,AJ (x:=x) (by rw [IX va vb h (by omega)];exact hx),Jz va vb bt hx]
theorem TL (bt:Bool) {n:Nat} (h:n<=a.length+b.length):EA (Dk a b bt n)=some (n:Int):=by
 obtain ⟨hI,hs⟩:=Ee va vb (n:=n) h;have la:=va.len;have lb:=vb.len;unfold EA;refine BF (x:=(0,(((n:Int),2),()))) (Cb (s1:=(((Ag a b n).1:Int),1)) (s2:=((n:Int),2)) ?_ ?_ rfl) rfl
 ·refine (Nt 0 rfl rfl (x:=((Ag a b n).1:Int)) rfl).trans ?_;show some (LR.nx (AH .i64 0 ((Ag a b n).1:Int),(1:Int)))=_;rw [D8 (by omega),Int.zero_add]
 ·refine (Nt 1 rfl rfl (x:=((Ag a b n).2:Int)) rfl).trans ?_;show some (LR.nx (AH .i64 ((Ag a b n).1:Int) ((Ag a b n).2:Int),(2:Int)))=_;rw [D8 (by omega),show ((Ag a b n).1:Int)+((Ag a b n).2:Int)=(n:Int) by omega]
theorem TM (bt:Bool) {n:Nat} (h:n<=a.length+b.length):FL (Dk a b bt n)=some 0:=by
 obtain ⟨hI,hs⟩:=Ee va vb (n:=n) h;have la:=va.len;have lb:=vb.len;have hfl:=IY (s0 bt) (Ar a b n);have hml:(Ar a b n).length=n:=Ci va vb h;unfold FL;rw [show (Dk a b bt n).1=La a b (Ag a b n).1 (Ag a b n).2 from rfl,NM va vb hI,AB,AS,if_pos rfl,TL va vb bt h,AB];simp only [AV,AQ];rw [show (Dk a b bt n).2.2.1=EV (s0 bt) (Ar a b n) from rfl,show (Dk a b bt n).2.2.2=(n:Int) from rfl,show (Dk a b bt n).2.1=CQ (s0 bt) (Ar a b n) from rfl,Aq,if_neg (by omega),Aq,if_neg (by omega),AS,if_pos rfl];rw [show (La a b (Ag a b n).1 (Ag a b n).2).1=[a,b] from rfl,WV va vb,AB,AE];rw [Bj (by rw [Ci va vb (Nat.le_refl _)];exact h),Bj (Nat.zero_le _)];rw [show Cs (Ar a b (a.length+b.length)) 0 n=Ar a b n from by unfold Cs;rw [List.drop_zero,Nat.sub_zero];exact G6 va vb h,F9];rw [show (s0 bt).2.2=bt from rfl,QW va vb bt h,AB,Gn,GA _ _ (by omega),AB,CW,Cn,if_neg (by simp),F9,HD,HD,I6];rfl
theorem LV (bt:Bool) {n:Nat} (h:n<=a.length+b.length):A7 (Dk a b bt n)=some (((a.length+b.length-n:Nat):Int),0):=by
 unfold A7;rw [TM va vb bt h,AB,AS,if_pos rfl,show (Dk a b bt n).1=LP a b n from rfl,Zz va vb h];rfl
theorem U3 (bt:Bool) {n:Nat} (h:n<=a.length+b.length) {k:Nat}:BJ (Dk a b bt n,(k:Int))=some (Dk a b bt (n+min k (a.length+b.length-n)),(((min k (a.length+b.length-n):Nat):Int),0)):=by
 have la:=va.len;have lb:=vb.len;obtain ⟨u,hu⟩ : ∃ u,u=min k (a.length+b.length-n):=⟨_,rfl⟩
 have him:Nf (k:Int) ((a.length+b.length-n:Nat):Int)=(u:Int):=by
  unfold Nf;split<;>omega
 rw [<- hu];unfold BJ;rw [LV va vb bt h,AB,B3,if_pos rfl];simp only [him,AV,AQ];rw [BE,if_neg (by omega),AS,if_pos rfl,TL va vb bt h,AB,D8 (by omega),Aq,if_neg (by omega)]
 refine BF (x:=(0,(((u:Int),((LP a b (n+u)).1,((LP a b (n+u)).2.1,((LP a b (n+u)).2.2.1,((LP a b (n+u)).2.2.2.1,((LP a b (n+u)).2.2.2.2,((Dk a b bt n).2.1.1,((Dk a b bt n).2.1.2.1,((Dk a b bt n).2.1.2.2,(Dk a b bt n).2.2))))))))),())))
  (IZ (λj=>((j:Int),((LP a b (n+j)).1,((LP a b (n+j)).2.1,((LP a b (n+j)).2.2.1,((LP a b (n+j)).2.2.2.1,((LP a b (n+j)).2.2.2.2,((Dk a b bt n).2.1.1,((Dk a b bt n).2.1.2.1,((Dk a b bt n).2.1.2.2,(Dk a b bt n).2.2)))))))))) 0 u rfl (by omega) (by omega) (λj _ hj => ?_) ?_) ?_
 ·obtain ⟨y,hy,_⟩:=Dv va vb (n:=n+j) (by omega);show br (Am (j:Int) (u:Int)) _ _=_;rw [BE,if_pos (by omega)];show bd (EB (LP a b (n+j))) _=_;rw [Zy va vb (by omega) hy,AB,Ab (by omega)];rfl
 ·show br (Am (u:Int) (u:Int)) _ _=_;rw [BE,if_neg (by omega)]
 ·rw [show (Dk a b bt n).1.1=[a,b] from rfl,WV va vb,AB,show (Dk a b bt n).2.2.2=(n:Int) from rfl,show AH .i64 (n:Int) (u:Int)=((n+u:Nat):Int) by rw [D8 (by omega)];omega,AE];rw [Bj (by rw [Ci va vb (Nat.le_refl _)];omega),Bj (Nat.zero_le _)];rw [show Cs (Ar a b (a.length+b.length)) 0 (n+u)=Ar a b (n+u) from by unfold Cs;rw [List.drop_zero,Nat.sub_zero];exact G6 va vb (by omega),show (Dk a b bt n).2.1.2.2=bt from F9 _ _,QW va vb bt (by omega),AB];rfl
end
end Go.Proofs.YthpkjfabdccpdaaGreat.Pl
namespace Go.Proofs.YthpkjfabdccpdaaGreat.Pl
open Go Go.Proofs.YthpkjfabdccpdaaGreat.Sv
theorem QX (B:Int) (i:Nat):B4 B (i+1)=2*B4 B i:=by
 unfold B4;rw [Int.pow_succ,<- Int.mul_assoc,Int.mul_comm]
theorem TN {B:Int} {i:Nat} (h1:1<=B) (h2:B<=16) (hi:i<=12):Ct (B,(i:Int))=some (B4 B i):=by
 unfold Ct;refine BF (x:=(0,((B4 B i,(i:Int)),()))) (Oy (λk=>(B4 B k,(k:Int))) i (by simp [B4]) (by omega) (λk hk => ?_) ?_) rfl
 ·have h3:=TF h1 h2 (show k<=12 by omega);simp only;rw [BE,if_pos (by omega),f9 (by omega),Ab (by omega),QX]
 ·simp only;rw [BE,if_neg (by omega)]
theorem gI (r:BH) (hl:r.2.length<=9223372036854775807):FH r=some (if r.1<1\/r.1>1000000 then (-1,7) else FA r.2):=by
 unfold FH;rw [BE,Aq,Gb _ hl,AB];by_cases h:r.1<1
 ·rw [if_pos h,if_pos (.inl h)]
 ·rw [if_neg h];by_cases h2:r.1>1000000
  ·rw [if_pos h2,if_pos (.inr h2)]
  ·rw [if_neg h2,if_neg (by omega)]
theorem TP (r:BH) (most:Int) (ids:List Int) (hl:r.2.length<=9223372036854775807) (hi:ids.length<=1048576):Cu (r,(most,ids))=some (kR ids most r):=by
 unfold Cu kR;rw [gI r (by omega),AB];simp only [AV,AQ];by_cases h:r.1<1\/r.1>1000000
 ·rw [if_pos h,if_pos h];rfl
 rw [if_neg h,if_neg h,AS];by_cases h2:(FA r.2).2=0;rotate_left
 ·rw [if_neg h2,if_pos h2]
 rw [if_pos h2,if_neg (show ¬ (FA r.2).2≠0 by simp [h2]),B3,Aq];by_cases h3:r.2.length=0
 ·rw [if_pos (by omega),if_pos h3]
 rw [if_neg (by omega),if_neg h3];by_cases h4:(r.2.length:Int)>most
 ·rw [if_pos h4,if_pos h4]
 rw [if_neg h4,if_neg h4]
 obtain ⟨q,q1,q2⟩:=FB (l:=ids) (σ:=Unit) (s:=((0:Int),(0:Int))) (λk _=>((k:Int),(0:Int))) (λm k _=>r.1∈ids<->r.1∈m) (λ(q:Nat×((Int×Int)×Unit))=>(q.1=1/\r.1 ∉ ids)\/(q.1=0/\r.1∈ids/\q.2.1.2=8))
  (f:=λs1=>br (Am s1.1 (ids.length:Int)) (λ_=>AU s1.1 λk2=>ix ids k2 λx3=>br (Ba x3 r.1) (λ_=>some (.dn ((0,((s1.1,8),()))))) λ_=>some (.nx (AH .i64 s1.1 1,s1.2))) λ_=>some (.dn ((1,(s1,())))))
  () rfl (by omega) Iff.rfl (λ_ h=>⟨_,by simp only;rw [re];rfl,.inl ⟨rfl,by simpa using h⟩⟩) (λk x m _ hd hx hk h=>by
   simp only;rw [rl hk,AM,AE,AJ hx,B3];by_cases e:x=r.1
   ·rw [if_pos e];exact .inr ⟨_,rfl,.inr ⟨rfl,by rw [h,e];simp,rfl⟩⟩
   ·rw [if_neg e];exact .inl ⟨(),by rw [Al hx (by omega)],by rw [h,List.mem_cons];exact ⟨λu=>u.elim (λe2=>absurd e2.symm e) id,.inr⟩⟩)
 refine BF q1 ?_;rw [CH];rcases q2 with ⟨q2,q3⟩ | ⟨q2,q3,q4⟩
 ·rw [if_neg (show ¬ q.1=0 by omega),if_neg q3]
 ·rw [if_pos q2,if_pos q3,q4]
theorem U4 (L:AK) (hb:L.2.length<=1048576) (hr : ∀ rs∈L.2,rs.length<=1048576 /\ ∀ r∈rs,r.2.length<=9223372036854775807):CB L=some (DI L):=by
 unfold CB DI;simp only [AV,AQ];rw [BE,Aq,Aq];by_cases hB1:L.1<1
 ·rw [if_pos hB1,if_pos (.inl hB1)]
 rw [if_neg hB1];by_cases hB2:L.1>16
 ·rw [if_pos hB2,if_pos (.inr hB2)]
 rw [if_neg hB2,if_neg (show ¬ (L.1<1\/L.1>16) by omega)];by_cases hl:(L.2.length:Int)>12
 ·rw [if_pos hl,if_pos (by omega)]
 rw [if_neg hl,if_neg (by omega)];have hl2:L.2.length<=12:=by omega
 obtain ⟨T,hT⟩ : ∃ T,T=JA L.1 0 [] L.2:=⟨_,rfl⟩;rw [<- hT]
 have hlast:T=none->(br (CF (L.2.length:Int) 0) (λ_=>AU (B9 .i64 (L.2.length:Int) 1) λk15=>ix L.2 k15 λx16=>br (Ba (x16.length:Int) 0) (λ_=>some ((B9 .i64 (L.2.length:Int) 1,((0:Int),(6:Int))))) λ_=>some ((0,(0,0)))) λ_=>some ((0,(0,0))))=some (if L.2.getLast? = some [] then (((L.2.length-1:Nat):Int),(0,6)) else (0,(0,0))):=by
  intro _;rw [Aq];by_cases hn:L.2=[]
  ·rw [hn];rfl
  ·have hp:=List.length_pos_iff.2 hn;rw [if_pos (by omega),show B9 .i64 (L.2.length:Int) 1=((L.2.length-1:Nat):Int) by rw [B7 (by omega)];omega,AE,List.getLast?_eq_getElem?];have hx:L.2[L.2.length-1]? = some (L.2[L.2.length-1]'(by omega)):=by simp
   rw [AJ hx,hx,B3];by_cases he:L.2[L.2.length-1]'(by omega)=[]
   ·rw [he];simp
   ·rw [if_neg (by have:=List.length_pos_iff.2 he;omega),if_neg (by simp [he])]
 obtain ⟨r,q1,q2⟩:=FB (l:=L.2) (σ:=List Int) (s:=((0:Int),(([]:List Int),((0:Int),((0:Int),(0:Int)))))) (λi ids=>((0:Int),(ids,((0:Int),((0:Int),(i:Int))))))
  (λm i ids=>JA L.1 i ids m=T/\ids.length<=2*i) (λ(r:Nat×((Int×(List Int×(Int×(Int×Int))))×Unit))=>(r.1=1/\T=none)\/(r.1=0/\Q1 T r.2.1.1 r.2.1.2.2.1 r.2.1.2.2.2.1/\T≠none))
  (f:=λ(s0:(Int×((List Int)×(Int×(Int×Int)))))=>br (Am s0.2.2.2.2 (L.2.length:Int)) (λ_=>AU s0.2.2.2.2 λk1=>ix L.2 k1 λx2=>br (CF (x2.length:Int) 2) (λ_=>some (.dn ((0,((0,(s0.2.1,(s0.2.2.2.2,(3,s0.2.2.2.2)))),()))))) λ_=>bd (loop (λ(s3:(Int×((List Int)×(Int×(Int×Int)))))=>br (Am s3.2.2.2.2 (x2.length:Int)) (λ_=>AU s3.2.2.2.2 λk4=>ix x2 k4 λx5=>bd (Ct (L.1,s0.2.2.2.2)) λr6=>bd (Cu ((x5,(r6,s3.2.1)))) λr7=>br (BC r7 0) (λ_=>some (.dn ((0,((s3.2.2.2.2,(s3.2.1,(s0.2.2.2.2,(r7,s3.2.2.2.2)))),()))))) λ_=>AU s3.2.2.2.2 λk8=>ix x2 k8 λx9=>gd (BZ (A2 s3.2.1.length [x9.1].length) 1048576) λ_=>some (.nx ((s3.1,(CG s3.2.1 [x9.1],(s3.2.2.1,(s3.2.2.2.1,AH .i64 s3.2.2.2.2 1))))))) λ_=>some (.dn ((1,(s3,()))))) ((s0.1,(s0.2.1,(s0.2.2.1,(s0.2.2.2.1,0)))))) λr10=>br (neq r10.1 0) (λ_=>some (.dn ((0,((r10.2.1.1,(r10.2.1.2.1,(r10.2.1.2.2.1,(r10.2.1.2.2.2.1,s0.2.2.2.2)))),()))))) λ_=>some (.nx ((r10.2.1.1,(r10.2.1.2.1,(r10.2.1.2.2.1,(r10.2.1.2.2.2.1,AH .i64 s0.2.2.2.2 1))))))) λ_=>some (.dn ((1,(s0,())))))
  [] rfl (by omega) ⟨hT.symm,by simp⟩ (λids h=>by
   refine ⟨_,by simp only;rw [re];rfl,.inl ⟨rfl,?_⟩⟩;rw [<- h.1];rfl) (λi rs m ids hd hx hi h=>by
   obtain ⟨h,hids⟩:=h;simp only;obtain ⟨hrs1,hrs2⟩:=hr rs (List.mem_of_getElem? hx);rw [rl hi,AM,AE,AJ hx,Aq];unfold JA at h;by_cases h3:rs.length>2
   ·rw [if_pos (by omega)];rw [if_pos h3] at h;refine .inr ⟨_,rfl,.inr ⟨rfl,?_,by rw [<- h];simp⟩⟩;rw [<- h];exact ⟨rfl,rfl,rfl⟩
   rw [if_neg (by omega)];rw [if_neg h3] at h;obtain ⟨U,hU⟩ : ∃ U,U=I9 (B4 L.1 i) 0 ids rs:=⟨_,rfl⟩;rw [<- hU] at h
   obtain ⟨r,q1,q2⟩:=FB (l:=rs) (σ:=Unit) (s:=((0:Int),(ids,((0:Int),((0:Int),(0:Int)))))) (λk _=>((0:Int),(ids++(rs.take k).map (·.1),((0:Int),((0:Int),(k:Int))))))
    (λm k _=>I9 (B4 L.1 i) k (ids++(rs.take k).map (·.1)) m=U) (λ(r:Nat×((Int×(List Int×(Int×(Int×Int))))×Unit))=>(r.1=1/\U=none/\r.2.1=(0,(ids++rs.map (·.1),(0,(0,(rs.length:Int))))))\/(r.1=0 /\ ∃ k e,U=some (k,e)/\r.2.1.1=(k:Int)/\r.2.1.2.2.1=(i:Int)/\r.2.1.2.2.2.1=e))
    (f:=λ(s3:(Int×((List Int)×(Int×(Int×Int)))))=>br (Am s3.2.2.2.2 (rs.length:Int)) (λ_=>AU s3.2.2.2.2 λk4=>ix rs k4 λx5=>bd (Ct (L.1,(i:Int))) λr6=>bd (Cu ((x5,(r6,s3.2.1)))) λr7=>br (BC r7 0) (λ_=>some (.dn ((0,((s3.2.2.2.2,(s3.2.1,((i:Int),(r7,s3.2.2.2.2)))),()))))) λ_=>AU s3.2.2.2.2 λk8=>ix rs k8 λx9=>gd (BZ (A2 s3.2.1.length [x9.1].length) 1048576) λ_=>some (.nx ((s3.1,(CG s3.2.1 [x9.1],(s3.2.2.1,(s3.2.2.2.1,AH .i64 s3.2.2.2.2 1))))))) λ_=>some (.dn ((1,(s3,())))))
    () (by simp) (by omega) (by simp [hU]) (λ_ h=>by
     refine ⟨_,by simp only;rw [re];rfl,.inl ⟨rfl,by rw [<- h];rfl,by simp⟩⟩) (λk r m _ hd hx hk h=>by
     simp only;have hr2:=hrs2 r (List.mem_of_getElem? hx);have htk:(rs.take (k+1)).map (·.1)=(rs.take k).map (·.1)++[r.1]:=by rw [List.take_add_one,hx];simp
     have hlen:(ids++(rs.take k).map (·.1)).length<=100:=by simp;omega
     rw [rl hk,AM,AE,AJ hx,TN (by omega) (by omega) (by omega),AB,TP _ _ _ (by omega) (by omega),AB,AS];unfold I9 at h;by_cases h0:kR (ids++(rs.take k).map (·.1)) (B4 L.1 i) r=0
     ·rw [if_neg (λhh:kR (ids++(rs.take k).map (·.1)) (B4 L.1 i) r≠0=>hh h0)] at h;rw [if_pos h0,AE,AJ hx,Bj (by simp only [A2,List.length_cons,List.length_nil];omega)];refine .inl ⟨(),?_,?_⟩
      ·rw [Al hx (by omega),htk,<- List.append_assoc];rfl
      ·rw [htk,<- List.append_assoc];exact h
     ·rw [if_pos h0] at h;rw [if_neg h0]
      exact .inr ⟨_,rfl,.inr ⟨rfl,_,_,h.symm,rfl,rfl,rfl⟩⟩)
   rw [q1,AB,CH];rcases q2 with ⟨q2,q3,q4⟩ | ⟨q2,k,e,q3,q4,q5,q6⟩
   ·rw [if_neg (show ¬ r.1=0 by omega),q4,Al hx (by omega)];rw [q3] at h;exact .inl ⟨ids++rs.map (·.1),rfl,h,by simp;omega⟩
   ·rw [if_pos q2];rw [q3] at h;refine .inr ⟨_,rfl,.inr ⟨rfl,?_,by rw [<- h];simp⟩⟩;rw [<- h]
    exact ⟨q4,q5,q6⟩)
 refine BF q1 ?_;rw [CH];rcases q2 with ⟨q2,q3⟩ | ⟨q2,q3,q4⟩
 ·rw [if_neg (show ¬ r.1=0 by omega),q3];exact hlast q3
 ·rw [if_pos q2];cases hTc:T with
  | none=>exact absurd hTc q4
  | some t =>
   obtain ⟨i,k,e⟩:=t;rw [hTc] at q3;rw [q3.1,q3.2.1,q3.2.2]
def BT (ls:List (List BH)):List BH:=ls.flatMap List.reverse
theorem VLev.small {L:AK} (v:VLev L):L.2.length<=1048576 /\ ∀ rs∈L.2,rs.length<=1048576 /\ ∀ r∈rs,r.2.length<=9223372036854775807:=by
 refine ⟨by have:=v.len;omega,λrs hrs => ?_⟩;obtain ⟨i,hi⟩:=List.getElem?_of_mem hrs;obtain ⟨h1,h2⟩:=v.lev i rs hi;exact ⟨by omega,λr hr=>by have:=(h2 r hr).vl.len;omega⟩
theorem J0 : ∀ (ls:List (List BH)),(∀ rs∈ls,rs.length<=2)->(BT ls).length<=2*ls.length
 | [],_=>by simp [BT]
 | rs::ls,h=>by
  have h1:=J0 ls λr hr=>h r (by simp [hr]);have h2:=h rs (by simp);unfold BT at h1 ⊢;rw [List.flatMap_cons,List.length_append,List.length_reverse,List.length_cons];omega
theorem VLev.two {L:AK} (v:VLev L) : ∀ rs∈L.2,rs.length<=2:=λrs hrs=>by
 obtain ⟨i,hi⟩:=List.getElem?_of_mem hrs;exact (v.lev i rs hi).1
theorem PA {L:AK} (v:VLev L):Dx L=some (BT L.2,0):=by
 obtain ⟨hb,hr⟩:=v.small;have hl:=v.len;unfold Dx;simp only [AV,AQ];rw [U4 _ hb hr,HE v,AB,AS,if_pos rfl]
 rw [DB (l:=L.2) (σ:=List BH) (s:=(([]:List BH),(0:Int))) (λi m=>(m,(i:Int))) (λls i m=>(∀ rs∈ls,rs.length<=2)/\m.length<=2*i) (λls _ m=>(0,((m++BT ls,(L.2.length:Int)),()))) [] rfl (by omega) ⟨v.two,by simp⟩ (λm _=>by
  simp only;rw [re,Ap];simp [BT]) (λi rs ls m hd hx hi h=>by
   refine ⟨m++rs.reverse,?_,⟨λr hr=>h.1 r (by simp [hr]),by have:=h.1 rs (by simp);simp;omega⟩,by simp [BT]⟩;have h2:=h.1 rs (by simp);have hm:m.length<=24:=by have:=h.2;omega
   simp only;rw [rl hi,AM,AE,AJ hx];have gg : ∀ {β:Type} (z:List BH) (x:BH) (k:Unit->Option β),z.length<=100->gd (BZ (A2 z.length [x].length) 1048576) k=k ():=λz x k hz=>Bj (by simp only [A2,List.length_cons,List.length_nil];omega) k
   match rs,h2,hx with
   | [],_,hx =>
    refine BF (x:=(0,((m,-1),()))) (Ch (n:=1) (by omega) (BV rfl)) ?_;rw [Al hx (by omega)];simp
   | [r0],_,hx =>
    refine BF (x:=(0,((m++[r0],-1),()))) (Ch (n:=2) (by omega) ((BG (s':=(m++[r0],-1)) ?_).trans (BV rfl))) ?_
    ·show br (Hj (0:Int) 0) _ _=_;rw [Fe,if_pos (by omega),AE,AJ hx];refine (Ef 0 rfl (x:=r0) rfl).trans ?_;rw [gg m _ _ (by omega)];rfl
    ·rw [Al hx (by omega)];simp
   | [r0,r1],_,hx =>
    refine BF (x:=(0,((m++[r1]++[r0],-1),()))) (Ch (n:=3) (by omega) ((BG (s':=(m++[r1],0)) ?_).trans ((BG (s':=(m++[r1]++[r0],-1)) ?_).trans (BV rfl)))) ?_
    ·show br (Hj (1:Int) 0) _ _=_;rw [Fe,if_pos (by omega),AE,AJ hx];refine (Ef 1 rfl (x:=r1) rfl).trans ?_;rw [gg m _ _ (by omega)];rfl
    ·show br (Hj (0:Int) 0) _ _=_;rw [Fe,if_pos (by omega),AE,AJ hx];refine (Ef 0 rfl (x:=r0) rfl).trans ?_;rw [gg (m++[r1]) _ _ (by simp;omega)];rfl
    ·rw [Al hx (by omega)];simp),AB]
 simp
theorem GH (a b:Int):KN a b=max a b:=by unfold KN;split<;>omega
theorem FM : ∀ (l:List BH) (m:Int),0<=m->l.foldl (λm r=>KN m r.1) m=max m (l.foldl (λm r=>KN m r.1) 0)
 | [],m,h=>by simp;omega
 | r::l,m,h=>by
  have h1:=FM l (KN m r.1) (by rw [GH];omega);have h2:=FM l (KN 0 r.1) (by rw [GH];omega);simp only [List.foldl_cons];rw [h1,h2,GH,GH];omega
theorem Pk (l:List BH) (m:Int) (h:0<=m):l.reverse.foldl (λm r=>KN m r.1) m=l.foldl (λm r=>KN m r.1) m:=by
 induction l generalizing m with
 | nil=>rfl
 | cons r l ih =>
  rw [List.reverse_cons,List.foldl_append,ih m h,List.foldl_cons];simp only [List.foldl_cons,List.foldl_nil];rw [FM l m h,FM l (KN m r.1) (by rw [GH];omega),GH,GH];omega
theorem Ro (l:List BH) (m:Int) (h:0<=m):0<=l.foldl (λm r=>KN m r.1) m:=by
 rw [FM l m h];omega
theorem JN : ∀ (ls:List (List BH)) (m:Int),0<=m->(BT ls).foldl (λm r=>KN m r.1) m=ls.foldl (λm rs=>rs.foldl (λm r=>KN m r.1) m) m
 | [],m,_=>rfl
 | rs::ls,m,h=>by
  have h1:=JN ls (rs.foldl (λm r=>KN m r.1) m) (Ro _ _ h);unfold BT at h1 ⊢;rw [List.flatMap_cons,List.foldl_append,Pk rs m h,List.foldl_cons,h1]
theorem MO {L:AK} (v:VLev L):CP L=some (EL L.2):=by
 have hl:=v.len;have hn:=J0 L.2 v.two;unfold CP;simp only [AV,AQ];rw [PA v,AB]
 rw [DB (l:=BT L.2) (σ:=Int) (s:=((0:Int),(0:Int))) (λi m=>(m,(i:Int))) (λ_ _ _=>True) (λl _ m=>(0,((l.foldl (λm r=>KN m r.1) m,((BT L.2).length:Int)),()))) 0 rfl (by omega) trivial (λm _=>by
  simp only;rw [re,Ap];rfl) (λk r l m hd hx hk _=>⟨KN m r.1,by
   simp only
   rw [rl hk,AM,AE,AJ hx,Al hx (by omega)],trivial,rfl⟩),AB]
 rw [JN _ _ (by omega)];rfl
theorem WW {L:AK} (hl:L.2.length<=1000):DU L=some (A5 0 L.2):=by
 unfold DU;simp only [AV,AQ]
 rw [DB (l:=L.2) (σ:=List Int) (s:=(([]:List Int),(0:Int))) (λi m=>(m,(i:Int))) (λls i m=>m++A5 i ls=A5 0 L.2) (λ_ _ _=>(0,((A5 0 L.2,(L.2.length:Int)),()))) [] rfl (by omega) rfl (λm h=>by
  simp only;rw [re,Ap,<- h];simp [A5]) (λi rs ls m hd hx hi h=>by
   refine ⟨m++(if rs.length=2 then [(i:Int)] else []),?_,?_,rfl⟩
   ·simp only;rw [rl hi,AM,AE,AJ hx,B3]
    have hm:m.length<=1000:=by
     have h4:=congrArg List.length h;have h5:=Fg L.2 0;rw [List.length_append] at h4;omega
    by_cases h4:rs.length=2
    ·rw [if_pos (by omega),if_pos h4,Bj (by simp only [A2,List.length_cons,List.length_nil];omega),Al hx (by omega)];rfl
    ·rw [if_neg (by omega),if_neg h4,List.append_nil,Al hx (by omega)]
   ·rw [List.append_assoc];exact h),AB]
theorem ij {L:AK} (v:VLev L) (k:Int):Ha (L,k)=some (if k<0\/k>=12 then 7 else 0):=by
 obtain ⟨hb,hr⟩:=v.small;unfold Ha;rw [U4 _ hb hr,HE v,AB,B3,if_pos rfl,BE,Fe];by_cases h1:k<0
 ·rw [if_pos h1,if_pos (.inl h1)]
 ·rw [if_neg h1];by_cases h2:k>=12
  ·rw [if_pos h2,if_pos (.inr h2)]
  ·rw [if_neg h2,if_neg (by omega)]
theorem PB {L:AK} (v:VLev L) {n:Nat} (hn:n<L.2.length):Bp (L,(n:Int))=some (decide ((n:Int)=(L.2.length:Int)-1)):=by
 have hl:=v.len;unfold Bp Gl;simp only [AV,AQ];rw [ij v,AB,if_neg (by omega),AS,if_pos rfl,AB,Ab (by omega)];unfold CF;rw [CW];by_cases h:(n:Int)=(L.2.length:Int)-1
 ·simp [h]
 ·simp [h];omega
theorem U5 {a b:List AD} (va:VL a) (vb:VL b) (bt:Bool):FJ ([a,b],bt)=some (Dk a b bt 0,(0,0)):=by
 unfold FJ Gm C3;rw [LU va vb,AB,AS,if_pos rfl];refine Eq.trans (b:=bd (bd (C2 ([a,b],[((0:Nat):Int),((0:Nat):Int)])) _) _) rfl ?_;rw [JC va vb (Nat.zero_le _) (Nat.zero_le _)];rfl
theorem Xe {L:AK} {n:Nat} {r0 r1:BH} (bt:Bool) (h:L.2[n]? = some [r0,r1]) (v0:VL r0.2) (v1:VL r1.2):A0 (L,((n:Int),bt))=some ((n:Int),Dk r1.2 r0.2 bt 0):=by
 have hn:=(List.getElem?_eq_some_iff.1 h).1;unfold A0;simp only [AV,AQ];rw [Fe,if_neg (by omega),AE,AJ h,AJ (x:=r1) rfl,AJ (x:=r0) rfl,U5 v1 v0];rfl
theorem WX {L:AK} {n:Nat} {r0 r1:BH} {j:Job} (h:L.2[n]? = some [r0,r1]) (v0:VL r0.2) (v1:VL r1.2) {β:Type} (A B:Option β) :
  (bd (A0 (L,((n:Int),j.2.2.1.2.2))) λr16=>bd (A7 r16.2) λr17=>br (Am j.2.2.2.2 0) (λ_=>A) λ_=>br (CF j.2.2.2.2 r17.1) (λ_=>A) λ_=>bd (BJ (r16.2,j.2.2.2.2)) λr18=>bd (BK (r18.1,j.2)) λr19=>br (AX r19) (λ_=>A) λ_=>B)
  = if j.2.2.2.2<0\/j.2.2.2.2>((r1.2.length+r0.2.length:Nat):Int) then A else if Dk r1.2 r0.2 j.2.2.1.2.2 j.2.2.2.2.toNat=j.2 then B else A:=by
 rw [Xe _ h v0 v1,AB,LV v1 v0 _ (Nat.zero_le _),AB,BE,Aq,Nat.sub_zero];by_cases h1:j.2.2.2.2<0
 ·rw [if_pos h1,if_pos (.inl h1)]
 rw [if_neg h1];by_cases h2:j.2.2.2.2>((r1.2.length+r0.2.length:Nat):Int)
 ·rw [if_pos h2,if_pos (.inr h2)]
 rw [if_neg h2,if_neg (show ¬ (j.2.2.2.2<0\/j.2.2.2.2>((r1.2.length+r0.2.length:Nat):Int)) by omega)];obtain ⟨k,hk⟩ : ∃ k:Nat,j.2.2.2.2=(k:Int):=⟨j.2.2.2.2.toNat,by omega⟩;rw [hk,U3 v1 v0 _ (Nat.zero_le _),AB,Nat.sub_zero,Nat.zero_add,Nat.min_eq_left (by omega),Int.toNat_natCast];obtain ⟨s1,s2,s3,s4,s5,s6⟩:=QV v1 v0 j.2.2.1.2.2 (n:=k) (by omega);rw [U0 _ _ s1 s2 s3 s4 s5 s6,AB,CW,Cn];by_cases he:Dk r1.2 r0.2 j.2.2.1.2.2 k=j.2
 ·rw [if_neg (by simp [he]),if_pos he]
 ·rw [if_pos he,if_neg he]
end Go.Proofs.YthpkjfabdccpdaaGreat.Pl
namespace Go.Proofs.YthpkjfabdccpdaaGreat.Pl
open Go Go.Proofs.YthpkjfabdccpdaaGreat.Sv
theorem TQ (s:AT) (hb:s.1.2.length<=1048576) (hr : ∀ rs∈s.1.2,rs.length<=1048576 /\ ∀ r∈rs,r.2.length<=9223372036854775807) (hj:s.2.1.length<=1048576):CX s=some (BB s):=by
 unfold CX BB;simp only [AV,AQ];rw [U4 _ hb hr,AB,B3];by_cases h0:(DI s.1).2.2=0;rotate_left
 ·rw [if_neg h0,if_pos h0,B3,if_neg h0,AS,if_neg h0]
 rw [if_pos h0,if_neg (show ¬ (DI s.1).2.2≠0 by simp [h0]),BE,Aq];have v:=Ff.1 h0;by_cases h1:s.2.2<1
 ·rw [if_pos h1,if_pos (.inl h1)]
 rw [if_neg h1];by_cases h2:s.2.2>1000001
 ·rw [if_pos h2,if_pos (.inr h2)]
 rw [if_neg h2,if_neg (show ¬ (s.2.2<1\/s.2.2>1000001) by omega),B3,if_pos h0,MO v,AB,Zj];by_cases h3:s.2.2<=EL s.1.2
 ·rw [if_pos h3,if_pos h3]
 rw [if_neg h3,if_neg h3,AS,if_pos h0,WW (by have:=v.len;omega),AB];obtain ⟨due,hdue⟩ : ∃ due,due=A5 0 s.1.2:=⟨_,rfl⟩;have hdl:due.length<=12:=by have:=Fg s.1.2 0;have:=v.len;rw [hdue];omega
 rw [<- hdue];obtain ⟨T,hT⟩ : ∃ T,T=Dw s.1 due 0 s.2.1:=⟨_,rfl⟩;rw [<- hT]
 obtain ⟨r,q1,q2⟩:=FB (l:=s.2.1) (σ:=Unit) (λi _=>((0:Int),((0:Int),(i:Int)))) (λjs i _=>Dw s.1 due i js=T) (λ(r:Nat×((Int×(Int×Int))×Unit))=>(T=none/\r.1=1)\/(∃ i:Nat,T=some i/\r.1=0/\r.2.1.1=6/\r.2.1.2.1=(i:Int)))
  (f:=λs6=>br (Am s6.2.2 (s.2.1.length:Int)) (λ_=>AU s6.2.2 λk7=>ix s.2.1 k7 λx8=>br (Hj s6.2.2 (due.length:Int)) (λ_=>some (.dn ((0,((6,(s6.2.2,s6.2.2)),()))))) λ_=>AU s6.2.2 λk9=>ix due k9 λx10=>br (BC x8.1 x10) (λ_=>some (.dn ((0,((6,(s6.2.2,s6.2.2)),()))))) λ_=>br x8.2.2.1.2.2 (λ_=>bd (Bp (s.1,x8.1)) λr11=>br (AX r11) (λ_=>some (.dn ((0,((6,(s6.2.2,s6.2.2)),()))))) λ_=>bd (A0 ((s.1,(x8.1,x8.2.2.1.2.2)))) λr12=>bd (A7 r12.2) λr13=>br (Am x8.2.2.2.2 0) (λ_=>some (.dn ((0,((6,(s6.2.2,s6.2.2)),()))))) λ_=>br (CF x8.2.2.2.2 r13.1) (λ_=>some (.dn ((0,((6,(s6.2.2,s6.2.2)),()))))) λ_=>bd (BJ (r12.2,x8.2.2.2.2)) λr14=>bd (BK (r14.1,x8.2)) λr15=>br (AX r15) (λ_=>some (.dn ((0,((6,(s6.2.2,s6.2.2)),()))))) λ_=>some (.nx ((s6.1,(s6.2.1,AH .i64 s6.2.2 1))))) λ_=>bd (A0 ((s.1,(x8.1,x8.2.2.1.2.2)))) λr16=>bd (A7 r16.2) λr17=>br (Am x8.2.2.2.2 0) (λ_=>some (.dn ((0,((6,(s6.2.2,s6.2.2)),()))))) λ_=>br (CF x8.2.2.2.2 r17.1) (λ_=>some (.dn ((0,((6,(s6.2.2,s6.2.2)),()))))) λ_=>bd (BJ (r16.2,x8.2.2.2.2)) λr18=>bd (BK (r18.1,x8.2)) λr19=>br (AX r19) (λ_=>some (.dn ((0,((6,(s6.2.2,s6.2.2)),()))))) λ_=>some (.nx ((s6.1,(s6.2.1,AH .i64 s6.2.2 1))))) λ_=>some (.dn ((1,(s6,())))))
  (s:=(0,(0,0))) () rfl (by omega) hT.symm (λ_ h=>by
   refine ⟨_,by simp only;rw [re];rfl,.inl ⟨by rw [<- h];rfl,rfl⟩⟩) (λi j js _ hd hx hi h=>by
   simp only;rw [rl hi,AM,AE,AJ hx,Fe];unfold Dw at h
   have hbad:IC s.1 due i j=true -> ∃ r:Nat×((Int×(Int×Int))×Unit),(some (LR.dn ((0,((6,((i:Int),(i:Int))),()))):LR (Int×(Int×Int)) _))=some (.dn r)/\((T=none/\r.1=1)\/(∃ i:Nat,T=some i/\r.1=0/\r.2.1.1=6/\r.2.1.2.1=(i:Int))):=λhb=>by
    rw [if_pos hb] at h;exact ⟨_,rfl,.inr ⟨i,h.symm,rfl,rfl,rfl⟩⟩
   have hgood:IC s.1 due i j=false -> ∃ st':Unit,(some (LR.nx ((0:Int),((0:Int),AH .i64 (i:Int) 1))):Option (LR _ (Nat×((Int×(Int×Int))×Unit))))=some (.nx ((0:Int),((0:Int),((i+1:Nat):Int))))/\Dw s.1 due (i+1) js=T:=λhg=>by
    rw [if_neg (by simp [hg])] at h;exact ⟨(),by rw [Al hx (by omega)],h⟩
   by_cases h1:(i:Int)>=(due.length:Int)
   ·rw [if_pos h1];exact .inr (hbad (by unfold IC;rw [List.getElem?_eq_none (by omega)]))
   rw [if_neg h1,AE];have hd2:due[i]? = some (due[i]'(by omega)):=by simp
   rw [AJ hd2,AS];obtain ⟨n,hn,r0,r1,hlv⟩:=Ga (ls:=s.1.2) (i:=0) (k:=i) (d:=due[i]'(by omega)) (by rw [<- hdue];exact hd2);rw [Nat.zero_add] at hn
   have hE:IC s.1 due i j=(if j.1≠(due[i]'(by omega)) then true else if j.2.2.1.2.2=true/\j.1≠(s.1.2.length:Int)-1 then true else if j.2.2.2.2<0\/j.2.2.2.2>((r1.2.length+r0.2.length:Nat):Int) then true else decide (Dk r1.2 r0.2 j.2.2.1.2.2 j.2.2.2.2.toNat≠j.2)):=by
    unfold IC;rw [hd2];simp only;rw [hn,Int.toNat_natCast,hlv]
   by_cases h2:j.1=(due[i]'(by omega));rotate_left
   ·rw [if_neg h2];exact .inr (hbad (by rw [hE,if_pos h2]))
   rw [if_pos h2];rw [if_neg (by simp [h2])] at hE;have hjn:j.1=(n:Int):=by rw [h2,hn]
   have hv:=(v.lev n _ hlv).2;have v0:=(hv r0 (by simp)).vl;have v1:=(hv r1 (by simp)).vl;have hnl:=(List.getElem?_eq_some_iff.1 hlv).1;rw [hjn,PB v hnl,AB,CW,Cn,WX hlv v0 v1,Fo];rw [hjn] at hE;by_cases h3:j.2.2.1.2.2=true/\(n:Int)≠(s.1.2.length:Int)-1
   ·rw [if_pos h3.1,if_pos h3.2];exact .inr (hbad (by rw [hE,if_pos h3]))
   rw [if_neg h3] at hE
   have h4 : ∀ {γ:Type} (A B:γ),(if j.2.2.1.2.2=true then if ¬(n:Int)=(s.1.2.length:Int)-1 then A else B else B)=B:=by
    intro γ A B;by_cases h5:j.2.2.1.2.2=true
    ·rw [if_pos h5,if_neg (λh6=>h3 ⟨h5,h6⟩)]
    ·rw [if_neg h5]
   rw [h4];by_cases h5:j.2.2.2.2<0\/j.2.2.2.2>((r1.2.length+r0.2.length:Nat):Int)
   ·rw [if_pos h5];exact .inr (hbad (by rw [hE,if_pos h5]))
   rw [if_neg h5];rw [if_neg h5] at hE;by_cases h6:Dk r1.2 r0.2 j.2.2.1.2.2 j.2.2.2.2.toNat=j.2
   ·rw [if_pos h6];exact .inl (hgood (by rw [hE];simp [h6]))
   ·rw [if_neg h6]
    exact .inr (hbad (by rw [hE];simp [h6])))
 refine BF q1 ?_;rw [CH];rcases q2 with ⟨q2,q3⟩ | ⟨i,q2,q3,q4,q5⟩
 ·rw [if_neg (show ¬ r.1=0 by omega),q2,BE];simp only;by_cases h7:s.2.1.length<due.length
  ·rw [if_pos (by omega),if_pos h7]
  ·rw [if_neg (by omega),if_neg h7]
 ·rw [if_pos q3,q2,q4,q5]
end Go.Proofs.YthpkjfabdccpdaaGreat.Pl
