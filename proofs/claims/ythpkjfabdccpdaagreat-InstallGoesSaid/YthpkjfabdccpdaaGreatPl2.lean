/- Functions of the program and of the specification as plain functions, and laws about them. No condition. -/
import Derived.Test.YthpkjfabdccpdaaGreatPl1
import Derived.KernelRfl
set_option linter.all false
namespace Go.Proofs.YthpkjfabdccpdaaGreat.Pl
open Go Go.Proofs.YthpkjfabdccpdaaGreat.Sv
set_option linter.unusedVariables false
def Cv (x:(List AD)):Option Bool :=
 bd (loop (λs0=>br (Am s0.1 (Aa (AA x))) (λ_=>br (Am s0.1 80) (λ_=>AU s0.1 λk1=>ix x k1 λx2=>br (CF (Aa (E8 x2.1)) 100) (λ_=>some (.dn ((0,((s0.1,true),()))))) λ_=>AU s0.1 λk3=>ix x k3 λx4=>br (CF (Aa (E8 x4.2.1)) 100) (λ_=>some (.dn ((0,((s0.1,true),()))))) λ_=>some (.nx (AH .i64 s0.1 1,s0.2))) λ_=>some (.dn ((1,(s0,()))))) λ_=>some (.dn ((1,(s0,()))))) (0,false)) λr5=>br (neq r5.1 0) (λ_=>some r5.2.1.2) λ_=>some (CF (Aa (AA x)) 70)
def E4 (x:(List AD)):Option Bool :=
 bd (loop (λs0=>br (Am s0.1 (Aa (AA x))) (λ_=>br (Am s0.1 40) (λ_=>AU s0.1 λk1=>ix x k1 λx2=>br (CF (Aa (E8 x2.1)) 100) (λ_=>some (.dn ((0,((s0.1,true),()))))) λ_=>AU s0.1 λk3=>ix x k3 λx4=>br (CF (Aa (E8 x4.2.1)) 100) (λ_=>some (.dn ((0,((s0.1,true),()))))) λ_=>some (.nx (AH .i64 s0.1 1,s0.2))) λ_=>some (.dn ((1,(s0,()))))) λ_=>some (.dn ((1,(s0,()))))) (0,false)) λr5=>br (neq r5.1 0) (λ_=>some r5.2.1.2) λ_=>some (CF (Aa (AA x)) 30)
def C5 (x:(List BH)):Option Bool :=
 bd (loop (λs0=>br (Am s0.1 (Aa (AA x))) (λ_=>br (Am s0.1 10) (λ_=>AU s0.1 λk1=>ix x k1 λx2=>bd (E4 x2.2) λr3=>br r3 (λ_=>some (.dn ((0,((s0.1,true),()))))) λ_=>some (.nx (AH .i64 s0.1 1,s0.2))) λ_=>some (.dn ((1,(s0,()))))) λ_=>some (.dn ((1,(s0,()))))) (0,false)) λr4=>br (neq r4.1 0) (λ_=>some r4.2.1.2) λ_=>some (CF (Aa (AA x)) 6)
def GI (x:AK):Option Bool :=
 bd (loop (λs0=>br (Am s0.1 (Aa (AA x.2))) (λ_=>br (Am s0.1 20) (λ_=>AU s0.1 λk1=>ix x.2 k1 λx2=>bd (C5 x2) λr3=>br r3 (λ_=>some (.dn ((0,((s0.1,true),()))))) λ_=>some (.nx (AH .i64 s0.1 1,s0.2))) λ_=>some (.dn ((1,(s0,()))))) λ_=>some (.dn ((1,(s0,()))))) (0,false)) λr4=>br (neq r4.1 0) (λ_=>some r4.2.1.2) λ_=>some (CF (Aa (AA x.2)) 14)
def GJ (x:(AK×((List (Int×(AP×((Bool×AO)×((List AD)×Int)))))×Int))):Option Bool :=
 bd (loop (λs0=>br (Am s0.1 (Aa (AA x.2.1))) (λ_=>br (Am s0.1 20) (λ_=>AU s0.1 λk1=>ix x.2.1 k1 λx2=>bd (loop (λs3=>br (Am s3.1 (Aa (AA x2.2.1.1))) (λ_=>br (Am s3.1 10) (λ_=>AU s3.1 λk4=>ix x2.2.1.1 k4 λx5=>bd (Cv x5) λr6=>br r6 (λ_=>some (.dn ((0,((s3.1,true),()))))) λ_=>some (.nx (AH .i64 s3.1 1,s3.2))) λ_=>some (.dn ((1,(s3,()))))) λ_=>some (.dn ((1,(s3,()))))) (0,s0.2)) λr7=>br (neq r7.1 0) (λ_=>some (.dn ((1,((s0.1,r7.2.1.2),()))))) λ_=>bd (Cv x2.2.2.2.1) λr8=>br r8 (λ_=>some (.dn ((1,((s0.1,true),()))))) λ_=>br (CF (Aa (AA x2.2.1.1)) 6) (λ_=>some (.dn ((1,((s0.1,true),()))))) λ_=>br (CF (Aa (AA x2.2.1.2.1)) 40) (λ_=>some (.dn ((1,((s0.1,true),()))))) λ_=>br (CF (Aa (AA x2.2.1.2.2.1)) 40) (λ_=>some (.dn ((1,((s0.1,true),()))))) λ_=>br (CF (Aa (AA x2.2.1.2.2.2.1)) 40) (λ_=>some (.dn ((1,((s0.1,true),()))))) λ_=>br (CF (Aa (E8 x2.2.2.1.2.1)) 200) (λ_=>some (.dn ((1,((s0.1,true),()))))) λ_=>some (.nx (AH .i64 s0.1 1,r7.2.1.2))) λ_=>some (.dn ((0,(s0,()))))) λ_=>some (.dn ((0,(s0,()))))) (0,false)) λr9=>br (neq r9.1 0) (λ_=>br (CF (Aa (AA x.2.1)) 14) (λ_=>some true) λ_=>bd (GI x.1) λr10=>some r10) λ_=>some r9.2.1.2
def JD (x:(Int×(Bool×(List UInt8)))):Option BH :=
 bd (loop (λ(s0:(Int×BH))=>br (Am s0.1 (Aa (E8 x.2.2))) (λ_=>AU (AH .i64 s0.1 1) λk1=>AU s0.1 λk2=>gd (BZ k1 (E8 x.2.2)) λ_=>gd (BZ k2 k1) λ_=>gd (BZ (A2 (AA s0.2.2) (AA ([(fL x.2.2 k2 k1,(([]:List UInt8),(x.2.1,AH .i64 (AH .i64 (Mn .i64 10 x.1) s0.1) 1)))]))) 1048576) λ_=>some (.nx ((AH .i64 s0.1 1,(s0.2.1,CG s0.2.2 ([(fL x.2.2 k2 k1,([],(x.2.1,AH .i64 (AH .i64 (Mn .i64 10 x.1) s0.1) 1)))])))))) λ_=>some (.dn ((0,(s0,()))))) ((0,(x.1,[])))) λr3=>some r3.2.1.2
def G7 (x:Unit):Option AK :=
 bd (JD ((1,(false,[(97:UInt8),(98:UInt8)])))) λr0=>bd (JD ((2,(true,[(98:UInt8)])))) λr1=>some (2,[[r0,r1]])
def LW (x:AK):Option ((AK×((List (Int×(AP×((Bool×AO)×((List AD)×Int)))))×Int))×Int) :=
 bd (CB x) λr0=>br (BC r0.2.2 0) (λ_=>some ((((0,[]),([],0)),r0.2.2))) λ_=>bd (CP x) λr1=>bd (DU x) λr2=>bd (loop (λ(s3:(Int×(Int×((List (List BH))×((List (Int×(AP×((Bool×AO)×((List AD)×Int)))))×Int)))))=>br (Am s3.1 (Aa (AA r2))) (λ_=>AU s3.1 λk4=>ix r2 k4 λx5=>AU s3.1 λk6=>ix r2 k6 λx7=>bd (Bp (x,x7)) λr8=>bd (A0 ((x,(x5,r8)))) λr9=>gd (BZ (A2 (AA s3.2.2.2.1) (AA [r9])) 1048576) λ_=>some (.nx ((AH .i64 s3.1 1,(s3.2.1,(s3.2.2.1,(CG s3.2.2.2.1 [r9],s3.2.2.2.2))))))) λ_=>some (.dn ((0,(s3,()))))) ((0,(x.1,(x.2,([],AH .i64 r1 1)))))) λr10=>some ((((r10.2.1.2.1,r10.2.1.2.2.1),r10.2.1.2.2.2),0))
def Fh (x:((AK×((List (Int×(AP×((Bool×AO)×((List AD)×Int)))))×Int))×Int)):Option (Int×Int) :=
 bd (DT x.1) λr0=>br (BC r0.2 0) (λ_=>some (0,r0.2)) λ_=>bd (loop (λs1=>br (Am s1.2 (Aa (AA x.1.2.1))) (λ_=>AU s1.2 λk2=>ix x.1.2.1 k2 λx3=>br (Ba x3.1 x.2) (λ_=>some (.dn ((0,((s1.2,s1.2),()))))) λ_=>some (.nx (s1.1,AH .i64 s1.2 1))) λ_=>some (.dn ((1,(s1,()))))) (0,0)) λr4=>br (neq r4.1 0) (λ_=>br (Am r4.2.1.1 0) (λ_=>some (0,4)) λ_=>some (r4.2.1.1,0)) λ_=>br (Am (-1) 0) (λ_=>some (0,4)) λ_=>some (((-1),0))
def Cw (x:((AK×((List (Int×(AP×((Bool×AO)×((List AD)×Int)))))×Int))×Int)):Option (((AK×((List (Int×(AP×((Bool×AO)×((List AD)×Int)))))×Int))×((Int×(AP×((Bool×AO)×((List AD)×Int))))×Int))×Int) :=
 bd (Fh x) λr0=>br (BC r0.2 0) (λ_=>some (((((0,[]),([],0)),((0,(([],([],([],([],0)))),((false,([],false)),([],0)))),0)),r0.2))) λ_=>AU r0.1 λk1=>ix x.1.2.1 k1 λx2=>bd (Bh x2.2) λr3=>some (((x.1,(x2,r3.1)),r3.2))
def A9 (x:((AK×((List (Int×(AP×((Bool×AO)×((List AD)×Int)))))×Int))×((Int×(AP×((Bool×AO)×((List AD)×Int))))×Int))):Option Bool :=
 some (CF x.2.2 0)
def FN (x:(Int×Int)):Option (Int×Int) :=
 br (Am x.1 1) (λ_=>some (0,7)) λ_=>br (CF x.1 16) (λ_=>some (0,7)) λ_=>br (Am x.2 0) (λ_=>some (0,7)) λ_=>br (Hj x.2 12) (λ_=>some (0,7)) λ_=>gd (Hj x.2 0) λ_=>some (SX .i64 x.1 x.2,0)
def BL (x:((AK×((List (Int×(AP×((Bool×AO)×((List AD)×Int)))))×Int))×((Int×(AP×((Bool×AO)×((List AD)×Int))))×Int))):Option Bool :=
 bd (FN (x.1.1.1,x.2.1.1)) λr0=>br (Ba r0.2 0) (λ_=>some (Vz (Aa (AA x.2.1.2.2.2.1)) r0.1)) λ_=>some false
def Ek (x:(AK×Int)):Option Int :=
 bd (C9 x.1) λr0=>br (BC r0.2.2 0) (λ_=>some r0.2.2) λ_=>br (Am x.2 0) (λ_=>some 7) λ_=>br (Hj x.2 12) (λ_=>some 7) λ_=>some 0
def FO (x:(AK×Int)):Option (Bool×Int) :=
 bd (Ek x) λr0=>br (BC r0 0) (λ_=>some (false,r0)) λ_=>br (Am x.2 (Aa (AA x.1.2))) (λ_=>AU x.2 λk1=>ix x.1.2 k1 λx2=>some ((Am (Aa (AA x2)) 2,0))) λ_=>some (true,0)
def Cc (x:((AK×((List (Int×(AP×((Bool×AO)×((List AD)×Int)))))×Int))×((Int×(AP×((Bool×AO)×((List AD)×Int))))×Int))):Option Bool :=
 bd (FO (x.1.1,AH .i64 x.2.1.1 1)) λr0=>br (Ba r0.2 0) (λ_=>some r0.1) λ_=>some false
def Bq (x:((AK×((List (Int×(AP×((Bool×AO)×((List AD)×Int)))))×Int))×((Int×(AP×((Bool×AO)×((List AD)×Int))))×Int))):Option Bool :=
 bd (loop (λs0=>br (Am s0.1 3) (λ_=>AU s0.1 λk1=>br (neq k1 0) (λ_=>bd (A9 x) λr2=>br r2 (λ_=>some (.dn ((0,((s0.1,true),()))))) λ_=>some (.nx (AH .i64 s0.1 1,s0.2))) λ_=>br (neq k1 1) (λ_=>bd (BL x) λr3=>br r3 (λ_=>some (.dn ((0,((s0.1,true),()))))) λ_=>some (.nx (AH .i64 s0.1 1,s0.2))) λ_=>gd (neq k1 2) λ_=>bd (Cc x) λr4=>br r4 (λ_=>some (.dn ((0,((s0.1,true),()))))) λ_=>some (.nx (AH .i64 s0.1 1,s0.2))) λ_=>some (.dn ((1,(s0,()))))) (0,false)) λr5=>br (neq r5.1 0) (λ_=>some r5.2.1.2) λ_=>some false
def BQ (x:(List (Int×(AP×((Bool×AO)×((List AD)×Int)))))):Option (List (Int×(AP×((Bool×AO)×((List AD)×Int))))) :=
 gd (BZ (AA x) 1048576) λ_=>some x
def Gw (x:((AK×((List (Int×(AP×((Bool×AO)×((List AD)×Int)))))×Int))×(Int×Int))):Option ((AK×((List (Int×(AP×((Bool×AO)×((List AD)×Int)))))×Int))×(Int×Int)) :=
 bd (DT x.1) λr0=>br (BC r0.2 0) (λ_=>some ((((0,[]),([],0)),(0,r0.2)))) λ_=>br (Am x.2.2 0) (λ_=>some ((((0,[]),([],0)),(0,7)))) λ_=>bd (Fh (x.1,x.2.1)) λr1=>br (BC r1.2 0) (λ_=>some ((((0,[]),([],0)),(0,r1.2)))) λ_=>AU r1.1 λk2=>ix x.1.2.1 k2 λx3=>bd (Bh x3.2) λr4=>br (Ba r4.1 0) (λ_=>some ((((0,[]),([],0)),(0,9)))) λ_=>AU r1.1 λk5=>ix x.1.2.1 k5 λx6=>bd (By (x6.2,x.2.2)) λr7=>br (BC r7.2.2 0) (λ_=>some ((((0,[]),([],0)),(0,r7.2.2)))) λ_=>bd (BQ x.1.2.1) λr8=>AU r1.1 λk9=>gd (Dz k9 (AA r8)) λ_=>ix r8 k9 λx10=>some (((x.1.1,(lset r8 k9 (x10.1,r7.1),x.1.2.2)),(r7.2.1,0)))
def Dh (x:(AK×(Int×(List BH)))):Option AK :=
 AU (KN (Aa (AA x.1.2)) (AH .i64 x.2.1 1)) λk0=>AU (KN (Aa (AA x.1.2)) (AH .i64 x.2.1 1)) λk1=>gd (BZ k1 1048576) λ_=>AU x.2.1 λk2=>gd (Dz k2 (AA (Ja (Dj k1 ([]:List BH)) 0 x.1.2 (AA (Dj k1 ([]:List BH)))))) λ_=>ix (Ja (Dj k1 ([]:List BH)) 0 x.1.2 (AA (Dj k1 ([]:List BH)))) k2 λx3=>bd (loop (λs4=>br (CF s4 0) (λ_=>AU (B9 .i64 s4 1) λk5=>gd (Dz k5 (AA (lset (Ja (Dj k1 ([]:List BH)) 0 x.1.2 (AA (Dj k1 ([]:List BH)))) k2 x.2.2))) λ_=>ix (lset (Ja (Dj k1 ([]:List BH)) 0 x.1.2 (AA (Dj k1 ([]:List BH)))) k2 x.2.2) k5 λx6=>br (Ba (Aa (AA x6)) 0) (λ_=>some (.nx (B9 .i64 s4 1))) λ_=>some (.dn ((0,(s4,()))))) λ_=>some (.dn ((0,(s4,()))))) (Aa (AA (lset (Ja (Dj k1 ([]:List BH)) 0 x.1.2 (AA (Dj k1 ([]:List BH)))) k2 x.2.2)))) λr7=>AU r7.2.1 λk8=>gd (BZ k8 (AA (lset (Ja (Dj k1 ([]:List BH)) 0 x.1.2 (AA (Dj k1 ([]:List BH)))) k2 x.2.2))) λ_=>gd (BZ 0 k8) λ_=>br (Dz 0 (AA (lset (Ja (Dj k1 ([]:List BH)) 0 x.1.2 (AA (Dj k1 ([]:List BH)))) k2 x.2.2))) (λ_=>gd (BZ (A2 0 (Q7 k8 0)) (AA (lset (Ja (Dj k1 ([]:List BH)) 0 x.1.2 (AA (Dj k1 ([]:List BH)))) k2 x.2.2))) λ_=>some ((x.1.1,Cs (lset (Ja (Dj k1 ([]:List BH)) 0 x.1.2 (AA (Dj k1 ([]:List BH)))) k2 x.2.2) 0 (A2 0 (Q7 k8 0))))) λ_=>some (x.1.1,[])
def DD (x:(AK×Int)):Option (AK×((List BH)×Int)) :=
 bd (Ek x) λr0=>br (BC r0 0) (λ_=>some (((0,[]),([],r0)))) λ_=>br (Am x.2 (Aa (AA x.1.2))) (λ_=>AU x.2 λk1=>ix x.1.2 k1 λx2=>br (Ba (Aa (AA x2)) 0) (λ_=>some (((0,[]),([],4)))) λ_=>bd (Dh ((x.1,(x.2,[])))) λr3=>gd (BZ (AA x2) 1048576) λ_=>some ((r3,(x2,0)))) λ_=>some (((0,[]),([],4)))
def BO (x:(AK×(Int×BH))):Option (AK×Int) :=
 bd (Ek (x.1,x.2.1)) λr0=>br (BC r0 0) (λ_=>some (((0,[]),r0))) λ_=>gd (Hj x.2.1 0) λ_=>bd (C0 (x.2.2,SX .i64 x.1.1 x.2.1)) λr1=>br (BC r1 0) (λ_=>some (((0,[]),r1))) λ_=>bd (loop (λ(s2:(Int×(AK×Int)))=>br (Am s2.1 (Aa (AA x.1.2))) (λ_=>AU s2.1 λk3=>ix x.1.2 k3 λx4=>bd (loop (λ(s5:(Int×(AK×Int)))=>br (Hj s5.1 0) (λ_=>AU s5.1 λk6=>ix x4 k6 λx7=>br (Ba x7.1 x.2.2.1) (λ_=>some (.dn ((1,((s5.1,((0,[]),8)),()))))) λ_=>some (.nx (B9 .i64 s5.1 1,s5.2))) λ_=>some (.dn ((0,(s5,()))))) ((B9 .i64 (Aa (AA x4)) 1,s2.2))) λr8=>br (neq r8.1 0) (λ_=>some (.nx (AH .i64 s2.1 1,r8.2.1.2))) λ_=>some (.dn ((1,((s2.1,r8.2.1.2),()))))) λ_=>some (.dn ((0,(s2,()))))) ((0,((0,[]),0)))) λr9=>br (neq r9.1 0) (λ_=>br (Am x.2.1 (Aa (AA x.1.2))) (λ_=>AU x.2.1 λk10=>ix x.1.2 k10 λx11=>br (Ba (Aa (AA x11)) 2) (λ_=>some (((0,[]),5))) λ_=>AU (Aa (AA x11)) λk12=>AU (Aa (AA x11)) λk13=>gd (BZ k12 (AA x11)) λ_=>gd (neq k12 k13) λ_=>gd (BZ 0 k12) λ_=>gd (BZ (A2 (AA (Cs x11 0 k12)) (AA [x.2.2])) 1048576) λ_=>bd (Dh ((x.1,(x.2.1,CG (Cs x11 0 k12) [x.2.2])))) λr14=>some (r14,0)) λ_=>gd (BZ (AA [x.2.2]) 1048576) λ_=>bd (Dh ((x.1,(x.2.1,[x.2.2])))) λr15=>some (r15,0)) λ_=>some r9.2.1.2
def GK (x:(AK×Int)):Option ((Int×(AP×((Bool×AO)×((List AD)×Int))))×Int) :=
 bd (C9 x.1) λr0=>br (BC r0.2.2 0) (λ_=>some (((0,(([],([],([],([],0)))),((false,([],false)),([],0)))),r0.2.2))) λ_=>br (Am x.2 0) (λ_=>some (((0,(([],([],([],([],0)))),((false,([],false)),([],0)))),7))) λ_=>br (Hj x.2 12) (λ_=>some (((0,(([],([],([],([],0)))),((false,([],false)),([],0)))),7))) λ_=>br (Hj x.2 (Aa (AA x.1.2))) (λ_=>some (((0,(([],([],([],([],0)))),((false,([],false)),([],0)))),4))) λ_=>AU x.2 λk1=>ix x.1.2 k1 λx2=>br (Am (Aa (AA x2)) 2) (λ_=>some (((0,(([],([],([],([],0)))),((false,([],false)),([],0)))),4))) λ_=>bd (C1 x) λr3=>bd (CV ((x.1,(x.2,r3)))) λr4=>some (r4,0)
def A4 (x:((AK×((List (Int×(AP×((Bool×AO)×((List AD)×Int)))))×Int))×(AK×(Int×Int)))):Option ((AK×((List (Int×(AP×((Bool×AO)×((List AD)×Int)))))×Int))×Int) :=
 bd (loop (λ(s0:(Int×(List (Int×(Int×(AP×((Bool×AO)×((List AD)×Int))))))))=>br (Am s0.1 (Aa (AA x.1.2.1))) (λ_=>AU s0.1 λk1=>ix x.1.2.1 k1 λx2=>some (.nx ((AH .i64 s0.1 1,Hg ((λa3=>(λa4=>Ba a3 a4))) s0.2 x2.1 x2)))) λ_=>some (.dn ((0,(s0,()))))) (0,[])) λr5=>bd (loop (λ(s6:(Int×(Int×((Int×((List (List BH))×((List (Int×(AP×((Bool×AO)×((List AD)×Int)))))×Int)))×(Int×((List (List BH))×((List (Int×(AP×((Bool×AO)×((List AD)×Int)))))×Int)))))))=>br (Am s6.2.1 (Aa (AA x.2.1.2))) (λ_=>AU s6.2.1 λk7=>ix x.2.1.2 k7 λx8=>br (Am (Aa (AA x8)) 2) (λ_=>some (.nx ((s6.1,(AH .i64 s6.2.1 1,s6.2.2))))) λ_=>br (AX (jE (IN ((λa9=>(λa10=>Ba a9 a10))) (JQ ((λa11=>(λa12=>Ba a11 a12))) r5.2.1.2 x.2.2.2) s6.2.1))) (λ_=>bd (GK (x.2.1,s6.2.1)) λr13=>br (BC r13.2 0) (λ_=>some (.dn ((1,((r13.2,(s6.2.1,((0,([],([],0))),s6.2.2.2))),()))))) λ_=>gd (BZ (A2 (AA s6.2.2.2.2.2.1) (AA [r13.1])) 1048576) λ_=>some (.nx ((s6.1,(AH .i64 s6.2.1 1,(s6.2.2.1,(s6.2.2.2.1,(s6.2.2.2.2.1,(CG s6.2.2.2.2.2.1 [r13.1],s6.2.2.2.2.2.2))))))))) λ_=>gd (BZ (A2 (AA s6.2.2.2.2.2.1) (AA ([Pc (IN (λa b=>Ba a b) (JQ (λa b=>Ba a b) r5.2.1.2 x.2.2.2) s6.2.1) (0,(([],([],([],([],0)))),((false,([],false)),([],0))))]))) 1048576) λ_=>some (.nx ((s6.1,(AH .i64 s6.2.1 1,(s6.2.2.1,(s6.2.2.2.1,(s6.2.2.2.2.1,(CG s6.2.2.2.2.2.1 ([Pc (IN (λa b=>Ba a b) (JQ (λa b=>Ba a b) r5.2.1.2 x.2.2.2) s6.2.1) (0,(([],([],([],([],0)))),((false,([],false)),([],0))))]),s6.2.2.2.2.2.2))))))))) λ_=>some (.dn ((0,(s6,()))))) ((0,(0,((0,([],([],0))),(x.2.1.1,(x.2.1.2,([],x.2.2.1)))))))) λr102=>br (neq r102.1 0) (λ_=>some ((((r102.2.1.2.2.2.1,r102.2.1.2.2.2.2.1),r102.2.1.2.2.2.2.2),0))) λ_=>some ((((r102.2.1.2.2.1.1,r102.2.1.2.2.1.2.1),r102.2.1.2.2.1.2.2),r102.2.1.1))
def DV (x:((AK×((List (Int×(AP×((Bool×AO)×((List AD)×Int)))))×Int))×Int)):Option ((AK×((List (Int×(AP×((Bool×AO)×((List AD)×Int)))))×Int))×Int) :=
 bd (Cw x) λr0=>br (BC r0.2 0) (λ_=>some ((((0,[]),([],0)),r0.2))) λ_=>bd (A9 r0.1) λr1=>br r1 (λ_=>some ((((0,[]),([],0)),9))) λ_=>bd (Bq r0.1) λr2=>br (AX r2) (λ_=>some ((((0,[]),([],0)),9))) λ_=>br (CF x.1.2.2 1000000) (λ_=>br (CF (Aa (AA r0.1.2.1.2.2.2.1)) 0) (λ_=>some ((((0,[]),([],0)),5))) λ_=>bd (DD (x.1.1,x.2)) λr3=>br (Ba r3.2.2 0) (λ_=>br (CF (Aa (AA r0.1.2.1.2.2.2.1)) 0) (λ_=>bd (BL r0.1) λr4=>br (AX r4) (λ_=>bd (BO ((r3.1,(AH .i64 x.2 1,(x.1.2.2,r0.1.2.1.2.2.2.1))))) λr5=>br (BC r5.2 0) (λ_=>some ((((0,[]),([],0)),r5.2))) λ_=>bd (A4 ((x.1,(r5.1,(AH .i64 x.1.2.2 1,x.2))))) λr6=>some r6) λ_=>bd (BO ((r3.1,(x.2,(x.1.2.2,r0.1.2.1.2.2.2.1))))) λr7=>br (BC r7.2 0) (λ_=>some ((((0,[]),([],0)),r7.2))) λ_=>bd (A4 ((x.1,(r7.1,(AH .i64 x.1.2.2 1,x.2))))) λr8=>some r8) λ_=>br (BC r3.2.2 0) (λ_=>some ((((0,[]),([],0)),r3.2.2))) λ_=>bd (A4 ((x.1,(r3.1,(x.1.2.2,x.2))))) λr9=>some r9) λ_=>br (BC r3.2.2 0) (λ_=>some ((((0,[]),([],0)),r3.2.2))) λ_=>bd (A4 ((x.1,(r3.1,(x.1.2.2,x.2))))) λr10=>some r10) λ_=>bd (DD (x.1.1,x.2)) λr11=>br (Ba r11.2.2 0) (λ_=>br (CF (Aa (AA r0.1.2.1.2.2.2.1)) 0) (λ_=>bd (BL r0.1) λr12=>br (AX r12) (λ_=>bd (BO ((r11.1,(AH .i64 x.2 1,(x.1.2.2,r0.1.2.1.2.2.2.1))))) λr13=>br (BC r13.2 0) (λ_=>some ((((0,[]),([],0)),r13.2))) λ_=>bd (A4 ((x.1,(r13.1,(AH .i64 x.1.2.2 1,x.2))))) λr14=>some r14) λ_=>bd (BO ((r11.1,(x.2,(x.1.2.2,r0.1.2.1.2.2.2.1))))) λr15=>br (BC r15.2 0) (λ_=>some ((((0,[]),([],0)),r15.2))) λ_=>bd (A4 ((x.1,(r15.1,(AH .i64 x.1.2.2 1,x.2))))) λr16=>some r16) λ_=>br (BC r11.2.2 0) (λ_=>some ((((0,[]),([],0)),r11.2.2))) λ_=>bd (A4 ((x.1,(r11.1,(x.1.2.2,x.2))))) λr17=>some r17) λ_=>br (BC r11.2.2 0) (λ_=>some ((((0,[]),([],0)),r11.2.2))) λ_=>bd (A4 ((x.1,(r11.1,(x.1.2.2,x.2))))) λr18=>some r18
def BS (x:((AK×((List (Int×(AP×((Bool×AO)×((List AD)×Int)))))×Int))×Int)):Option ((AK×((List (Int×(AP×((Bool×AO)×((List AD)×Int)))))×Int))×(Bool×Int)) :=
 bd (Cw x) λr0=>br (BC r0.2 0) (λ_=>some ((((0,[]),([],0)),(false,r0.2)))) λ_=>bd (Bq r0.1) λr1=>br (AX r1) (λ_=>some ((((0,[]),([],0)),(false,9)))) λ_=>bd (A9 r0.1) λr2=>br r2 (λ_=>bd (Gw ((x.1,(x.2,1)))) λr3=>some ((r3.1,(false,r3.2.2)))) λ_=>bd (DV x) λr4=>some ((r4.1,(Ba r4.2 0,r4.2)))
def Gc (x:((AK×((List (Int×(AP×((Bool×AO)×((List AD)×Int)))))×Int))×Int)):Option (Int×Int) :=
 bd (Cw x) λr0=>br (BC r0.2 0) (λ_=>some (0,r0.2)) λ_=>bd (A9 r0.1) λr1=>br r1 (λ_=>some (0,9)) λ_=>bd (BL r0.1) λr2=>br r2 (λ_=>some (x.2,0)) λ_=>some (AH .i64 x.2 1,0)
def Hb (x:(AK×((List (Int×(AP×((Bool×AO)×((List AD)×Int)))))×Int))):Option ((List Int)×Int) :=
 bd (DT x) λr0=>br (BC r0.2 0) (λ_=>some ([],r0.2)) λ_=>bd (loop (λs1=>br (Am s1.1 (Aa (AA x.1.2))) (λ_=>AU s1.1 λk2=>ix x.1.2 k2 λx3=>br (Ba (Aa (AA x3)) 2) (λ_=>gd (BZ (A2 (AA s1.2) (AA [s1.1])) 1048576) λ_=>some (.nx (AH .i64 s1.1 1,CG s1.2 [s1.1]))) λ_=>some (.nx (AH .i64 s1.1 1,s1.2))) λ_=>some (.dn ((0,(s1,()))))) (0,[])) λr4=>some (r4.2.1.2,0)
def Hc (x:(AK×((List (Int×(AP×((Bool×AO)×((List AD)×Int)))))×Int))):Option (Int×Int) :=
 bd (Hb x) λr0=>br (BC r0.2 0) (λ_=>some (0,r0.2)) λ_=>br (Ba (Aa (AA r0.1)) 0) (λ_=>some (0,4)) λ_=>bd (loop (λs1=>br (Am s1.2.2.1 (Aa (AA r0.1))) (λ_=>AU s1.2.2.1 λk2=>ix r0.1 k2 λx3=>bd (Cw (x,x3)) λr4=>br (BC r4.2 0) (λ_=>some (.dn ((0,((r4.2,(s1.2.1,(s1.2.2.1,0))),()))))) λ_=>bd (Bq r4.1) λr5=>br r5 (λ_=>some (.dn ((1,((s1.1,(true,(s1.2.2.1,x3))),()))))) λ_=>some (.nx ((s1.1,(s1.2.1,(AH .i64 s1.2.2.1 1,s1.2.2.2)))))) λ_=>some (.dn ((1,(s1,()))))) ((r0.2,(false,(0,0))))) λr6=>br (neq r6.1 0) (λ_=>some (r6.2.1.2.2.2,r6.2.1.1)) λ_=>br (AX r6.2.1.2.1) (λ_=>some (0,9)) λ_=>some (r6.2.1.2.2.2,0)
def Di (x:Unit):Option Bool :=
 bd (G7 ()) λr0=>bd (LW r0) λr1=>bd (loop (λ(s2:(Bool×(Int×(Int×((List (List BH))×((List (Int×(AP×((Bool×AO)×((List AD)×Int)))))×Int))))))=>jn (γ:=(Nat×(Bool×Unit))) (λs3=>jn (γ:=(Nat×(Bool×Unit))) (λs4=>br (Am s2.2.1 3) (λ_=>some (.nx (Ba r1.2 0))) λ_=>some (.nx false)) () (λs5=>br s5 (λ_=>some (.nx s5)) λ_=>some (.dn ((0,(s5,()))))) λr6=>some (.dn ((0,(r6.2.1,()))))) () (λs7=>jn (γ:=(Nat×((Bool×(Int×((List (List BH))×((List (Int×(AP×((Bool×AO)×((List AD)×Int)))))×Int))))×Unit))) (λs8=>bd (BS ((((s8.2.1,s8.2.2.1),s8.2.2.2),0))) λr9=>jn (γ:=(Nat×(Bool×Unit))) (λs10=>br (BC r9.2.2 0) (λ_=>some (.nx true)) λ_=>some (.nx r9.2.1)) () (λs11=>br s11 (λ_=>some (.dn ((0,((false,s8.2),()))))) λ_=>some (.nx ((s8.1,(r9.1.1.1,(r9.1.1.2,r9.1.2)))))) λr12=>none) (s2.1,s2.2.2) (λs13=>some (.nx ((s13.1,(AH .i64 s2.2.1 1,s13.2))))) λr14=>some (.dn ((1,((r14.2.1.1,(s2.2.1,r14.2.1.2)),()))))) λr15=>some (.dn ((0,(s2,()))))) ((false,(0,(r1.1.1.1,(r1.1.1.2,r1.1.2)))))) λr16=>br (neq r16.1 0) (λ_=>bd (Gc ((((r16.2.1.2.2.1,r16.2.1.2.2.2.1),r16.2.1.2.2.2.2),0))) λr17=>bd (BS ((((r16.2.1.2.2.1,r16.2.1.2.2.2.1),r16.2.1.2.2.2.2),0))) λr18=>jn (γ:=(Nat×(Bool×Unit))) (λs19=>br (BC r1.2 0) (λ_=>some (.nx true)) λ_=>br (BC r17.1 0) (λ_=>some (.nx true)) λ_=>br (BC r17.2 0) (λ_=>some (.nx true)) λ_=>br (AX r18.2.1) (λ_=>some (.nx true)) λ_=>some (.nx (BC r18.2.2 0))) () (λs20=>br s20 (λ_=>some false) λ_=>bd (Hc r18.1) λr21=>br (Ba r21.2 4) (λ_=>br (Ba (Aa (AA r18.1.2.1)) 0) (λ_=>br (Ba r18.1.2.2 4) (λ_=>br (Ba (Aa (AA r18.1.1.2)) 1) (λ_=>ix r18.1.1.2 0 λx22=>br (Ba (Aa (AA x22)) 1) (λ_=>ix r18.1.1.2 0 λx23=>ix x23 0 λx24=>br (Ba x24.1 3) (λ_=>ix r18.1.1.2 0 λx25=>ix x25 0 λx26=>br (Ba (Aa (AA x26.2)) 1) (λ_=>ix r18.1.1.2 0 λx27=>ix x27 0 λx28=>ix x28.2 0 λx29=>some (seq x29.1 ([(97:UInt8)]))) λ_=>some false) λ_=>some false) λ_=>some false) λ_=>some false) λ_=>some false) λ_=>some false) λ_=>some false) λr30=>none) λ_=>some r16.2.1.1
def BU (x:((AK×((List (Int×(AP×((Bool×AO)×((List AD)×Int)))))×Int))×Int)):Option (Bool×Int) :=
 bd (Cw x) λr0=>br (BC r0.2 0) (λ_=>some (false,r0.2)) λ_=>bd (Bq r0.1) λr1=>some (r1,0)
end Go.Proofs.YthpkjfabdccpdaaGreat.Pl
namespace Go.Proofs.YthpkjfabdccpdaaGreat.Pl
open Go Go.Proofs.YthpkjfabdccpdaaGreat.Sv
def JobAt (L:AK) (n:Nat) (j:Job):Prop := ∃ r0 r1 bt k,L.2[n]? = some [r0,r1]/\j=((n:Int),Dk r1.2 r0.2 bt k)/\k<=r1.2.length+r0.2.length/\(bt=true->n+1=L.2.length)/\VL r0.2/\VL r1.2
structure VSt (s:AT):Prop where
 lev:VLev s.1
 n1:1<=s.2.2
 n2:s.2.2<=1000001
 n3:EL s.1.2<s.2.2
 due:s.2.1.map (·.1)=A5 0 s.1.2
 job : ∀ j∈s.2.1,∃ n,JobAt s.1 n j
theorem U6 (a b:List AD) (bt:Bool) (k:Nat):(Dk a b bt k).2.1.2.2=bt:=by
 show (CQ (s0 bt) (Ar a b k)).2.2=bt;rw [F9]
theorem PC {L:AK} (v:VLev L) {i:Nat} {j:Job}:IC L (A5 0 L.2) i j=false <-> ∃ n,(A5 0 L.2)[i]? = some j.1/\JobAt L n j:=by
 constructor
 ·intro h;unfold IC at h;cases hd:(A5 0 L.2)[i]? with
  | none=>rw [hd] at h;cases h
  | some d =>
   rw [hd] at h;simp only at h;by_cases h1:j.1=d;rotate_left
   ·rw [if_pos h1] at h;cases h
   rw [if_neg (by simp [h1])] at h;by_cases h2:j.2.2.1.2.2=true/\j.1≠(L.2.length:Int)-1
   ·rw [if_pos h2] at h;cases h
   rw [if_neg h2] at h;obtain ⟨n,hn,r0,r1,hl⟩:=Ga hd;rw [Nat.zero_add] at hn;rw [hn,Int.toNat_natCast,hl] at h;simp only at h;by_cases h3:j.2.2.2.2<0\/j.2.2.2.2>((r1.2.length+r0.2.length:Nat):Int)
   ·rw [if_pos h3] at h;cases h
   rw [if_neg h3] at h;have h4:Dk r1.2 r0.2 j.2.2.1.2.2 j.2.2.2.2.toNat=j.2:=by simpa using h
   have hv:=(v.lev n _ hl).2;refine ⟨n,by rw [h1],r0,r1,j.2.2.1.2.2,j.2.2.2.2.toNat,hl,Prod.ext (by rw [h1,hn]) h4.symm,by omega,λhb => ?_,(hv r0 (by simp)).vl,(hv r1 (by simp)).vl⟩
   have h5:j.1=(L.2.length:Int)-1:=by
    by_cases h6:j.1=(L.2.length:Int)-1
    ·exact h6
    ·exact absurd ⟨hb,h6⟩ h2
   omega
 ·rintro ⟨n,hd,r0,r1,bt,k,hl,rfl,hk,hb,v0,v1⟩;unfold IC;rw [hd];simp only;rw [if_neg (by simp),U6,if_neg (λh:bt=true/\(n:Int)≠(L.2.length:Int)-1=>h.2 (by have:=hb h.1;omega)),Int.toNat_natCast,hl];simp only;rw [show (Dk r1.2 r0.2 bt k).2.2.2=(k:Int) from rfl,if_neg (by omega),Int.toNat_natCast];simp
theorem J1 {L:AK} {due:List Int} : ∀ {js:List Job} {i:Nat},Dw L due i js=none <-> ∀ k j,js[k]? = some j->IC L due (i+k) j=false
 | [],i=>by simp [Dw]
 | j::js,i=>by
  unfold Dw;by_cases h:IC L due i j=true
  ·rw [if_pos h];simp only [reduceCtorEq,false_iff];intro h2;have:=h2 0 j rfl;rw [Nat.add_zero,h] at this;cases this
  ·rw [if_neg h,J1 (js:=js)];constructor
   ·intro h2 k j' hk;cases k with
    | zero=>cases hk;simpa using h
    | succ k=>rw [show i+(k+1)=i+1+k by omega];exact h2 k j' hk
   ·intro h2 k j' hk;rw [show i+1+k=i+(k+1) by omega];exact h2 (k+1) j' hk
theorem C4 {s:AT}:(BB s).2=0<->VSt s:=by
 unfold BB;constructor
 ·intro h;by_cases h0:(DI s.1).2.2≠0
  ·rw [if_pos h0] at h;exact absurd h h0
  rw [if_neg h0] at h;have v:=Ff.1 (Decidable.not_not.1 h0);by_cases h1:s.2.2<1\/s.2.2>1000001
  ·rw [if_pos h1] at h;cases h
  rw [if_neg h1] at h;by_cases h2:s.2.2<=EL s.1.2
  ·rw [if_pos h2] at h;cases h
  rw [if_neg h2] at h;cases hg:Dw s.1 (A5 0 s.1.2) 0 s.2.1 with
  | some i=>rw [hg] at h;cases h
  | none =>
   rw [hg] at h;simp only at h;by_cases h3:s.2.1.length<(A5 0 s.1.2).length
   ·rw [if_pos h3] at h;cases h
   have hj:=J1.1 hg
   have hj2 : ∀ k j,s.2.1[k]? = some j -> ∃ n,(A5 0 s.1.2)[k]? = some j.1/\JobAt s.1 n j:=λk j hk=>by
    have:=hj k j hk;rw [Nat.zero_add] at this;exact (PC v).1 this
   refine ⟨v,by omega,by omega,by omega,?_,λj hm => ?_⟩
   ·apply List.ext_getElem?;intro k;rw [List.getElem?_map];cases hk:s.2.1[k]? with
    | some j=>obtain ⟨n,e,_⟩:=hj2 k j hk;rw [e];rfl
    | none =>
     have:=List.getElem?_eq_none_iff.1 hk;rw [List.getElem?_eq_none (by omega)];rfl
   ·obtain ⟨k,hk⟩:=List.getElem?_of_mem hm;obtain ⟨n,_,h⟩:=hj2 k j hk;exact ⟨n,h⟩
 ·intro v;rw [if_neg (by simp [Ff.2 v.lev]),if_neg (by have:=v.n1;have:=v.n2;omega),if_neg (by have:=v.n3;omega)]
  have hg:Dw s.1 (A5 0 s.1.2) 0 s.2.1=none:=J1.2 λk j hk=>by
   rw [Nat.zero_add];obtain ⟨n,hn⟩:=v.job j (List.mem_of_getElem? hk);exact (PC v.lev).2 ⟨n,by rw [<- v.due,List.getElem?_map,hk];rfl,hn⟩
  rw [hg];simp only;rw [if_neg (by rw [<- v.due];simp)]
theorem Rp {s:AT} (v:VSt s):BB s=(0,0):=by
 have h:=C4.2 v;unfold BB at h ⊢;rw [if_neg (by simp [Ff.2 v.lev]),if_neg (by have:=v.n1;have:=v.n2;omega),if_neg (by have:=v.n3;omega)] at h ⊢;cases hg:Dw s.1 (A5 0 s.1.2) 0 s.2.1 with
 | some i=>rw [hg] at h;cases h
 | none =>
  rw [hg] at h;simp only at h ⊢;by_cases h3:s.2.1.length<(A5 0 s.1.2).length
  ·rw [if_pos h3] at h;cases h
  ·rw [if_neg h3]
structure Sm (s:AT):Prop where
 lv:s.1.2.length<=1048576
 rs : ∀ rs∈s.1.2,rs.length<=1048576 /\ ∀ r∈rs,r.2.length<=9223372036854775807
 js:s.2.1.length<=1048576
theorem oC {s:AT} (m:Sm s):DT s=some (BB s):=Uy s m.lv m.rs m.js
theorem ks {s:AT} (m:Sm s):CX s=some (BB s):=TQ s m.lv m.rs m.js
theorem VSt.jlen {s:AT} (v:VSt s):s.2.1.length=(A5 0 s.1.2).length:=by rw [<- v.due];simp
theorem VSt.jsmall {s:AT} (v:VSt s):s.2.1.length<=12:=by
 have:=v.jlen;have:=Fg s.1.2 0;have:=v.lev.len;omega
theorem VSt.sm {s:AT} (v:VSt s):Sm s:=⟨v.lev.small.1,v.lev.small.2,by have:=v.jsmall;omega⟩
def Rq (x:Int):Nat->List Int->Option Nat
 | _,[]=>none
 | k,y::l=>if y=x then some k else Rq x (k+1) l
theorem Z0 {x:Int} : ∀ {l:List Int} {k i:Nat},Rq x k l=some i->k<=i/\l[i-k]? = some x
 | [],_,_,h=>by cases h
 | y::l,k,i,h=>by
  unfold Rq at h;by_cases e:y=x
  ·rw [if_pos e] at h;cases h;simp [e]
  ·rw [if_neg e] at h;obtain ⟨h1,h2⟩:=Z0 h;exact ⟨by omega,by rw [show i-k=(i-(k+1))+1 by omega];simpa using h2⟩
theorem WY {x:Int} : ∀ {l:List Int} {k:Nat},x∈l -> ∃ i,Rq x k l=some i
 | [],_,h=>by cases h
 | y::l,k,h=>by
  unfold Rq;by_cases e:y=x
  ·rw [if_pos e];exact ⟨k,rfl⟩
  ·rw [if_neg e];exact WY (by rcases List.mem_cons.1 h with h | h;exact absurd h.symm e;exact h)
def TS (s:AT) (level:Int):Int×Int:=if (BB s).2≠0 then (0,(BB s).2) else match Rq level 0 (A5 0 s.1.2) with
 | some i=>((i:Int),0)
 | none=>(0,4)
theorem WZ {s:AT} (m:Sm s) (level:Int):Fh (s,level)=some (TS s level):=by
 unfold Fh TS;simp only [AV,AQ];rw [oC m,AB,AS];by_cases h0:(BB s).2=0;rotate_left
 ·rw [if_neg h0,if_pos h0]
 rw [if_pos h0,if_neg (show ¬ (BB s).2≠0 by simp [h0])];have v:=C4.1 h0;have hj:=v.jsmall;rw [<- v.due];obtain ⟨T,hT⟩ : ∃ T,T=Rq level 0 (s.2.1.map (·.1)):=⟨_,rfl⟩;rw [<- hT]
 obtain ⟨r,q1,q2⟩:=FB (l:=s.2.1) (σ:=Unit) (s:=((0:Int),(0:Int))) (λk _=>((0:Int),(k:Int))) (λjs k _=>Rq level k (js.map (·.1))=T) (λ(r:Nat×((Int×Int)×Unit))=>(r.1=1/\T=none)\/(r.1=0 /\ ∃ i:Nat,T=some i/\r.2.1.1=(i:Int)))
  (f:=λs1=>br (Am s1.2 (s.2.1.length:Int)) (λ_=>AU s1.2 λk2=>ix s.2.1 k2 λx3=>br (Ba x3.1 level) (λ_=>some (.dn ((0,((s1.2,s1.2),()))))) λ_=>some (.nx (s1.1,AH .i64 s1.2 1))) λ_=>some (.dn ((1,(s1,())))))
  () rfl (by omega) hT.symm (λ_ h=>⟨_,by simp only;rw [re];rfl,.inl ⟨rfl,by rw [<- h];rfl⟩⟩) (λk j js _ hd hx hk h=>by
   simp only;rw [rl hk,AM,AE,AJ hx,B3];unfold Rq at h;simp only [List.map_cons] at h;by_cases e:j.1=level
   ·rw [if_pos e];rw [if_pos e] at h;exact .inr ⟨_,rfl,.inr ⟨rfl,k,h.symm,rfl⟩⟩
   ·rw [if_neg e];rw [if_neg e] at h
    exact .inl ⟨(),by rw [Al hx (by omega)],h⟩)
 refine BF q1 ?_;rw [CH];rcases q2 with ⟨q2,q3⟩ | ⟨q2,i,q3,q4⟩
 ·rw [if_neg (show ¬ r.1=0 by omega),q3];rfl
 ·rw [if_pos q2,q3,q4,BE,if_neg (by omega)]
end Go.Proofs.YthpkjfabdccpdaaGreat.Pl
namespace Go.Proofs.YthpkjfabdccpdaaGreat.Pl
open Go Go.Proofs.YthpkjfabdccpdaaGreat.Sv
def CR (L:AK) (j:Job):Nat:=match L.2[j.1.toNat]? with
 | some [r0,r1]=>r1.2.length+r0.2.length-j.2.2.2.2.toNat
 | _=>0
def Hd (L:AK) (j:Job):Bool:=decide ((j.2.2.2.1.length:Int)<=B4 L.1 j.1.toNat)
def MP (L:AK) (n:Nat):Bool:=decide (n<12/\((L.2[n]?).getD []).length<2)
def Ib (L:AK) (j:Job):Bool:=decide (0<CR L j)||(Hd L j||MP L (j.1.toNat+1))
def ec (s:AT) (level:Int):Option Job:=match Rq level 0 (A5 0 s.1.2) with
 | some i=>s.2.1[i]?
 | none=>none
theorem VSt.at {s:AT} (v:VSt s) {level:Int} {i:Nat} (h:Rq level 0 (A5 0 s.1.2)=some i) : ∃ (j:Job) (n:Nat),s.2.1[i]? = some j/\level=(n:Int)/\j.1=(n:Int)/\JobAt s.1 n j/\n<s.1.2.length:=by
 obtain ⟨_,h1⟩:=Z0 h;rw [Nat.sub_zero] at h1;rw [<- v.due,List.getElem?_map] at h1;cases hj:s.2.1[i]? with
 | none=>rw [hj] at h1;cases h1
 | some j =>
  rw [hj] at h1;simp only [Option.map_some,Option.some.injEq] at h1;obtain ⟨n,hn⟩:=v.job j (List.mem_of_getElem? hj);have hn0:=hn;obtain ⟨r0,r1,bt,k,hl,e,_⟩:=hn;have h2:j.1=(n:Int):=by rw [e]
  exact ⟨j,n,rfl,by rw [<- h1,h2],h2,hn0,(List.getElem?_eq_some_iff.1 hl).1⟩
theorem JobAt.left {L:AK} {n:Nat} {j:Job} (h:JobAt L n j):Bh j.2=some ((CR L j:Int),0)/\A7 j.2=some ((CR L j:Int),0)/\CR L j<=10000:=by
 obtain ⟨r0,r1,bt,k,hl,rfl,hk,_,v0,v1⟩:=h;have l0:=v0.len;have l1:=v1.len
 have e:CR L ((n:Int),Dk r1.2 r0.2 bt k)=r1.2.length+r0.2.length-k:=by
  unfold CR;simp only [Int.toNat_natCast,hl];show r1.2.length+r0.2.length-((k:Int)).toNat=_;rw [Int.toNat_natCast]
 rw [e];exact ⟨NJ v1 v0 bt hk,LV v1 v0 bt hk,by omega⟩
theorem Xf {L:AK} (v:VLev L) {n:Nat} (hn:n<12):FN (L.1,(n:Int))=some (B4 L.1 n,0):=by
 have h1:=v.B1;have h2:=v.B2;unfold FN;rw [BE,if_neg (by omega),Aq,if_neg (by omega),BE,if_neg (by omega),Fe,if_neg (by omega),NK h1 h2 (by omega)];have:Hj (n:Int) 0=true:=by unfold Hj;simp
 rw [this];rfl
theorem Rr {L:AK} (v:VLev L) (k:Int):Ek (L,k)=some (if k<0\/k>=12 then 7 else 0):=by
 obtain ⟨hb,hr⟩:=v.small;unfold Ek;rw [LQ _ hb hr,HE v,AB,AS,if_pos rfl,BE,Fe];by_cases h1:k<0
 ·rw [if_pos h1,if_pos (.inl h1)]
 ·rw [if_neg h1];by_cases h2:k>=12
  ·rw [if_pos h2,if_pos (.inr h2)]
  ·rw [if_neg h2,if_neg (by omega)]
theorem ik (l:List BH):Am (l.length:Int) 2=decide (l.length<2):=by
 unfold Am;rw [decide_eq_decide];omega
theorem Xg {L:AK} (v:VLev L) {n:Nat} (hn:n<=12):FO (L,(n:Int))=some (MP L n,if n>=12 then 7 else 0):=by
 unfold FO MP;simp only [AV,AQ];rw [Rr v,AB,AS];by_cases h:n>=12
 ·rw [if_pos (show (n:Int)<0\/(n:Int)>=12 by omega),if_neg (by decide),if_pos h];simp;omega
 ·rw [if_neg (show ¬ ((n:Int)<0\/(n:Int)>=12) by omega),if_pos rfl,if_neg h,BE];have h12:n<12:=by omega
  by_cases h2:n<L.2.length
  ·have hx:L.2[n]? = some (L.2[n]'h2):=by simp
   rw [if_pos (by omega),AE,AJ hx,hx,ik,Option.getD_some];simp [h12]
  ·rw [if_neg (by omega),List.getElem?_eq_none (by omega)];simp [h12]
abbrev ku:=AT×(Job×Int)
theorem TT {s:AT} (v:VLev s.1) {n:Nat} {j:Job} (hj:j.1=(n:Int)) (hn:n<12) (l:Int):BL (s,(j,l))=some (Hd s.1 j):=by
 unfold BL Hd;simp only [AV,AQ];rw [hj,Xf v hn,AB,B3,if_pos rfl,Int.toNat_natCast];rfl
theorem Z1 {s:AT} (v:VLev s.1) {n:Nat} {j:Job} (hj:j.1=(n:Int)) (hn:n<12) (l:Int):Cc (s,(j,l))=some (MP s.1 (n+1)):=by
 unfold Cc;simp only;rw [hj,Ab (by omega),Xg v (by omega),AB,B3];by_cases h:n+1>=12
 ·rw [if_pos h,if_neg (show ¬ (7:Int)=0 by decide)];unfold MP;simp;omega
 ·rw [if_neg h,if_pos rfl]
theorem U7 {s:AT} (v:VLev s.1) {n:Nat} {j:Job} (hj:j.1=(n:Int)) (hn:n<12) (l:Nat) (hl:l=CR s.1 j):Bq (s,(j,(l:Int)))=some (Ib s.1 j):=by
 have e0:A9 (s,(j,(l:Int)))=some (decide (0<CR s.1 j)):=by
  unfold A9 CF;rw [hl];simp
 have e1:=TT v hj hn (l:Int);have e2:=Z1 v hj hn (l:Int);unfold Bq Ib;rw [e0,e1,e2,hj,Int.toNat_natCast];simp only [AB];cases h0:decide (0<CR s.1 j) with
 | true=>exact BF (x:=(0,((0,true),()))) (Ch (n:=1) (by omega) (BV rfl)) rfl
 | false =>
  cases h1:Hd s.1 j with
  | true=>exact BF (x:=(0,((1,true),()))) (Ch (n:=2) (by omega) ((BG (s':=(1,false)) rfl).trans (BV rfl))) rfl
  | false =>
   cases h2:MP s.1 (n+1) with
   | true=>exact BF (x:=(0,((2,true),()))) (Ch (n:=3) (by omega) ((BG (s':=(1,false)) rfl).trans ((BG (s':=(2,false)) rfl).trans (BV rfl)))) rfl
   | false=>exact BF (x:=(1,((3,false),()))) (Ch (n:=4) (by omega) ((BG (s':=(1,false)) rfl).trans ((BG (s':=(2,false)) rfl).trans ((BG (s':=(3,false)) rfl).trans (BV rfl))))) rfl
end Go.Proofs.YthpkjfabdccpdaaGreat.Pl
namespace Go.Proofs.YthpkjfabdccpdaaGreat.Pl
open Go Go.Proofs.YthpkjfabdccpdaaGreat.Sv
def Rs {α:Type} (z:α) (f:AT->Job->α×Int) (s:AT) (level:Int):α×Int:=if (BB s).2≠0 then (z,(BB s).2) else match ec s level with
 | some j=>f s j
 | none=>(z,4)
def z0:ku:=(((0,[]),([],0)),((0,(([],([],([],([],0)))),((false,([],false)),([],0)))),0))
theorem Z3 {s:AT} (m:Sm s) (level:Int):Cw (s,level)=some (Rs z0 (λs j=>((s,(j,(CR s.1 j:Int))),0)) s level):=by
 unfold Cw;rw [WZ m,AB];unfold Rs ec TS;by_cases h0:(BB s).2=0;rotate_left
 ·rw [if_pos h0,AS,if_neg h0,if_pos h0];rfl
 rw [if_neg (show ¬ (BB s).2≠0 by simp [h0]),if_neg (show ¬ (BB s).2≠0 by simp [h0])];have v:=C4.1 h0;cases hf:Rq level 0 (A5 0 s.1.2) with
 | none=>rfl
 | some i =>
  obtain ⟨j,n,hj,hl,hjn,ha,hn⟩:=v.at hf;simp only;rw [AS,if_pos rfl,AE,AJ hj,hj,(JobAt.left ha).1,AB]
theorem Z4 {s:AT} (m:Sm s) (level:Int):BU (s,level)=some (Rs false (λs j=>(Ib s.1 j,0)) s level):=by
 unfold BU;rw [Z3 m,AB];unfold Rs;by_cases h0:(BB s).2=0;rotate_left
 ·rw [if_pos h0,AS,if_neg h0,if_pos h0]
 rw [if_neg (show ¬ (BB s).2≠0 by simp [h0]),if_neg (show ¬ (BB s).2≠0 by simp [h0])];have v:=C4.1 h0;unfold ec;cases hf:Rq level 0 (A5 0 s.1.2) with
 | none=>rfl
 | some i =>
  obtain ⟨j,n,hj,hl,hjn,ha,hn⟩:=v.at hf;have:=v.lev.len;simp only [hj];rw [AS,if_pos rfl,U7 v.lev hjn (by omega) _ rfl,AB]
end Go.Proofs.YthpkjfabdccpdaaGreat.Pl
namespace Go.Proofs.YthpkjfabdccpdaaGreat.Pl
open Go Go.Proofs.YthpkjfabdccpdaaGreat.Sv
theorem Ic {α β σ S:Type} {l:List α} (c:Nat) (hc9:c<=1000) (mk:Nat->σ->S) (I:Nat->σ->Prop) (Q:β->Prop) {f:S->Option (LR S β)} {s:S} (st:σ) (h0:s=mk 0 st) (hi:I 0 st)
  (hn : ∀ k st,(k=l.length\/k=c)->k<=l.length->I k st -> ∃ r,f (mk k st)=some (.dn r)/\Q r)
  (hc : ∀ k x st,l[k]? = some x->k<c->I k st->(∃ st',f (mk k st)=some (.nx (mk (k+1) st'))/\I (k+1) st') \/ ∃ r,f (mk k st)=some (.dn r)/\Q r) : ∃ r,loop f s=some r/\Q r:=by
 refine FB (l:=l.take c) mk (λ_ k st=>I k st/\k<=(l.take c).length) Q st h0 (by simp;omega) ⟨hi,by omega⟩ (λst h=>hn _ st (by simp;omega) (by simp;omega) h.1) (λk x m st hd hx hk h => ?_);have hk2:k<c:=by simp at hk;omega
 have hx2:l[k]? = some x:=by rw [List.getElem?_take] at hx;rw [if_pos hk2] at hx;exact hx
 rcases hc k x st hx2 hk2 h.1 with ⟨st',h1,h2⟩ | h1
 ·exact .inl ⟨st',h1,h2,by omega⟩
 ·exact .inr h1
theorem QY {k c:Nat} (h:k<c):Am (k:Int) (c:Int)=true:=by unfold Am;simp;omega
theorem Xh {α β:Type} {l:List α} {k c:Nat} (h:k=l.length\/k=c) (hk:k<=l.length) (A B C:Option β) (e:B=C):br (Am (k:Int) (l.length:Int)) (λ_=>br (Am (k:Int) (c:Int)) (λ_=>A) λ_=>B) (λ_=>C)=C:=by
 rw [BE];by_cases h1:(k:Int)<(l.length:Int)
 ·rw [if_pos h1,BE,if_neg (by omega),e]
 ·rw [if_neg h1]
theorem Xi (l:List AD) : ∃ b,E4 l=some b/\(b=false->l.length<=30):=by
 unfold E4;simp only [AV,AQ]
 obtain ⟨r,q1,q2⟩:=Ic (l:=l) (σ:=Unit) (s:=((0:Int),false)) 40 (by omega) (λk _=>((k:Int),false)) (λ_ _=>True) (λ(r:Nat×((Int×Bool)×Unit))=>r.1=1\/(r.1=0/\r.2.1.2=true))
  (f:=λs0=>br (Am s0.1 (l.length:Int)) (λ_=>br (Am s0.1 40) (λ_=>AU s0.1 λk1=>ix l k1 λx2=>br (CF (E8 x2.1:Int) 100) (λ_=>some (.dn ((0,((s0.1,true),()))))) λ_=>AU s0.1 λk3=>ix l k3 λx4=>br (CF (E8 x4.2.1:Int) 100) (λ_=>some (.dn ((0,((s0.1,true),()))))) λ_=>some (.nx (AH .i64 s0.1 1,s0.2))) λ_=>some (.dn ((1,(s0,()))))) λ_=>some (.dn ((1,(s0,())))))
  () rfl trivial (λk _ h hk _=>⟨_,(Xh (c:=40) h hk _ _ _ rfl),.inl rfl⟩) (λk x _ hx hk _=>by
   simp only;have hk2:=(List.getElem?_eq_some_iff.1 hx).1;rw [rl hk2,AM,show Am (k:Int) 40=true from QY hk,AM,AE,AJ hx,Aq,AE,AJ hx,Aq,Ab (by omega)]
   repeat' split
   all_goals first | exact .inr ⟨_,rfl,.inr ⟨rfl,rfl⟩⟩ | exact .inl ⟨(),rfl,trivial⟩)
 rw [q1,AB,CH];rcases q2 with q2 | ⟨q2,q3⟩
 ·rw [if_neg (show ¬ r.1=0 by omega)];exact ⟨_,rfl,λh=>by unfold CF at h;simp at h;omega⟩
 ·rw [if_pos q2,q3];exact ⟨_,rfl,λh=>by cases h⟩
theorem TU (l:List BH) : ∃ b,C5 l=some b/\(b=false->l.length<=6 /\ ∀ r∈l,r.2.length<=30):=by
 unfold C5;simp only [AV,AQ]
 obtain ⟨r,q1,q2⟩:=Ic (l:=l) (σ:=Unit) (s:=((0:Int),false)) 10 (by omega) (λk _=>((k:Int),false)) (λk _ => ∀ i x,i<k->l[i]? = some x->x.2.length<=30) (λ(r:Nat×((Int×Bool)×Unit))=>(r.1=1 /\ ∀ i x,i<10->l[i]? = some x->x.2.length<=30)\/(r.1=0/\r.2.1.2=true))
  (f:=λs0=>br (Am s0.1 (l.length:Int)) (λ_=>br (Am s0.1 10) (λ_=>AU s0.1 λk1=>ix l k1 λx2=>bd (E4 x2.2) λr3=>br r3 (λ_=>some (.dn ((0,((s0.1,true),()))))) λ_=>some (.nx (AH .i64 s0.1 1,s0.2))) λ_=>some (.dn ((1,(s0,()))))) λ_=>some (.dn ((1,(s0,())))))
  () rfl (λi x h=>by omega) (λk _ h hk hI=>⟨_,(Xh (c:=10) h hk _ _ _ rfl),.inl ⟨rfl,λi x hi hx=>hI i x (by have:=(List.getElem?_eq_some_iff.1 hx).1;omega) hx⟩⟩) (λk x _ hx hk hI=>by
   simp only;have hk2:=(List.getElem?_eq_some_iff.1 hx).1;obtain ⟨b,e,hb⟩:=Xi x.2;rw [rl hk2,AM,show Am (k:Int) 10=true from QY hk,AM,AE,AJ hx,e,AB,Ab (by omega)];cases b with
   | true=>exact .inr ⟨_,rfl,.inr ⟨rfl,rfl⟩⟩
   | false =>
    refine .inl ⟨(),rfl,λi y hi hy => ?_⟩;by_cases h:i=k
    ·subst h;rw [hx] at hy;cases hy;exact hb rfl
    ·exact hI i y (by omega) hy)
 rw [q1,AB,CH];rcases q2 with ⟨q2,q3⟩ | ⟨q2,q3⟩
 ·rw [if_neg (show ¬ r.1=0 by omega)];refine ⟨_,rfl,λh => ?_⟩;have hl:l.length<=6:=by unfold CF at h;simp at h;omega
  exact ⟨hl,λr hr=>by
   obtain ⟨i,hi⟩:=List.getElem?_of_mem hr
   exact q3 i r (by have:=(List.getElem?_eq_some_iff.1 hi).1;omega) hi⟩
 ·rw [if_pos q2,q3];exact ⟨_,rfl,λh=>by cases h⟩
theorem Xj (L:AK) : ∃ b,GI L=some b/\(b=false->L.2.length<=14 /\ ∀ rs∈L.2,rs.length<=6 /\ ∀ r∈rs,r.2.length<=30):=by
 unfold GI;simp only [AV,AQ]
 obtain ⟨r,q1,q2⟩:=Ic (l:=L.2) (σ:=Unit) (s:=((0:Int),false)) 20 (by omega) (λk _=>((k:Int),false)) (λk _ => ∀ i x,i<k->L.2[i]? = some x->x.length<=6 /\ ∀ r∈x,r.2.length<=30) (λ(r:Nat×((Int×Bool)×Unit))=>(r.1=1 /\ ∀ i x,i<20->L.2[i]? = some x->x.length<=6 /\ ∀ r∈x,r.2.length<=30)\/(r.1=0/\r.2.1.2=true))
  (f:=λs0=>br (Am s0.1 (L.2.length:Int)) (λ_=>br (Am s0.1 20) (λ_=>AU s0.1 λk1=>ix L.2 k1 λx2=>bd (C5 x2) λr3=>br r3 (λ_=>some (.dn ((0,((s0.1,true),()))))) λ_=>some (.nx (AH .i64 s0.1 1,s0.2))) λ_=>some (.dn ((1,(s0,()))))) λ_=>some (.dn ((1,(s0,())))))
  () rfl (λi x h=>by omega) (λk _ h hk hI=>⟨_,(Xh (c:=20) h hk _ _ _ rfl),.inl ⟨rfl,λi x hi hx=>hI i x (by have:=(List.getElem?_eq_some_iff.1 hx).1;omega) hx⟩⟩) (λk x _ hx hk hI=>by
   simp only;have hk2:=(List.getElem?_eq_some_iff.1 hx).1;obtain ⟨b,e,hb⟩:=TU x;rw [rl hk2,AM,show Am (k:Int) 20=true from QY hk,AM,AE,AJ hx,e,AB,Ab (by omega)];cases b with
   | true=>exact .inr ⟨_,rfl,.inr ⟨rfl,rfl⟩⟩
   | false =>
    refine .inl ⟨(),rfl,λi y hi hy => ?_⟩;by_cases h:i=k
    ·subst h;rw [hx] at hy;cases hy;exact hb rfl
    ·exact hI i y (by omega) hy)
 rw [q1,AB,CH];rcases q2 with ⟨q2,q3⟩ | ⟨q2,q3⟩
 ·rw [if_neg (show ¬ r.1=0 by omega)];refine ⟨_,rfl,λh => ?_⟩;have hl:L.2.length<=14:=by unfold CF at h;simp at h;omega
  exact ⟨hl,λr hr=>by
   obtain ⟨i,hi⟩:=List.getElem?_of_mem hr
   exact q3 i r (by have:=(List.getElem?_eq_some_iff.1 hi).1;omega) hi⟩
 ·rw [if_pos q2,q3];exact ⟨_,rfl,λh=>by cases h⟩
theorem Wa (l:List AD) : ∃ b,Cv l=some b:=by
 unfold Cv;simp only [AV,AQ]
 obtain ⟨r,q1,q2⟩:=Ic (l:=l) (σ:=Unit) (s:=((0:Int),false)) 80 (by omega) (λk _=>((k:Int),false)) (λ_ _=>True) (λ(r:Nat×((Int×Bool)×Unit))=>True)
  (f:=λs0=>br (Am s0.1 (l.length:Int)) (λ_=>br (Am s0.1 80) (λ_=>AU s0.1 λk1=>ix l k1 λx2=>br (CF (E8 x2.1:Int) 100) (λ_=>some (.dn ((0,((s0.1,true),()))))) λ_=>AU s0.1 λk3=>ix l k3 λx4=>br (CF (E8 x4.2.1:Int) 100) (λ_=>some (.dn ((0,((s0.1,true),()))))) λ_=>some (.nx (AH .i64 s0.1 1,s0.2))) λ_=>some (.dn ((1,(s0,()))))) λ_=>some (.dn ((1,(s0,())))))
  () rfl trivial (λk _ h hk _=>⟨_,(Xh (c:=80) h hk _ _ _ rfl),trivial⟩) (λk x _ hx hk _=>by
   simp only;have hk2:=(List.getElem?_eq_some_iff.1 hx).1;rw [rl hk2,AM,show Am (k:Int) 80=true from QY hk,AM,AE,AJ hx,Aq,AE,AJ hx,Aq,Ab (by omega)]
   repeat' split
   all_goals first | exact .inr ⟨_,rfl,trivial⟩ | exact .inl ⟨(),rfl,trivial⟩)
 rw [q1,AB,CH];split<;>exact ⟨_,rfl⟩
theorem Xk (s:AT) : ∃ b,GJ s=some b/\(b=false->Sm s /\ ∀ rs∈s.1.2,∀ r∈rs,r.2.length<=30):=by
 unfold GJ;simp only [AV,AQ]
 obtain ⟨r,q1,q2⟩:=Ic (l:=s.2.1) (σ:=Unit) (s:=((0:Int),false)) 20 (by omega) (λk _=>((k:Int),false)) (λ_ _=>True) (λ(r:Nat×((Int×Bool)×Unit))=>r.1=0\/(r.1=1/\r.2.1.2=true))
  (f:=λs0=>br (Am s0.1 (s.2.1.length:Int)) (λ_=>br (Am s0.1 20) (λ_=>AU s0.1 λk1=>ix s.2.1 k1 λx2=>bd (loop (λs3=>br (Am s3.1 (x2.2.1.1.length:Int)) (λ_=>br (Am s3.1 10) (λ_=>AU s3.1 λk4=>ix x2.2.1.1 k4 λx5=>bd (Cv x5) λr6=>br r6 (λ_=>some (.dn ((0,((s3.1,true),()))))) λ_=>some (.nx (AH .i64 s3.1 1,s3.2))) λ_=>some (.dn ((1,(s3,()))))) λ_=>some (.dn ((1,(s3,()))))) (0,s0.2)) λr7=>br (neq r7.1 0) (λ_=>some (.dn ((1,((s0.1,r7.2.1.2),()))))) λ_=>bd (Cv x2.2.2.2.1) λr8=>br r8 (λ_=>some (.dn ((1,((s0.1,true),()))))) λ_=>br (CF (x2.2.1.1.length:Int) 6) (λ_=>some (.dn ((1,((s0.1,true),()))))) λ_=>br (CF (x2.2.1.2.1.length:Int) 40) (λ_=>some (.dn ((1,((s0.1,true),()))))) λ_=>br (CF (x2.2.1.2.2.1.length:Int) 40) (λ_=>some (.dn ((1,((s0.1,true),()))))) λ_=>br (CF (x2.2.1.2.2.2.1.length:Int) 40) (λ_=>some (.dn ((1,((s0.1,true),()))))) λ_=>br (CF (E8 x2.2.2.1.2.1:Int) 200) (λ_=>some (.dn ((1,((s0.1,true),()))))) λ_=>some (.nx (AH .i64 s0.1 1,r7.2.1.2))) λ_=>some (.dn ((0,(s0,()))))) λ_=>some (.dn ((0,(s0,())))))
  () rfl trivial (λk _ h hk _=>⟨_,(Xh (c:=20) h hk _ _ _ rfl),.inl rfl⟩) (λk x _ hx hk _=>by
   simp only;have hk2:=(List.getElem?_eq_some_iff.1 hx).1;rw [rl hk2,AM,show Am (k:Int) 20=true from QY hk,AM,AE,AJ hx]
   obtain ⟨r,q1,q2⟩:=Ic (l:=x.2.1.1) (σ:=Unit) (s:=((0:Int),false)) 10 (by omega) (λk _=>((k:Int),false)) (λ_ _=>True) (λ(r:Nat×((Int×Bool)×Unit))=>(r.1=1/\r.2.1.2=false)\/(r.1=0/\r.2.1.2=true))
    (f:=λs3=>br (Am s3.1 (x.2.1.1.length:Int)) (λ_=>br (Am s3.1 10) (λ_=>AU s3.1 λk4=>ix x.2.1.1 k4 λx5=>bd (Cv x5) λr6=>br r6 (λ_=>some (.dn ((0,((s3.1,true),()))))) λ_=>some (.nx (AH .i64 s3.1 1,s3.2))) λ_=>some (.dn ((1,(s3,()))))) λ_=>some (.dn ((1,(s3,())))))
    () rfl trivial (λk _ h hk _=>⟨_,(Xh (c:=10) h hk _ _ _ rfl),.inl ⟨rfl,rfl⟩⟩) (λk y _ hy hk _=>by
     simp only;have hk2:=(List.getElem?_eq_some_iff.1 hy).1;obtain ⟨b,e⟩:=Wa y;rw [rl hk2,AM,show Am (k:Int) 10=true from QY hk,AM,AE,AJ hy,e,AB,Ab (by omega)];cases b with
     | true=>exact .inr ⟨_,rfl,.inr ⟨rfl,rfl⟩⟩
     | false=>exact .inl ⟨(),rfl,trivial⟩)
   obtain ⟨b,e⟩:=Wa x.2.2.2.1;rw [q1,AB,CH,e];rcases q2 with ⟨q2,q3⟩ | ⟨q2,q3⟩
   ·rw [if_neg (show ¬ r.1=0 by omega),AB,Fo,Aq,Aq,Aq,Aq,Aq,q3,Ab (by omega)]
    repeat' split
    all_goals first | exact .inr ⟨_,rfl,.inr ⟨rfl,rfl⟩⟩ | exact .inl ⟨(),rfl,trivial⟩
   ·rw [if_pos q2,q3]
    exact .inr ⟨_,rfl,.inr ⟨rfl,rfl⟩⟩)
 rw [q1,AB,CH];rcases q2 with q2 | ⟨q2,q3⟩
 ·rw [if_pos q2,Aq];by_cases h:(s.2.1.length:Int)>14
  ·rw [if_pos h];exact ⟨_,rfl,λh=>by cases h⟩
  ·rw [if_neg h];obtain ⟨b,e,hb⟩:=Xj s.1;rw [e];refine ⟨b,rfl,λh2 => ?_⟩;obtain ⟨h3,h4⟩:=hb h2;exact ⟨⟨by omega,λrs hrs=>⟨by have:=(h4 rs hrs).1;omega,λr hr=>by have:=(h4 rs hrs).2 r hr;omega⟩,by omega⟩,λrs hrs=>(h4 rs hrs).2⟩
 ·rw [if_neg (show ¬ r.1=0 by omega),q3];exact ⟨_,rfl,λh=>by cases h⟩
end Go.Proofs.YthpkjfabdccpdaaGreat.Pl
namespace Go.Proofs.YthpkjfabdccpdaaGreat.Pl
open Go Go.Proofs.YthpkjfabdccpdaaGreat.Sv
theorem gJ:Di ()=some true:=by kernel_rfl
end Go.Proofs.YthpkjfabdccpdaaGreat.Pl
namespace Go.Proofs.YthpkjfabdccpdaaGreat.Pl
open Go Go.Proofs.YthpkjfabdccpdaaGreat.Sv
theorem gK {β:Type} (k:Unit->Option β):gd true k=k ():=rfl
def Ak (l:List (List BH)) (i:Nat):List BH:=(l[i]?).getD []
def J2 (l:List (List BH)):Nat->Nat
 | 0=>0
 | k+1=>if Ak l k=[] then J2 l k else k+1
def Ie (l:List (List BH)) (n:Nat):List (List BH):=l++List.replicate (n+1-l.length) []
def J3 (l:List (List BH)) (n:Nat) (r:List BH):List (List BH):=(Ie l n).set n r
def He (l:List (List BH)):List (List BH):=l.take (J2 l l.length)
def Cq (L:AK) (n:Nat) (r:List BH):AK:=(L.1,He (J3 L.2 n r))
theorem Rt (l:List (List BH)) : ∀ k,J2 l k<=k
 | 0=>Nat.le_refl _
 | k+1=>by
  unfold J2;split
  ·exact Nat.le_succ_of_le (Rt l k)
  ·exact Nat.le_refl _
theorem PF (l:List (List BH)) : ∀ {k i:Nat},J2 l k<=i->i<k->Ak l i=[]
 | 0,_,_,h=>by omega
 | k+1,i,h1,h2=>by
  unfold J2 at h1;split at h1
  ·rename_i he;by_cases hi:i=k
   ·rw [hi];exact he
   ·exact PF l h1 (by omega)
  ·omega
theorem QZ (l:List (List BH)) : ∀ {k m:Nat},J2 l k=m+1->Ak l m≠[]
 | 0,m,h=>by cases h
 | k+1,m,h=>by
  unfold J2 at h;split at h
  ·exact QZ l h
  ·rename_i hne;have:m=k:=by omega
   rw [this];exact hne
theorem Qa (l:List (List BH)) (i:Nat):Ak (He l) i=Ak l i:=by
 unfold He;by_cases h:i<J2 l l.length
 ·unfold Ak;rw [List.getElem?_take,if_pos h]
 ·have h1:Ak (l.take (J2 l l.length)) i=[]:=by
   unfold Ak;rw [List.getElem?_take,if_neg h];rfl
  rw [h1];by_cases h2:i<l.length
  ·exact (PF l (by omega) h2).symm
  ·unfold Ak;rw [List.getElem?_eq_none (by omega)];rfl
theorem U8 (l:List (List BH)):(He l).getLast? ≠ some []:=by
 have hl:(He l).length=J2 l l.length:=by
  have:=Rt l l.length;unfold He;rw [List.length_take];omega
 cases hd:J2 l l.length with
 | zero =>
  have:He l=[]:=List.length_eq_zero_iff.1 (by rw [hl,hd]);rw [this];simp
 | succ m =>
  have h1:=QZ l hd;rw [List.getLast?_eq_getElem?,hl,hd];intro h2;have h3:Ak (He l) m=[]:=by unfold Ak;rw [show m=m+1-1 by omega,h2];rfl
  rw [Qa] at h3;exact h1 h3
theorem MQ (l:List (List BH)) (n:Nat):(Ie l n).length=max l.length (n+1):=by
 unfold Ie;simp;omega
theorem TV (l:List (List BH)) (n i:Nat):Ak (Ie l n) i=Ak l i:=by
 unfold Ak Ie;by_cases h:i<l.length
 ·rw [List.getElem?_append_left h]
 ·rw [List.getElem?_append_right (by omega),List.getElem?_replicate,List.getElem?_eq_none (l:=l) (by omega)];split<;>rfl
theorem Z5 (l:List (List BH)) (n i:Nat) (r:List BH):Ak (J3 l n r) i=if i=n then r else Ak l i:=by
 unfold J3;by_cases h:i=n
 ·rw [if_pos h,h];have:=MQ l n;unfold Ak;rw [List.getElem?_set_self (by omega)];rfl
 ·rw [if_neg h];unfold Ak;rw [List.getElem?_set_ne (λe=>h e.symm)];exact TV l n i
theorem Fi (L:AK) (n i:Nat) (r:List BH):Ak (Cq L n r).2 i=if i=n then r else Ak L.2 i:=by
 show Ak (He _) i=_;rw [Qa,Z5]
theorem U9 (L:AK) (n:Nat) (r:List BH):(Cq L n r).2.getLast? ≠ some []:=U8 _
theorem Xl (L:AK) (n:Nat) (r:List BH):(Cq L n r).2.length<=max L.2.length (n+1):=by
 show (He _).length<=_;unfold He;rw [List.length_take];have:(J3 L.2 n r).length=max L.2.length (n+1):=by unfold J3;rw [List.length_set,MQ]
 omega
theorem Xm (l:List (List BH)):(He l).flatten=l.flatten:=by
 have h:l=He l++l.drop (J2 l l.length):=(List.take_append_drop _ _).symm
 have h2:(l.drop (J2 l l.length)).flatten=[]:=by
  rw [List.flatten_eq_nil_iff];intro x hx;obtain ⟨i,hi⟩:=List.getElem?_of_mem hx;rw [List.getElem?_drop] at hi;have h3:=(List.getElem?_eq_some_iff.1 hi).1;have:=PF l (k:=l.length) (i:=J2 l l.length+i) (by omega) h3;unfold Ak at this;rw [hi] at this;exact this
 conv=>rhs;rw [h,List.flatten_append,h2,List.append_nil]
theorem Z6 (l:List (List BH)) (n:Nat):(Ie l n).flatten=l.flatten:=by
 unfold Ie;rw [List.flatten_append]
 have:(List.replicate (n+1-l.length) ([]:List BH)).flatten=[]:=by
  rw [List.flatten_eq_nil_iff];intro x hx;exact (List.mem_replicate.1 hx).2
 rw [this,List.append_nil]
theorem If (L:AK) (n:Nat) (r:List BH) : ∃ p q,L.2.flatten=p++(Ak L.2 n++q)/\(Cq L n r).2.flatten=p++(r++q):=by
 have hn:n<(Ie L.2 n).length:=by rw [MQ];omega
 refine ⟨((Ie L.2 n).take n).flatten,((Ie L.2 n).drop (n+1)).flatten,?_,?_⟩
 ·rw [<- TV L.2 n n,<- Z6 L.2 n]
  have:Ie L.2 n=(Ie L.2 n).take n++((Ie L.2 n)[n]::(Ie L.2 n).drop (n+1)):=by
   rw [<- List.drop_eq_getElem_cons hn,List.take_append_drop]
  have h2:Ak (Ie L.2 n) n=(Ie L.2 n)[n]:=by unfold Ak;rw [List.getElem?_eq_getElem hn];rfl
  rw [h2]
  conv=>lhs;rw [this]
  rw [List.flatten_append,List.flatten_cons]
 ·show (He (J3 L.2 n r)).flatten=_;rw [Xm];unfold J3;rw [List.set_eq_take_append_cons_drop,if_pos hn,List.flatten_append,List.flatten_cons]
theorem VLev.own {L:AK} (v:VLev L) (i:Nat):(Ak L.2 i).length<=2 /\ ∀ r∈Ak L.2 i,VR (B4 L.1 i) r:=by
 unfold Ak;cases h:L.2[i]? with
 | none=>exact ⟨by simp,λr hr=>by cases hr⟩
 | some rs=>exact v.lev i rs h
theorem VLev.with' {L:AK} (v:VLev L) {n:Nat} (hn:n<12) {r:List BH} (hl:r.length<=2) (hr : ∀ x∈r,VR (B4 L.1 n) x) (hid:((Cq L n r).2.flatten.map gz).Nodup):VLev (Cq L n r):=by
 refine ⟨v.B1,v.B2,?_,λi rs hi => ?_,hid,U9 L n r⟩
 ·have:=Xl L n r;have:=v.len;omega
 ·have h1:=Fi L n i r;unfold Ak at h1;rw [hi] at h1;simp only [Option.getD_some] at h1;rw [h1];split
  ·rename_i he;rw [he];exact ⟨hl,hr⟩
  ·exact v.own i
theorem VLev.leave {L:AK} (v:VLev L) {n:Nat} (hn:n<12):VLev (Cq L n []):=by
 refine v.with' hn (by simp) (λ_ h=>by cases h) ?_
 obtain ⟨p,q,h1,h2⟩:=If L n [];have:=v.ids;rw [h1] at this;rw [h2,List.nil_append];refine List.Sublist.nodup (List.Sublist.map _ ?_) this;exact List.Sublist.append (List.Sublist.refl _) (List.sublist_append_right _ _)
theorem VLev.arrive {L:AK} (v:VLev L) {n:Nat} (hn:n<12) {x:BH} (hl:(Ak L.2 n).length<2) (hx:VR (B4 L.1 n) x) (hid : ∀ y∈L.2.flatten,y.1≠x.1):VLev (Cq L n (Ak L.2 n++[x])):=by
 refine v.with' hn (by simp;omega) (λy hy => ?_) ?_
 ·rcases List.mem_append.1 hy with hy | hy
  ·exact (v.own n).2 y hy
  ·rw [List.mem_singleton.1 hy];exact hx
 ·obtain ⟨p,q,h1,h2⟩:=If L n (Ak L.2 n++[x])
  have hp:(Cq L n (Ak L.2 n++[x])).2.flatten.Perm (x::L.2.flatten):=by
   rw [h1,h2,List.append_assoc];refine List.Perm.trans ?_ (List.perm_middle (l₁:=p++Ak L.2 n) (l₂:=q) (a:=x) |>.trans (by rw [List.append_assoc]));rw [List.append_assoc];exact List.Perm.refl _
  refine (hp.map gz).nodup_iff.2 (List.nodup_cons.2 ⟨λhm => ?_,v.ids⟩);obtain ⟨y,hy,e⟩:=List.mem_map.1 hm;exact hid y hy e
theorem PG {l:List (List BH)} {x:BH}:x∈l.flatten <-> ∃ i,x∈Ak l i:=by
 rw [List.mem_flatten];constructor
 ·rintro ⟨rs,h1,h2⟩;obtain ⟨i,hi⟩:=List.getElem?_of_mem h1;exact ⟨i,by unfold Ak;rw [hi];exact h2⟩
 ·rintro ⟨i,h⟩;unfold Ak at h;cases hi:l[i]? with
  | none=>rw [hi] at h;cases h
  | some rs=>rw [hi] at h;exact ⟨rs,List.mem_of_getElem? hi,h⟩
theorem MS {l:List (List BH)} {x:BH} (h:x∈l.flatten):x.1<=EL l:=by
 have one : ∀ (rs:List BH) (m:Int),m<=rs.foldl (λm r=>KN m r.1) m /\ ∀ x∈rs,x.1<=rs.foldl (λm r=>KN m r.1) m:=by
  intro rs
  induction rs with
  | nil=>intro m;exact ⟨by simp,λx hx=>by cases hx⟩
  | cons r rs ih =>
   intro m;obtain ⟨h1,h2⟩:=ih (KN m r.1);rw [GH] at h1 h2;simp only [List.foldl_cons,GH] at h1 h2 ⊢;refine ⟨by omega,λx hx => ?_⟩;rcases List.mem_cons.1 hx with e | hx
   ·rw [e];omega
   ·exact h2 x hx
 have two : ∀ (ls:List (List BH)) (m:Int),m<=ls.foldl (λm rs=>rs.foldl (λm r=>KN m r.1) m) m /\ ∀ rs∈ls,∀ x∈rs,x.1<=ls.foldl (λm rs=>rs.foldl (λm r=>KN m r.1) m) m:=by
  intro ls
  induction ls with
  | nil=>intro m;exact ⟨by simp,λx hx=>by cases hx⟩
  | cons rs ls ih =>
   intro m;obtain ⟨h1,h2⟩:=ih (rs.foldl (λm r=>KN m r.1) m);obtain ⟨k1,k2⟩:=one rs m;simp only [List.foldl_cons];refine ⟨by omega,λrs' hrs x hx => ?_⟩;rcases List.mem_cons.1 hrs with e | hrs
   ·subst e;have:=k2 x hx;omega
   ·exact h2 rs' hrs x hx
 obtain ⟨rs,h1,h2⟩:=List.mem_flatten.1 h;exact (two l 0).2 rs h1 x h2
end Go.Proofs.YthpkjfabdccpdaaGreat.Pl
namespace Go.Proofs.YthpkjfabdccpdaaGreat.Pl
open Go Go.Proofs.YthpkjfabdccpdaaGreat.Sv
theorem Qb {M:List (List BH)} {f:Int->Option (LR Int (Nat×(Int×Unit)))} (h0:f 0=some (.dn (0,(0,())))) (hs : ∀ k,k<M.length->f ((k+1:Nat):Int)=if Ak M k=[] then some (.nx (k:Int)) else some (.dn (0,(((k+1:Nat):Int),())))) : ∀ k,k<=M.length->D2 (k+1) f (k:Int)=some (0,((J2 M k:Nat):Int),())
 | 0,_=>BV h0
 | k+1,hk=>by
  have h:=hs k (by omega);unfold J2;by_cases he:Ak M k=[]
  ·rw [if_pos he] at h ⊢;rw [BG h];exact Qb h0 hs k (by omega)
  ·rw [if_neg he] at h ⊢;exact BV h
theorem il (L:List (List BH)) (n:Nat):Ja (Dj (max L.length (n+1)) ([]:List BH)) 0 L (AA (Dj (max L.length (n+1)) ([]:List BH)))=Ie L n:=by
 have h1:AA (Dj (max L.length (n+1)) ([]:List BH))=max L.length (n+1):=by unfold AA Dj;simp
 rw [h1];unfold Ja Ie Dj;rw [List.take_of_length_le (by omega:L.length<=max L.length (n+1))];simp only [List.take_zero,List.nil_append,List.drop_replicate,Nat.zero_add]
 congr 2
 omega
theorem Z7 (l:List (List BH)) (n:Nat) (r:List BH):lset (Ie l n) n r=J3 l n r:=rfl
theorem JE {l:List (List BH)} {i:Nat} (h:i<l.length):l[i]? = some (Ak l i):=by
 unfold Ak;rw [List.getElem?_eq_getElem h];rfl
theorem Wb {β:Type} (l:List BH) (x y:Unit->Option β):br (Ba (l.length:Int) 0) x y=if l=[] then x () else y ():=by
 rw [B3];by_cases h:l=[]
 ·rw [if_pos h,if_pos (by rw [h];rfl)]
 ·rw [if_neg h,if_neg (by have:=List.length_pos_iff.2 h;omega)]
theorem NN {L:AK} (h1:L.2.length<=1000) {n:Nat} (hn:n<1000) (r:List BH):Dh (L,((n:Int),r))=some (Cq L n r):=by
 have hk:KN (Aa (AA L.2)) (AH .i64 (n:Int) 1)=((max L.2.length (n+1):Nat):Int):=by
  rw [Ab (by omega),GH,AV,AQ];omega
 unfold Dh;simp only [hk,AE,il,Z7];have hp:(Ie L.2 n).length=max L.2.length (n+1):=MQ _ _;have hr:(J3 L.2 n r).length=max L.2.length (n+1):=by unfold J3;rw [List.length_set,hp]
 rw [Bj (by omega),LL,if_pos (by rw [AQ,hp];omega),AJ (JE (by omega))]
 have hlo:=Qb (M:=J3 L.2 n r) (f:=λs4=>br (CF s4 0) (λ_=>AU (B9 .i64 s4 1) λk5=>gd (Dz k5 (AA (J3 L.2 n r))) λ_=>ix (J3 L.2 n r) k5 λx6=>br (Ba (Aa (AA x6)) 0) (λ_=>some (.nx (B9 .i64 s4 1))) λ_=>some (.dn ((0,(s4,()))))) λ_=>some (.dn ((0,(s4,()))))) rfl (λk hk=>by
  have hi:B9 .i64 ((k+1:Nat):Int) 1=(k:Int):=by rw [B7 (by omega)];omega
  simp only [hi,AE];rw [Aq,if_pos (by omega),LL,if_pos (by rw [AQ];omega),AJ (JE hk)]
  exact Wb _ _ _) _ (Nat.le_refl _)
 rw [AV,show AA (J3 L.2 n r)=(J3 L.2 n r).length from rfl];refine BF (Ch (by omega) hlo) ?_;have hd:=Rt (J3 L.2 n r) (J3 L.2 n r).length;simp only [AE];rw [Bj hd,Un,if_pos (by omega),iZ,if_pos (by omega),Un,if_pos (by unfold A2 Q7;omega)];unfold Cq He Cs A2 Q7;simp
end Go.Proofs.YthpkjfabdccpdaaGreat.Pl
namespace Go.Proofs.YthpkjfabdccpdaaGreat.Pl
open Go Go.Proofs.YthpkjfabdccpdaaGreat.Sv
def Z8 (d:Int) (j:Job):Bool:=Ba d j.1
def H0 (js:List Job) (d:Int):Option Job:=js.find? (Z8 d)
def MT (js:List Job):List (Int×Job):=js.map λj=>(j.1,j)
def zJ:Job:=(0,(([],([],([],([],0)))),((false,([],false)),([],0))))
def NO (L:AK) (d:Int):Job:=match Ak L.2 d.toNat with
 | [r0,r1]=>(d,Dk r1.2 r0.2 (decide (d=(L.2.length:Int)-1)) 0)
 | _=>zJ
def Ko (s:AT) (L:AK) (ended d:Int):Job:=(if d=ended then none else H0 s.2.1 d).getD (NO L d)
def TW (s:AT) (L:AK) (next ended:Int):AT:=(L,((A5 0 L.2).map (Ko s L ended),next))
theorem Qc (d:Int) : ∀ js:List Job,IN (λa b=>Ba a b) (MT js) d=H0 js d
 | []=>rfl
 | j::js=>by
  show (bif Ba d j.1 then some j else IN (λa b=>Ba a b) (MT js) d)=(j::js).find? (Z8 d)
  rw [List.find?_cons,Qc d js];show _=match Ba d j.1 with | true=>some j | false=>H0 js d
  cases Ba d j.1<;>rfl
theorem Qd {j:Job} : ∀ {js:List Job},j.1 ∉ js.map (·.1)->Hg (λa b=>Ba a b) (MT js) j.1 j=MT (js++[j])
 | [],_=>rfl
 | i::js,h=>by
  show (bif Ba j.1 i.1 then (j.1,j)::MT js else (i.1,i)::Hg (λa b=>Ba a b) (MT js) j.1 j)=(i.1,i)::MT (js++[j])
  have h1:Ba j.1 i.1=false:=by rw [Eg];simp;intro e;exact h (by simp [e])
  rw [h1,cond_false,Qd (λhm=>h (by simp at hm ⊢;exact .inr hm))]
theorem VA {js:List Job} {d:Int} (h:d ∉ js.map (·.1)):H0 js d=none:=by
 unfold H0;rw [List.find?_eq_none];intro j hj;unfold Z8;rw [Eg];simp only [decide_eq_true_eq];intro e;exact h (by rw [e];exact List.mem_map_of_mem hj)
theorem Qe {x d:Int} : ∀ {js:List Job},(js.map (·.1)).Nodup->IN (λa b=>Ba a b) (JQ (λa b=>Ba a b) (MT js) x) d=if d=x then none else H0 js d
 | [],_=>by split<;>rfl
 | j::js,h=>by
  rw [List.map_cons,List.nodup_cons] at h;show IN (λa b=>Ba a b) (bif Ba x j.1 then MT js else (j.1,j)::JQ (λa b=>Ba a b) (MT js) x) d=_
  have hf:H0 (j::js) d=if d=j.1 then some j else H0 js d:=by
   unfold H0;rw [List.find?_cons];unfold Z8;rw [Eg];by_cases e:d=j.1<;>simp [e]
  rw [Eg,hf];by_cases hx:x=j.1
  ·rw [show decide (x=j.1)=true by simp [hx],cond_true,Qc];by_cases hd:d=x
   ·rw [if_pos hd];exact VA (by rw [hd,hx];exact h.1)
   ·rw [if_neg hd,if_neg (by rw [<- hx];exact hd)]
  ·rw [show decide (x=j.1)=false by simp [hx],cond_false];show (bif Ba d j.1 then some j else IN (λa b=>Ba a b) (JQ (λa b=>Ba a b) (MT js) x) d)=_
   rw [Qe h.2,Eg];by_cases hd:d=j.1
   ·rw [show decide (d=j.1)=true by simp [hd],cond_true,if_pos hd,if_neg (by rw [hd];exact λe=>hx e.symm)]
   ·rw [show decide (d=j.1)=false by simp [hd],cond_false,if_neg hd]
theorem VR.vl' {L:AK} (v:VLev L) {n:Nat} {r:BH} (h:r∈Ak L.2 n):VL r.2:=((v.own n).2 r h).vl
theorem Xn (L:AK) (hl:L.2.length<=1000) (n:Nat):C1 (L,(n:Int))=some (decide ((n:Int)=(L.2.length:Int)-1)):=by
 unfold C1;simp only [AV,AQ];rw [B7 (by omega),Eg]
theorem Z9 {L:AK} (v:VLev L) {n:Nat} (h:(Ak L.2 n).length=2):GK (L,(n:Int))=some (NO L n,0):=by
 have hn:n<L.2.length:=by
  by_cases h0:n<L.2.length
  ·exact h0
  ·unfold Ak at h;rw [List.getElem?_eq_none (by omega)] at h;cases h
 have hl:=v.len;obtain ⟨hb,hr⟩:=v.small;unfold GK;simp only [AV,AQ];rw [LQ _ hb hr,HE v,AB,AS,if_pos rfl,BE,if_neg (by omega),Fe,if_neg (by omega),Fe,if_neg (by omega),AE,AJ (JE hn),BE,if_neg (by omega),Xn L (by omega) n,AB]
 obtain ⟨r0,r1,hrr⟩ : ∃ r0 r1,Ak L.2 n=[r0,r1]:=by
  match hq:Ak L.2 n with
  | [r0,r1]=>exact ⟨r0,r1,rfl⟩
  | []=>rw [hq] at h;cases h
  | [_]=>rw [hq] at h;cases h
  | _::_::_::_=>rw [hq] at h;simp at h
 rw [TH _ (by rw [JE hn,hrr]) (VR.vl' v (n:=n) (by rw [hrr];simp)) (VR.vl' v (n:=n) (by rw [hrr];simp)),AB];unfold NO;rw [Int.toNat_natCast,hrr]
theorem Hf (i:Nat) (rs:List BH) (ls:List (List BH)):A5 i (rs::ls)=(if rs.length=2 then [(i:Int)] else [])++A5 (i+1) ls:=rfl
theorem Np {s:AT} (hj:(s.2.1.map (·.1)).Nodup) (hl:s.2.1.length<=1000) {L:AK} (v:VLev L) (next ended:Int):A4 (s,(L,(next,ended)))=some (TW s L next ended,0):=by
 have hv:=v.len;unfold A4;simp only [AV,AQ]
 rw [DB (l:=s.2.1) (σ:=List (Int×Job)) (s:=((0:Int),([]:List (Int×Job)))) (λi m=>((i:Int),m)) (λls i m => ∃ p,s.2.1=p++ls/\m=MT p) (λ_ _ _=>(0,(((s.2.1.length:Int),MT s.2.1),()))) [] rfl (by omega) ⟨[],rfl,rfl⟩ (λm h=>by
  obtain ⟨p,h1,rfl⟩:=h
  simp only;rw [re,Ap,h1,List.append_nil]) (λi x ls m hd hx hi h=>by
   obtain ⟨p,h1,rfl⟩:=h;refine ⟨MT (p++[x]),?_,⟨p++[x],by rw [h1];simp,rfl⟩,rfl⟩;simp only;rw [rl hi,AM,AE,AJ hx,Al hx (by omega),Qd];intro hm;rw [h1,List.map_append,List.nodup_append] at hj
   exact hj.2.2 _ hm x.1 (by simp) rfl),AB]
 simp only
 rw [DB (l:=L.2) (σ:=List Job) (s:=((0:Int),((0:Int),(((0:Int),(([]:List (List BH)),(([]:List Job),(0:Int)))),(L.1,(L.2,(([]:List Job),next))))))) (λi js=>((0:Int),((i:Int),(((0:Int),(([]:List (List BH)),(([]:List Job),(0:Int)))),(L.1,(L.2,(js,next))))))) (λls i js=>js++(A5 i ls).map (Ko s L ended)=(A5 0 L.2).map (Ko s L ended)) (λ_ _ _=>(0,(((0:Int),((L.2.length:Int),(((0:Int),(([]:List (List BH)),(([]:List Job),(0:Int)))),(L.1,(L.2,((A5 0 L.2).map (Ko s L ended),next)))))),()))) [] rfl (by omega) rfl (λm h=>by
  simp only;rw [re,Ap,<- h];simp [A5]) (λi rs ls m hd hx hi h=>by
   have ho:Ak L.2 i=rs:=by unfold Ak;rw [hx];rfl
   have h2:=(v.own i).1;rw [ho] at h2;refine ⟨m++(if rs.length=2 then [Ko s L ended i] else []),?_,?_,rfl⟩
   ·simp only;rw [rl hi,AM,AE,AJ hx,BE]
    have hm:m.length<=1000:=by
     have h4:=congrArg List.length h;have h5:=Fg L.2 0;rw [List.length_append,List.length_map,List.length_map] at h4;omega
    by_cases h4:rs.length=2;rotate_left
    ·rw [if_pos (by omega),if_neg h4,List.append_nil,Al hx (by omega)]
    rw [if_neg (by omega),if_pos h4,Qe hj];have hn:Ko s L ended i=(if (i:Int)=ended then none else H0 s.2.1 i).getD (NO L i):=rfl
    cases hq:(if (i:Int)=ended then none else H0 s.2.1 (i:Int)) with
    | none =>
     rw [hq,Option.getD_none] at hn;rw [hn,Z9 v (by rw [ho];exact h4),Bf,Fo,if_neg (show ¬ jE (none:Option Job)=true by simp [jE]),AB];simp only;rw [AS,if_pos rfl,Bj (by simp only [A2,List.length_cons,List.length_nil];omega),Al hx (by omega)];rfl
    | some j =>
     rw [hq,Option.getD_some] at hn;rw [hn,Bf,Fo,if_pos (show jE (some j)=true from rfl),Bj (by simp only [A2,List.length_cons,List.length_nil];omega),Al hx (by omega)];rfl
   ·rw [List.append_assoc,<- h,Hf,List.map_append]
    congr 2
    split<;>rfl),AB]
 rfl
end Go.Proofs.YthpkjfabdccpdaaGreat.Pl
namespace Go.Proofs.YthpkjfabdccpdaaGreat.Pl
open Go Go.Proofs.YthpkjfabdccpdaaGreat.Sv
def pS (s:Bt):Option Gu:=if s.1=true then some s.2.1 else none
theorem Asc.weak : ∀ {l:List AD} {p p':Option Gu},(∀ q',p'=some q' -> ∃ q,p=some q/\CT q q'=false)->Asc p l->Asc p' l
 | [],_,_,_,_=>trivial
 | x::l,p,p',h,⟨h1,h2⟩=>⟨λq' hq'=>by
  obtain ⟨q,e,hq⟩:=h q' hq';have h3:=h1 q e;by_cases he:q'=q
  ·rw [he];exact h3
  ·exact E1 (LM hq (λe=>he e.symm)) h3,h2⟩
theorem TX : ∀ (l:List AD) (s:Bt),NH s l->Asc (pS s) (EV s l)
 | [],_,_=>trivial
 | x::l,s,⟨_,h2,h3⟩=>by
  have ih:=TX l _ h3;have ih':Asc (some x.1) (EV (true,(x.1,s.2.2)) l):=ih;unfold EV;by_cases hk:keep s x=true
  ·rw [if_pos hk];refine ⟨λq hq => ?_,ih'⟩;unfold pS at hq;by_cases h1:s.1=true
   ·rw [if_pos h1] at hq;cases hq;refine LM (h2 h1) λe => ?_;unfold keep at hk;rw [h1,e] at hk;simp at hk
   ·rw [if_neg h1] at hq;cases hq
  ·rw [if_neg hk,List.nil_append];refine ih'.weak λq' hq'=>⟨x.1,rfl,?_⟩;unfold pS at hq';by_cases h1:s.1=true
   ·rw [if_pos h1] at hq';cases hq';exact h2 h1
   ·rw [if_neg h1] at hq';cases hq'
theorem TY : ∀ {l:List AD} {s:Bt} {x:AD},x∈EV s l->x∈l
 | y::l,s,x,h=>by
  unfold EV at h;rcases List.mem_append.1 h with h | h
  ·split at h
   ·rw [List.mem_singleton.1 h];simp
   ·cases h
  ·exact List.mem_cons_of_mem _ (TY h)
theorem Wc : ∀ {l:List AD} {s:Bt},NH s l -> ∀ x∈l,kE x=0
 | y::l,s,⟨h1,_,h3⟩,x,h=>by
  rcases List.mem_cons.1 h with e | h
  ·rw [e];exact h1
  ·exact Wc h3 x h
theorem aA {a b:List AD} (va:VL a) (vb:VL b) (bt:Bool) {k:Nat} (hk:k<=a.length+b.length) (hl:a.length+b.length<=5000):VL (Dk a b bt k).2.2.1/\(Dk a b bt k).2.2.1.length<=a.length+b.length:=by
 have hr:=GZ va vb bt hk
 have h1:(EV (s0 bt) (Ar a b k)).length<=k:=by
  have:=IY (s0 bt) (Ar a b k);rw [Ci va vb hk] at this;exact this
 have h2:(Dk a b bt k).2.2.1=EV (s0 bt) (Ar a b k):=rfl;rw [h2];exact ⟨⟨by omega,λx hx=>Wc hr x (TY hx),TX _ _ hr⟩,by omega⟩
theorem VB {L:AK} (v:VLev L) {n:Nat} (h:Ak L.2 n≠[]):DD (L,(n:Int))=some (Cq L n [],(Ak L.2 n,0)):=by
 have hn:n<L.2.length:=by
  by_cases h0:n<L.2.length
  ·exact h0
  ·unfold Ak at h;rw [List.getElem?_eq_none (by omega)] at h;exact absurd rfl h
 have hv:=v.len;have h2:=(v.own n).1;unfold DD;simp only [AV,AQ];rw [Rr v,AB,if_neg (by omega),AS,if_pos rfl,BE,if_pos (by omega),AE,AJ (JE hn),Wb,if_neg h,NN (by omega) (by omega),AB,Bj (by omega)]
theorem Xo {S β:Type} {f:S->Option (LR S β)} {r:β} (mk:Int->S) (n:Nat) {s:S} (h0:s=mk ((n:Int)-1)) (hn:n<1000000) (hs : ∀ k,k<n->f (mk (k:Int))=some (.nx (mk ((k:Int)-1)))) (he:f (mk (-1))=some (.dn r)):loop f s=some r:=by
 subst h0
 have main : ∀ k,k<=n->D2 (k+1) f (mk ((k:Int)-1))=some r:=by
  intro k
  induction k with
  | zero=>intro _;exact BV he
  | succ k ih =>
   intro hk;have:=hs k (by omega);rw [show ((k+1:Nat):Int)-1=(k:Int) by omega,BG this];exact ih (by omega)
 exact Ch (by omega) (main n (Nat.le_refl _))
theorem TZ {L:AK} (v:VLev L) {n:Nat} (hn:n<12) {x:BH} (hx:x.2.length<=1048576) (hid : ∀ y∈L.2.flatten,y.1≠x.1) (hl:(Ak L.2 n).length<2) :
  BO (L,((n:Int),x))=some (if kR [] (B4 L.1 n) x≠0 then ((0,[]),kR [] (B4 L.1 n) x) else (Cq L n (Ak L.2 n++[x]),0)):=by
 have hv:=v.len;unfold BO;simp only [AV,AQ];rw [Rr v,AB,if_neg (by omega),AS,if_pos rfl,NK v.B1 v.B2 (by omega),QU x _ (by omega),show Hj (n:Int) 0=true by unfold Hj;simp];rw [gK,AB,AS];by_cases hk:kR [] (B4 L.1 n) x=0;rotate_left
 ·rw [if_neg hk,if_pos hk]
 rw [if_pos hk,if_neg (by simp [hk])]
 rw [DB (l:=L.2) (σ:=Unit) (s:=((0:Int),(((0:Int),([]:List (List BH))),(0:Int)))) (λi _=>((i:Int),(((0:Int),([]:List (List BH))),(0:Int)))) (λ_ _ _=>True) (λ_ _ _=>(0,(((L.2.length:Int),(((0:Int),([]:List (List BH))),(0:Int))),()))) () rfl (by omega) trivial (λ_ _=>by
  simp only;rw [re];rfl) (λi rs ls _ hd hi hlt _=>by
   refine ⟨(),?_,trivial,rfl⟩;have ho:Ak L.2 i=rs:=by unfold Ak;rw [hi];rfl
   have h2:=(v.own i).1;rw [ho] at h2;simp only;rw [rl hlt,AM,AE,AJ hi,B7 (by omega)]
   rw [Xo (λk=>(k,(((0:Int),([]:List (List BH))),(0:Int)))) rs.length rfl (by omega) (λk hk=>by
    have hg:rs[k]? = some rs[k]:=List.getElem?_eq_getElem hk;have hne:rs[k].1≠x.1:=hid _ (List.mem_flatten.2 ⟨rs,List.mem_of_getElem? hi,List.getElem_mem hk⟩);simp only
    rw [Fe,if_pos (by omega),AE,AJ hg,B3,if_neg hne,B7 (by omega)]) (r:=(0,(((-1:Int),(((0:Int),([]:List (List BH))),(0:Int))),()))) rfl,AB]
   rw [Al hi (by omega)]
   rfl),AB]
 rw [CH,if_pos rfl,BE];by_cases h3:n<L.2.length
 ·rw [if_pos (by omega),AE,AJ (JE h3),B3,if_neg (by omega),AE,AE,Bj (Nat.le_refl _),ib,if_pos rfl,Bj (Nat.zero_le _)];have hs:Cs (Ak L.2 n) 0 (Ak L.2 n).length=Ak L.2 n:=by unfold Cs;simp
  rw [hs,Bj (by simp only [A2,List.length_cons,List.length_nil];omega),NN (by omega) (by omega),AB];rfl
 ·rw [if_neg (by omega)];have ho:Ak L.2 n=[]:=by unfold Ak;rw [List.getElem?_eq_none (by omega)];rfl
  rw [Bj (by simp),NN (by omega) (by omega),AB,ho];rfl
end Go.Proofs.YthpkjfabdccpdaaGreat.Pl
namespace Go.Proofs.YthpkjfabdccpdaaGreat.Pl
open Go Go.Proofs.YthpkjfabdccpdaaGreat.Sv
def zS:AT:=((0,[]),([],0))
def Cy (j:Job):List AD:=j.2.2.2.1
def Nq (s:AT) (j:Job):Nat:=if Hd s.1 j=true then j.1.toNat else j.1.toNat+1
def Hk (s:AT) (j:Job):AK:=if Cy j=[] then Cq s.1 j.1.toNat [] else Cq (Cq s.1 j.1.toNat []) (Nq s j) (Ak (Cq s.1 j.1.toNat []).2 (Nq s j)++[(s.2.2,Cy j)])
def PH (s:AT) (j:Job):Int:=if Cy j=[] then s.2.2 else s.2.2+1
def Qf (s:AT) (j:Job):AT×Int :=
 if 0<CR s.1 j\/Ib s.1 j=false then (zS,9) else if s.2.2>1000000/\Cy j≠[] then (zS,5) else (TW s (Hk s j) (PH s j) j.1,0)
theorem NP : ∀ (ls:List (List BH)) (i:Nat),(A5 i ls).Nodup /\ ∀ d∈A5 i ls,(i:Int)<=d
 | [],_=>⟨.nil,λ_ h=>by cases h⟩
 | rs::ls,i=>by
  obtain ⟨h1,h2⟩:=NP ls (i+1);rw [Hf];by_cases h:rs.length=2
  ·rw [if_pos h];refine ⟨List.nodup_cons.2 ⟨λhm => ?_,h1⟩,λd hd => ?_⟩
   ·have:=h2 _ hm;omega
   ·rcases List.mem_cons.1 hd with e | hd
    ·omega
    ·have:=h2 d hd;omega
  ·rw [if_neg h];exact ⟨h1,λd hd=>by have:=h2 d hd;omega⟩
theorem VSt.nodup {s:AT} (v:VSt s):(s.2.1.map (·.1)).Nodup:=by rw [v.due];exact (NP _ _).1
theorem JobAt.out {L:AK} {n:Nat} {j:Job} (ha:JobAt L n j) (v:VLev L) (hs:(∀ r∈Ak L.2 n,r.2.length<=2000)):VL (Cy j)/\((Cy j).length:Int)<=2*B4 L.1 n/\j.1=(n:Int)/\n<12/\Ak L.2 n≠[]:=by
 obtain ⟨r0,r1,bt,k,h1,rfl,hk,_,v0,v1⟩:=ha;have ho:Ak L.2 n=[r0,r1]:=by unfold Ak;rw [h1];rfl
 have l0:=hs r0 (by rw [ho];simp);have l1:=hs r1 (by rw [ho];simp);have m0:=((v.own n).2 r0 (by rw [ho];simp)).le;have m1:=((v.own n).2 r1 (by rw [ho];simp)).le;obtain ⟨h2,h3⟩:=aA v1 v0 bt hk (by omega);have hn:=(List.getElem?_eq_some_iff.1 h1).1;have hv:=v.len;refine ⟨h2,?_,rfl,by omega,by rw [ho];simp⟩
 have h4:((Cy ((n:Int),Dk r1.2 r0.2 bt k)).length:Int)<=(r1.2.length:Int)+(r0.2.length:Int):=by
  have:(Cy ((n:Int),Dk r1.2 r0.2 bt k)).length<=r1.2.length+r0.2.length:=h3;omega
 omega
def g9 (L:AK):Prop := ∀ i,∀ r∈Ak L.2 i,r.2.length<=2000
structure InstF (s:AT) (n:Nat) (j:Job):Prop where
 l1:VLev (Cq s.1 n [])
 to12:Cy j≠[]->Nq s j<12
 vr:Cy j≠[]->VR (B4 s.1.1 (Nq s j)) (s.2.2,Cy j)
 id : ∀ y∈(Cq s.1 n []).2.flatten,y.1≠s.2.2
 room:Cy j≠[]->(Ak (Cq s.1 n []).2 (Nq s j)).length<2
 lev:VLev (Hk s j)
theorem aB {s:AT} (v:VSt s) (hf:g9 s.1) {n:Nat} {j:Job} (ha:JobAt s.1 n j) (h0 : ¬ 0<CR s.1 j) (hc:Ib s.1 j=true) (h5:Cy j≠[]->s.2.2<=1000000):InstF s n j:=by
 obtain ⟨o1,o2,o3,o4,o5⟩:=ha.out v.lev (hf n);have hl1:=v.lev.leave (n:=n) o4;have hj:j.1.toNat=n:=by rw [o3];simp
 have hroom:Hd s.1 j≠true->n+1<12/\(Ak s.1.2 (n+1)).length<2:=λhs=>by
  unfold Ib at hc;rw [show decide (0<CR s.1 j)=false by simp;omega,hj] at hc;cases hq:Hd s.1 j with
  | true=>exact absurd hq hs
  | false =>
   rw [hq] at hc;simpa [MP,Ak] using hc
 have hid : ∀ y∈(Cq s.1 n []).2.flatten,y.1≠s.2.2:=λy hy=>by
  obtain ⟨p,q,h1,h2⟩:=If s.1 n [];rw [h2,List.nil_append] at hy
  have hm:y∈s.1.2.flatten:=by
   rw [h1];rcases List.mem_append.1 hy with h | h
   ·exact List.mem_append_left _ h
   ·exact List.mem_append_right _ (List.mem_append_right _ h)
  have:=MS hm;have:=v.n3;omega
 have hto:Nq s j<12/\(Ak (Cq s.1 n []).2 (Nq s j)).length<2/\((Cy j).length:Int)<=B4 s.1.1 (Nq s j):=by
  unfold Nq;by_cases hs:Hd s.1 j=true
  ·rw [if_pos hs,hj];refine ⟨o4,by rw [Fi,if_pos rfl];simp,?_⟩;have hs':=hs;unfold Hd at hs';rw [hj] at hs';exact of_decide_eq_true hs'
  ·rw [if_neg hs,hj];obtain ⟨h1,h2⟩:=hroom hs;refine ⟨h1,by rw [Fi,if_neg (by omega)];exact h2,?_⟩;rw [QX];exact o2
 obtain ⟨t1,t2,t3⟩:=hto;have hvr:Cy j≠[]->VR (B4 s.1.1 (Nq s j)) (s.2.2,Cy j):=λhne=>⟨v.n1,h5 hne,o1,hne,t3⟩;refine ⟨hl1,λ_=>t1,hvr,hid,λ_=>t2,?_⟩;unfold Hk;rw [hj];by_cases ho:Cy j=[]
 ·rw [if_pos ho];exact hl1
 ·rw [if_neg ho];exact hl1.arrive t1 t2 (hvr ho) hid
theorem Qg {s:AT} (v:VSt s) (hf:g9 s.1) {n:Nat} {j:Job} (ha:JobAt s.1 n j) (h0 : ¬ 0<CR s.1 j) (hc:Ib s.1 j=true) (h5:Cy j≠[]->s.2.2<=1000000) (l:Int) :
  (bd (DD (s.1,(n:Int))) λr3=>br (Ba r3.2.2 0) (λ_=>br (CF (Aa (AA j.2.2.2.1)) 0) (λ_=>bd (BL (s,(j,l))) λr4=>br (AX r4) (λ_=>bd (BO ((r3.1,(AH .i64 (n:Int) 1,(s.2.2,j.2.2.2.1))))) λr5=>br (BC r5.2 0) (λ_=>some ((((0,[]),([],0)),r5.2))) λ_=>bd (A4 ((s,(r5.1,(AH .i64 s.2.2 1,(n:Int)))))) λr6=>some r6) λ_=>bd (BO ((r3.1,((n:Int),(s.2.2,j.2.2.2.1))))) λr7=>br (BC r7.2 0) (λ_=>some ((((0,[]),([],0)),r7.2))) λ_=>bd (A4 ((s,(r7.1,(AH .i64 s.2.2 1,(n:Int)))))) λr8=>some r8) λ_=>br (BC r3.2.2 0) (λ_=>some ((((0,[]),([],0)),r3.2.2))) λ_=>bd (A4 ((s,(r3.1,(s.2.2,(n:Int)))))) λr9=>some r9) λ_=>br (BC r3.2.2 0) (λ_=>some ((((0,[]),([],0)),r3.2.2))) λ_=>bd (A4 ((s,(r3.1,(s.2.2,(n:Int)))))) λr10=>some r10)
  = some (TW s (Hk s j) (PH s j) j.1,0):=by
 have F:=aB v hf ha h0 hc h5;obtain ⟨o1,o2,o3,o4,o5⟩:=ha.out v.lev (hf n);have hj:j.1.toNat=n:=by rw [o3];simp
 have hn2:=v.n2;have hn1:=v.n1;have hjs:=v.jsmall;have hlev:=F.lev;rw [VB v.lev o5,AB];show (br (Ba 0 0) _ _)=_;rw [B3,if_pos rfl,AV,AQ,Aq];by_cases ho:Cy j=[]
 ·rw [if_neg (show ¬ ((j.2.2.2.1.length:Int)>0) by rw [show j.2.2.2.1=[] from ho];simp),AS,if_pos rfl];unfold Hk at hlev ⊢;rw [if_pos ho,hj] at hlev;rw [if_pos ho,hj,Np v.nodup (by omega) hlev,AB];unfold PH;rw [if_pos ho,o3]
 ·rw [if_pos (show ((j.2.2.2.1.length:Int)>0) by have:=List.length_pos_iff.2 ho;have h:(Cy j).length=j.2.2.2.1.length:=rfl;omega),TT v.lev o3 o4,AB,Bf];have hx:(Cy j).length<=1048576:=by have:=o1.len;omega
  have hk:kR [] (B4 (Cq s.1 n []).1 (Nq s j)) (s.2.2,Cy j)=0:=Zt.2 ⟨F.vr ho,by simp⟩;have hA:=TZ F.l1 (F.to12 ho) (x:=(s.2.2,Cy j)) hx F.id (F.room ho);rw [if_neg (by simp [hk])] at hA
  have hL:Hk s j=Cq (Cq s.1 n []) (Nq s j) (Ak (Cq s.1 n []).2 (Nq s j)++[(s.2.2,Cy j)]):=by
   unfold Hk;rw [if_neg ho,hj]
  have hN:PH s j=s.2.2+1:=by unfold PH;rw [if_neg ho]
  rw [<- hL] at hA;have hI:AH .i64 s.2.2 1=s.2.2+1:=D8 (by omega);have hW:=Np v.nodup (by omega) hlev (s.2.2+1) (n:Int);rw [Fo];have hto:Nq s j=if Hd s.1 j=true then n else n+1:=by unfold Nq;rw [hj]
  by_cases hs:Hd s.1 j=true
  ·rw [if_pos hs] at hto ⊢;rw [hto] at hA;have hA':BO (Cq s.1 n [],((n:Int),(s.2.2,j.2.2.2.1)))=some (Hk s j,0):=hA;rw [hA',AB,AS,if_pos rfl,hI,hW,AB,hN,o3]
  ·rw [if_neg hs] at hto ⊢;rw [hto] at hA;rw [Ab (by omega)];have hA':BO (Cq s.1 n [],(((n+1:Nat):Int),(s.2.2,j.2.2.2.1)))=some (Hk s j,0):=hA;rw [hA',AB,AS,if_pos rfl,hI,hW,AB,hN,o3]
theorem VC {s:AT} (m:Sm s) (hf:g9 s.1) (level:Int):DV (s,level)=some (Rs zS Qf s level):=by
 unfold DV;rw [Z3 m,AB];unfold Rs;by_cases h0:(BB s).2=0;rotate_left
 ·rw [if_pos h0,AS,if_neg h0,if_pos h0];rfl
 rw [if_neg (show ¬ (BB s).2≠0 by simp [h0]),if_neg (show ¬ (BB s).2≠0 by simp [h0])];have v:=C4.1 h0;unfold ec;cases hq:Rq level 0 (A5 0 s.1.2) with
 | none=>rfl
 | some i =>
  obtain ⟨j,n,hj,hl,hjn,ha,hn⟩:=v.at hq;have:=v.lev.len;subst hl;simp only [hj];unfold A9 Qf;rw [AS,if_pos rfl,AB,Aq];by_cases h1:0<CR s.1 j
  ·rw [if_pos (show ((CR s.1 j:Int))>0 by omega),if_pos (.inl h1)];rfl
  rw [if_neg (show ¬ ((CR s.1 j:Int))>0 by omega),U7 v.lev hjn (by omega) _ rfl,AB,Bf,Fo];by_cases hc:Ib s.1 j=true;rotate_left
  ·rw [if_neg hc,if_pos (.inr (by simpa using hc))];rfl
  rw [if_pos hc,if_neg (show ¬ (0<CR s.1 j\/Ib s.1 j=false) by rw [hc];simp;omega),Aq];by_cases h2:s.2.2>1000000
  ·rw [if_pos h2,AV,AQ,Aq];by_cases ho:Cy j=[]
   ·rw [if_neg (show ¬ ((j.2.2.2.1.length:Int)>0) by rw [show j.2.2.2.1=[] from ho];simp),if_neg (by simp [ho])];exact Qg v hf ha h1 hc (λh=>absurd ho h) _
   ·rw [if_pos (show ((j.2.2.2.1.length:Int)>0) by have:=List.length_pos_iff.2 ho;have h:(Cy j).length=j.2.2.2.1.length:=rfl;omega),if_pos ⟨h2,ho⟩];rfl
  ·rw [if_neg h2,if_neg (by simp [h2])];exact Qg v hf ha h1 hc (λh=>by omega) _
end Go.Proofs.YthpkjfabdccpdaaGreat.Pl
namespace Go.Proofs.YthpkjfabdccpdaaGreat.Pl
open Go Go.Proofs.YthpkjfabdccpdaaGreat.Sv
def Ta (L:AK) (j:Job):Hy:=match Ak L.2 j.1.toNat with
 | [r0,r1]=>Dk r1.2 r0.2 j.2.2.1.2.2 (j.2.2.2.2.toNat+1)
 | _=>j.2
def Tb (s:AT) (j:Job):AT:=(s.1,(lset s.2.1 ((Rq j.1 0 (A5 0 s.1.2)).getD 0) (j.1,Ta s.1 j),s.2.2))
theorem aC {s:AT} (m:Sm s) (v:VSt s) {level:Int} {i:Nat} (hf:Rq level 0 (A5 0 s.1.2)=some i) {j:Job} (hj:s.2.1[i]? = some j) (h0:0<CR s.1 j):Gw (s,(level,1))=some (Tb s j,(1,0)):=by
 obtain ⟨j',n,hj',hl,hjn,ha,hn⟩:=v.at hf;rw [hj] at hj';cases hj';subst hl;have hz:(BB s).2=0:=C4.2 v
 have hfs:TS s (n:Int)=((i:Int),0):=by
  unfold TS;rw [if_neg (show ¬ (BB s).2≠0 by simp [hz]),hf]
 have hjs:=v.jsmall;have hi:=(List.getElem?_eq_some_iff.1 hj).1;unfold Gw;rw [oC m,AB,AS,if_pos hz,BE,if_neg (show ¬ ((1:Int)<0) by omega),WZ m,AB,hfs,AS,if_pos rfl,AE,AJ hj,(JobAt.left ha).1,AB,B3,if_neg (show ¬ ((CR s.1 j:Int)=0) by omega),AE,AJ hj];obtain ⟨r0,r1,bt,k,h1,rfl,hk,hb,v0,v1⟩:=ha;have ho:Ak s.1.2 n=[r0,r1]:=by unfold Ak;rw [h1];rfl
 have hle:CR s.1 ((n:Int),Dk r1.2 r0.2 bt k)=r1.2.length+r0.2.length-k:=by
  unfold CR;simp only [Int.toNat_natCast,h1];show r1.2.length+r0.2.length-((k:Int)).toNat=_;rw [Int.toNat_natCast]
 rw [hle] at h0;have hst:=QT v1 v0 bt hk (k:=1);rw [show min 1 (r1.2.length+r0.2.length-k)=1 by omega] at hst;show (bd (By (Dk r1.2 r0.2 bt k,((1:Nat):Int))) λr7=>_)=_;rw [hst,AB];simp only;rw [AS,if_pos rfl];unfold BQ;rw [Bj (by simp only [AA];omega),AB,AE,LL,if_pos (by simp only [AA];exact hi),AJ hj];unfold Tb Ta;simp only [Int.toNat_natCast,ho,hf,Option.getD_some];have e1:(Dk r1.2 r0.2 bt k).2.1.2.2=bt:=U6 _ _ _ _;have e2:(Dk r1.2 r0.2 bt k).2.2.2.toNat=k:=by show ((k:Int)).toNat=k;rw [Int.toNat_natCast]
 rw [e1,e2];rfl
def PI (s:AT) (j:Job):AT×(Bool×Int):=if Ib s.1 j=false then (zS,(false,9)) else if 0<CR s.1 j then (Tb s j,(false,0)) else ((Qf s j).1,(Ba (Qf s j).2 0,(Qf s j).2))
def aD (s:AT) (level:Int):AT×(Bool×Int):=if (BB s).2≠0 then (zS,(false,(BB s).2)) else match ec s level with
 | some j=>PI s j
 | none=>(zS,(false,4))
theorem gL {s:AT} (m:Sm s) (hf:g9 s.1) (level:Int):BS (s,level)=some (aD s level):=by
 unfold BS;rw [Z3 m,AB,VC m hf];unfold Rs aD;by_cases h0:(BB s).2=0;rotate_left
 ·rw [if_pos h0,AS,if_neg h0,if_pos h0];rfl
 rw [if_neg (show ¬ (BB s).2≠0 by simp [h0]),if_neg (show ¬ (BB s).2≠0 by simp [h0]),if_neg (show ¬ (BB s).2≠0 by simp [h0])];have v:=C4.1 h0;unfold ec;cases hq:Rq level 0 (A5 0 s.1.2) with
 | none=>rfl
 | some i =>
  obtain ⟨j,n,hj,hl,hjn,ha,hn⟩:=v.at hq;have:=v.lev.len;simp only [hj];unfold PI A9;rw [AS,if_pos rfl,U7 v.lev hjn (by omega) _ rfl,AB,Bf,Fo];cases hc:Ib s.1 j with
  | false=>rw [if_neg (by simp),if_pos rfl];rfl
  | true =>
   rw [if_pos rfl,if_neg (by simp),AB,Aq];by_cases h1:0<CR s.1 j
   ·rw [if_pos (show ((CR s.1 j:Int))>0 by omega),if_pos h1,aC m v hq hj h1];rfl
   ·rw [if_neg (show ¬ ((CR s.1 j:Int))>0 by omega),if_neg h1];rfl
end Go.Proofs.YthpkjfabdccpdaaGreat.Pl
namespace Go.Proofs.YthpkjfabdccpdaaGreat.Pl
open Go Go.Proofs.YthpkjfabdccpdaaGreat.Sv
theorem gN {ls:List (List BH)} {d:Int} (h:d∈A5 0 ls) : ∃ (n:Nat) (r0 r1:BH),d=(n:Int)/\ls[n]? = some [r0,r1]:=by
 obtain ⟨k,hk⟩:=List.getElem?_of_mem h;obtain ⟨n,h1,r0,r1,h2⟩:=Ga hk;exact ⟨n,r0,r1,by rw [h1,Nat.zero_add],h2⟩
theorem Tc {l:List (List BH)} {n:Int} (h0:0<n) (h : ∀ x∈l.flatten,x.1<n):EL l<n:=by
 have one : ∀ (rs:List BH) (m:Int),m<n->(∀ x∈rs,x.1<n)->rs.foldl (λm r=>KN m r.1) m<n:=by
  intro rs
  induction rs with
  | nil=>intro m hm _;exact hm
  | cons r rs ih =>
   intro m hm hr;rw [List.foldl_cons];refine ih _ ?_ λx hx=>hr x (by simp [hx]);rw [GH];have:=hr r (by simp);omega
 have two : ∀ (ls:List (List BH)) (m:Int),m<n->(∀ rs∈ls,∀ x∈rs,x.1<n)->ls.foldl (λm rs=>rs.foldl (λm r=>KN m r.1) m) m<n:=by
  intro ls
  induction ls with
  | nil=>intro m hm _;exact hm
  | cons rs ls ih =>
   intro m hm hr;rw [List.foldl_cons];exact ih _ (one rs m hm (hr rs (by simp))) λrs' hrs=>hr rs' (by simp [hrs])
 exact two l 0 h0 λrs hrs x hx=>h x (List.mem_flatten.2 ⟨rs,hrs,hx⟩)
theorem gO {l:List (List BH)} (hl:l.getLast? ≠ some []) {n:Nat} (h1:Ak l n≠[]) (h2 : ∀ i,n<i->Ak l i=[]):l.length=n+1:=by
 have h3:n<l.length:=by
  by_cases h:n<l.length
  ·exact h
  ·unfold Ak at h1;rw [List.getElem?_eq_none (by omega)] at h1;exact absurd rfl h1
 by_cases h4:l.length=n+1
 ·exact h4
 ·exfalso;have h5:=h2 (l.length-1) (by omega);refine hl ?_;rw [List.getLast?_eq_getElem?,JE (by omega),h5]
theorem VD {js:List Job} {d:Int} {j:Job} (h:H0 js d=some j):j∈js/\j.1=d:=by
 unfold H0 at h;have h1:=List.find?_some h;unfold Z8 at h1;rw [Eg] at h1;exact ⟨List.mem_of_find?_eq_some h,(of_decide_eq_true h1).symm⟩
theorem aE {L:AK} (v:VLev L) {n:Nat} {r0 r1:BH} (h:L.2[n]? = some [r0,r1]):JobAt L n (NO L (n:Int)):=by
 have ho:Ak L.2 n=[r0,r1]:=by unfold Ak;rw [h];rfl
 refine ⟨r0,r1,decide ((n:Int)=(L.2.length:Int)-1),0,h,?_,Nat.zero_le _,λhd => ?_,VR.vl' v (n:=n) (by rw [ho];simp),VR.vl' v (n:=n) (by rw [ho];simp)⟩
 ·unfold NO;rw [Int.toNat_natCast,ho]
 ·have:=of_decide_eq_true hd;have:=(List.getElem?_eq_some_iff.1 h).1;omega
theorem aF {s:AT} (v:VSt s) {L:AK} (vL:VLev L) {next ended:Int} (h1:1<=next) (h2:next<=1000001) (h3 : ∀ x∈L.2.flatten,x.1<next)
  (hk : ∀ (n:Nat) (r0 r1:BH),s.1.2[n]? = some [r0,r1]->(n:Int)≠ended->(∃ q0 q1,L.2[n]? = some [q0,q1])->L.2[n]? = some [r0,r1]/\(n+1=s.1.2.length->n+1=L.2.length)):VSt (TW s L next ended):=by
 have each : ∀ d∈A5 0 L.2,(Ko s L ended d).1=d /\ ∃ n,JobAt L n (Ko s L ended d):=λd hd=>by
  obtain ⟨n,q0,q1,rfl,hn⟩:=gN hd;unfold Ko;cases hq:(if (n:Int)=ended then none else H0 s.2.1 (n:Int)) with
  | none =>
   rw [Option.getD_none];have hb:=aE vL hn;refine ⟨?_,n,hb⟩;obtain ⟨_,_,_,_,_,e,_⟩:=hb;rw [e]
  | some j =>
   rw [Option.getD_some];by_cases he:(n:Int)=ended
   ·rw [if_pos he] at hq;cases hq
   rw [if_neg he] at hq;obtain ⟨hj,hj1⟩:=VD hq;refine ⟨hj1,n,?_⟩;obtain ⟨m,r0,r1,bt,k,a1,rfl,a3,a4,a5,a6⟩:=v.job j hj;have hm:m=n:=by have:(m:Int)=(n:Int):=hj1;omega
   subst hm;obtain ⟨b1,b2⟩:=hk m r0 r1 a1 he ⟨q0,q1,hn⟩;exact ⟨r0,r1,bt,k,b1,rfl,a3,λhb=>b2 (a4 hb),a5,a6⟩
 refine ⟨vL,h1,h2,Tc (by show 0<next;omega) h3,?_,λj hj => ?_⟩
 ·show ((A5 0 L.2).map (Ko s L ended)).map (·.1)=A5 0 L.2;rw [List.map_map]
  conv=>rhs;rw [<- List.map_id (A5 0 L.2)]
  exact List.map_congr_left λd hd=>(each d hd).1
 ·obtain ⟨d,hd,rfl⟩:=List.mem_map.1 hj;exact (each d hd).2
theorem MU {l:List (List BH)} {n:Nat} {r0 r1:BH}:l[n]? = some [r0,r1]<->Ak l n=[r0,r1]:=by
 unfold Ak;constructor
 ·intro h;rw [h];rfl
 ·intro h;cases hn:l[n]? with
  | none=>rw [hn] at h;cases h
  | some rs=>rw [hn] at h;exact congrArg some h
theorem El {s:AT} {j:Job} {n:Nat} (hj:j.1.toNat=n) (i:Nat):Ak (Hk s j).2 i=if Cy j≠[]/\i=Nq s j then (if i=n then [] else Ak s.1.2 i)++[(s.2.2,Cy j)] else if i=n then [] else Ak s.1.2 i:=by
 unfold Hk;rw [hj];by_cases ho:Cy j=[]
 ·rw [if_pos ho,if_neg (by simp [ho]),Fi]
 ·rw [if_neg ho,Fi];by_cases hi:i=Nq s j
  ·rw [if_pos hi,if_pos ⟨ho,hi⟩,Fi,<- hi]
  ·rw [if_neg hi,if_neg (by simp [hi]),Fi]
theorem aG {s:AT} (v:VSt s) (hf:g9 s.1) {n:Nat} {j:Job} (ha:JobAt s.1 n j) (h0 : ¬ 0<CR s.1 j) (hc:Ib s.1 j=true) (h5:Cy j≠[]->s.2.2<=1000000):VSt (TW s (Hk s j) (PH s j) j.1):=by
 have F:=aB v hf ha h0 hc h5;obtain ⟨o1,o2,o3,o4,o5⟩:=ha.out v.lev (hf n);have hj:j.1.toNat=n:=by rw [o3];simp
 have hn1:=v.n1;have hn2:=v.n2
 have hnx:s.2.2<=PH s j/\PH s j<=1000001/\(Cy j≠[]->s.2.2<PH s j):=by
  unfold PH;by_cases ho:Cy j=[]
  ·rw [if_pos ho];exact ⟨by omega,by omega,λh=>absurd ho h⟩
  ·rw [if_neg ho];have:=h5 ho;exact ⟨by omega,by omega,λ_=>by omega⟩
 refine aF v F.lev (by omega) hnx.2.1 (λx hx => ?_) (λm r0 r1 hm he hq => ?_)
 ·obtain ⟨i,hi⟩:=PG.1 hx;rw [El hj] at hi
  have hold : ∀ {y:BH},y∈(if i=n then [] else Ak s.1.2 i)->y.1<PH s j:=fun {y} hy=>by
   by_cases hin:i=n
   ·rw [if_pos hin] at hy;cases hy
   ·rw [if_neg hin] at hy;have:=MS (PG.2 ⟨i,hy⟩);have:=v.n3;omega
  split at hi
  ·rename_i hh;rcases List.mem_append.1 hi with hi | hi
   ·exact hold hi
   ·rw [List.mem_singleton.1 hi];exact hnx.2.2 hh.1
  ·exact hold hi
 ·have hmn:m≠n:=λe=>he (by rw [o3,e]);have hms:Ak s.1.2 m=[r0,r1]:=MU.1 hm
  have hto : ¬ (Cy j≠[]/\m=Nq s j):=λ⟨ho,ht⟩=>by
   have:=F.room ho;rw [Fi,<- ht,if_neg hmn,hms] at this;simp at this
  have hown:Ak (Hk s j).2 m=[r0,r1]:=by rw [El hj,if_neg hto,if_neg hmn,hms]
  refine ⟨MU.2 hown,λhl=>(gO F.lev.last (by rw [hown];simp) λi hi => ?_).symm⟩;have hin:Ak s.1.2 i=[]:=by unfold Ak;rw [List.getElem?_eq_none (by omega)];rfl
  have hnl:n<s.1.2.length:=by
   by_cases h:n<s.1.2.length
   ·exact h
   ·unfold Ak at o5;rw [List.getElem?_eq_none (by omega)] at o5;exact absurd rfl o5
  have hti:Nq s j<=n+1:=by unfold Nq;rw [hj];split<;>omega
  rw [El hj,if_neg (by rintro ⟨_,h⟩;omega),hin];split<;>rfl
theorem Job.steps {L:AK} {n:Nat} {j:Job} (ha:JobAt L n j) (h:0<CR L j):JobAt L n (j.1,Ta L j):=by
 obtain ⟨r0,r1,bt,k,h1,rfl,hk,hb,v0,v1⟩:=ha;have ho:=MU.1 h1
 have hle:CR L ((n:Int),Dk r1.2 r0.2 bt k)=r1.2.length+r0.2.length-k:=by
  unfold CR;simp only [Int.toNat_natCast,h1];show r1.2.length+r0.2.length-((k:Int)).toNat=_;rw [Int.toNat_natCast]
 rw [hle] at h;refine ⟨r0,r1,bt,k+1,h1,?_,by omega,hb,v0,v1⟩;unfold Ta;simp only [Int.toNat_natCast,ho];have e1:(Dk r1.2 r0.2 bt k).2.1.2.2=bt:=U6 _ _ _ _;have e2:(Dk r1.2 r0.2 bt k).2.2.2.toNat=k:=by show ((k:Int)).toNat=k;rw [Int.toNat_natCast]
 rw [e1,e2]
theorem aH {s:AT} (v:VSt s) {j:Job} {i n:Nat} (hf:Rq j.1 0 (A5 0 s.1.2)=some i) (hj:s.2.1[i]? = some j) (ha:JobAt s.1 n j) (h0:0<CR s.1 j):VSt (Tb s j):=by
 unfold Tb;rw [hf,Option.getD_some];refine ⟨v.lev,v.n1,v.n2,v.n3,?_,λx hx => ?_⟩
 ·show (s.2.1.set i (j.1,Ta s.1 j)).map (·.1)=_;rw [<- v.due,List.map_set];refine List.ext_getElem? λk => ?_;rw [List.getElem?_set];by_cases hk:i=k
  ·subst hk;have hi:=(List.getElem?_eq_some_iff.1 hj).1;rw [if_pos rfl,List.length_map,if_pos hi,List.getElem?_map,hj];rfl
  ·rw [if_neg hk]
 ·rcases List.mem_or_eq_of_mem_set hx with hx | hx
  ·exact v.job x hx
  ·rw [hx];exact ⟨n,Job.steps ha h0⟩
end Go.Proofs.YthpkjfabdccpdaaGreat.Pl
