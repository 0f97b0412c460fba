/- Functions of the program and of the specification as plain functions, and laws about them. No condition. -/
import Derived.Test.YthpkjfabdccpdaaGreatPl1
import Derived.KernelRfl
set_option linter.all false
namespace Go.Proofs.YthpkjfabdccpdaaGreat.Pl
open Go Go.Proofs.YthpkjfabdccpdaaGreat.Sv
set_option linter.unusedVariables false
def Ci (x:(List AD)):Option Bool :=
 bd (loop (λs0=>br (Am s0.1 (AZ (AA x))) (λ_=>br (Am s0.1 80) (λ_=>AV s0.1 λk1=>ix x k1 λx2=>br (CD (AZ (Ep x2.1)) 100) (λ_=>some (.dn ((0,((s0.1,true),()))))) λ_=>AV s0.1 λk3=>ix x k3 λx4=>br (CD (AZ (Ep x4.2.1)) 100) (λ_=>some (.dn ((0,((s0.1,true),()))))) λ_=>some (.nx (AH .i64 s0.1 1,s0.2))) λ_=>some (.dn ((1,(s0,()))))) λ_=>some (.dn ((1,(s0,()))))) (0,false)) λr5=>br (neq r5.1 0) (λ_=>some r5.2.1.2) λ_=>some (CD (AZ (AA x)) 70)
def El (x:(List AD)):Option Bool :=
 bd (loop (λs0=>br (Am s0.1 (AZ (AA x))) (λ_=>br (Am s0.1 40) (λ_=>AV s0.1 λk1=>ix x k1 λx2=>br (CD (AZ (Ep x2.1)) 100) (λ_=>some (.dn ((0,((s0.1,true),()))))) λ_=>AV s0.1 λk3=>ix x k3 λx4=>br (CD (AZ (Ep x4.2.1)) 100) (λ_=>some (.dn ((0,((s0.1,true),()))))) λ_=>some (.nx (AH .i64 s0.1 1,s0.2))) λ_=>some (.dn ((1,(s0,()))))) λ_=>some (.dn ((1,(s0,()))))) (0,false)) λr5=>br (neq r5.1 0) (λ_=>some r5.2.1.2) λ_=>some (CD (AZ (AA x)) 30)
def Cs (x:(List BQ)):Option Bool :=
 bd (loop (λs0=>br (Am s0.1 (AZ (AA x))) (λ_=>br (Am s0.1 10) (λ_=>AV s0.1 λk1=>ix x k1 λx2=>bd (El x2.2) λr3=>br r3 (λ_=>some (.dn ((0,((s0.1,true),()))))) λ_=>some (.nx (AH .i64 s0.1 1,s0.2))) λ_=>some (.dn ((1,(s0,()))))) λ_=>some (.dn ((1,(s0,()))))) (0,false)) λr4=>br (neq r4.1 0) (λ_=>some r4.2.1.2) λ_=>some (CD (AZ (AA x)) 6)
def Ft (x:AI):Option Bool :=
 bd (loop (λs0=>br (Am s0.1 (AZ (AA x.2))) (λ_=>br (Am s0.1 20) (λ_=>AV s0.1 λk1=>ix x.2 k1 λx2=>bd (Cs x2) λr3=>br r3 (λ_=>some (.dn ((0,((s0.1,true),()))))) λ_=>some (.nx (AH .i64 s0.1 1,s0.2))) λ_=>some (.dn ((1,(s0,()))))) λ_=>some (.dn ((1,(s0,()))))) (0,false)) λr4=>br (neq r4.1 0) (λ_=>some r4.2.1.2) λ_=>some (CD (AZ (AA x.2)) 14)
def Fu (x:(AI×((List (Int×(AN×((Bool×AO)×((List AD)×Int)))))×Int))):Option Bool :=
 bd (loop (λs0=>br (Am s0.1 (AZ (AA x.2.1))) (λ_=>br (Am s0.1 20) (λ_=>AV s0.1 λk1=>ix x.2.1 k1 λx2=>bd (loop (λs3=>br (Am s3.1 (AZ (AA x2.2.1.1))) (λ_=>br (Am s3.1 10) (λ_=>AV s3.1 λk4=>ix x2.2.1.1 k4 λx5=>bd (Ci x5) λr6=>br r6 (λ_=>some (.dn ((0,((s3.1,true),()))))) λ_=>some (.nx (AH .i64 s3.1 1,s3.2))) λ_=>some (.dn ((1,(s3,()))))) λ_=>some (.dn ((1,(s3,()))))) (0,s0.2)) λr7=>br (neq r7.1 0) (λ_=>some (.dn ((1,((s0.1,r7.2.1.2),()))))) λ_=>bd (Ci x2.2.2.2.1) λr8=>br r8 (λ_=>some (.dn ((1,((s0.1,true),()))))) λ_=>br (CD (AZ (AA x2.2.1.1)) 6) (λ_=>some (.dn ((1,((s0.1,true),()))))) λ_=>br (CD (AZ (AA x2.2.1.2.1)) 40) (λ_=>some (.dn ((1,((s0.1,true),()))))) λ_=>br (CD (AZ (AA x2.2.1.2.2.1)) 40) (λ_=>some (.dn ((1,((s0.1,true),()))))) λ_=>br (CD (AZ (AA x2.2.1.2.2.2.1)) 40) (λ_=>some (.dn ((1,((s0.1,true),()))))) λ_=>br (CD (AZ (Ep x2.2.2.1.2.1)) 200) (λ_=>some (.dn ((1,((s0.1,true),()))))) λ_=>some (.nx (AH .i64 s0.1 1,r7.2.1.2))) λ_=>some (.dn ((0,(s0,()))))) λ_=>some (.dn ((0,(s0,()))))) (0,false)) λr9=>br (neq r9.1 0) (λ_=>br (CD (AZ (AA x.2.1)) 14) (λ_=>some true) λ_=>bd (Ft x.1) λr10=>some r10) λ_=>some r9.2.1.2
def Ix (x:(Int×(Bool×(List UInt8)))):Option BQ :=
 bd (loop (λ(s0:(Int×BQ))=>br (Am s0.1 (AZ (Ep x.2.2))) (λ_=>AV (AH .i64 s0.1 1) λk1=>AV s0.1 λk2=>gd (Bo k1 (Ep x.2.2)) λ_=>gd (Bo k2 k1) λ_=>gd (Bo (BF (AA s0.2.2) (AA ([(dK x.2.2 k2 k1,(([]:List UInt8),(x.2.1,AH .i64 (AH .i64 (MZ .i64 10 x.1) s0.1) 1)))]))) 1048576) λ_=>some (.nx ((AH .i64 s0.1 1,(s0.2.1,C3 s0.2.2 ([(dK x.2.2 k2 k1,([],(x.2.1,AH .i64 (AH .i64 (MZ .i64 10 x.1) s0.1) 1)))])))))) λ_=>some (.dn ((0,(s0,()))))) ((0,(x.1,[])))) λr3=>some r3.2.1.2
def Gp (x:Unit):Option AI :=
 bd (Ix ((1,(false,[(97:UInt8),(98:UInt8)])))) λr0=>bd (Ix ((2,(true,[(98:UInt8)])))) λr1=>some (2,[[r0,r1]])
def LI (x:AI):Option ((AI×((List (Int×(AN×((Bool×AO)×((List AD)×Int)))))×Int))×Int) :=
 bd (Cn x) λr0=>br (A6 r0.2.2 0) (λ_=>some ((((0,[]),([],0)),r0.2.2))) λ_=>bd (CG x) λr1=>bd (Co x) λr2=>bd (loop (λ(s3:(Int×(Int×((List (List BQ))×((List (Int×(AN×((Bool×AO)×((List AD)×Int)))))×Int)))))=>br (Am s3.1 (AZ (AA r2))) (λ_=>AV s3.1 λk4=>ix r2 k4 λx5=>AV s3.1 λk6=>ix r2 k6 λx7=>bd (Bs (x,x7)) λr8=>bd (A9 ((x,(x5,r8)))) λr9=>gd (Bo (BF (AA s3.2.2.2.1) (AA [r9])) 1048576) λ_=>some (.nx ((AH .i64 s3.1 1,(s3.2.1,(s3.2.2.1,(C3 s3.2.2.2.1 [r9],s3.2.2.2.2))))))) λ_=>some (.dn ((0,(s3,()))))) ((0,(x.1,(x.2,([],AH .i64 r1 1)))))) λr10=>some ((((r10.2.1.2.1,r10.2.1.2.2.1),r10.2.1.2.2.2),0))
def FN (x:((AI×((List (Int×(AN×((Bool×AO)×((List AD)×Int)))))×Int))×Int)):Option (Int×Int) :=
 bd (DE x.1) λr0=>br (A6 r0.2 0) (λ_=>some (0,r0.2)) λ_=>bd (loop (λs1=>br (Am s1.2 (AZ (AA x.1.2.1))) (λ_=>AV s1.2 λk2=>ix x.1.2.1 k2 λx3=>br (Bg x3.1 x.2) (λ_=>some (.dn ((0,((s1.2,s1.2),()))))) λ_=>some (.nx (s1.1,AH .i64 s1.2 1))) λ_=>some (.dn ((1,(s1,()))))) (0,0)) λr4=>br (neq r4.1 0) (λ_=>br (Am r4.2.1.1 0) (λ_=>some (0,4)) λ_=>some (r4.2.1.1,0)) λ_=>br (Am (-1) 0) (λ_=>some (0,4)) λ_=>some (((-1),0))
def Cj (x:((AI×((List (Int×(AN×((Bool×AO)×((List AD)×Int)))))×Int))×Int)):Option (((AI×((List (Int×(AN×((Bool×AO)×((List AD)×Int)))))×Int))×((Int×(AN×((Bool×AO)×((List AD)×Int))))×Int))×Int) :=
 bd (FN x) λr0=>br (A6 r0.2 0) (λ_=>some (((((0,[]),([],0)),((0,(([],([],([],([],0)))),((false,([],false)),([],0)))),0)),r0.2))) λ_=>AV r0.1 λk1=>ix x.1.2.1 k1 λx2=>bd (BX x2.2) λr3=>some (((x.1,(x2,r3.1)),r3.2))
def A5 (x:((AI×((List (Int×(AN×((Bool×AO)×((List AD)×Int)))))×Int))×((Int×(AN×((Bool×AO)×((List AD)×Int))))×Int))):Option Bool :=
 some (CD x.2.2 0)
def DU (x:(Int×Int)):Option (Int×Int) :=
 br (Am x.1 1) (λ_=>some (0,7)) λ_=>br (CD x.1 16) (λ_=>some (0,7)) λ_=>br (Am x.2 0) (λ_=>some (0,7)) λ_=>br (Gz x.2 12) (λ_=>some (0,7)) λ_=>gd (Gz x.2 0) λ_=>some (R8 .i64 x.1 x.2,0)
def BE (x:((AI×((List (Int×(AN×((Bool×AO)×((List AD)×Int)))))×Int))×((Int×(AN×((Bool×AO)×((List AD)×Int))))×Int))):Option Bool :=
 bd (DU (x.1.1.1,x.2.1.1)) λr0=>br (Bg r0.2 0) (λ_=>some (XH (AZ (AA x.2.1.2.2.2.1)) r0.1)) λ_=>some false
def EY (x:(AI×Int)):Option Int :=
 bd (CN x.1) λr0=>br (A6 r0.2.2 0) (λ_=>some r0.2.2) λ_=>br (Am x.2 0) (λ_=>some 7) λ_=>br (Gz x.2 12) (λ_=>some 7) λ_=>some 0
def E6 (x:(AI×Int)):Option (Bool×Int) :=
 bd (EY x) λr0=>br (A6 r0 0) (λ_=>some (false,r0)) λ_=>br (Am x.2 (AZ (AA x.1.2))) (λ_=>AV x.2 λk1=>ix x.1.2 k1 λx2=>some ((Am (AZ (AA x2)) 2,0))) λ_=>some (true,0)
def CT (x:((AI×((List (Int×(AN×((Bool×AO)×((List AD)×Int)))))×Int))×((Int×(AN×((Bool×AO)×((List AD)×Int))))×Int))):Option Bool :=
 bd (E6 (x.1.1,AH .i64 x.2.1.1 1)) λr0=>br (Bg r0.2 0) (λ_=>some r0.1) λ_=>some false
def Be (x:((AI×((List (Int×(AN×((Bool×AO)×((List AD)×Int)))))×Int))×((Int×(AN×((Bool×AO)×((List AD)×Int))))×Int))):Option Bool :=
 bd (loop (λs0=>br (Am s0.1 3) (λ_=>AV s0.1 λk1=>br (neq k1 0) (λ_=>bd (A5 x) λr2=>br r2 (λ_=>some (.dn ((0,((s0.1,true),()))))) λ_=>some (.nx (AH .i64 s0.1 1,s0.2))) λ_=>br (neq k1 1) (λ_=>bd (BE x) λr3=>br r3 (λ_=>some (.dn ((0,((s0.1,true),()))))) λ_=>some (.nx (AH .i64 s0.1 1,s0.2))) λ_=>gd (neq k1 2) λ_=>bd (CT x) λr4=>br r4 (λ_=>some (.dn ((0,((s0.1,true),()))))) λ_=>some (.nx (AH .i64 s0.1 1,s0.2))) λ_=>some (.dn ((1,(s0,()))))) (0,false)) λr5=>br (neq r5.1 0) (λ_=>some r5.2.1.2) λ_=>some false
def Bf (x:(List (Int×(AN×((Bool×AO)×((List AD)×Int)))))):Option (List (Int×(AN×((Bool×AO)×((List AD)×Int))))) :=
 gd (Bo (AA x) 1048576) λ_=>some x
def Jk (x:((AI×((List (Int×(AN×((Bool×AO)×((List AD)×Int)))))×Int))×(Int×Int))):Option ((AI×((List (Int×(AN×((Bool×AO)×((List AD)×Int)))))×Int))×(Int×Int)) :=
 bd (DE x.1) λr0=>br (A6 r0.2 0) (λ_=>some ((((0,[]),([],0)),(0,r0.2)))) λ_=>br (Am x.2.2 0) (λ_=>some ((((0,[]),([],0)),(0,7)))) λ_=>bd (FN (x.1,x.2.1)) λr1=>br (A6 r1.2 0) (λ_=>some ((((0,[]),([],0)),(0,r1.2)))) λ_=>AV r1.1 λk2=>ix x.1.2.1 k2 λx3=>bd (BX x3.2) λr4=>br (Bg r4.1 0) (λ_=>some ((((0,[]),([],0)),(0,9)))) λ_=>AV r1.1 λk5=>ix x.1.2.1 k5 λx6=>bd (B3 (x6.2,x.2.2)) λr7=>br (A6 r7.2.2 0) (λ_=>some ((((0,[]),([],0)),(0,r7.2.2)))) λ_=>bd (Bf x.1.2.1) λr8=>AV r1.1 λk9=>gd (Dn k9 (AA r8)) λ_=>ix r8 k9 λx10=>some (((x.1.1,(lset r8 k9 (x10.1,r7.1),x.1.2.2)),(r7.2.1,0)))
def DV (x:(AI×(Int×(List BQ)))):Option AI :=
 AV (KW (AZ (AA x.1.2)) (AH .i64 x.2.1 1)) λk0=>AV (KW (AZ (AA x.1.2)) (AH .i64 x.2.1 1)) λk1=>gd (Bo k1 1048576) λ_=>AV x.2.1 λk2=>gd (Dn k2 (AA (JL (DW k1 ([]:List BQ)) 0 x.1.2 (AA (DW k1 ([]:List BQ)))))) λ_=>ix (JL (DW k1 ([]:List BQ)) 0 x.1.2 (AA (DW k1 ([]:List BQ)))) k2 λx3=>bd (loop (λs4=>br (CD s4 0) (λ_=>AV (Bz .i64 s4 1) λk5=>gd (Dn k5 (AA (lset (JL (DW k1 ([]:List BQ)) 0 x.1.2 (AA (DW k1 ([]:List BQ)))) k2 x.2.2))) λ_=>ix (lset (JL (DW k1 ([]:List BQ)) 0 x.1.2 (AA (DW k1 ([]:List BQ)))) k2 x.2.2) k5 λx6=>br (Bg (AZ (AA x6)) 0) (λ_=>some (.nx (Bz .i64 s4 1))) λ_=>some (.dn ((0,(s4,()))))) λ_=>some (.dn ((0,(s4,()))))) (AZ (AA (lset (JL (DW k1 ([]:List BQ)) 0 x.1.2 (AA (DW k1 ([]:List BQ)))) k2 x.2.2)))) λr7=>AV r7.2.1 λk8=>gd (Bo k8 (AA (lset (JL (DW k1 ([]:List BQ)) 0 x.1.2 (AA (DW k1 ([]:List BQ)))) k2 x.2.2))) λ_=>gd (Bo 0 k8) λ_=>br (Dn 0 (AA (lset (JL (DW k1 ([]:List BQ)) 0 x.1.2 (AA (DW k1 ([]:List BQ)))) k2 x.2.2))) (λ_=>gd (Bo (BF 0 (Qg k8 0)) (AA (lset (JL (DW k1 ([]:List BQ)) 0 x.1.2 (AA (DW k1 ([]:List BQ)))) k2 x.2.2))) λ_=>some ((x.1.1,Er (lset (JL (DW k1 ([]:List BQ)) 0 x.1.2 (AA (DW k1 ([]:List BQ)))) k2 x.2.2) 0 (BF 0 (Qg k8 0))))) λ_=>some (x.1.1,[])
def C0 (x:(AI×Int)):Option (AI×((List BQ)×Int)) :=
 bd (EY x) λr0=>br (A6 r0 0) (λ_=>some (((0,[]),([],r0)))) λ_=>br (Am x.2 (AZ (AA x.1.2))) (λ_=>AV x.2 λk1=>ix x.1.2 k1 λx2=>br (Bg (AZ (AA x2)) 0) (λ_=>some (((0,[]),([],4)))) λ_=>bd (DV ((x.1,(x.2,[])))) λr3=>gd (Bo (AA x2) 1048576) λ_=>some ((r3,(x2,0)))) λ_=>some (((0,[]),([],4)))
def BJ (x:(AI×(Int×BQ))):Option (AI×Int) :=
 bd (EY (x.1,x.2.1)) λr0=>br (A6 r0 0) (λ_=>some (((0,[]),r0))) λ_=>gd (Gz x.2.1 0) λ_=>bd (Cl (x.2.2,R8 .i64 x.1.1 x.2.1)) λr1=>br (A6 r1 0) (λ_=>some (((0,[]),r1))) λ_=>bd (loop (λ(s2:(Int×(AI×Int)))=>br (Am s2.1 (AZ (AA x.1.2))) (λ_=>AV s2.1 λk3=>ix x.1.2 k3 λx4=>bd (loop (λ(s5:(Int×(AI×Int)))=>br (Gz s5.1 0) (λ_=>AV s5.1 λk6=>ix x4 k6 λx7=>br (Bg x7.1 x.2.2.1) (λ_=>some (.dn ((1,((s5.1,((0,[]),8)),()))))) λ_=>some (.nx (Bz .i64 s5.1 1,s5.2))) λ_=>some (.dn ((0,(s5,()))))) ((Bz .i64 (AZ (AA x4)) 1,s2.2))) λr8=>br (neq r8.1 0) (λ_=>some (.nx (AH .i64 s2.1 1,r8.2.1.2))) λ_=>some (.dn ((1,((s2.1,r8.2.1.2),()))))) λ_=>some (.dn ((0,(s2,()))))) ((0,((0,[]),0)))) λr9=>br (neq r9.1 0) (λ_=>br (Am x.2.1 (AZ (AA x.1.2))) (λ_=>AV x.2.1 λk10=>ix x.1.2 k10 λx11=>br (Bg (AZ (AA x11)) 2) (λ_=>some (((0,[]),5))) λ_=>AV (AZ (AA x11)) λk12=>AV (AZ (AA x11)) λk13=>gd (Bo k12 (AA x11)) λ_=>gd (neq k12 k13) λ_=>gd (Bo 0 k12) λ_=>gd (Bo (BF (AA (Er x11 0 k12)) (AA [x.2.2])) 1048576) λ_=>bd (DV ((x.1,(x.2.1,C3 (Er x11 0 k12) [x.2.2])))) λr14=>some (r14,0)) λ_=>gd (Bo (AA [x.2.2]) 1048576) λ_=>bd (DV ((x.1,(x.2.1,[x.2.2])))) λr15=>some (r15,0)) λ_=>some r9.2.1.2
def Fv (x:(AI×Int)):Option ((Int×(AN×((Bool×AO)×((List AD)×Int))))×Int) :=
 bd (CN x.1) λr0=>br (A6 r0.2.2 0) (λ_=>some (((0,(([],([],([],([],0)))),((false,([],false)),([],0)))),r0.2.2))) λ_=>br (Am x.2 0) (λ_=>some (((0,(([],([],([],([],0)))),((false,([],false)),([],0)))),7))) λ_=>br (Gz x.2 12) (λ_=>some (((0,(([],([],([],([],0)))),((false,([],false)),([],0)))),7))) λ_=>br (Gz x.2 (AZ (AA x.1.2))) (λ_=>some (((0,(([],([],([],([],0)))),((false,([],false)),([],0)))),4))) λ_=>AV x.2 λk1=>ix x.1.2 k1 λx2=>br (Am (AZ (AA x2)) 2) (λ_=>some (((0,(([],([],([],([],0)))),((false,([],false)),([],0)))),4))) λ_=>bd (Cm x) λr3=>bd (CK ((x.1,(x.2,r3)))) λr4=>some (r4,0)
def A2 (x:((AI×((List (Int×(AN×((Bool×AO)×((List AD)×Int)))))×Int))×(AI×(Int×Int)))):Option ((AI×((List (Int×(AN×((Bool×AO)×((List AD)×Int)))))×Int))×Int) :=
 bd (loop (λ(s0:(Int×(List (Int×(Int×(AN×((Bool×AO)×((List AD)×Int))))))))=>br (Am s0.1 (AZ (AA x.1.2.1))) (λ_=>AV s0.1 λk1=>ix x.1.2.1 k1 λx2=>some (.nx ((AH .i64 s0.1 1,HN ((λa3=>(λa4=>Bg a3 a4))) s0.2 x2.1 x2)))) λ_=>some (.dn ((0,(s0,()))))) (0,[])) λr5=>bd (loop (λ(s6:(Int×(Int×((Int×((List (List BQ))×((List (Int×(AN×((Bool×AO)×((List AD)×Int)))))×Int)))×(Int×((List (List BQ))×((List (Int×(AN×((Bool×AO)×((List AD)×Int)))))×Int)))))))=>br (Am s6.2.1 (AZ (AA x.2.1.2))) (λ_=>AV s6.2.1 λk7=>ix x.2.1.2 k7 λx8=>br (Am (AZ (AA x8)) 2) (λ_=>some (.nx ((s6.1,(AH .i64 s6.2.1 1,s6.2.2))))) λ_=>br (AX (gX (H3 ((λa9=>(λa10=>Bg a9 a10))) (JB ((λa11=>(λa12=>Bg a11 a12))) r5.2.1.2 x.2.2.2) s6.2.1))) (λ_=>bd (Fv (x.2.1,s6.2.1)) λr13=>br (A6 r13.2 0) (λ_=>some (.dn ((1,((r13.2,(s6.2.1,((0,([],([],0))),s6.2.2.2))),()))))) λ_=>gd (Bo (BF (AA s6.2.2.2.2.2.1) (AA [r13.1])) 1048576) λ_=>some (.nx ((s6.1,(AH .i64 s6.2.1 1,(s6.2.2.1,(s6.2.2.2.1,(s6.2.2.2.2.1,(C3 s6.2.2.2.2.2.1 [r13.1],s6.2.2.2.2.2.2))))))))) λ_=>gd (Bo (BF (AA s6.2.2.2.2.2.1) (AA ([PB (H3 (λa b=>Bg a b) (JB (λa b=>Bg a b) r5.2.1.2 x.2.2.2) s6.2.1) (0,(([],([],([],([],0)))),((false,([],false)),([],0))))]))) 1048576) λ_=>some (.nx ((s6.1,(AH .i64 s6.2.1 1,(s6.2.2.1,(s6.2.2.2.1,(s6.2.2.2.2.1,(C3 s6.2.2.2.2.2.1 ([PB (H3 (λa b=>Bg a b) (JB (λa b=>Bg a b) r5.2.1.2 x.2.2.2) s6.2.1) (0,(([],([],([],([],0)))),((false,([],false)),([],0))))]),s6.2.2.2.2.2.2))))))))) λ_=>some (.dn ((0,(s6,()))))) ((0,(0,((0,([],([],0))),(x.2.1.1,(x.2.1.2,([],x.2.2.1)))))))) λr102=>br (neq r102.1 0) (λ_=>some ((((r102.2.1.2.2.2.1,r102.2.1.2.2.2.2.1),r102.2.1.2.2.2.2.2),0))) λ_=>some ((((r102.2.1.2.2.1.1,r102.2.1.2.2.1.2.1),r102.2.1.2.2.1.2.2),r102.2.1.1))
def Cb (x:((AI×((List (Int×(AN×((Bool×AO)×((List AD)×Int)))))×Int))×Int)):Option ((AI×((List (Int×(AN×((Bool×AO)×((List AD)×Int)))))×Int))×Int) :=
 bd (Cj x) λr0=>br (A6 r0.2 0) (λ_=>some ((((0,[]),([],0)),r0.2))) λ_=>bd (A5 r0.1) λr1=>br r1 (λ_=>some ((((0,[]),([],0)),9))) λ_=>bd (Be r0.1) λr2=>br (AX r2) (λ_=>some ((((0,[]),([],0)),9))) λ_=>br (CD x.1.2.2 1000000) (λ_=>br (CD (AZ (AA r0.1.2.1.2.2.2.1)) 0) (λ_=>some ((((0,[]),([],0)),5))) λ_=>bd (C0 (x.1.1,x.2)) λr3=>br (Bg r3.2.2 0) (λ_=>br (CD (AZ (AA r0.1.2.1.2.2.2.1)) 0) (λ_=>bd (BE r0.1) λr4=>br (AX r4) (λ_=>bd (BJ ((r3.1,(AH .i64 x.2 1,(x.1.2.2,r0.1.2.1.2.2.2.1))))) λr5=>br (A6 r5.2 0) (λ_=>some ((((0,[]),([],0)),r5.2))) λ_=>bd (A2 ((x.1,(r5.1,(AH .i64 x.1.2.2 1,x.2))))) λr6=>some r6) λ_=>bd (BJ ((r3.1,(x.2,(x.1.2.2,r0.1.2.1.2.2.2.1))))) λr7=>br (A6 r7.2 0) (λ_=>some ((((0,[]),([],0)),r7.2))) λ_=>bd (A2 ((x.1,(r7.1,(AH .i64 x.1.2.2 1,x.2))))) λr8=>some r8) λ_=>br (A6 r3.2.2 0) (λ_=>some ((((0,[]),([],0)),r3.2.2))) λ_=>bd (A2 ((x.1,(r3.1,(x.1.2.2,x.2))))) λr9=>some r9) λ_=>br (A6 r3.2.2 0) (λ_=>some ((((0,[]),([],0)),r3.2.2))) λ_=>bd (A2 ((x.1,(r3.1,(x.1.2.2,x.2))))) λr10=>some r10) λ_=>bd (C0 (x.1.1,x.2)) λr11=>br (Bg r11.2.2 0) (λ_=>br (CD (AZ (AA r0.1.2.1.2.2.2.1)) 0) (λ_=>bd (BE r0.1) λr12=>br (AX r12) (λ_=>bd (BJ ((r11.1,(AH .i64 x.2 1,(x.1.2.2,r0.1.2.1.2.2.2.1))))) λr13=>br (A6 r13.2 0) (λ_=>some ((((0,[]),([],0)),r13.2))) λ_=>bd (A2 ((x.1,(r13.1,(AH .i64 x.1.2.2 1,x.2))))) λr14=>some r14) λ_=>bd (BJ ((r11.1,(x.2,(x.1.2.2,r0.1.2.1.2.2.2.1))))) λr15=>br (A6 r15.2 0) (λ_=>some ((((0,[]),([],0)),r15.2))) λ_=>bd (A2 ((x.1,(r15.1,(AH .i64 x.1.2.2 1,x.2))))) λr16=>some r16) λ_=>br (A6 r11.2.2 0) (λ_=>some ((((0,[]),([],0)),r11.2.2))) λ_=>bd (A2 ((x.1,(r11.1,(x.1.2.2,x.2))))) λr17=>some r17) λ_=>br (A6 r11.2.2 0) (λ_=>some ((((0,[]),([],0)),r11.2.2))) λ_=>bd (A2 ((x.1,(r11.1,(x.1.2.2,x.2))))) λr18=>some r18
def Fw (x:((AI×((List (Int×(AN×((Bool×AO)×((List AD)×Int)))))×Int))×Int)):Option ((AI×((List (Int×(AN×((Bool×AO)×((List AD)×Int)))))×Int))×(Bool×Int)) :=
 bd (Cj x) λr0=>br (A6 r0.2 0) (λ_=>some ((((0,[]),([],0)),(false,r0.2)))) λ_=>bd (Be r0.1) λr1=>br (AX r1) (λ_=>some ((((0,[]),([],0)),(false,9)))) λ_=>bd (A5 r0.1) λr2=>br r2 (λ_=>bd (Jk ((x.1,(x.2,1)))) λr3=>some ((r3.1,(false,r3.2.2)))) λ_=>bd (Cb x) λr4=>some ((r4.1,(Bg r4.2 0,r4.2)))
def Ct (x:((AI×((List (Int×(AN×((Bool×AO)×((List AD)×Int)))))×Int))×Int)):Option (Int×Int) :=
 bd (Cj x) λr0=>br (A6 r0.2 0) (λ_=>some (0,r0.2)) λ_=>bd (A5 r0.1) λr1=>br r1 (λ_=>some (0,9)) λ_=>bd (BE r0.1) λr2=>br r2 (λ_=>some (x.2,0)) λ_=>some (AH .i64 x.2 1,0)
def HK (x:(AI×((List (Int×(AN×((Bool×AO)×((List AD)×Int)))))×Int))):Option ((List Int)×Int) :=
 bd (DE x) λr0=>br (A6 r0.2 0) (λ_=>some ([],r0.2)) λ_=>bd (loop (λs1=>br (Am s1.1 (AZ (AA x.1.2))) (λ_=>AV s1.1 λk2=>ix x.1.2 k2 λx3=>br (Bg (AZ (AA x3)) 2) (λ_=>gd (Bo (BF (AA s1.2) (AA [s1.1])) 1048576) λ_=>some (.nx (AH .i64 s1.1 1,C3 s1.2 [s1.1]))) λ_=>some (.nx (AH .i64 s1.1 1,s1.2))) λ_=>some (.dn ((0,(s1,()))))) (0,[])) λr4=>some (r4.2.1.2,0)
def HL (x:(AI×((List (Int×(AN×((Bool×AO)×((List AD)×Int)))))×Int))):Option (Int×Int) :=
 bd (HK x) λr0=>br (A6 r0.2 0) (λ_=>some (0,r0.2)) λ_=>br (Bg (AZ (AA r0.1)) 0) (λ_=>some (0,4)) λ_=>bd (loop (λs1=>br (Am s1.2.2.1 (AZ (AA r0.1))) (λ_=>AV s1.2.2.1 λk2=>ix r0.1 k2 λx3=>bd (Cj (x,x3)) λr4=>br (A6 r4.2 0) (λ_=>some (.dn ((0,((r4.2,(s1.2.1,(s1.2.2.1,0))),()))))) λ_=>bd (Be r4.1) λr5=>br r5 (λ_=>some (.dn ((1,((s1.1,(true,(s1.2.2.1,x3))),()))))) λ_=>some (.nx ((s1.1,(s1.2.1,(AH .i64 s1.2.2.1 1,s1.2.2.2)))))) λ_=>some (.dn ((1,(s1,()))))) ((r0.2,(false,(0,0))))) λr6=>br (neq r6.1 0) (λ_=>some (r6.2.1.2.2.2,r6.2.1.1)) λ_=>br (AX r6.2.1.2.1) (λ_=>some (0,9)) λ_=>some (r6.2.1.2.2.2,0)
def EB (x:Unit):Option Bool :=
 bd (Gp ()) λr0=>bd (LI r0) λr1=>bd (loop (λ(s2:(Bool×(Int×(Int×((List (List BQ))×((List (Int×(AN×((Bool×AO)×((List AD)×Int)))))×Int))))))=>jn (γ:=(Nat×(Bool×Unit))) (λs3=>jn (γ:=(Nat×(Bool×Unit))) (λs4=>br (Am s2.2.1 3) (λ_=>some (.nx (Bg r1.2 0))) λ_=>some (.nx false)) () (λs5=>br s5 (λ_=>some (.nx s5)) λ_=>some (.dn ((0,(s5,()))))) λr6=>some (.dn ((0,(r6.2.1,()))))) () (λs7=>jn (γ:=(Nat×((Bool×(Int×((List (List BQ))×((List (Int×(AN×((Bool×AO)×((List AD)×Int)))))×Int))))×Unit))) (λs8=>bd (Fw ((((s8.2.1,s8.2.2.1),s8.2.2.2),0))) λr9=>jn (γ:=(Nat×(Bool×Unit))) (λs10=>br (A6 r9.2.2 0) (λ_=>some (.nx true)) λ_=>some (.nx r9.2.1)) () (λs11=>br s11 (λ_=>some (.dn ((0,((false,s8.2),()))))) λ_=>some (.nx ((s8.1,(r9.1.1.1,(r9.1.1.2,r9.1.2)))))) λr12=>none) (s2.1,s2.2.2) (λs13=>some (.nx ((s13.1,(AH .i64 s2.2.1 1,s13.2))))) λr14=>some (.dn ((1,((r14.2.1.1,(s2.2.1,r14.2.1.2)),()))))) λr15=>some (.dn ((0,(s2,()))))) ((false,(0,(r1.1.1.1,(r1.1.1.2,r1.1.2)))))) λr16=>br (neq r16.1 0) (λ_=>bd (Ct ((((r16.2.1.2.2.1,r16.2.1.2.2.2.1),r16.2.1.2.2.2.2),0))) λr17=>bd (Fw ((((r16.2.1.2.2.1,r16.2.1.2.2.2.1),r16.2.1.2.2.2.2),0))) λr18=>jn (γ:=(Nat×(Bool×Unit))) (λs19=>br (A6 r1.2 0) (λ_=>some (.nx true)) λ_=>br (A6 r17.1 0) (λ_=>some (.nx true)) λ_=>br (A6 r17.2 0) (λ_=>some (.nx true)) λ_=>br (AX r18.2.1) (λ_=>some (.nx true)) λ_=>some (.nx (A6 r18.2.2 0))) () (λs20=>br s20 (λ_=>some false) λ_=>bd (HL r18.1) λr21=>br (Bg r21.2 4) (λ_=>br (Bg (AZ (AA r18.1.2.1)) 0) (λ_=>br (Bg r18.1.2.2 4) (λ_=>br (Bg (AZ (AA r18.1.1.2)) 1) (λ_=>ix r18.1.1.2 0 λx22=>br (Bg (AZ (AA x22)) 1) (λ_=>ix r18.1.1.2 0 λx23=>ix x23 0 λx24=>br (Bg x24.1 3) (λ_=>ix r18.1.1.2 0 λx25=>ix x25 0 λx26=>br (Bg (AZ (AA x26.2)) 1) (λ_=>ix r18.1.1.2 0 λx27=>ix x27 0 λx28=>ix x28.2 0 λx29=>some (seq x29.1 ([(97:UInt8)]))) λ_=>some false) λ_=>some false) λ_=>some false) λ_=>some false) λ_=>some false) λ_=>some false) λ_=>some false) λr30=>none) λ_=>some r16.2.1.1
def Kd (x:((AI×((List (Int×(AN×((Bool×AO)×((List AD)×Int)))))×Int))×Int)):Option (Bool×Int) :=
 bd (Cj x) λr0=>br (A6 r0.2 0) (λ_=>some (false,r0.2)) λ_=>bd (Be r0.1) λr1=>some (r1,0)
def Iy (x:(Int×Int)):Option (Int×Int) :=
 br (Am x.1 1) (λ_=>some (0,7)) λ_=>br (CD x.1 16) (λ_=>some (0,7)) λ_=>br (Am x.2 0) (λ_=>some (0,7)) λ_=>br (Gz x.2 12) (λ_=>some (0,7)) λ_=>bd (DH x) λr0=>some (r0,0)
def Ht (x:((AI×((List (Int×(AN×((Bool×AO)×((List AD)×Int)))))×Int))×(Int×(AN×((Bool×AO)×((List AD)×Int)))))):Option Bool :=
 bd (Iy (x.1.1.1,x.2.1)) λr0=>some (XH (AZ (AA x.2.2.2.2.1)) r0.1)
def Iz (x:((AI×((List (Int×(AN×((Bool×AO)×((List AD)×Int)))))×Int))×Int)):Option Bool :=
 br (Am (AH .i64 x.2 1) 12) (λ_=>br (Gz (AH .i64 x.2 1) (AZ (AA x.1.1.2))) (λ_=>some true) λ_=>AV (AH .i64 x.2 1) λk0=>ix x.1.1.2 k0 λx1=>some (Am (AZ (AA x1)) 2)) λ_=>some false
def NT (x:((AI×((List (Int×(AN×((Bool×AO)×((List AD)×Int)))))×Int))×Int)):Option (Bool×Int) :=
 bd (Iu x) λr0=>br (A6 r0.2 0) (λ_=>some (false,r0.2)) λ_=>bd (Gv x) λr1=>br (CD r0.1 0) (λ_=>some (true,0)) λ_=>AV r1.1 λk2=>ix x.1.2.1 k2 λx3=>bd (Ht (x.1,x3)) λr4=>br r4 (λ_=>some (true,0)) λ_=>bd (Iz x) λr5=>some (r5,0)
end Go.Proofs.YthpkjfabdccpdaaGreat.Pl
namespace Go.Proofs.YthpkjfabdccpdaaGreat.Pl
open Go Go.Proofs.YthpkjfabdccpdaaGreat.Sv
def JobAt (L:AI) (n:Nat) (j:GN):Prop := ∃ r0 r1 bt k,L.2[n]? = some [r0,r1]/\j=((n:Int),EI r1.2 r0.2 bt k)/\k<=r1.2.length+r0.2.length/\(bt=true->n+1=L.2.length)/\VL r0.2/\VL r1.2
structure VSt (s:Ab):Prop where
 lev:VLev s.1
 n1:1<=s.2.2
 n2:s.2.2<=1000001
 n3:FM s.1.2<s.2.2
 due:s.2.1.map (·.1)=Ba 0 s.1.2
 job : ∀ j∈s.2.1,∃ n,JobAt s.1 n j
theorem f9 (a b:List AD) (bt:Bool) (k:Nat):(EI a b bt k).2.1.2.2=bt:=by
 show (CH (s0 bt) (Aw a b k)).2.2=bt;rw [Fk]
theorem Oo {L:AI} (v:VLev L) {i:Nat} {j:GN}:KP L (Ba 0 L.2) i j=false <-> ∃ n,(Ba 0 L.2)[i]? = some j.1/\JobAt L n j:=by
 constructor
 ·intro h;unfold KP at h;cases hd:(Ba 0 L.2)[i]? with
  | none=>rw [hd] at h;cases h
  | some d =>
   rw [hd] at h;simp only at h;by_cases h1:j.1=d;rotate_left
   ·rw [if_pos h1] at h;cases h
   rw [if_neg (by simp [h1])] at h;by_cases h2:j.2.2.1.2.2=true/\j.1≠(L.2.length:Int)-1
   ·rw [if_pos h2] at h;cases h
   rw [if_neg h2] at h;obtain ⟨n,hn,r0,r1,hl⟩:=II hd;rw [Nat.zero_add] at hn;rw [hn,Int.toNat_natCast,hl] at h;simp only at h;by_cases h3:j.2.2.2.2<0\/j.2.2.2.2>((r1.2.length+r0.2.length:Nat):Int)
   ·rw [if_pos h3] at h;cases h
   rw [if_neg h3] at h;have h4:EI r1.2 r0.2 j.2.2.1.2.2 j.2.2.2.2.toNat=j.2:=by simpa using h
   have hv:=(v.lev n _ hl).2;refine ⟨n,by rw [h1],r0,r1,j.2.2.1.2.2,j.2.2.2.2.toNat,hl,Prod.ext (by rw [h1,hn]) h4.symm,by omega,λhb => ?_,(hv r0 (by simp)).vl,(hv r1 (by simp)).vl⟩
   have h5:j.1=(L.2.length:Int)-1:=by
    by_cases h6:j.1=(L.2.length:Int)-1
    ·exact h6
    ·exact absurd ⟨hb,h6⟩ h2
   omega
 ·rintro ⟨n,hd,r0,r1,bt,k,hl,rfl,hk,hb,v0,v1⟩;unfold KP;rw [hd];simp only;rw [if_neg (by simp),f9,if_neg (λh:bt=true/\(n:Int)≠(L.2.length:Int)-1=>h.2 (by have:=hb h.1;omega)),Int.toNat_natCast,hl];simp only;rw [show (EI r1.2 r0.2 bt k).2.2.2=(k:Int) from rfl,if_neg (by omega),Int.toNat_natCast];simp
theorem Jl {L:AI} {due:List Int} : ∀ {js:List GN} {i:Nat},FI L due i js=none <-> ∀ k j,js[k]? = some j->KP L due (i+k) j=false
 | [],i=>by simp [FI]
 | j::js,i=>by
  unfold FI;by_cases h:KP L due i j=true
  ·rw [if_pos h];simp only [reduceCtorEq,false_iff];intro h2;have:=h2 0 j rfl;rw [Nat.add_zero,h] at this;cases this
  ·rw [if_neg h,Jl (js:=js)];constructor
   ·intro h2 k j' hk;cases k with
    | zero=>cases hk;simpa using h
    | succ k=>rw [show i+(k+1)=i+1+k by omega];exact h2 k j' hk
   ·intro h2 k j' hk;rw [show i+1+k=i+(k+1) by omega];exact h2 (k+1) j' hk
theorem Cr {s:Ab}:(Au s).2=0<->VSt s:=by
 unfold Au;constructor
 ·intro h;by_cases h0:(DG s.1).2.2≠0
  ·rw [if_pos h0] at h;exact absurd h h0
  rw [if_neg h0] at h;have v:=Gb.1 (Decidable.not_not.1 h0);by_cases h1:s.2.2<1\/s.2.2>1000001
  ·rw [if_pos h1] at h;cases h
  rw [if_neg h1] at h;by_cases h2:s.2.2<=FM s.1.2
  ·rw [if_pos h2] at h;cases h
  rw [if_neg h2] at h;cases hg:FI s.1 (Ba 0 s.1.2) 0 s.2.1 with
  | some i=>rw [hg] at h;cases h
  | none =>
   rw [hg] at h;simp only at h;by_cases h3:s.2.1.length<(Ba 0 s.1.2).length
   ·rw [if_pos h3] at h;cases h
   have hj:=Jl.1 hg
   have hj2 : ∀ k j,s.2.1[k]? = some j -> ∃ n,(Ba 0 s.1.2)[k]? = some j.1/\JobAt s.1 n j:=λk j hk=>by
    have:=hj k j hk;rw [Nat.zero_add] at this;exact (Oo v).1 this
   refine ⟨v,by omega,by omega,by omega,?_,λj hm => ?_⟩
   ·apply List.ext_getElem?;intro k;rw [List.getElem?_map];cases hk:s.2.1[k]? with
    | some j=>obtain ⟨n,e,_⟩:=hj2 k j hk;rw [e];rfl
    | none =>
     have:=List.getElem?_eq_none_iff.1 hk;rw [List.getElem?_eq_none (by omega)];rfl
   ·obtain ⟨k,hk⟩:=List.getElem?_of_mem hm;obtain ⟨n,_,h⟩:=hj2 k j hk;exact ⟨n,h⟩
 ·intro v;rw [if_neg (by simp [Gb.2 v.lev]),if_neg (by have:=v.n1;have:=v.n2;omega),if_neg (by have:=v.n3;omega)]
  have hg:FI s.1 (Ba 0 s.1.2) 0 s.2.1=none:=Jl.2 λk j hk=>by
   rw [Nat.zero_add];obtain ⟨n,hn⟩:=v.job j (List.mem_of_getElem? hk);exact (Oo v.lev).2 ⟨n,by rw [<- v.due,List.getElem?_map,hk];rfl,hn⟩
  rw [hg];simp only;rw [if_neg (by rw [<- v.due];simp)]
structure Sm (s:Ab):Prop where
 lv:s.1.2.length<=1048576
 rs : ∀ rs∈s.1.2,rs.length<=1048576 /\ ∀ r∈rs,r.2.length<=9223372036854775807
 js:s.2.1.length<=1048576
theorem lq {s:Ab} (m:Sm s):DE s=some (Au s):=US s m.lv m.rs m.js
theorem jB {s:Ab} (m:Sm s):GR s=some (Au s):=Sy s m.lv m.rs m.js
theorem VSt.jlen {s:Ab} (v:VSt s):s.2.1.length=(Ba 0 s.1.2).length:=by rw [<- v.due];simp
theorem VSt.jsmall {s:Ab} (v:VSt s):s.2.1.length<=12:=by
 have:=v.jlen;have:=GF s.1.2 0;have:=v.lev.len;omega
theorem VSt.sm {s:Ab} (v:VSt s):Sm s:=⟨v.lev.small.1,v.lev.small.2,by have:=v.jsmall;omega⟩
def RT (x:Int):Nat->List Int->Option Nat
 | _,[]=>none
 | k,y::l=>if y=x then some k else RT x (k+1) l
theorem Yk {x:Int} : ∀ {l:List Int} {k i:Nat},RT x k l=some i->k<=i/\l[i-k]? = some x
 | [],_,_,h=>by cases h
 | y::l,k,i,h=>by
  unfold RT at h;by_cases e:y=x
  ·rw [if_pos e] at h;cases h;simp [e]
  ·rw [if_neg e] at h;obtain ⟨h1,h2⟩:=Yk h;exact ⟨by omega,by rw [show i-k=(i-(k+1))+1 by omega];simpa using h2⟩
def Oq (s:Ab) (level:Int):Int×Int:=if (Au s).2≠0 then (0,(Au s).2) else match RT level 0 (Ba 0 s.1.2) with
 | some i=>((i:Int),0)
 | none=>(0,4)
theorem eJ {s:Ab} (m:Sm s) (level:Int):FN (s,level)=some (Oq s level):=by
 unfold FN Oq;simp only [AT,AP];rw [lq m,AB,AQ];by_cases h0:(Au s).2=0;rotate_left
 ·rw [if_neg h0,if_pos h0]
 rw [if_pos h0,if_neg (show ¬ (Au s).2≠0 by simp [h0])];have v:=Cr.1 h0;have hj:=v.jsmall;rw [<- v.due];obtain ⟨T,hT⟩ : ∃ T,T=RT level 0 (s.2.1.map (·.1)):=⟨_,rfl⟩;rw [<- hT]
 obtain ⟨r,q1,q2⟩:=Gm (l:=s.2.1) (σ:=Unit) (s:=((0:Int),(0:Int))) (λk _=>((0:Int),(k:Int))) (λjs k _=>RT level k (js.map (·.1))=T) (λ(r:Nat×((Int×Int)×Unit))=>(r.1=1/\T=none)\/(r.1=0 /\ ∃ i:Nat,T=some i/\r.2.1.1=(i:Int)))
  (f:=λs1=>br (Am s1.2 (s.2.1.length:Int)) (λ_=>AV s1.2 λk2=>ix s.2.1 k2 λx3=>br (Bg x3.1 level) (λ_=>some (.dn ((0,((s1.2,s1.2),()))))) λ_=>some (.nx (s1.1,AH .i64 s1.2 1))) λ_=>some (.dn ((1,(s1,())))))
  () rfl (by omega) hT.symm (λ_ h=>⟨_,by simp only;rw [re];rfl,.inl ⟨rfl,by rw [<- h];rfl⟩⟩) (λk j js _ hd hx hk h=>by
   simp only;rw [rl hk,AR,AE,AJ hx,B7];unfold RT at h;simp only [List.map_cons] at h;by_cases e:j.1=level
   ·rw [if_pos e];rw [if_pos e] at h;exact .inr ⟨_,rfl,.inr ⟨rfl,k,h.symm,rfl⟩⟩
   ·rw [if_neg e];rw [if_neg e] at h
    exact .inl ⟨(),by rw [Al hx (by omega)],h⟩)
 refine BD q1 ?_;rw [CM];rcases q2 with ⟨q2,q3⟩ | ⟨q2,i,q3,q4⟩
 ·rw [if_neg (show ¬ r.1=0 by omega),q3];rfl
 ·rw [if_pos q2,q3,q4,BB,if_neg (by omega)]
theorem Yl {s:Ab} (m:Sm s):Gn s=some (if (Au s).2≠0 then ([],(Au s).2) else (Ba 0 s.1.2,0)):=by
 unfold Gn;rw [jB m,AB,AQ];by_cases h0:(Au s).2=0
 ·rw [if_pos h0,if_neg (show ¬ (Au s).2≠0 by simp [h0]),Vk (by have:=(Cr.1 h0).lev.len;omega),AB]
 ·rw [if_neg h0,if_pos h0]
theorem Sz {s:Ab} (m:Sm s) (level:Int):Gv (s,level)=some (Oq s level):=by
 unfold Gv Oq;simp only [AT,AP];rw [Yl m,AB,AQ];by_cases h0:(Au s).2=0;rotate_left
 ·rw [if_pos h0,if_neg h0,if_pos h0]
 rw [if_neg (show ¬ (Au s).2≠0 by simp [h0]),if_pos rfl,if_neg (show ¬ (Au s).2≠0 by simp [h0])];have v:=Cr.1 h0;have hj:=v.jsmall;have hd:=v.jlen;obtain ⟨due,hdue⟩ : ∃ due,due=Ba 0 s.1.2:=⟨_,rfl⟩;rw [<- hdue] at hd ⊢;obtain ⟨T,hT⟩ : ∃ T,T=RT level 0 due:=⟨_,rfl⟩;rw [<- hT];simp only
 obtain ⟨r,q1,q2⟩:=Gm (l:=due) (σ:=Unit) (s:=((0:Int),((0:Int),(0:Int)))) (λk _=>((0:Int),((0:Int),(k:Int)))) (λjs k _=>RT level k js=T) (λ(r:Nat×((Int×(Int×Int))×Unit))=>(r.1=1/\T=none)\/(r.1=0 /\ ∃ i:Nat,T=some i/\r.2.1.2.1=(i:Int)/\r.2.1.1=0))
  (f:=λs1=>br (Am s1.2.2 (due.length:Int)) (λ_=>AV s1.2.2 λk2=>ix due k2 λx3=>br (Bg x3 level) (λ_=>some (.dn ((0,((0,(s1.2.2,s1.2.2)),()))))) λ_=>some (.nx ((s1.1,(s1.2.1,AH .i64 s1.2.2 1))))) λ_=>some (.dn ((1,(s1,())))))
  () rfl (by omega) hT.symm (λ_ h=>⟨_,by simp only;rw [re];rfl,.inl ⟨rfl,by rw [<- h];rfl⟩⟩) (λk j js _ hd hx hk h=>by
   simp only;rw [rl hk,AR,AE,AJ hx,B7];unfold RT at h;by_cases e:j=level
   ·rw [if_pos e];rw [if_pos e] at h;exact .inr ⟨_,rfl,.inr ⟨rfl,k,h.symm,rfl,rfl⟩⟩
   ·rw [if_neg e];rw [if_neg e] at h
    exact .inl ⟨(),by rw [Al hx (by omega)],h⟩)
 refine BD q1 ?_;rw [CM];rcases q2 with ⟨q2,q3⟩ | ⟨q2,i,q3,q4,q5⟩
 ·rw [if_neg (show ¬ r.1=0 by omega),q3]
 ·rw [if_pos q2,q3,q4,q5]
end Go.Proofs.YthpkjfabdccpdaaGreat.Pl
namespace Go.Proofs.YthpkjfabdccpdaaGreat.Pl
open Go Go.Proofs.YthpkjfabdccpdaaGreat.Sv
def DI (L:AI) (j:GN):Nat:=match L.2[j.1.toNat]? with
 | some [r0,r1]=>r1.2.length+r0.2.length-j.2.2.2.2.toNat
 | _=>0
def EC (L:AI) (j:GN):Bool:=decide ((j.2.2.2.1.length:Int)<=Br L.1 j.1.toNat)
def MB (L:AI) (n:Nat):Bool:=decide (n<12/\((L.2[n]?).getD []).length<2)
def Jm (L:AI) (j:GN):Bool:=decide (0<DI L j)||(EC L j||MB L (j.1.toNat+1))
def fJ (s:Ab) (level:Int):Option GN:=match RT level 0 (Ba 0 s.1.2) with
 | some i=>s.2.1[i]?
 | none=>none
theorem VSt.at {s:Ab} (v:VSt s) {level:Int} {i:Nat} (h:RT level 0 (Ba 0 s.1.2)=some i) : ∃ (j:GN) (n:Nat),s.2.1[i]? = some j/\level=(n:Int)/\j.1=(n:Int)/\JobAt s.1 n j/\n<s.1.2.length:=by
 obtain ⟨_,h1⟩:=Yk h;rw [Nat.sub_zero] at h1;rw [<- v.due,List.getElem?_map] at h1;cases hj:s.2.1[i]? with
 | none=>rw [hj] at h1;cases h1
 | some j =>
  rw [hj] at h1;simp only [Option.map_some,Option.some.injEq] at h1;obtain ⟨n,hn⟩:=v.job j (List.mem_of_getElem? hj);have hn0:=hn;obtain ⟨r0,r1,bt,k,hl,e,_⟩:=hn;have h2:j.1=(n:Int):=by rw [e]
  exact ⟨j,n,rfl,by rw [<- h1,h2],h2,hn0,(List.getElem?_eq_some_iff.1 hl).1⟩
theorem JobAt.left {L:AI} {n:Nat} {j:GN} (h:JobAt L n j):BX j.2=some ((DI L j:Int),0)/\BI j.2=some ((DI L j:Int),0)/\DI L j<=10000:=by
 obtain ⟨r0,r1,bt,k,hl,rfl,hk,_,v0,v1⟩:=h;have l0:=v0.len;have l1:=v1.len
 have e:DI L ((n:Int),EI r1.2 r0.2 bt k)=r1.2.length+r0.2.length-k:=by
  unfold DI;simp only [Int.toNat_natCast,hl];show r1.2.length+r0.2.length-((k:Int)).toNat=_;rw [Int.toNat_natCast]
 rw [e];exact ⟨M5 v1 v0 bt hk,LH v1 v0 bt hk,by omega⟩
theorem P9 {L:AI} (v:VLev L) {n:Nat} (hn:n<12):DU (L.1,(n:Int))=some (Br L.1 n,0):=by
 have h1:=v.B1;have h2:=v.B2;unfold DU;rw [BB,if_neg (by omega),Az,if_neg (by omega),BB,if_neg (by omega),EQ,if_neg (by omega),M6 h1 h2 (by omega)];have:Gz (n:Int) 0=true:=by unfold Gz;simp
 rw [this];rfl
theorem Ym {L:AI} (v:VLev L) {n:Nat} (hn:n<12):Iy (L.1,(n:Int))=some (Br L.1 n,0):=by
 have h1:=v.B1;have h2:=v.B2;unfold Iy;rw [BB,if_neg (by omega),Az,if_neg (by omega),BB,if_neg (by omega),EQ,if_neg (by omega),Sx h1 h2 (by omega),AB]
theorem RU {L:AI} (v:VLev L) (k:Int):EY (L,k)=some (if k<0\/k>=12 then 7 else 0):=by
 obtain ⟨hb,hr⟩:=v.small;unfold EY;rw [Io _ hb hr,Fm v,AB,AQ,if_pos rfl,BB,EQ];by_cases h1:k<0
 ·rw [if_pos h1,if_pos (.inl h1)]
 ·rw [if_neg h1];by_cases h2:k>=12
  ·rw [if_pos h2,if_pos (.inr h2)]
  ·rw [if_neg h2,if_neg (by omega)]
theorem Yn (l:List BQ):Am (l.length:Int) 2=decide (l.length<2):=by
 unfold Am;rw [decide_eq_decide];omega
theorem Wm {L:AI} (v:VLev L) {n:Nat} (hn:n<=12):E6 (L,(n:Int))=some (MB L n,if n>=12 then 7 else 0):=by
 unfold E6 MB;simp only [AT,AP];rw [RU v,AB,AQ];by_cases h:n>=12
 ·rw [if_pos (show (n:Int)<0\/(n:Int)>=12 by omega),if_neg (by decide),if_pos h];simp;omega
 ·rw [if_neg (show ¬ ((n:Int)<0\/(n:Int)>=12) by omega),if_pos rfl,if_neg h,BB];have h12:n<12:=by omega
  by_cases h2:n<L.2.length
  ·have hx:L.2[n]? = some (L.2[n]'h2):=by simp
   rw [if_pos (by omega),AE,AJ hx,hx,Yn,Option.getD_some];simp [h12]
  ·rw [if_neg (by omega),List.getElem?_eq_none (by omega)];simp [h12]
theorem Yo {s:Ab} (v:VLev s.1) {n:Nat} (hn:n<12):Iz (s,(n:Int))=some (MB s.1 (n+1)):=by
 unfold Iz MB;simp only [AT,AP];rw [Aa (by omega),BB];by_cases h:n+1<12
 ·rw [if_pos (by omega),EQ];by_cases h2:n+1<s.1.2.length
  ·have hx:s.1.2[n+1]? = some (s.1.2[n+1]'h2):=by simp
   rw [if_neg (by omega),AE,AJ hx,hx,Yn,Option.getD_some];simp [h]
  ·rw [if_pos (by omega),List.getElem?_eq_none (by omega)];simp [h]
 ·rw [if_neg (by omega)];simp;omega
abbrev jC:=Ab×(GN×Int)
theorem Ot {s:Ab} (v:VLev s.1) {n:Nat} {j:GN} (hj:j.1=(n:Int)) (hn:n<12) (l:Int):BE (s,(j,l))=some (EC s.1 j):=by
 unfold BE EC;simp only [AT,AP];rw [hj,P9 v hn,AB,B7,if_pos rfl,Int.toNat_natCast];rfl
theorem Wn {s:Ab} (v:VLev s.1) {n:Nat} {j:GN} (hj:j.1=(n:Int)) (hn:n<12):Ht (s,j)=some (EC s.1 j):=by
 unfold Ht EC;simp only [AT,AP];rw [hj,Ym v hn,AB,Int.toNat_natCast];rfl
theorem Yp {s:Ab} (v:VLev s.1) {n:Nat} {j:GN} (hj:j.1=(n:Int)) (hn:n<12) (l:Int):CT (s,(j,l))=some (MB s.1 (n+1)):=by
 unfold CT;simp only;rw [hj,Aa (by omega),Wm v (by omega),AB,B7];by_cases h:n+1>=12
 ·rw [if_pos h,if_neg (show ¬ (7:Int)=0 by decide)];unfold MB;simp;omega
 ·rw [if_neg h,if_pos rfl]
theorem Yq {s:Ab} (v:VLev s.1) {n:Nat} {j:GN} (hj:j.1=(n:Int)) (hn:n<12) (l:Nat) (hl:l=DI s.1 j):Be (s,(j,(l:Int)))=some (Jm s.1 j):=by
 have e0:A5 (s,(j,(l:Int)))=some (decide (0<DI s.1 j)):=by
  unfold A5 CD;rw [hl];simp
 have e1:=Ot v hj hn (l:Int);have e2:=Yp v hj hn (l:Int);unfold Be Jm;rw [e0,e1,e2,hj,Int.toNat_natCast];simp only [AB];cases h0:decide (0<DI s.1 j) with
 | true=>exact BD (x:=(0,((0,true),()))) (CL (n:=1) (by omega) (BL rfl)) rfl
 | false =>
  cases h1:EC s.1 j with
  | true=>exact BD (x:=(0,((1,true),()))) (CL (n:=2) (by omega) ((A7 (s':=(1,false)) rfl).trans (BL rfl))) rfl
  | false =>
   cases h2:MB s.1 (n+1) with
   | true=>exact BD (x:=(0,((2,true),()))) (CL (n:=3) (by omega) ((A7 (s':=(1,false)) rfl).trans ((A7 (s':=(2,false)) rfl).trans (BL rfl)))) rfl
   | false=>exact BD (x:=(1,((3,false),()))) (CL (n:=4) (by omega) ((A7 (s':=(1,false)) rfl).trans ((A7 (s':=(2,false)) rfl).trans ((A7 (s':=(3,false)) rfl).trans (BL rfl))))) rfl
end Go.Proofs.YthpkjfabdccpdaaGreat.Pl
namespace Go.Proofs.YthpkjfabdccpdaaGreat.Pl
open Go Go.Proofs.YthpkjfabdccpdaaGreat.Sv
def Jo {α:Type} (z:α) (f:Ab->GN->α×Int) (s:Ab) (level:Int):α×Int:=if (Au s).2≠0 then (z,(Au s).2) else match fJ s level with
 | some j=>f s j
 | none=>(z,4)
def z0:jC:=(((0,[]),([],0)),((0,(([],([],([],([],0)))),((false,([],false)),([],0)))),0))
theorem Yr {s:Ab} (m:Sm s) (level:Int):Cj (s,level)=some (Jo z0 (λs j=>((s,(j,(DI s.1 j:Int))),0)) s level):=by
 unfold Cj;rw [eJ m,AB];unfold Jo fJ Oq;by_cases h0:(Au s).2=0;rotate_left
 ·rw [if_pos h0,AQ,if_neg h0,if_pos h0];rfl
 rw [if_neg (show ¬ (Au s).2≠0 by simp [h0]),if_neg (show ¬ (Au s).2≠0 by simp [h0])];have v:=Cr.1 h0;cases hf:RT level 0 (Ba 0 s.1.2) with
 | none=>rfl
 | some i =>
  obtain ⟨j,n,hj,hl,hjn,ha,hn⟩:=v.at hf;simp only;rw [AQ,if_pos rfl,AE,AJ hj,hj,(JobAt.left ha).1,AB]
theorem jD {s:Ab} (m:Sm s) (level:Int):Kd (s,level)=some (Jo false (λs j=>(Jm s.1 j,0)) s level):=by
 unfold Kd;rw [Yr m,AB];unfold Jo;by_cases h0:(Au s).2=0;rotate_left
 ·rw [if_pos h0,AQ,if_neg h0,if_pos h0]
 rw [if_neg (show ¬ (Au s).2≠0 by simp [h0]),if_neg (show ¬ (Au s).2≠0 by simp [h0])];have v:=Cr.1 h0;unfold fJ;cases hf:RT level 0 (Ba 0 s.1.2) with
 | none=>rfl
 | some i =>
  obtain ⟨j,n,hj,hl,hjn,ha,hn⟩:=v.at hf;have:=v.lev.len;simp only [hj];rw [AQ,if_pos rfl,Yq v.lev hjn (by omega) _ rfl,AB]
theorem Wo {s:Ab} (m:Sm s) (level:Int):Iu (s,level)=some (Jo 0 (λs j=>((DI s.1 j:Int),0)) s level):=by
 unfold Iu;rw [Sz m,AB];unfold Jo fJ Oq;by_cases h0:(Au s).2=0;rotate_left
 ·rw [if_pos h0,AQ,if_neg h0,if_pos h0]
 rw [if_neg (show ¬ (Au s).2≠0 by simp [h0]),if_neg (show ¬ (Au s).2≠0 by simp [h0])];have v:=Cr.1 h0;cases hf:RT level 0 (Ba 0 s.1.2) with
 | none=>rfl
 | some i =>
  obtain ⟨j,n,hj,hl,hjn,ha,hn⟩:=v.at hf;simp only [hj];rw [AQ,if_pos rfl,AE,AJ hj,(JobAt.left ha).2.1,AB]
theorem iw {s:Ab} (m:Sm s) (level:Int):NT (s,level)=some (Jo false (λs j=>(Jm s.1 j,0)) s level):=by
 unfold NT;rw [Wo m,AB,Sz m,AB];unfold Jo;by_cases h0:(Au s).2=0;rotate_left
 ·rw [if_pos h0,AQ,if_neg h0,if_pos h0]
 rw [if_neg (show ¬ (Au s).2≠0 by simp [h0]),if_neg (show ¬ (Au s).2≠0 by simp [h0])];have v:=Cr.1 h0;unfold fJ Oq;cases hf:RT level 0 (Ba 0 s.1.2) with
 | none=>rfl
 | some i =>
  obtain ⟨j,n,hj,hl,hjn,ha,hn⟩:=v.at hf;have:=v.lev.len;rw [if_neg (show ¬ (Au s).2≠0 by simp [h0])];simp only [hj];rw [AQ,if_pos rfl,Az,AE,AJ hj,Wn v.lev hjn (by omega),AB,hl,Yo v.lev (by omega),AB];unfold Jm;rw [hjn,Int.toNat_natCast];by_cases h1:0<DI s.1 j
  ·rw [if_pos (by omega)];simp [h1]
  ·rw [if_neg (by omega)];cases EC s.1 j<;>simp [h1,AR,Ao]
def MC (s:Ab) (j:GN):Int×Int:=if 0<DI s.1 j then (0,9) else if EC s.1 j=true then (j.1,0) else (j.1+1,0)
theorem Wp {s:Ab} (m:Sm s) (level:Int):Ct (s,level)=some (Jo 0 MC s level):=by
 unfold Ct;rw [Yr m,AB];unfold Jo;by_cases h0:(Au s).2=0;rotate_left
 ·rw [if_pos h0,AQ,if_neg h0,if_pos h0]
 rw [if_neg (show ¬ (Au s).2≠0 by simp [h0]),if_neg (show ¬ (Au s).2≠0 by simp [h0])];have v:=Cr.1 h0;unfold fJ;cases hf:RT level 0 (Ba 0 s.1.2) with
 | none=>rfl
 | some i =>
  obtain ⟨j,n,hj,hl,hjn,ha,hn⟩:=v.at hf;have:=v.lev.len;simp only [hj];unfold A5 MC;rw [AQ,if_pos rfl,AB,Az,Ot v.lev hjn (by omega),AB,hl,Aa (by omega),hjn];by_cases h1:0<DI s.1 j
  ·rw [if_pos (show ((DI s.1 j:Int))>0 by omega),if_pos h1]
  ·rw [if_neg (show ¬ ((DI s.1 j:Int))>0 by omega),if_neg h1,Fe];by_cases h2:EC s.1 j=true
   ·rw [if_pos h2,if_pos h2]
   ·rw [if_neg h2,if_neg h2];rfl
end Go.Proofs.YthpkjfabdccpdaaGreat.Pl
namespace Go.Proofs.YthpkjfabdccpdaaGreat.Pl
open Go Go.Proofs.YthpkjfabdccpdaaGreat.Sv
theorem IJ {α β σ S:Type} {l:List α} (c:Nat) (hc9:c<=1000) (mk:Nat->σ->S) (I:Nat->σ->Prop) (Q:β->Prop) {f:S->Option (LR S β)} {s:S} (st:σ) (h0:s=mk 0 st) (hi:I 0 st)
  (hn : ∀ k st,(k=l.length\/k=c)->k<=l.length->I k st -> ∃ r,f (mk k st)=some (.dn r)/\Q r)
  (hc : ∀ k x st,l[k]? = some x->k<c->I k st->(∃ st',f (mk k st)=some (.nx (mk (k+1) st'))/\I (k+1) st') \/ ∃ r,f (mk k st)=some (.dn r)/\Q r) : ∃ r,loop f s=some r/\Q r:=by
 refine Gm (l:=l.take c) mk (λ_ k st=>I k st/\k<=(l.take c).length) Q st h0 (by simp;omega) ⟨hi,by omega⟩ (λst h=>hn _ st (by simp;omega) (by simp;omega) h.1) (λk x m st hd hx hk h => ?_);have hk2:k<c:=by simp at hk;omega
 have hx2:l[k]? = some x:=by rw [List.getElem?_take] at hx;rw [if_pos hk2] at hx;exact hx
 rcases hc k x st hx2 hk2 h.1 with ⟨st',h1,h2⟩ | h1
 ·exact .inl ⟨st',h1,h2,by omega⟩
 ·exact .inr h1
theorem QA {k c:Nat} (h:k<c):Am (k:Int) (c:Int)=true:=by unfold Am;simp;omega
theorem Wq {α β:Type} {l:List α} {k c:Nat} (h:k=l.length\/k=c) (hk:k<=l.length) (A B C:Option β) (e:B=C):br (Am (k:Int) (l.length:Int)) (λ_=>br (Am (k:Int) (c:Int)) (λ_=>A) λ_=>B) (λ_=>C)=C:=by
 rw [BB];by_cases h1:(k:Int)<(l.length:Int)
 ·rw [if_pos h1,BB,if_neg (by omega),e]
 ·rw [if_neg h1]
theorem Wr (l:List AD) : ∃ b,El l=some b/\(b=false->l.length<=30):=by
 unfold El;simp only [AT,AP]
 obtain ⟨r,q1,q2⟩:=IJ (l:=l) (σ:=Unit) (s:=((0:Int),false)) 40 (by omega) (λk _=>((k:Int),false)) (λ_ _=>True) (λ(r:Nat×((Int×Bool)×Unit))=>r.1=1\/(r.1=0/\r.2.1.2=true))
  (f:=λs0=>br (Am s0.1 (l.length:Int)) (λ_=>br (Am s0.1 40) (λ_=>AV s0.1 λk1=>ix l k1 λx2=>br (CD (Ep x2.1:Int) 100) (λ_=>some (.dn ((0,((s0.1,true),()))))) λ_=>AV s0.1 λk3=>ix l k3 λx4=>br (CD (Ep x4.2.1:Int) 100) (λ_=>some (.dn ((0,((s0.1,true),()))))) λ_=>some (.nx (AH .i64 s0.1 1,s0.2))) λ_=>some (.dn ((1,(s0,()))))) λ_=>some (.dn ((1,(s0,())))))
  () rfl trivial (λk _ h hk _=>⟨_,(Wq (c:=40) h hk _ _ _ rfl),.inl rfl⟩) (λk x _ hx hk _=>by
   simp only;have hk2:=(List.getElem?_eq_some_iff.1 hx).1;rw [rl hk2,AR,show Am (k:Int) 40=true from QA hk,AR,AE,AJ hx,Az,AE,AJ hx,Az,Aa (by omega)]
   repeat' split
   all_goals first | exact .inr ⟨_,rfl,.inr ⟨rfl,rfl⟩⟩ | exact .inl ⟨(),rfl,trivial⟩)
 rw [q1,AB,CM];rcases q2 with q2 | ⟨q2,q3⟩
 ·rw [if_neg (show ¬ r.1=0 by omega)];exact ⟨_,rfl,λh=>by unfold CD at h;simp at h;omega⟩
 ·rw [if_pos q2,q3];exact ⟨_,rfl,λh=>by cases h⟩
theorem S0 (l:List BQ) : ∃ b,Cs l=some b/\(b=false->l.length<=6 /\ ∀ r∈l,r.2.length<=30):=by
 unfold Cs;simp only [AT,AP]
 obtain ⟨r,q1,q2⟩:=IJ (l:=l) (σ:=Unit) (s:=((0:Int),false)) 10 (by omega) (λk _=>((k:Int),false)) (λk _ => ∀ i x,i<k->l[i]? = some x->x.2.length<=30) (λ(r:Nat×((Int×Bool)×Unit))=>(r.1=1 /\ ∀ i x,i<10->l[i]? = some x->x.2.length<=30)\/(r.1=0/\r.2.1.2=true))
  (f:=λs0=>br (Am s0.1 (l.length:Int)) (λ_=>br (Am s0.1 10) (λ_=>AV s0.1 λk1=>ix l k1 λx2=>bd (El x2.2) λr3=>br r3 (λ_=>some (.dn ((0,((s0.1,true),()))))) λ_=>some (.nx (AH .i64 s0.1 1,s0.2))) λ_=>some (.dn ((1,(s0,()))))) λ_=>some (.dn ((1,(s0,())))))
  () rfl (λi x h=>by omega) (λk _ h hk hI=>⟨_,(Wq (c:=10) h hk _ _ _ rfl),.inl ⟨rfl,λi x hi hx=>hI i x (by have:=(List.getElem?_eq_some_iff.1 hx).1;omega) hx⟩⟩) (λk x _ hx hk hI=>by
   simp only;have hk2:=(List.getElem?_eq_some_iff.1 hx).1;obtain ⟨b,e,hb⟩:=Wr x.2;rw [rl hk2,AR,show Am (k:Int) 10=true from QA hk,AR,AE,AJ hx,e,AB,Aa (by omega)];cases b with
   | true=>exact .inr ⟨_,rfl,.inr ⟨rfl,rfl⟩⟩
   | false =>
    refine .inl ⟨(),rfl,λi y hi hy => ?_⟩;by_cases h:i=k
    ·subst h;rw [hx] at hy;cases hy;exact hb rfl
    ·exact hI i y (by omega) hy)
 rw [q1,AB,CM];rcases q2 with ⟨q2,q3⟩ | ⟨q2,q3⟩
 ·rw [if_neg (show ¬ r.1=0 by omega)];refine ⟨_,rfl,λh => ?_⟩;have hl:l.length<=6:=by unfold CD at h;simp at h;omega
  exact ⟨hl,λr hr=>by
   obtain ⟨i,hi⟩:=List.getElem?_of_mem hr
   exact q3 i r (by have:=(List.getElem?_eq_some_iff.1 hi).1;omega) hi⟩
 ·rw [if_pos q2,q3];exact ⟨_,rfl,λh=>by cases h⟩
theorem Ws (L:AI) : ∃ b,Ft L=some b/\(b=false->L.2.length<=14 /\ ∀ rs∈L.2,rs.length<=6 /\ ∀ r∈rs,r.2.length<=30):=by
 unfold Ft;simp only [AT,AP]
 obtain ⟨r,q1,q2⟩:=IJ (l:=L.2) (σ:=Unit) (s:=((0:Int),false)) 20 (by omega) (λk _=>((k:Int),false)) (λk _ => ∀ i x,i<k->L.2[i]? = some x->x.length<=6 /\ ∀ r∈x,r.2.length<=30) (λ(r:Nat×((Int×Bool)×Unit))=>(r.1=1 /\ ∀ i x,i<20->L.2[i]? = some x->x.length<=6 /\ ∀ r∈x,r.2.length<=30)\/(r.1=0/\r.2.1.2=true))
  (f:=λs0=>br (Am s0.1 (L.2.length:Int)) (λ_=>br (Am s0.1 20) (λ_=>AV s0.1 λk1=>ix L.2 k1 λx2=>bd (Cs x2) λr3=>br r3 (λ_=>some (.dn ((0,((s0.1,true),()))))) λ_=>some (.nx (AH .i64 s0.1 1,s0.2))) λ_=>some (.dn ((1,(s0,()))))) λ_=>some (.dn ((1,(s0,())))))
  () rfl (λi x h=>by omega) (λk _ h hk hI=>⟨_,(Wq (c:=20) h hk _ _ _ rfl),.inl ⟨rfl,λi x hi hx=>hI i x (by have:=(List.getElem?_eq_some_iff.1 hx).1;omega) hx⟩⟩) (λk x _ hx hk hI=>by
   simp only;have hk2:=(List.getElem?_eq_some_iff.1 hx).1;obtain ⟨b,e,hb⟩:=S0 x;rw [rl hk2,AR,show Am (k:Int) 20=true from QA hk,AR,AE,AJ hx,e,AB,Aa (by omega)];cases b with
   | true=>exact .inr ⟨_,rfl,.inr ⟨rfl,rfl⟩⟩
   | false =>
    refine .inl ⟨(),rfl,λi y hi hy => ?_⟩;by_cases h:i=k
    ·subst h;rw [hx] at hy;cases hy;exact hb rfl
    ·exact hI i y (by omega) hy)
 rw [q1,AB,CM];rcases q2 with ⟨q2,q3⟩ | ⟨q2,q3⟩
 ·rw [if_neg (show ¬ r.1=0 by omega)];refine ⟨_,rfl,λh => ?_⟩;have hl:L.2.length<=14:=by unfold CD at h;simp at h;omega
  exact ⟨hl,λr hr=>by
   obtain ⟨i,hi⟩:=List.getElem?_of_mem hr
   exact q3 i r (by have:=(List.getElem?_eq_some_iff.1 hi).1;omega) hi⟩
 ·rw [if_pos q2,q3];exact ⟨_,rfl,λh=>by cases h⟩
theorem Vl (l:List AD) : ∃ b,Ci l=some b:=by
 unfold Ci;simp only [AT,AP]
 obtain ⟨r,q1,q2⟩:=IJ (l:=l) (σ:=Unit) (s:=((0:Int),false)) 80 (by omega) (λk _=>((k:Int),false)) (λ_ _=>True) (λ(r:Nat×((Int×Bool)×Unit))=>True)
  (f:=λs0=>br (Am s0.1 (l.length:Int)) (λ_=>br (Am s0.1 80) (λ_=>AV s0.1 λk1=>ix l k1 λx2=>br (CD (Ep x2.1:Int) 100) (λ_=>some (.dn ((0,((s0.1,true),()))))) λ_=>AV s0.1 λk3=>ix l k3 λx4=>br (CD (Ep x4.2.1:Int) 100) (λ_=>some (.dn ((0,((s0.1,true),()))))) λ_=>some (.nx (AH .i64 s0.1 1,s0.2))) λ_=>some (.dn ((1,(s0,()))))) λ_=>some (.dn ((1,(s0,())))))
  () rfl trivial (λk _ h hk _=>⟨_,(Wq (c:=80) h hk _ _ _ rfl),trivial⟩) (λk x _ hx hk _=>by
   simp only;have hk2:=(List.getElem?_eq_some_iff.1 hx).1;rw [rl hk2,AR,show Am (k:Int) 80=true from QA hk,AR,AE,AJ hx,Az,AE,AJ hx,Az,Aa (by omega)]
   repeat' split
   all_goals first | exact .inr ⟨_,rfl,trivial⟩ | exact .inl ⟨(),rfl,trivial⟩)
 rw [q1,AB,CM];split<;>exact ⟨_,rfl⟩
theorem Wt (s:Ab) : ∃ b,Fu s=some b/\(b=false->Sm s /\ ∀ rs∈s.1.2,∀ r∈rs,r.2.length<=30):=by
 unfold Fu;simp only [AT,AP]
 obtain ⟨r,q1,q2⟩:=IJ (l:=s.2.1) (σ:=Unit) (s:=((0:Int),false)) 20 (by omega) (λk _=>((k:Int),false)) (λ_ _=>True) (λ(r:Nat×((Int×Bool)×Unit))=>r.1=0\/(r.1=1/\r.2.1.2=true))
  (f:=λs0=>br (Am s0.1 (s.2.1.length:Int)) (λ_=>br (Am s0.1 20) (λ_=>AV s0.1 λk1=>ix s.2.1 k1 λx2=>bd (loop (λs3=>br (Am s3.1 (x2.2.1.1.length:Int)) (λ_=>br (Am s3.1 10) (λ_=>AV s3.1 λk4=>ix x2.2.1.1 k4 λx5=>bd (Ci x5) λr6=>br r6 (λ_=>some (.dn ((0,((s3.1,true),()))))) λ_=>some (.nx (AH .i64 s3.1 1,s3.2))) λ_=>some (.dn ((1,(s3,()))))) λ_=>some (.dn ((1,(s3,()))))) (0,s0.2)) λr7=>br (neq r7.1 0) (λ_=>some (.dn ((1,((s0.1,r7.2.1.2),()))))) λ_=>bd (Ci x2.2.2.2.1) λr8=>br r8 (λ_=>some (.dn ((1,((s0.1,true),()))))) λ_=>br (CD (x2.2.1.1.length:Int) 6) (λ_=>some (.dn ((1,((s0.1,true),()))))) λ_=>br (CD (x2.2.1.2.1.length:Int) 40) (λ_=>some (.dn ((1,((s0.1,true),()))))) λ_=>br (CD (x2.2.1.2.2.1.length:Int) 40) (λ_=>some (.dn ((1,((s0.1,true),()))))) λ_=>br (CD (x2.2.1.2.2.2.1.length:Int) 40) (λ_=>some (.dn ((1,((s0.1,true),()))))) λ_=>br (CD (Ep x2.2.2.1.2.1:Int) 200) (λ_=>some (.dn ((1,((s0.1,true),()))))) λ_=>some (.nx (AH .i64 s0.1 1,r7.2.1.2))) λ_=>some (.dn ((0,(s0,()))))) λ_=>some (.dn ((0,(s0,())))))
  () rfl trivial (λk _ h hk _=>⟨_,(Wq (c:=20) h hk _ _ _ rfl),.inl rfl⟩) (λk x _ hx hk _=>by
   simp only;have hk2:=(List.getElem?_eq_some_iff.1 hx).1;rw [rl hk2,AR,show Am (k:Int) 20=true from QA hk,AR,AE,AJ hx]
   obtain ⟨r,q1,q2⟩:=IJ (l:=x.2.1.1) (σ:=Unit) (s:=((0:Int),false)) 10 (by omega) (λk _=>((k:Int),false)) (λ_ _=>True) (λ(r:Nat×((Int×Bool)×Unit))=>(r.1=1/\r.2.1.2=false)\/(r.1=0/\r.2.1.2=true))
    (f:=λs3=>br (Am s3.1 (x.2.1.1.length:Int)) (λ_=>br (Am s3.1 10) (λ_=>AV s3.1 λk4=>ix x.2.1.1 k4 λx5=>bd (Ci x5) λr6=>br r6 (λ_=>some (.dn ((0,((s3.1,true),()))))) λ_=>some (.nx (AH .i64 s3.1 1,s3.2))) λ_=>some (.dn ((1,(s3,()))))) λ_=>some (.dn ((1,(s3,())))))
    () rfl trivial (λk _ h hk _=>⟨_,(Wq (c:=10) h hk _ _ _ rfl),.inl ⟨rfl,rfl⟩⟩) (λk y _ hy hk _=>by
     simp only;have hk2:=(List.getElem?_eq_some_iff.1 hy).1;obtain ⟨b,e⟩:=Vl y;rw [rl hk2,AR,show Am (k:Int) 10=true from QA hk,AR,AE,AJ hy,e,AB,Aa (by omega)];cases b with
     | true=>exact .inr ⟨_,rfl,.inr ⟨rfl,rfl⟩⟩
     | false=>exact .inl ⟨(),rfl,trivial⟩)
   obtain ⟨b,e⟩:=Vl x.2.2.2.1;rw [q1,AB,CM,e];rcases q2 with ⟨q2,q3⟩ | ⟨q2,q3⟩
   ·rw [if_neg (show ¬ r.1=0 by omega),AB,Fe,Az,Az,Az,Az,Az,q3,Aa (by omega)]
    repeat' split
    all_goals first | exact .inr ⟨_,rfl,.inr ⟨rfl,rfl⟩⟩ | exact .inl ⟨(),rfl,trivial⟩
   ·rw [if_pos q2,q3]
    exact .inr ⟨_,rfl,.inr ⟨rfl,rfl⟩⟩)
 rw [q1,AB,CM];rcases q2 with q2 | ⟨q2,q3⟩
 ·rw [if_pos q2,Az];by_cases h:(s.2.1.length:Int)>14
  ·rw [if_pos h];exact ⟨_,rfl,λh=>by cases h⟩
  ·rw [if_neg h];obtain ⟨b,e,hb⟩:=Ws s.1;rw [e];refine ⟨b,rfl,λh2 => ?_⟩;obtain ⟨h3,h4⟩:=hb h2;exact ⟨⟨by omega,λrs hrs=>⟨by have:=(h4 rs hrs).1;omega,λr hr=>by have:=(h4 rs hrs).2 r hr;omega⟩,by omega⟩,λrs hrs=>(h4 rs hrs).2⟩
 ·rw [if_neg (show ¬ r.1=0 by omega),q3];exact ⟨_,rfl,λh=>by cases h⟩
end Go.Proofs.YthpkjfabdccpdaaGreat.Pl
namespace Go.Proofs.YthpkjfabdccpdaaGreat.Pl
open Go Go.Proofs.YthpkjfabdccpdaaGreat.Sv
theorem eK:EB ()=some true:=by kernel_rfl
end Go.Proofs.YthpkjfabdccpdaaGreat.Pl
namespace Go.Proofs.YthpkjfabdccpdaaGreat.Pl
open Go Go.Proofs.YthpkjfabdccpdaaGreat.Sv
theorem eL {β:Type} (k:Unit->Option β):gd true k=k ():=rfl
def BM (l:List (List BQ)) (i:Nat):List BQ:=(l[i]?).getD []
def Jp (l:List (List BQ)):Nat->Nat
 | 0=>0
 | k+1=>if BM l k=[] then Jp l k else k+1
def IK (l:List (List BQ)) (n:Nat):List (List BQ):=l++List.replicate (n+1-l.length) []
def Jq (l:List (List BQ)) (n:Nat) (r:List BQ):List (List BQ):=(IK l n).set n r
def HM (l:List (List BQ)):List (List BQ):=l.take (Jp l l.length)
def Cg (L:AI) (n:Nat) (r:List BQ):AI:=(L.1,HM (Jq L.2 n r))
theorem RV (l:List (List BQ)) : ∀ k,Jp l k<=k
 | 0=>Nat.le_refl _
 | k+1=>by
  unfold Jp;split
  ·exact Nat.le_succ_of_le (RV l k)
  ·exact Nat.le_refl _
theorem Ou (l:List (List BQ)) : ∀ {k i:Nat},Jp l k<=i->i<k->BM l i=[]
 | 0,_,_,h=>by omega
 | k+1,i,h1,h2=>by
  unfold Jp at h1;split at h1
  ·rename_i he;by_cases hi:i=k
   ·rw [hi];exact he
   ·exact Ou l h1 (by omega)
  ·omega
theorem QB (l:List (List BQ)) : ∀ {k m:Nat},Jp l k=m+1->BM l m≠[]
 | 0,m,h=>by cases h
 | k+1,m,h=>by
  unfold Jp at h;split at h
  ·exact QB l h
  ·rename_i hne;have:m=k:=by omega
   rw [this];exact hne
theorem QC (l:List (List BQ)) (i:Nat):BM (HM l) i=BM l i:=by
 unfold HM;by_cases h:i<Jp l l.length
 ·unfold BM;rw [List.getElem?_take,if_pos h]
 ·have h1:BM (l.take (Jp l l.length)) i=[]:=by
   unfold BM;rw [List.getElem?_take,if_neg h];rfl
  rw [h1];by_cases h2:i<l.length
  ·exact (Ou l (by omega) h2).symm
  ·unfold BM;rw [List.getElem?_eq_none (by omega)];rfl
theorem Uc (l:List (List BQ)):(HM l).getLast? ≠ some []:=by
 have hl:(HM l).length=Jp l l.length:=by
  have:=RV l l.length;unfold HM;rw [List.length_take];omega
 cases hd:Jp l l.length with
 | zero =>
  have:HM l=[]:=List.length_eq_zero_iff.1 (by rw [hl,hd]);rw [this];simp
 | succ m =>
  have h1:=QB l hd;rw [List.getLast?_eq_getElem?,hl,hd];intro h2;have h3:BM (HM l) m=[]:=by unfold BM;rw [show m=m+1-1 by omega,h2];rfl
  rw [QC] at h3;exact h1 h3
theorem MD (l:List (List BQ)) (n:Nat):(IK l n).length=max l.length (n+1):=by
 unfold IK;simp;omega
theorem S1 (l:List (List BQ)) (n i:Nat):BM (IK l n) i=BM l i:=by
 unfold BM IK;by_cases h:i<l.length
 ·rw [List.getElem?_append_left h]
 ·rw [List.getElem?_append_right (by omega),List.getElem?_replicate,List.getElem?_eq_none (l:=l) (by omega)];split<;>rfl
theorem Ys (l:List (List BQ)) (n i:Nat) (r:List BQ):BM (Jq l n r) i=if i=n then r else BM l i:=by
 unfold Jq;by_cases h:i=n
 ·rw [if_pos h,h];have:=MD l n;unfold BM;rw [List.getElem?_set_self (by omega)];rfl
 ·rw [if_neg h];unfold BM;rw [List.getElem?_set_ne (λe=>h e.symm)];exact S1 l n i
theorem GH (L:AI) (n i:Nat) (r:List BQ):BM (Cg L n r).2 i=if i=n then r else BM L.2 i:=by
 show BM (HM _) i=_;rw [QC,Ys]
theorem Ud (L:AI) (n:Nat) (r:List BQ):(Cg L n r).2.getLast? ≠ some []:=Uc _
theorem Wu (L:AI) (n:Nat) (r:List BQ):(Cg L n r).2.length<=max L.2.length (n+1):=by
 show (HM _).length<=_;unfold HM;rw [List.length_take];have:(Jq L.2 n r).length=max L.2.length (n+1):=by unfold Jq;rw [List.length_set,MD]
 omega
theorem Wv (l:List (List BQ)):(HM l).flatten=l.flatten:=by
 have h:l=HM l++l.drop (Jp l l.length):=(List.take_append_drop _ _).symm
 have h2:(l.drop (Jp l l.length)).flatten=[]:=by
  rw [List.flatten_eq_nil_iff];intro x hx;obtain ⟨i,hi⟩:=List.getElem?_of_mem hx;rw [List.getElem?_drop] at hi;have h3:=(List.getElem?_eq_some_iff.1 hi).1;have:=Ou l (k:=l.length) (i:=Jp l l.length+i) (by omega) h3;unfold BM at this;rw [hi] at this;exact this
 conv=>rhs;rw [h,List.flatten_append,h2,List.append_nil]
theorem Yt (l:List (List BQ)) (n:Nat):(IK l n).flatten=l.flatten:=by
 unfold IK;rw [List.flatten_append]
 have:(List.replicate (n+1-l.length) ([]:List BQ)).flatten=[]:=by
  rw [List.flatten_eq_nil_iff];intro x hx;exact (List.mem_replicate.1 hx).2
 rw [this,List.append_nil]
theorem IL (L:AI) (n:Nat) (r:List BQ) : ∃ p q,L.2.flatten=p++(BM L.2 n++q)/\(Cg L n r).2.flatten=p++(r++q):=by
 have hn:n<(IK L.2 n).length:=by rw [MD];omega
 refine ⟨((IK L.2 n).take n).flatten,((IK L.2 n).drop (n+1)).flatten,?_,?_⟩
 ·rw [<- S1 L.2 n n,<- Yt L.2 n]
  have:IK L.2 n=(IK L.2 n).take n++((IK L.2 n)[n]::(IK L.2 n).drop (n+1)):=by
   rw [<- List.drop_eq_getElem_cons hn,List.take_append_drop]
  have h2:BM (IK L.2 n) n=(IK L.2 n)[n]:=by unfold BM;rw [List.getElem?_eq_getElem hn];rfl
  rw [h2]
  conv=>lhs;rw [this]
  rw [List.flatten_append,List.flatten_cons]
 ·show (HM (Jq L.2 n r)).flatten=_;rw [Wv];unfold Jq;rw [List.set_eq_take_append_cons_drop,if_pos hn,List.flatten_append,List.flatten_cons]
theorem Ww {L:AI} (v:VLev L) {n:Nat}:0<=Br L.1 n:=by
 unfold Br;have:=v.B1;exact Int.mul_nonneg (by omega) (Int.pow_nonneg (by omega))
theorem VLev.own {L:AI} (v:VLev L) (i:Nat):(BM L.2 i).length<=2 /\ ∀ r∈BM L.2 i,VR (Br L.1 i) r:=by
 unfold BM;cases h:L.2[i]? with
 | none=>exact ⟨by simp,λr hr=>by cases hr⟩
 | some rs=>exact v.lev i rs h
theorem VLev.with' {L:AI} (v:VLev L) {n:Nat} (hn:n<12) {r:List BQ} (hl:r.length<=2) (hr : ∀ x∈r,VR (Br L.1 n) x) (hid:((Cg L n r).2.flatten.map fI).Nodup):VLev (Cg L n r):=by
 refine ⟨v.B1,v.B2,?_,λi rs hi => ?_,hid,Ud L n r⟩
 ·have:=Wu L n r;have:=v.len;omega
 ·have h1:=GH L n i r;unfold BM at h1;rw [hi] at h1;simp only [Option.getD_some] at h1;rw [h1];split
  ·rename_i he;rw [he];exact ⟨hl,hr⟩
  ·exact v.own i
theorem VLev.leave {L:AI} (v:VLev L) {n:Nat} (hn:n<12):VLev (Cg L n []):=by
 refine v.with' hn (by simp) (λ_ h=>by cases h) ?_
 obtain ⟨p,q,h1,h2⟩:=IL L n [];have:=v.ids;rw [h1] at this;rw [h2,List.nil_append];refine List.Sublist.nodup (List.Sublist.map _ ?_) this;exact List.Sublist.append (List.Sublist.refl _) (List.sublist_append_right _ _)
theorem VLev.arrive {L:AI} (v:VLev L) {n:Nat} (hn:n<12) {x:BQ} (hl:(BM L.2 n).length<2) (hx:VR (Br L.1 n) x) (hid : ∀ y∈L.2.flatten,y.1≠x.1):VLev (Cg L n (BM L.2 n++[x])):=by
 refine v.with' hn (by simp;omega) (λy hy => ?_) ?_
 ·rcases List.mem_append.1 hy with hy | hy
  ·exact (v.own n).2 y hy
  ·rw [List.mem_singleton.1 hy];exact hx
 ·obtain ⟨p,q,h1,h2⟩:=IL L n (BM L.2 n++[x])
  have hp:(Cg L n (BM L.2 n++[x])).2.flatten.Perm (x::L.2.flatten):=by
   rw [h1,h2,List.append_assoc];refine List.Perm.trans ?_ (List.perm_middle (l₁:=p++BM L.2 n) (l₂:=q) (a:=x) |>.trans (by rw [List.append_assoc]));rw [List.append_assoc];exact List.Perm.refl _
  refine (hp.map fI).nodup_iff.2 (List.nodup_cons.2 ⟨λhm => ?_,v.ids⟩);obtain ⟨y,hy,e⟩:=List.mem_map.1 hm;exact hid y hy e
theorem RW {l:List (List BQ)} {x:BQ} (h:x∈l.flatten):x.1<=FM l:=by
 have one : ∀ (rs:List BQ) (m:Int),m<=rs.foldl (λm r=>KW m r.1) m /\ ∀ x∈rs,x.1<=rs.foldl (λm r=>KW m r.1) m:=by
  intro rs
  induction rs with
  | nil=>intro m;exact ⟨by simp,λx hx=>by cases hx⟩
  | cons r rs ih =>
   intro m;obtain ⟨h1,h2⟩:=ih (KW m r.1);rw [GT] at h1 h2;simp only [List.foldl_cons,GT] at h1 h2 ⊢;refine ⟨by omega,λx hx => ?_⟩;rcases List.mem_cons.1 hx with e | hx
   ·rw [e];omega
   ·exact h2 x hx
 have two : ∀ (ls:List (List BQ)) (m:Int),m<=ls.foldl (λm rs=>rs.foldl (λm r=>KW m r.1) m) m /\ ∀ rs∈ls,∀ x∈rs,x.1<=ls.foldl (λm rs=>rs.foldl (λm r=>KW m r.1) m) m:=by
  intro ls
  induction ls with
  | nil=>intro m;exact ⟨by simp,λx hx=>by cases hx⟩
  | cons rs ls ih =>
   intro m;obtain ⟨h1,h2⟩:=ih (rs.foldl (λm r=>KW m r.1) m);obtain ⟨k1,k2⟩:=one rs m;simp only [List.foldl_cons];refine ⟨by omega,λrs' hrs x hx => ?_⟩;rcases List.mem_cons.1 hrs with e | hrs
   ·subst e;have:=k2 x hx;omega
   ·exact h2 rs' hrs x hx
 obtain ⟨rs,h1,h2⟩:=List.mem_flatten.1 h;exact (two l 0).2 rs h1 x h2
end Go.Proofs.YthpkjfabdccpdaaGreat.Pl
namespace Go.Proofs.YthpkjfabdccpdaaGreat.Pl
open Go Go.Proofs.YthpkjfabdccpdaaGreat.Sv
theorem QD {M:List (List BQ)} {f:Int->Option (LR Int (Nat×(Int×Unit)))} (h0:f 0=some (.dn (0,(0,())))) (hs : ∀ k,k<M.length->f ((k+1:Nat):Int)=if BM M k=[] then some (.nx (k:Int)) else some (.dn (0,(((k+1:Nat):Int),())))) : ∀ k,k<=M.length->Dc (k+1) f (k:Int)=some (0,((Jp M k:Nat):Int),())
 | 0,_=>BL h0
 | k+1,hk=>by
  have h:=hs k (by omega);unfold Jp;by_cases he:BM M k=[]
  ·rw [if_pos he] at h ⊢;rw [A7 h];exact QD h0 hs k (by omega)
  ·rw [if_neg he] at h ⊢;exact BL h
theorem gA (L:List (List BQ)) (n:Nat):JL (DW (max L.length (n+1)) ([]:List BQ)) 0 L (AA (DW (max L.length (n+1)) ([]:List BQ)))=IK L n:=by
 have h1:AA (DW (max L.length (n+1)) ([]:List BQ))=max L.length (n+1):=by unfold AA DW;simp
 rw [h1];unfold JL IK DW;rw [List.take_of_length_le (by omega:L.length<=max L.length (n+1))];simp only [List.take_zero,List.nil_append,List.drop_replicate,Nat.zero_add]
 congr 2
 omega
theorem Yu (l:List (List BQ)) (n:Nat) (r:List BQ):lset (IK l n) n r=Jq l n r:=rfl
theorem I0 {l:List (List BQ)} {i:Nat} (h:i<l.length):l[i]? = some (BM l i):=by
 unfold BM;rw [List.getElem?_eq_getElem h];rfl
theorem Vm {β:Type} (l:List BQ) (x y:Unit->Option β):br (Bg (l.length:Int) 0) x y=if l=[] then x () else y ():=by
 rw [B7];by_cases h:l=[]
 ·rw [if_pos h,if_pos (by rw [h];rfl)]
 ·rw [if_neg h,if_neg (by have:=List.length_pos_iff.2 h;omega)]
theorem M9 {L:AI} (h1:L.2.length<=1000) {n:Nat} (hn:n<1000) (r:List BQ):DV (L,((n:Int),r))=some (Cg L n r):=by
 have hk:KW (AZ (AA L.2)) (AH .i64 (n:Int) 1)=((max L.2.length (n+1):Nat):Int):=by
  rw [Aa (by omega),GT,AT,AP];omega
 unfold DV;simp only [hk,AE,gA,Yu];have hp:(IK L.2 n).length=max L.2.length (n+1):=MD _ _;have hr:(Jq L.2 n r).length=max L.2.length (n+1):=by unfold Jq;rw [List.length_set,hp]
 rw [CR (by omega),Mv,if_pos (by rw [AP,hp];omega),AJ (I0 (by omega))]
 have hlo:=QD (M:=Jq L.2 n r) (f:=λs4=>br (CD s4 0) (λ_=>AV (Bz .i64 s4 1) λk5=>gd (Dn k5 (AA (Jq L.2 n r))) λ_=>ix (Jq L.2 n r) k5 λx6=>br (Bg (AZ (AA x6)) 0) (λ_=>some (.nx (Bz .i64 s4 1))) λ_=>some (.dn ((0,(s4,()))))) λ_=>some (.dn ((0,(s4,()))))) rfl (λk hk=>by
  have hi:Bz .i64 ((k+1:Nat):Int) 1=(k:Int):=by rw [Bj (by omega)];omega
  simp only [hi,AE];rw [Az,if_pos (by omega),Mv,if_pos (by rw [AP];omega),AJ (I0 hk)]
  exact Vm _ _ _) _ (Nat.le_refl _)
 rw [AT,show AA (Jq L.2 n r)=(Jq L.2 n r).length from rfl];refine BD (CL (by omega) hlo) ?_;have hd:=RV (Jq L.2 n r) (Jq L.2 n r).length;simp only [AE];rw [CR hd,UF,if_pos (by omega),ft,if_pos (by omega),UF,if_pos (by unfold BF Qg;omega)];unfold Cg HM Er BF Qg;simp
end Go.Proofs.YthpkjfabdccpdaaGreat.Pl
namespace Go.Proofs.YthpkjfabdccpdaaGreat.Pl
open Go Go.Proofs.YthpkjfabdccpdaaGreat.Sv
def eM (d:Int) (j:GN):Bool:=Bg d j.1
def Jr (js:List GN) (d:Int):Option GN:=js.find? (eM d)
def ME (js:List GN):List (Int×GN):=js.map λj=>(j.1,j)
def zJ:GN:=(0,(([],([],([],([],0)))),((false,([],false)),([],0))))
def RX (L:AI) (d:Int):GN:=match BM L.2 d.toNat with
 | [r0,r1]=>(d,EI r1.2 r0.2 (decide (d=(L.2.length:Int)-1)) 0)
 | _=>zJ
def QE (s:Ab) (L:AI) (ended d:Int):GN:=(if d=ended then none else Jr s.2.1 d).getD (RX L d)
def Vn (s:Ab) (L:AI) (next ended:Int):Ab:=(L,((Ba 0 L.2).map (QE s L ended),next))
theorem QF (d:Int) : ∀ js:List GN,H3 (λa b=>Bg a b) (ME js) d=Jr js d
 | []=>rfl
 | j::js=>by
  show (bif Bg d j.1 then some j else H3 (λa b=>Bg a b) (ME js) d)=(j::js).find? (eM d)
  rw [List.find?_cons,QF d js];show _=match Bg d j.1 with | true=>some j | false=>Jr js d
  cases Bg d j.1<;>rfl
theorem QG {j:GN} : ∀ {js:List GN},j.1 ∉ js.map (·.1)->HN (λa b=>Bg a b) (ME js) j.1 j=ME (js++[j])
 | [],_=>rfl
 | i::js,h=>by
  show (bif Bg j.1 i.1 then (j.1,j)::ME js else (i.1,i)::HN (λa b=>Bg a b) (ME js) j.1 j)=(i.1,i)::ME (js++[j])
  have h1:Bg j.1 i.1=false:=by rw [FH];simp;intro e;exact h (by simp [e])
  rw [h1,cond_false,QG (λhm=>h (by simp at hm ⊢;exact .inr hm))]
theorem Ue {js:List GN} {d:Int} (h:d ∉ js.map (·.1)):Jr js d=none:=by
 unfold Jr;rw [List.find?_eq_none];intro j hj;unfold eM;rw [FH];simp only [decide_eq_true_eq];intro e;exact h (by rw [e];exact List.mem_map_of_mem hj)
theorem QH {x d:Int} : ∀ {js:List GN},(js.map (·.1)).Nodup->H3 (λa b=>Bg a b) (JB (λa b=>Bg a b) (ME js) x) d=if d=x then none else Jr js d
 | [],_=>by split<;>rfl
 | j::js,h=>by
  rw [List.map_cons,List.nodup_cons] at h;show H3 (λa b=>Bg a b) (bif Bg x j.1 then ME js else (j.1,j)::JB (λa b=>Bg a b) (ME js) x) d=_
  have hf:Jr (j::js) d=if d=j.1 then some j else Jr js d:=by
   unfold Jr;rw [List.find?_cons];unfold eM;rw [FH];by_cases e:d=j.1<;>simp [e]
  rw [FH,hf];by_cases hx:x=j.1
  ·rw [show decide (x=j.1)=true by simp [hx],cond_true,QF];by_cases hd:d=x
   ·rw [if_pos hd];exact Ue (by rw [hd,hx];exact h.1)
   ·rw [if_neg hd,if_neg (by rw [<- hx];exact hd)]
  ·rw [show decide (x=j.1)=false by simp [hx],cond_false];show (bif Bg d j.1 then some j else H3 (λa b=>Bg a b) (JB (λa b=>Bg a b) (ME js) x) d)=_
   rw [QH h.2,FH];by_cases hd:d=j.1
   ·rw [show decide (d=j.1)=true by simp [hd],cond_true,if_pos hd,if_neg (by rw [hd];exact λe=>hx e.symm)]
   ·rw [show decide (d=j.1)=false by simp [hd],cond_false,if_neg hd]
theorem VR.vl' {L:AI} (v:VLev L) {n:Nat} {r:BQ} (h:r∈BM L.2 n):VL r.2:=((v.own n).2 r h).vl
theorem Wx (L:AI) (hl:L.2.length<=1000) (n:Nat):Cm (L,(n:Int))=some (decide ((n:Int)=(L.2.length:Int)-1)):=by
 unfold Cm;simp only [AT,AP];rw [Bj (by omega),FH]
theorem Yv {L:AI} (v:VLev L) {n:Nat} (h:(BM L.2 n).length=2):Fv (L,(n:Int))=some (RX L n,0):=by
 have hn:n<L.2.length:=by
  by_cases h0:n<L.2.length
  ·exact h0
  ·unfold BM at h;rw [List.getElem?_eq_none (by omega)] at h;cases h
 have hl:=v.len;obtain ⟨hb,hr⟩:=v.small;unfold Fv;simp only [AT,AP];rw [Io _ hb hr,Fm v,AB,AQ,if_pos rfl,BB,if_neg (by omega),EQ,if_neg (by omega),EQ,if_neg (by omega),AE,AJ (I0 hn),BB,if_neg (by omega),Wx L (by omega) n,AB]
 obtain ⟨r0,r1,hrr⟩ : ∃ r0 r1,BM L.2 n=[r0,r1]:=by
  match hq:BM L.2 n with
  | [r0,r1]=>exact ⟨r0,r1,rfl⟩
  | []=>rw [hq] at h;cases h
  | [_]=>rw [hq] at h;cases h
  | _::_::_::_=>rw [hq] at h;simp at h
 rw [Sp _ (by rw [I0 hn,hrr]) (VR.vl' v (n:=n) (by rw [hrr];simp)) (VR.vl' v (n:=n) (by rw [hrr];simp)),AB];unfold RX;rw [Int.toNat_natCast,hrr]
theorem Ov (i:Nat) (rs:List BQ) (ls:List (List BQ)):Ba i (rs::ls)=(if rs.length=2 then [(i:Int)] else [])++Ba (i+1) ls:=rfl
theorem NU {s:Ab} (hj:(s.2.1.map (·.1)).Nodup) (hl:s.2.1.length<=1000) {L:AI} (v:VLev L) (next ended:Int):A2 (s,(L,(next,ended)))=some (Vn s L next ended,0):=by
 have hv:=v.len;unfold A2;simp only [AT,AP]
 rw [Dk (l:=s.2.1) (σ:=List (Int×GN)) (s:=((0:Int),([]:List (Int×GN)))) (λi m=>((i:Int),m)) (λls i m => ∃ p,s.2.1=p++ls/\m=ME p) (λ_ _ _=>(0,(((s.2.1.length:Int),ME s.2.1),()))) [] rfl (by omega) ⟨[],rfl,rfl⟩ (λm h=>by
  obtain ⟨p,h1,rfl⟩:=h
  simp only;rw [re,Ao,h1,List.append_nil]) (λi x ls m hd hx hi h=>by
   obtain ⟨p,h1,rfl⟩:=h;refine ⟨ME (p++[x]),?_,⟨p++[x],by rw [h1];simp,rfl⟩,rfl⟩;simp only;rw [rl hi,AR,AE,AJ hx,Al hx (by omega),QG];intro hm;rw [h1,List.map_append,List.nodup_append] at hj
   exact hj.2.2 _ hm x.1 (by simp) rfl),AB]
 simp only
 rw [Dk (l:=L.2) (σ:=List GN) (s:=((0:Int),((0:Int),(((0:Int),(([]:List (List BQ)),(([]:List GN),(0:Int)))),(L.1,(L.2,(([]:List GN),next))))))) (λi js=>((0:Int),((i:Int),(((0:Int),(([]:List (List BQ)),(([]:List GN),(0:Int)))),(L.1,(L.2,(js,next))))))) (λls i js=>js++(Ba i ls).map (QE s L ended)=(Ba 0 L.2).map (QE s L ended)) (λ_ _ _=>(0,(((0:Int),((L.2.length:Int),(((0:Int),(([]:List (List BQ)),(([]:List GN),(0:Int)))),(L.1,(L.2,((Ba 0 L.2).map (QE s L ended),next)))))),()))) [] rfl (by omega) rfl (λm h=>by
  simp only;rw [re,Ao,<- h];simp [Ba]) (λi rs ls m hd hx hi h=>by
   have ho:BM L.2 i=rs:=by unfold BM;rw [hx];rfl
   have h2:=(v.own i).1;rw [ho] at h2;refine ⟨m++(if rs.length=2 then [QE s L ended i] else []),?_,?_,rfl⟩
   ·simp only;rw [rl hi,AR,AE,AJ hx,BB]
    have hm:m.length<=1000:=by
     have h4:=congrArg List.length h;have h5:=GF L.2 0;rw [List.length_append,List.length_map,List.length_map] at h4;omega
    by_cases h4:rs.length=2;rotate_left
    ·rw [if_pos (by omega),if_neg h4,List.append_nil,Al hx (by omega)]
    rw [if_neg (by omega),if_pos h4,QH hj];have hn:QE s L ended i=(if (i:Int)=ended then none else Jr s.2.1 i).getD (RX L i):=rfl
    cases hq:(if (i:Int)=ended then none else Jr s.2.1 (i:Int)) with
    | none =>
     rw [hq,Option.getD_none] at hn;rw [hn,Yv v (by rw [ho];exact h4),BY,Fe,if_neg (show ¬ gX (none:Option GN)=true by simp [gX]),AB];simp only;rw [AQ,if_pos rfl,CR (by simp only [BF,List.length_cons,List.length_nil];omega),Al hx (by omega)];rfl
    | some j =>
     rw [hq,Option.getD_some] at hn;rw [hn,BY,Fe,if_pos (show gX (some j)=true from rfl),CR (by simp only [BF,List.length_cons,List.length_nil];omega),Al hx (by omega)];rfl
   ·rw [List.append_assoc,<- h,Ov,List.map_append]
    congr 2
    split<;>rfl),AB]
 rfl
end Go.Proofs.YthpkjfabdccpdaaGreat.Pl
namespace Go.Proofs.YthpkjfabdccpdaaGreat.Pl
open Go Go.Proofs.YthpkjfabdccpdaaGreat.Sv
def pS (s:Bu):Option L4:=if s.1=true then some s.2.1 else none
theorem Asc.weak : ∀ {l:List AD} {p p':Option L4},(∀ q',p'=some q' -> ∃ q,p=some q/\C6 q q'=false)->Asc p l->Asc p' l
 | [],_,_,_,_=>trivial
 | x::l,p,p',h,⟨h1,h2⟩=>⟨λq' hq'=>by
  obtain ⟨q,e,hq⟩:=h q' hq';have h3:=h1 q e;by_cases he:q'=q
  ·rw [he];exact h3
  ·exact ID (RL hq (λe=>he e.symm)) h3,h2⟩
theorem S2 : ∀ (l:List AD) (s:Bu),Og s l->Asc (pS s) (Ez s l)
 | [],_,_=>trivial
 | x::l,s,⟨_,h2,h3⟩=>by
  have ih:=S2 l _ h3;have ih':Asc (some x.1) (Ez (true,(x.1,s.2.2)) l):=ih;unfold Ez;by_cases hk:keep s x=true
  ·rw [if_pos hk];refine ⟨λq hq => ?_,ih'⟩;unfold pS at hq;by_cases h1:s.1=true
   ·rw [if_pos h1] at hq;cases hq;refine RL (h2 h1) λe => ?_;unfold keep at hk;rw [h1,e] at hk;simp at hk
   ·rw [if_neg h1] at hq;cases hq
  ·rw [if_neg hk,List.nil_append];refine ih'.weak λq' hq'=>⟨x.1,rfl,?_⟩;unfold pS at hq';by_cases h1:s.1=true
   ·rw [if_pos h1] at hq';cases hq';exact h2 h1
   ·rw [if_neg h1] at hq';cases hq'
theorem S3 : ∀ {l:List AD} {s:Bu} {x:AD},x∈Ez s l->x∈l
 | y::l,s,x,h=>by
  unfold Ez at h;rcases List.mem_append.1 h with h | h
  ·split at h
   ·rw [List.mem_singleton.1 h];simp
   ·cases h
  ·exact List.mem_cons_of_mem _ (S3 h)
theorem Vo : ∀ {l:List AD} {s:Bu},Og s l -> ∀ x∈l,kE x=0
 | y::l,s,⟨h1,_,h3⟩,x,h=>by
  rcases List.mem_cons.1 h with e | h
  ·rw [e];exact h1
  ·exact Vo h3 x h
theorem gB {a b:List AD} (va:VL a) (vb:VL b) (bt:Bool) {k:Nat} (hk:k<=a.length+b.length) (hl:a.length+b.length<=5000):VL (EI a b bt k).2.2.1/\(EI a b bt k).2.2.1.length<=a.length+b.length:=by
 have hr:=HG va vb bt hk
 have h1:(Ez (s0 bt) (Aw a b k)).length<=k:=by
  have:=IF (s0 bt) (Aw a b k);rw [CY va vb hk] at this;exact this
 have h2:(EI a b bt k).2.2.1=Ez (s0 bt) (Aw a b k):=rfl;rw [h2];exact ⟨⟨by omega,λx hx=>Vo hr x (S3 hx),S2 _ _ hr⟩,by omega⟩
theorem Uf {L:AI} (v:VLev L) {n:Nat} (h:BM L.2 n≠[]):C0 (L,(n:Int))=some (Cg L n [],(BM L.2 n,0)):=by
 have hn:n<L.2.length:=by
  by_cases h0:n<L.2.length
  ·exact h0
  ·unfold BM at h;rw [List.getElem?_eq_none (by omega)] at h;exact absurd rfl h
 have hv:=v.len;have h2:=(v.own n).1;unfold C0;simp only [AT,AP];rw [RU v,AB,if_neg (by omega),AQ,if_pos rfl,BB,if_pos (by omega),AE,AJ (I0 hn),Vm,if_neg h,M9 (by omega) (by omega),AB,CR (by omega)]
theorem Wy {S β:Type} {f:S->Option (LR S β)} {r:β} (mk:Int->S) (n:Nat) {s:S} (h0:s=mk ((n:Int)-1)) (hn:n<1000000) (hs : ∀ k,k<n->f (mk (k:Int))=some (.nx (mk ((k:Int)-1)))) (he:f (mk (-1))=some (.dn r)):loop f s=some r:=by
 subst h0
 have main : ∀ k,k<=n->Dc (k+1) f (mk ((k:Int)-1))=some r:=by
  intro k
  induction k with
  | zero=>intro _;exact BL he
  | succ k ih =>
   intro hk;have:=hs k (by omega);rw [show ((k+1:Nat):Int)-1=(k:Int) by omega,A7 this];exact ih (by omega)
 exact CL (by omega) (main n (Nat.le_refl _))
theorem S4 {L:AI} (v:VLev L) {n:Nat} (hn:n<12) {x:BQ} (hx:x.2.length<=1048576) (hid : ∀ y∈L.2.flatten,y.1≠x.1) (hl:(BM L.2 n).length<2) :
  BJ (L,((n:Int),x))=some (if kR [] (Br L.1 n) x≠0 then ((0,[]),kR [] (Br L.1 n) x) else (Cg L n (BM L.2 n++[x]),0)):=by
 have hv:=v.len;unfold BJ;simp only [AT,AP];rw [RU v,AB,if_neg (by omega),AQ,if_pos rfl,M6 v.B1 v.B2 (by omega),P5 x _ (by omega),show Gz (n:Int) 0=true by unfold Gz;simp];rw [eL,AB,AQ];by_cases hk:kR [] (Br L.1 n) x=0;rotate_left
 ·rw [if_neg hk,if_pos hk]
 rw [if_pos hk,if_neg (by simp [hk])]
 rw [Dk (l:=L.2) (σ:=Unit) (s:=((0:Int),(((0:Int),([]:List (List BQ))),(0:Int)))) (λi _=>((i:Int),(((0:Int),([]:List (List BQ))),(0:Int)))) (λ_ _ _=>True) (λ_ _ _=>(0,(((L.2.length:Int),(((0:Int),([]:List (List BQ))),(0:Int))),()))) () rfl (by omega) trivial (λ_ _=>by
  simp only;rw [re];rfl) (λi rs ls _ hd hi hlt _=>by
   refine ⟨(),?_,trivial,rfl⟩;have ho:BM L.2 i=rs:=by unfold BM;rw [hi];rfl
   have h2:=(v.own i).1;rw [ho] at h2;simp only;rw [rl hlt,AR,AE,AJ hi,Bj (by omega)]
   rw [Wy (λk=>(k,(((0:Int),([]:List (List BQ))),(0:Int)))) rs.length rfl (by omega) (λk hk=>by
    have hg:rs[k]? = some rs[k]:=List.getElem?_eq_getElem hk;have hne:rs[k].1≠x.1:=hid _ (List.mem_flatten.2 ⟨rs,List.mem_of_getElem? hi,List.getElem_mem hk⟩);simp only
    rw [EQ,if_pos (by omega),AE,AJ hg,B7,if_neg hne,Bj (by omega)]) (r:=(0,(((-1:Int),(((0:Int),([]:List (List BQ))),(0:Int))),()))) rfl,AB]
   rw [Al hi (by omega)]
   rfl),AB]
 rw [CM,if_pos rfl,BB];by_cases h3:n<L.2.length
 ·rw [if_pos (by omega),AE,AJ (I0 h3),B7,if_neg (by omega),AE,AE,CR (Nat.le_refl _),fu,if_pos rfl,CR (Nat.zero_le _)];have hs:Er (BM L.2 n) 0 (BM L.2 n).length=BM L.2 n:=by unfold Er;simp
  rw [hs,CR (by simp only [BF,List.length_cons,List.length_nil];omega),M9 (by omega) (by omega),AB];rfl
 ·rw [if_neg (by omega)];have ho:BM L.2 n=[]:=by unfold BM;rw [List.getElem?_eq_none (by omega)];rfl
  rw [CR (by simp),M9 (by omega) (by omega),AB,ho];rfl
end Go.Proofs.YthpkjfabdccpdaaGreat.Pl
namespace Go.Proofs.YthpkjfabdccpdaaGreat.Pl
open Go Go.Proofs.YthpkjfabdccpdaaGreat.Sv
def zS:Ab:=((0,[]),([],0))
def Dl (j:GN):List AD:=j.2.2.2.1
def Ke (s:Ab) (j:GN):Nat:=if EC s.1 j=true then j.1.toNat else j.1.toNat+1
def KQ (s:Ab) (j:GN):AI:=if Dl j=[] then Cg s.1 j.1.toNat [] else Cg (Cg s.1 j.1.toNat []) (Ke s j) (BM (Cg s.1 j.1.toNat []).2 (Ke s j)++[(s.2.2,Dl j)])
def Wz (s:Ab) (j:GN):Int:=if Dl j=[] then s.2.2 else s.2.2+1
def S5 (s:Ab) (j:GN):Ab×Int :=
 if 0<DI s.1 j\/Jm s.1 j=false then (zS,9) else if s.2.2>1000000/\Dl j≠[] then (zS,5) else (Vn s (KQ s j) (Wz s j) j.1,0)
theorem QI : ∀ (ls:List (List BQ)) (i:Nat),(Ba i ls).Nodup /\ ∀ d∈Ba i ls,(i:Int)<=d
 | [],_=>⟨.nil,λ_ h=>by cases h⟩
 | rs::ls,i=>by
  obtain ⟨h1,h2⟩:=QI ls (i+1);rw [Ov];by_cases h:rs.length=2
  ·rw [if_pos h];refine ⟨List.nodup_cons.2 ⟨λhm => ?_,h1⟩,λd hd => ?_⟩
   ·have:=h2 _ hm;omega
   ·rcases List.mem_cons.1 hd with e | hd
    ·omega
    ·have:=h2 d hd;omega
  ·rw [if_neg h];exact ⟨h1,λd hd=>by have:=h2 d hd;omega⟩
theorem VSt.nodup {s:Ab} (v:VSt s):(s.2.1.map (·.1)).Nodup:=by rw [v.due];exact (QI _ _).1
theorem JobAt.out {L:AI} {n:Nat} {j:GN} (ha:JobAt L n j) (v:VLev L) (hs:(∀ r∈BM L.2 n,r.2.length<=2000)):VL (Dl j)/\((Dl j).length:Int)<=2*Br L.1 n/\j.1=(n:Int)/\n<12/\BM L.2 n≠[]:=by
 obtain ⟨r0,r1,bt,k,h1,rfl,hk,_,v0,v1⟩:=ha;have ho:BM L.2 n=[r0,r1]:=by unfold BM;rw [h1];rfl
 have l0:=hs r0 (by rw [ho];simp);have l1:=hs r1 (by rw [ho];simp);have m0:=((v.own n).2 r0 (by rw [ho];simp)).le;have m1:=((v.own n).2 r1 (by rw [ho];simp)).le;obtain ⟨h2,h3⟩:=gB v1 v0 bt hk (by omega);have hn:=(List.getElem?_eq_some_iff.1 h1).1;have hv:=v.len;refine ⟨h2,?_,rfl,by omega,by rw [ho];simp⟩
 have h4:((Dl ((n:Int),EI r1.2 r0.2 bt k)).length:Int)<=(r1.2.length:Int)+(r0.2.length:Int):=by
  have:(Dl ((n:Int),EI r1.2 r0.2 bt k)).length<=r1.2.length+r0.2.length:=h3;omega
 omega
def gS (L:AI):Prop := ∀ i,∀ r∈BM L.2 i,r.2.length<=2000
structure InstF (s:Ab) (n:Nat) (j:GN):Prop where
 l1:VLev (Cg s.1 n [])
 to12:Dl j≠[]->Ke s j<12
 vr:Dl j≠[]->VR (Br s.1.1 (Ke s j)) (s.2.2,Dl j)
 id : ∀ y∈(Cg s.1 n []).2.flatten,y.1≠s.2.2
 room:Dl j≠[]->(BM (Cg s.1 n []).2 (Ke s j)).length<2
 lev:VLev (KQ s j)
theorem Vp {s:Ab} (v:VSt s) (hf:gS s.1) {n:Nat} {j:GN} (ha:JobAt s.1 n j) (h0 : ¬ 0<DI s.1 j) (hc:Jm s.1 j=true) (h5:Dl j≠[]->s.2.2<=1000000):InstF s n j:=by
 obtain ⟨o1,o2,o3,o4,o5⟩:=ha.out v.lev (hf n);have hl1:=v.lev.leave (n:=n) o4;have hj:j.1.toNat=n:=by rw [o3];simp
 have hroom:EC s.1 j≠true->n+1<12/\(BM s.1.2 (n+1)).length<2:=λhs=>by
  unfold Jm at hc;rw [show decide (0<DI s.1 j)=false by simp;omega,hj] at hc;cases hq:EC s.1 j with
  | true=>exact absurd hq hs
  | false =>
   rw [hq] at hc;simpa [MB,BM] using hc
 have hid : ∀ y∈(Cg s.1 n []).2.flatten,y.1≠s.2.2:=λy hy=>by
  obtain ⟨p,q,h1,h2⟩:=IL s.1 n [];rw [h2,List.nil_append] at hy
  have hm:y∈s.1.2.flatten:=by
   rw [h1];rcases List.mem_append.1 hy with h | h
   ·exact List.mem_append_left _ h
   ·exact List.mem_append_right _ (List.mem_append_right _ h)
  have:=RW hm;have:=v.n3;omega
 have hto:Ke s j<12/\(BM (Cg s.1 n []).2 (Ke s j)).length<2/\((Dl j).length:Int)<=Br s.1.1 (Ke s j):=by
  unfold Ke;by_cases hs:EC s.1 j=true
  ·rw [if_pos hs,hj];refine ⟨o4,by rw [GH,if_pos rfl];simp,?_⟩;have hs':=hs;unfold EC at hs';rw [hj] at hs';exact of_decide_eq_true hs'
  ·rw [if_neg hs,hj];obtain ⟨h1,h2⟩:=hroom hs;refine ⟨h1,by rw [GH,if_neg (by omega)];exact h2,?_⟩;rw [P8];exact o2
 obtain ⟨t1,t2,t3⟩:=hto;have hvr:Dl j≠[]->VR (Br s.1.1 (Ke s j)) (s.2.2,Dl j):=λhne=>⟨v.n1,h5 hne,o1,hne,t3⟩;refine ⟨hl1,λ_=>t1,hvr,hid,λ_=>t2,?_⟩;unfold KQ;rw [hj];by_cases ho:Dl j=[]
 ·rw [if_pos ho];exact hl1
 ·rw [if_neg ho];exact hl1.arrive t1 t2 (hvr ho) hid
theorem QJ {s:Ab} (v:VSt s) (hf:gS s.1) {n:Nat} {j:GN} (ha:JobAt s.1 n j) (h0 : ¬ 0<DI s.1 j) (hc:Jm s.1 j=true) (h5:Dl j≠[]->s.2.2<=1000000) (l:Int) :
  (bd (C0 (s.1,(n:Int))) λr3=>br (Bg r3.2.2 0) (λ_=>br (CD (AZ (AA j.2.2.2.1)) 0) (λ_=>bd (BE (s,(j,l))) λr4=>br (AX r4) (λ_=>bd (BJ ((r3.1,(AH .i64 (n:Int) 1,(s.2.2,j.2.2.2.1))))) λr5=>br (A6 r5.2 0) (λ_=>some ((((0,[]),([],0)),r5.2))) λ_=>bd (A2 ((s,(r5.1,(AH .i64 s.2.2 1,(n:Int)))))) λr6=>some r6) λ_=>bd (BJ ((r3.1,((n:Int),(s.2.2,j.2.2.2.1))))) λr7=>br (A6 r7.2 0) (λ_=>some ((((0,[]),([],0)),r7.2))) λ_=>bd (A2 ((s,(r7.1,(AH .i64 s.2.2 1,(n:Int)))))) λr8=>some r8) λ_=>br (A6 r3.2.2 0) (λ_=>some ((((0,[]),([],0)),r3.2.2))) λ_=>bd (A2 ((s,(r3.1,(s.2.2,(n:Int)))))) λr9=>some r9) λ_=>br (A6 r3.2.2 0) (λ_=>some ((((0,[]),([],0)),r3.2.2))) λ_=>bd (A2 ((s,(r3.1,(s.2.2,(n:Int)))))) λr10=>some r10)
  = some (Vn s (KQ s j) (Wz s j) j.1,0):=by
 have F:=Vp v hf ha h0 hc h5;obtain ⟨o1,o2,o3,o4,o5⟩:=ha.out v.lev (hf n);have hj:j.1.toNat=n:=by rw [o3];simp
 have hn2:=v.n2;have hn1:=v.n1;have hjs:=v.jsmall;have hlev:=F.lev;rw [Uf v.lev o5,AB];show (br (Bg 0 0) _ _)=_;rw [B7,if_pos rfl,AT,AP,Az];by_cases ho:Dl j=[]
 ·rw [if_neg (show ¬ ((j.2.2.2.1.length:Int)>0) by rw [show j.2.2.2.1=[] from ho];simp),AQ,if_pos rfl];unfold KQ at hlev ⊢;rw [if_pos ho,hj] at hlev;rw [if_pos ho,hj,NU v.nodup (by omega) hlev,AB];unfold Wz;rw [if_pos ho,o3]
 ·rw [if_pos (show ((j.2.2.2.1.length:Int)>0) by have:=List.length_pos_iff.2 ho;have h:(Dl j).length=j.2.2.2.1.length:=rfl;omega),Ot v.lev o3 o4,AB,BY];have hx:(Dl j).length<=1048576:=by have:=o1.len;omega
  have hk:kR [] (Br (Cg s.1 n []).1 (Ke s j)) (s.2.2,Dl j)=0:=Yc.2 ⟨F.vr ho,by simp⟩;have hA:=S4 F.l1 (F.to12 ho) (x:=(s.2.2,Dl j)) hx F.id (F.room ho);rw [if_neg (by simp [hk])] at hA
  have hL:KQ s j=Cg (Cg s.1 n []) (Ke s j) (BM (Cg s.1 n []).2 (Ke s j)++[(s.2.2,Dl j)]):=by
   unfold KQ;rw [if_neg ho,hj]
  have hN:Wz s j=s.2.2+1:=by unfold Wz;rw [if_neg ho]
  rw [<- hL] at hA;have hI:AH .i64 s.2.2 1=s.2.2+1:=DC (by omega);have hW:=NU v.nodup (by omega) hlev (s.2.2+1) (n:Int);rw [Fe];have hto:Ke s j=if EC s.1 j=true then n else n+1:=by unfold Ke;rw [hj]
  by_cases hs:EC s.1 j=true
  ·rw [if_pos hs] at hto ⊢;rw [hto] at hA;have hA':BJ (Cg s.1 n [],((n:Int),(s.2.2,j.2.2.2.1)))=some (KQ s j,0):=hA;rw [hA',AB,AQ,if_pos rfl,hI,hW,AB,hN,o3]
  ·rw [if_neg hs] at hto ⊢;rw [hto] at hA;rw [Aa (by omega)];have hA':BJ (Cg s.1 n [],(((n+1:Nat):Int),(s.2.2,j.2.2.2.1)))=some (KQ s j,0):=hA;rw [hA',AB,AQ,if_pos rfl,hI,hW,AB,hN,o3]
theorem Ug {s:Ab} (m:Sm s) (hf:gS s.1) (level:Int):Cb (s,level)=some (Jo zS S5 s level):=by
 unfold Cb;rw [Yr m,AB];unfold Jo;by_cases h0:(Au s).2=0;rotate_left
 ·rw [if_pos h0,AQ,if_neg h0,if_pos h0];rfl
 rw [if_neg (show ¬ (Au s).2≠0 by simp [h0]),if_neg (show ¬ (Au s).2≠0 by simp [h0])];have v:=Cr.1 h0;unfold fJ;cases hq:RT level 0 (Ba 0 s.1.2) with
 | none=>rfl
 | some i =>
  obtain ⟨j,n,hj,hl,hjn,ha,hn⟩:=v.at hq;have:=v.lev.len;subst hl;simp only [hj];unfold A5 S5;rw [AQ,if_pos rfl,AB,Az];by_cases h1:0<DI s.1 j
  ·rw [if_pos (show ((DI s.1 j:Int))>0 by omega),if_pos (.inl h1)];rfl
  rw [if_neg (show ¬ ((DI s.1 j:Int))>0 by omega),Yq v.lev hjn (by omega) _ rfl,AB,BY,Fe];by_cases hc:Jm s.1 j=true;rotate_left
  ·rw [if_neg hc,if_pos (.inr (by simpa using hc))];rfl
  rw [if_pos hc,if_neg (show ¬ (0<DI s.1 j\/Jm s.1 j=false) by rw [hc];simp;omega),Az];by_cases h2:s.2.2>1000000
  ·rw [if_pos h2,AT,AP,Az];by_cases ho:Dl j=[]
   ·rw [if_neg (show ¬ ((j.2.2.2.1.length:Int)>0) by rw [show j.2.2.2.1=[] from ho];simp),if_neg (by simp [ho])];exact QJ v hf ha h1 hc (λh=>absurd ho h) _
   ·rw [if_pos (show ((j.2.2.2.1.length:Int)>0) by have:=List.length_pos_iff.2 ho;have h:(Dl j).length=j.2.2.2.1.length:=rfl;omega),if_pos ⟨h2,ho⟩];rfl
  ·rw [if_neg h2,if_neg (by simp [h2])];exact QJ v hf ha h1 hc (λh=>by omega) _
end Go.Proofs.YthpkjfabdccpdaaGreat.Pl
namespace Go.Proofs.YthpkjfabdccpdaaGreat.Pl
open Go Go.Proofs.YthpkjfabdccpdaaGreat.Sv
end Go.Proofs.YthpkjfabdccpdaaGreat.Pl
namespace Go.Proofs.YthpkjfabdccpdaaGreat.Pl
open Go Go.Proofs.YthpkjfabdccpdaaGreat.Sv
theorem eN {l:List (List BQ)} {n:Nat} {r0 r1:BQ}:l[n]? = some [r0,r1]<->BM l n=[r0,r1]:=by
 unfold BM;constructor
 ·intro h;rw [h];rfl
 ·intro h;cases hn:l[n]? with
  | none=>rw [hn] at h;cases h
  | some rs=>rw [hn] at h;exact congrArg some h
theorem Yw {s:Ab} {j:GN} {n:Nat} (hj:j.1.toNat=n) (i:Nat):BM (KQ s j).2 i=if Dl j≠[]/\i=Ke s j then (if i=n then [] else BM s.1.2 i)++[(s.2.2,Dl j)] else if i=n then [] else BM s.1.2 i:=by
 unfold KQ;rw [hj];by_cases ho:Dl j=[]
 ·rw [if_pos ho,if_neg (by simp [ho]),GH]
 ·rw [if_neg ho,GH];by_cases hi:i=Ke s j
  ·rw [if_pos hi,if_pos ⟨ho,hi⟩,GH,<- hi]
  ·rw [if_neg hi,if_neg (by simp [hi]),GH]
end Go.Proofs.YthpkjfabdccpdaaGreat.Pl
