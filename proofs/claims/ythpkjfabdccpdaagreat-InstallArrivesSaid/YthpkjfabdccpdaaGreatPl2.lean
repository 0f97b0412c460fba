/- Functions of the program and of the specification as plain functions, and laws about them. No condition. -/
import Derived.Test.YthpkjfabdccpdaaGreatPl1
import Derived.KernelRfl
set_option linter.all false
namespace Go.Proofs.YthpkjfabdccpdaaGreat.Pl
open Go Go.Proofs.YthpkjfabdccpdaaGreat.Sv
set_option linter.unusedVariables false
def Cf (x:(List AD)):Option Bool :=
 bd (loop (λs0=>br (Am s0.1 (AX (AA x))) (λ_=>br (Am s0.1 80) (λ_=>AT s0.1 λk1=>ix x k1 λx2=>br (CE (AX (E7 x2.1)) 100) (λ_=>some (.dn ((0,((s0.1,true),()))))) λ_=>AT s0.1 λk3=>ix x k3 λx4=>br (CE (AX (E7 x4.2.1)) 100) (λ_=>some (.dn ((0,((s0.1,true),()))))) λ_=>some (.nx (AI .i64 s0.1 1,s0.2))) λ_=>some (.dn ((1,(s0,()))))) λ_=>some (.dn ((1,(s0,()))))) (0,false)) λr5=>br (neq r5.1 0) (λ_=>some r5.2.1.2) λ_=>some (CE (AX (AA x)) 70)
def Dz (x:(List AD)):Option Bool :=
 bd (loop (λs0=>br (Am s0.1 (AX (AA x))) (λ_=>br (Am s0.1 40) (λ_=>AT s0.1 λk1=>ix x k1 λx2=>br (CE (AX (E7 x2.1)) 100) (λ_=>some (.dn ((0,((s0.1,true),()))))) λ_=>AT s0.1 λk3=>ix x k3 λx4=>br (CE (AX (E7 x4.2.1)) 100) (λ_=>some (.dn ((0,((s0.1,true),()))))) λ_=>some (.nx (AI .i64 s0.1 1,s0.2))) λ_=>some (.dn ((1,(s0,()))))) λ_=>some (.dn ((1,(s0,()))))) (0,false)) λr5=>br (neq r5.1 0) (λ_=>some r5.2.1.2) λ_=>some (CE (AX (AA x)) 30)
def Cm (x:(List BE)):Option Bool :=
 bd (loop (λs0=>br (Am s0.1 (AX (AA x))) (λ_=>br (Am s0.1 10) (λ_=>AT s0.1 λk1=>ix x k1 λx2=>bd (Dz x2.2) λr3=>br r3 (λ_=>some (.dn ((0,((s0.1,true),()))))) λ_=>some (.nx (AI .i64 s0.1 1,s0.2))) λ_=>some (.dn ((1,(s0,()))))) λ_=>some (.dn ((1,(s0,()))))) (0,false)) λr4=>br (neq r4.1 0) (λ_=>some r4.2.1.2) λ_=>some (CE (AX (AA x)) 6)
def F6 (x:AJ):Option Bool :=
 bd (loop (λs0=>br (Am s0.1 (AX (AA x.2))) (λ_=>br (Am s0.1 20) (λ_=>AT s0.1 λk1=>ix x.2 k1 λx2=>bd (Cm x2) λr3=>br r3 (λ_=>some (.dn ((0,((s0.1,true),()))))) λ_=>some (.nx (AI .i64 s0.1 1,s0.2))) λ_=>some (.dn ((1,(s0,()))))) λ_=>some (.dn ((1,(s0,()))))) (0,false)) λr4=>br (neq r4.1 0) (λ_=>some r4.2.1.2) λ_=>some (CE (AX (AA x.2)) 14)
def F7 (x:(AJ×((List (Int×(AN×((Bool×AM)×((List AD)×Int)))))×Int))):Option Bool :=
 bd (loop (λs0=>br (Am s0.1 (AX (AA x.2.1))) (λ_=>br (Am s0.1 20) (λ_=>AT s0.1 λk1=>ix x.2.1 k1 λx2=>bd (loop (λs3=>br (Am s3.1 (AX (AA x2.2.1.1))) (λ_=>br (Am s3.1 10) (λ_=>AT s3.1 λk4=>ix x2.2.1.1 k4 λx5=>bd (Cf x5) λr6=>br r6 (λ_=>some (.dn ((0,((s3.1,true),()))))) λ_=>some (.nx (AI .i64 s3.1 1,s3.2))) λ_=>some (.dn ((1,(s3,()))))) λ_=>some (.dn ((1,(s3,()))))) (0,s0.2)) λr7=>br (neq r7.1 0) (λ_=>some (.dn ((1,((s0.1,r7.2.1.2),()))))) λ_=>bd (Cf x2.2.2.2.1) λr8=>br r8 (λ_=>some (.dn ((1,((s0.1,true),()))))) λ_=>br (CE (AX (AA x2.2.1.1)) 6) (λ_=>some (.dn ((1,((s0.1,true),()))))) λ_=>br (CE (AX (AA x2.2.1.2.1)) 40) (λ_=>some (.dn ((1,((s0.1,true),()))))) λ_=>br (CE (AX (AA x2.2.1.2.2.1)) 40) (λ_=>some (.dn ((1,((s0.1,true),()))))) λ_=>br (CE (AX (AA x2.2.1.2.2.2.1)) 40) (λ_=>some (.dn ((1,((s0.1,true),()))))) λ_=>br (CE (AX (E7 x2.2.2.1.2.1)) 200) (λ_=>some (.dn ((1,((s0.1,true),()))))) λ_=>some (.nx (AI .i64 s0.1 1,r7.2.1.2))) λ_=>some (.dn ((0,(s0,()))))) λ_=>some (.dn ((0,(s0,()))))) (0,false)) λr9=>br (neq r9.1 0) (λ_=>br (CE (AX (AA x.2.1)) 14) (λ_=>some true) λ_=>bd (F6 x.1) λr10=>some r10) λ_=>some r9.2.1.2
def Iz (x:(Int×(Bool×(List UInt8)))):Option BE :=
 bd (loop (λ(s0:(Int×BE))=>br (Am s0.1 (AX (E7 x.2.2))) (λ_=>AT (AI .i64 s0.1 1) λk1=>AT s0.1 λk2=>gd (BJ k1 (E7 x.2.2)) λ_=>gd (BJ k2 k1) λ_=>gd (BJ (Ao (AA s0.2.2) (AA ([(eG x.2.2 k2 k1,(([]:List UInt8),(x.2.1,AI .i64 (AI .i64 (MQ .i64 10 x.1) s0.1) 1)))]))) 1048576) λ_=>some (.nx ((AI .i64 s0.1 1,(s0.2.1,By s0.2.2 ([(eG x.2.2 k2 k1,([],(x.2.1,AI .i64 (AI .i64 (MQ .i64 10 x.1) s0.1) 1)))])))))) λ_=>some (.dn ((0,(s0,()))))) ((0,(x.1,[])))) λr3=>some r3.2.1.2
def Gz (x:Unit):Option AJ :=
 bd (Iz ((1,(false,[(97:UInt8),(98:UInt8)])))) λr0=>bd (Iz ((2,(true,[(98:UInt8)])))) λr1=>some (2,[[r0,r1]])
def LF (x:AJ):Option ((AJ×((List (Int×(AN×((Bool×AM)×((List AD)×Int)))))×Int))×Int) :=
 bd (CM x) λr0=>br (A7 r0.2.2 0) (λ_=>some ((((0,[]),([],0)),r0.2.2))) λ_=>bd (CH x) λr1=>bd (CR x) λr2=>bd (loop (λ(s3:(Int×(Int×((List (List BE))×((List (Int×(AN×((Bool×AM)×((List AD)×Int)))))×Int)))))=>br (Am s3.1 (AX (AA r2))) (λ_=>AT s3.1 λk4=>ix r2 k4 λx5=>AT s3.1 λk6=>ix r2 k6 λx7=>bd (BB (x,x7)) λr8=>bd (Ak ((x,(x5,r8)))) λr9=>gd (BJ (Ao (AA s3.2.2.2.1) (AA [r9])) 1048576) λ_=>some (.nx ((AI .i64 s3.1 1,(s3.2.1,(s3.2.2.1,(By s3.2.2.2.1 [r9],s3.2.2.2.2))))))) λ_=>some (.dn ((0,(s3,()))))) ((0,(x.1,(x.2,([],AI .i64 r1 1)))))) λr10=>some ((((r10.2.1.2.1,r10.2.1.2.2.1),r10.2.1.2.2.2),0))
def Hr (x:((AJ×((List (Int×(AN×((Bool×AM)×((List AD)×Int)))))×Int))×Int)):Option (Int×Int) :=
 bd (Ce x.1) λr0=>br (A7 r0.2 0) (λ_=>some (0,r0.2)) λ_=>bd (loop (λs1=>br (Am s1.2 (AX (AA x.1.2.1))) (λ_=>AT s1.2 λk2=>ix x.1.2.1 k2 λx3=>br (BN x3.1 x.2) (λ_=>some (.dn ((0,((s1.2,s1.2),()))))) λ_=>some (.nx (s1.1,AI .i64 s1.2 1))) λ_=>some (.dn ((1,(s1,()))))) (0,0)) λr4=>br (neq r4.1 0) (λ_=>br (Am r4.2.1.1 0) (λ_=>some (0,4)) λ_=>some (r4.2.1.1,0)) λ_=>br (Am (-1) 0) (λ_=>some (0,4)) λ_=>some (((-1),0))
def E1 (x:((AJ×((List (Int×(AN×((Bool×AM)×((List AD)×Int)))))×Int))×Int)):Option (((AJ×((List (Int×(AN×((Bool×AM)×((List AD)×Int)))))×Int))×((Int×(AN×((Bool×AM)×((List AD)×Int))))×Int))×Int) :=
 bd (Hr x) λr0=>br (A7 r0.2 0) (λ_=>some (((((0,[]),([],0)),((0,(([],([],([],([],0)))),((false,([],false)),([],0)))),0)),r0.2))) λ_=>AT r0.1 λk1=>ix x.1.2.1 k1 λx2=>bd (BY x2.2) λr3=>some (((x.1,(x2,r3.1)),r3.2))
def Bw (x:((AJ×((List (Int×(AN×((Bool×AM)×((List AD)×Int)))))×Int))×((Int×(AN×((Bool×AM)×((List AD)×Int))))×Int))):Option Bool :=
 some (CE x.2.2 0)
def H3 (x:(Int×Int)):Option (Int×Int) :=
 br (Am x.1 1) (λ_=>some (0,7)) λ_=>br (CE x.1 16) (λ_=>some (0,7)) λ_=>br (Am x.2 0) (λ_=>some (0,7)) λ_=>br (G1 x.2 12) (λ_=>some (0,7)) λ_=>gd (G1 x.2 0) λ_=>some (Rx .i64 x.1 x.2,0)
def Bx (x:((AJ×((List (Int×(AN×((Bool×AM)×((List AD)×Int)))))×Int))×((Int×(AN×((Bool×AM)×((List AD)×Int))))×Int))):Option Bool :=
 bd (H3 (x.1.1.1,x.2.1.1)) λr0=>br (BN r0.2 0) (λ_=>some (fq (AX (AA x.2.1.2.2.2.1)) r0.1)) λ_=>some false
def Ef (x:(AJ×Int)):Option Int :=
 bd (Cq x.1) λr0=>br (A7 r0.2.2 0) (λ_=>some r0.2.2) λ_=>br (Am x.2 0) (λ_=>some 7) λ_=>br (G1 x.2 12) (λ_=>some 7) λ_=>some 0
def DO (x:(AJ×Int)):Option (Bool×Int) :=
 bd (Ef x) λr0=>br (A7 r0 0) (λ_=>some (false,r0)) λ_=>br (Am x.2 (AX (AA x.1.2))) (λ_=>AT x.2 λk1=>ix x.1.2 k1 λx2=>some ((Am (AX (AA x2)) 2,0))) λ_=>some (true,0)
def Eg (x:((AJ×((List (Int×(AN×((Bool×AM)×((List AD)×Int)))))×Int))×((Int×(AN×((Bool×AM)×((List AD)×Int))))×Int))):Option Bool :=
 bd (DO (x.1.1,AI .i64 x.2.1.1 1)) λr0=>br (BN r0.2 0) (λ_=>some r0.1) λ_=>some false
def Cu (x:((AJ×((List (Int×(AN×((Bool×AM)×((List AD)×Int)))))×Int))×((Int×(AN×((Bool×AM)×((List AD)×Int))))×Int))):Option Bool :=
 bd (loop (λs0=>br (Am s0.1 3) (λ_=>AT s0.1 λk1=>br (neq k1 0) (λ_=>bd (Bw x) λr2=>br r2 (λ_=>some (.dn ((0,((s0.1,true),()))))) λ_=>some (.nx (AI .i64 s0.1 1,s0.2))) λ_=>br (neq k1 1) (λ_=>bd (Bx x) λr3=>br r3 (λ_=>some (.dn ((0,((s0.1,true),()))))) λ_=>some (.nx (AI .i64 s0.1 1,s0.2))) λ_=>gd (neq k1 2) λ_=>bd (Eg x) λr4=>br r4 (λ_=>some (.dn ((0,((s0.1,true),()))))) λ_=>some (.nx (AI .i64 s0.1 1,s0.2))) λ_=>some (.dn ((1,(s0,()))))) (0,false)) λr5=>br (neq r5.1 0) (λ_=>some r5.2.1.2) λ_=>some false
def Bh (x:(List (Int×(AN×((Bool×AM)×((List AD)×Int)))))):Option (List (Int×(AN×((Bool×AM)×((List AD)×Int))))) :=
 gd (BJ (AA x) 1048576) λ_=>some x
def Jl (x:((AJ×((List (Int×(AN×((Bool×AM)×((List AD)×Int)))))×Int))×(Int×Int))):Option ((AJ×((List (Int×(AN×((Bool×AM)×((List AD)×Int)))))×Int))×(Int×Int)) :=
 bd (Ce x.1) λr0=>br (A7 r0.2 0) (λ_=>some ((((0,[]),([],0)),(0,r0.2)))) λ_=>br (Am x.2.2 0) (λ_=>some ((((0,[]),([],0)),(0,7)))) λ_=>bd (Hr (x.1,x.2.1)) λr1=>br (A7 r1.2 0) (λ_=>some ((((0,[]),([],0)),(0,r1.2)))) λ_=>AT r1.1 λk2=>ix x.1.2.1 k2 λx3=>bd (BY x3.2) λr4=>br (BN r4.1 0) (λ_=>some ((((0,[]),([],0)),(0,9)))) λ_=>AT r1.1 λk5=>ix x.1.2.1 k5 λx6=>bd (B3 (x6.2,x.2.2)) λr7=>br (A7 r7.2.2 0) (λ_=>some ((((0,[]),([],0)),(0,r7.2.2)))) λ_=>bd (Bh x.1.2.1) λr8=>AT r1.1 λk9=>gd (Dk k9 (AA r8)) λ_=>ix r8 k9 λx10=>some (((x.1.1,(lset r8 k9 (x10.1,r7.1),x.1.2.2)),(r7.2.1,0)))
def DQ (x:(AJ×(Int×(List BE)))):Option AJ :=
 AT (J5 (AX (AA x.1.2)) (AI .i64 x.2.1 1)) λk0=>AT (J5 (AX (AA x.1.2)) (AI .i64 x.2.1 1)) λk1=>gd (BJ k1 1048576) λ_=>AT x.2.1 λk2=>gd (Dk k2 (AA (JN (DT k1 ([]:List BE)) 0 x.1.2 (AA (DT k1 ([]:List BE)))))) λ_=>ix (JN (DT k1 ([]:List BE)) 0 x.1.2 (AA (DT k1 ([]:List BE)))) k2 λx3=>bd (loop (λs4=>br (CE s4 0) (λ_=>AT (B7 .i64 s4 1) λk5=>gd (Dk k5 (AA (lset (JN (DT k1 ([]:List BE)) 0 x.1.2 (AA (DT k1 ([]:List BE)))) k2 x.2.2))) λ_=>ix (lset (JN (DT k1 ([]:List BE)) 0 x.1.2 (AA (DT k1 ([]:List BE)))) k2 x.2.2) k5 λx6=>br (BN (AX (AA x6)) 0) (λ_=>some (.nx (B7 .i64 s4 1))) λ_=>some (.dn ((0,(s4,()))))) λ_=>some (.dn ((0,(s4,()))))) (AX (AA (lset (JN (DT k1 ([]:List BE)) 0 x.1.2 (AA (DT k1 ([]:List BE)))) k2 x.2.2)))) λr7=>AT r7.2.1 λk8=>gd (BJ k8 (AA (lset (JN (DT k1 ([]:List BE)) 0 x.1.2 (AA (DT k1 ([]:List BE)))) k2 x.2.2))) λ_=>gd (BJ 0 k8) λ_=>br (Dk 0 (AA (lset (JN (DT k1 ([]:List BE)) 0 x.1.2 (AA (DT k1 ([]:List BE)))) k2 x.2.2))) (λ_=>gd (BJ (Ao 0 (QY k8 0)) (AA (lset (JN (DT k1 ([]:List BE)) 0 x.1.2 (AA (DT k1 ([]:List BE)))) k2 x.2.2))) λ_=>some ((x.1.1,EJ (lset (JN (DT k1 ([]:List BE)) 0 x.1.2 (AA (DT k1 ([]:List BE)))) k2 x.2.2) 0 (Ao 0 (QY k8 0))))) λ_=>some (x.1.1,[])
def F8 (x:(AJ×Int)):Option (AJ×((List BE)×Int)) :=
 bd (Ef x) λr0=>br (A7 r0 0) (λ_=>some (((0,[]),([],r0)))) λ_=>br (Am x.2 (AX (AA x.1.2))) (λ_=>AT x.2 λk1=>ix x.1.2 k1 λx2=>br (BN (AX (AA x2)) 0) (λ_=>some (((0,[]),([],4)))) λ_=>bd (DQ ((x.1,(x.2,[])))) λr3=>gd (BJ (AA x2) 1048576) λ_=>some ((r3,(x2,0)))) λ_=>some (((0,[]),([],4)))
def Bi (x:(AJ×(Int×BE))):Option (AJ×Int) :=
 bd (Ef (x.1,x.2.1)) λr0=>br (A7 r0 0) (λ_=>some (((0,[]),r0))) λ_=>gd (G1 x.2.1 0) λ_=>bd (Ci (x.2.2,Rx .i64 x.1.1 x.2.1)) λr1=>br (A7 r1 0) (λ_=>some (((0,[]),r1))) λ_=>bd (loop (λ(s2:(Int×(AJ×Int)))=>br (Am s2.1 (AX (AA x.1.2))) (λ_=>AT s2.1 λk3=>ix x.1.2 k3 λx4=>bd (loop (λ(s5:(Int×(AJ×Int)))=>br (G1 s5.1 0) (λ_=>AT s5.1 λk6=>ix x4 k6 λx7=>br (BN x7.1 x.2.2.1) (λ_=>some (.dn ((1,((s5.1,((0,[]),8)),()))))) λ_=>some (.nx (B7 .i64 s5.1 1,s5.2))) λ_=>some (.dn ((0,(s5,()))))) ((B7 .i64 (AX (AA x4)) 1,s2.2))) λr8=>br (neq r8.1 0) (λ_=>some (.nx (AI .i64 s2.1 1,r8.2.1.2))) λ_=>some (.dn ((1,((s2.1,r8.2.1.2),()))))) λ_=>some (.dn ((0,(s2,()))))) ((0,((0,[]),0)))) λr9=>br (neq r9.1 0) (λ_=>br (Am x.2.1 (AX (AA x.1.2))) (λ_=>AT x.2.1 λk10=>ix x.1.2 k10 λx11=>br (BN (AX (AA x11)) 2) (λ_=>some (((0,[]),5))) λ_=>AT (AX (AA x11)) λk12=>AT (AX (AA x11)) λk13=>gd (BJ k12 (AA x11)) λ_=>gd (neq k12 k13) λ_=>gd (BJ 0 k12) λ_=>gd (BJ (Ao (AA (EJ x11 0 k12)) (AA [x.2.2])) 1048576) λ_=>bd (DQ ((x.1,(x.2.1,By (EJ x11 0 k12) [x.2.2])))) λr14=>some (r14,0)) λ_=>gd (BJ (AA [x.2.2]) 1048576) λ_=>bd (DQ ((x.1,(x.2.1,[x.2.2])))) λr15=>some (r15,0)) λ_=>some r9.2.1.2
def F9 (x:(AJ×Int)):Option ((Int×(AN×((Bool×AM)×((List AD)×Int))))×Int) :=
 bd (Cq x.1) λr0=>br (A7 r0.2.2 0) (λ_=>some (((0,(([],([],([],([],0)))),((false,([],false)),([],0)))),r0.2.2))) λ_=>br (Am x.2 0) (λ_=>some (((0,(([],([],([],([],0)))),((false,([],false)),([],0)))),7))) λ_=>br (G1 x.2 12) (λ_=>some (((0,(([],([],([],([],0)))),((false,([],false)),([],0)))),7))) λ_=>br (G1 x.2 (AX (AA x.1.2))) (λ_=>some (((0,(([],([],([],([],0)))),((false,([],false)),([],0)))),4))) λ_=>AT x.2 λk1=>ix x.1.2 k1 λx2=>br (Am (AX (AA x2)) 2) (λ_=>some (((0,(([],([],([],([],0)))),((false,([],false)),([],0)))),4))) λ_=>bd (Cj x) λr3=>bd (CL ((x.1,(x.2,r3)))) λr4=>some (r4,0)
def BD (x:((AJ×((List (Int×(AN×((Bool×AM)×((List AD)×Int)))))×Int))×(AJ×(Int×Int)))):Option ((AJ×((List (Int×(AN×((Bool×AM)×((List AD)×Int)))))×Int))×Int) :=
 bd (loop (λ(s0:(Int×(List (Int×(Int×(AN×((Bool×AM)×((List AD)×Int))))))))=>br (Am s0.1 (AX (AA x.1.2.1))) (λ_=>AT s0.1 λk1=>ix x.1.2.1 k1 λx2=>some (.nx ((AI .i64 s0.1 1,HW ((λa3=>(λa4=>BN a3 a4))) s0.2 x2.1 x2)))) λ_=>some (.dn ((0,(s0,()))))) (0,[])) λr5=>bd (loop (λ(s6:(Int×(Int×((Int×((List (List BE))×((List (Int×(AN×((Bool×AM)×((List AD)×Int)))))×Int)))×(Int×((List (List BE))×((List (Int×(AN×((Bool×AM)×((List AD)×Int)))))×Int)))))))=>br (Am s6.2.1 (AX (AA x.2.1.2))) (λ_=>AT s6.2.1 λk7=>ix x.2.1.2 k7 λx8=>br (Am (AX (AA x8)) 2) (λ_=>some (.nx ((s6.1,(AI .i64 s6.2.1 1,s6.2.2))))) λ_=>br (AY (iK (ID ((λa9=>(λa10=>BN a9 a10))) (JD ((λa11=>(λa12=>BN a11 a12))) r5.2.1.2 x.2.2.2) s6.2.1))) (λ_=>bd (F9 (x.2.1,s6.2.1)) λr13=>br (A7 r13.2 0) (λ_=>some (.dn ((1,((r13.2,(s6.2.1,((0,([],([],0))),s6.2.2.2))),()))))) λ_=>gd (BJ (Ao (AA s6.2.2.2.2.2.1) (AA [r13.1])) 1048576) λ_=>some (.nx ((s6.1,(AI .i64 s6.2.1 1,(s6.2.2.1,(s6.2.2.2.1,(s6.2.2.2.2.1,(By s6.2.2.2.2.2.1 [r13.1],s6.2.2.2.2.2.2))))))))) λ_=>gd (BJ (Ao (AA s6.2.2.2.2.2.1) (AA ([O2 (ID (λa b=>BN a b) (JD (λa b=>BN a b) r5.2.1.2 x.2.2.2) s6.2.1) (0,(([],([],([],([],0)))),((false,([],false)),([],0))))]))) 1048576) λ_=>some (.nx ((s6.1,(AI .i64 s6.2.1 1,(s6.2.2.1,(s6.2.2.2.1,(s6.2.2.2.2.1,(By s6.2.2.2.2.2.1 ([O2 (ID (λa b=>BN a b) (JD (λa b=>BN a b) r5.2.1.2 x.2.2.2) s6.2.1) (0,(([],([],([],([],0)))),((false,([],false)),([],0))))]),s6.2.2.2.2.2.2))))))))) λ_=>some (.dn ((0,(s6,()))))) ((0,(0,((0,([],([],0))),(x.2.1.1,(x.2.1.2,([],x.2.2.1)))))))) λr102=>br (neq r102.1 0) (λ_=>some ((((r102.2.1.2.2.2.1,r102.2.1.2.2.2.2.1),r102.2.1.2.2.2.2.2),0))) λ_=>some ((((r102.2.1.2.2.1.1,r102.2.1.2.2.1.2.1),r102.2.1.2.2.1.2.2),r102.2.1.1))
def GA (x:((AJ×((List (Int×(AN×((Bool×AM)×((List AD)×Int)))))×Int))×Int)):Option ((AJ×((List (Int×(AN×((Bool×AM)×((List AD)×Int)))))×Int))×Int) :=
 bd (E1 x) λr0=>br (A7 r0.2 0) (λ_=>some ((((0,[]),([],0)),r0.2))) λ_=>bd (Bw r0.1) λr1=>br r1 (λ_=>some ((((0,[]),([],0)),9))) λ_=>bd (Cu r0.1) λr2=>br (AY r2) (λ_=>some ((((0,[]),([],0)),9))) λ_=>br (CE x.1.2.2 1000000) (λ_=>br (CE (AX (AA r0.1.2.1.2.2.2.1)) 0) (λ_=>some ((((0,[]),([],0)),5))) λ_=>bd (F8 (x.1.1,x.2)) λr3=>br (BN r3.2.2 0) (λ_=>br (CE (AX (AA r0.1.2.1.2.2.2.1)) 0) (λ_=>bd (Bx r0.1) λr4=>br (AY r4) (λ_=>bd (Bi ((r3.1,(AI .i64 x.2 1,(x.1.2.2,r0.1.2.1.2.2.2.1))))) λr5=>br (A7 r5.2 0) (λ_=>some ((((0,[]),([],0)),r5.2))) λ_=>bd (BD ((x.1,(r5.1,(AI .i64 x.1.2.2 1,x.2))))) λr6=>some r6) λ_=>bd (Bi ((r3.1,(x.2,(x.1.2.2,r0.1.2.1.2.2.2.1))))) λr7=>br (A7 r7.2 0) (λ_=>some ((((0,[]),([],0)),r7.2))) λ_=>bd (BD ((x.1,(r7.1,(AI .i64 x.1.2.2 1,x.2))))) λr8=>some r8) λ_=>br (A7 r3.2.2 0) (λ_=>some ((((0,[]),([],0)),r3.2.2))) λ_=>bd (BD ((x.1,(r3.1,(x.1.2.2,x.2))))) λr9=>some r9) λ_=>br (A7 r3.2.2 0) (λ_=>some ((((0,[]),([],0)),r3.2.2))) λ_=>bd (BD ((x.1,(r3.1,(x.1.2.2,x.2))))) λr10=>some r10) λ_=>bd (F8 (x.1.1,x.2)) λr11=>br (BN r11.2.2 0) (λ_=>br (CE (AX (AA r0.1.2.1.2.2.2.1)) 0) (λ_=>bd (Bx r0.1) λr12=>br (AY r12) (λ_=>bd (Bi ((r11.1,(AI .i64 x.2 1,(x.1.2.2,r0.1.2.1.2.2.2.1))))) λr13=>br (A7 r13.2 0) (λ_=>some ((((0,[]),([],0)),r13.2))) λ_=>bd (BD ((x.1,(r13.1,(AI .i64 x.1.2.2 1,x.2))))) λr14=>some r14) λ_=>bd (Bi ((r11.1,(x.2,(x.1.2.2,r0.1.2.1.2.2.2.1))))) λr15=>br (A7 r15.2 0) (λ_=>some ((((0,[]),([],0)),r15.2))) λ_=>bd (BD ((x.1,(r15.1,(AI .i64 x.1.2.2 1,x.2))))) λr16=>some r16) λ_=>br (A7 r11.2.2 0) (λ_=>some ((((0,[]),([],0)),r11.2.2))) λ_=>bd (BD ((x.1,(r11.1,(x.1.2.2,x.2))))) λr17=>some r17) λ_=>br (A7 r11.2.2 0) (λ_=>some ((((0,[]),([],0)),r11.2.2))) λ_=>bd (BD ((x.1,(r11.1,(x.1.2.2,x.2))))) λr18=>some r18
def GB (x:((AJ×((List (Int×(AN×((Bool×AM)×((List AD)×Int)))))×Int))×Int)):Option ((AJ×((List (Int×(AN×((Bool×AM)×((List AD)×Int)))))×Int))×(Bool×Int)) :=
 bd (E1 x) λr0=>br (A7 r0.2 0) (λ_=>some ((((0,[]),([],0)),(false,r0.2)))) λ_=>bd (Cu r0.1) λr1=>br (AY r1) (λ_=>some ((((0,[]),([],0)),(false,9)))) λ_=>bd (Bw r0.1) λr2=>br r2 (λ_=>bd (Jl ((x.1,(x.2,1)))) λr3=>some ((r3.1,(false,r3.2.2)))) λ_=>bd (GA x) λr4=>some ((r4.1,(BN r4.2 0,r4.2)))
def GW (x:((AJ×((List (Int×(AN×((Bool×AM)×((List AD)×Int)))))×Int))×Int)):Option (Int×Int) :=
 bd (E1 x) λr0=>br (A7 r0.2 0) (λ_=>some (0,r0.2)) λ_=>bd (Bw r0.1) λr1=>br r1 (λ_=>some (0,9)) λ_=>bd (Bx r0.1) λr2=>br r2 (λ_=>some (x.2,0)) λ_=>some (AI .i64 x.2 1,0)
def HS (x:(AJ×((List (Int×(AN×((Bool×AM)×((List AD)×Int)))))×Int))):Option ((List Int)×Int) :=
 bd (Ce x) λr0=>br (A7 r0.2 0) (λ_=>some ([],r0.2)) λ_=>bd (loop (λs1=>br (Am s1.1 (AX (AA x.1.2))) (λ_=>AT s1.1 λk2=>ix x.1.2 k2 λx3=>br (BN (AX (AA x3)) 2) (λ_=>gd (BJ (Ao (AA s1.2) (AA [s1.1])) 1048576) λ_=>some (.nx (AI .i64 s1.1 1,By s1.2 [s1.1]))) λ_=>some (.nx (AI .i64 s1.1 1,s1.2))) λ_=>some (.dn ((0,(s1,()))))) (0,[])) λr4=>some (r4.2.1.2,0)
def HT (x:(AJ×((List (Int×(AN×((Bool×AM)×((List AD)×Int)))))×Int))):Option (Int×Int) :=
 bd (HS x) λr0=>br (A7 r0.2 0) (λ_=>some (0,r0.2)) λ_=>br (BN (AX (AA r0.1)) 0) (λ_=>some (0,4)) λ_=>bd (loop (λs1=>br (Am s1.2.2.1 (AX (AA r0.1))) (λ_=>AT s1.2.2.1 λk2=>ix r0.1 k2 λx3=>bd (E1 (x,x3)) λr4=>br (A7 r4.2 0) (λ_=>some (.dn ((0,((r4.2,(s1.2.1,(s1.2.2.1,0))),()))))) λ_=>bd (Cu r4.1) λr5=>br r5 (λ_=>some (.dn ((1,((s1.1,(true,(s1.2.2.1,x3))),()))))) λ_=>some (.nx ((s1.1,(s1.2.1,(AI .i64 s1.2.2.1 1,s1.2.2.2)))))) λ_=>some (.dn ((1,(s1,()))))) ((r0.2,(false,(0,0))))) λr6=>br (neq r6.1 0) (λ_=>some (r6.2.1.2.2.2,r6.2.1.1)) λ_=>br (AY r6.2.1.2.1) (λ_=>some (0,9)) λ_=>some (r6.2.1.2.2.2,0)
def EI (x:Unit):Option Bool :=
 bd (Gz ()) λr0=>bd (LF r0) λr1=>bd (loop (λ(s2:(Bool×(Int×(Int×((List (List BE))×((List (Int×(AN×((Bool×AM)×((List AD)×Int)))))×Int))))))=>jn (γ:=(Nat×(Bool×Unit))) (λs3=>jn (γ:=(Nat×(Bool×Unit))) (λs4=>br (Am s2.2.1 3) (λ_=>some (.nx (BN r1.2 0))) λ_=>some (.nx false)) () (λs5=>br s5 (λ_=>some (.nx s5)) λ_=>some (.dn ((0,(s5,()))))) λr6=>some (.dn ((0,(r6.2.1,()))))) () (λs7=>jn (γ:=(Nat×((Bool×(Int×((List (List BE))×((List (Int×(AN×((Bool×AM)×((List AD)×Int)))))×Int))))×Unit))) (λs8=>bd (GB ((((s8.2.1,s8.2.2.1),s8.2.2.2),0))) λr9=>jn (γ:=(Nat×(Bool×Unit))) (λs10=>br (A7 r9.2.2 0) (λ_=>some (.nx true)) λ_=>some (.nx r9.2.1)) () (λs11=>br s11 (λ_=>some (.dn ((0,((false,s8.2),()))))) λ_=>some (.nx ((s8.1,(r9.1.1.1,(r9.1.1.2,r9.1.2)))))) λr12=>none) (s2.1,s2.2.2) (λs13=>some (.nx ((s13.1,(AI .i64 s2.2.1 1,s13.2))))) λr14=>some (.dn ((1,((r14.2.1.1,(s2.2.1,r14.2.1.2)),()))))) λr15=>some (.dn ((0,(s2,()))))) ((false,(0,(r1.1.1.1,(r1.1.1.2,r1.1.2)))))) λr16=>br (neq r16.1 0) (λ_=>bd (GW ((((r16.2.1.2.2.1,r16.2.1.2.2.2.1),r16.2.1.2.2.2.2),0))) λr17=>bd (GB ((((r16.2.1.2.2.1,r16.2.1.2.2.2.1),r16.2.1.2.2.2.2),0))) λr18=>jn (γ:=(Nat×(Bool×Unit))) (λs19=>br (A7 r1.2 0) (λ_=>some (.nx true)) λ_=>br (A7 r17.1 0) (λ_=>some (.nx true)) λ_=>br (A7 r17.2 0) (λ_=>some (.nx true)) λ_=>br (AY r18.2.1) (λ_=>some (.nx true)) λ_=>some (.nx (A7 r18.2.2 0))) () (λs20=>br s20 (λ_=>some false) λ_=>bd (HT r18.1) λr21=>br (BN r21.2 4) (λ_=>br (BN (AX (AA r18.1.2.1)) 0) (λ_=>br (BN r18.1.2.2 4) (λ_=>br (BN (AX (AA r18.1.1.2)) 1) (λ_=>ix r18.1.1.2 0 λx22=>br (BN (AX (AA x22)) 1) (λ_=>ix r18.1.1.2 0 λx23=>ix x23 0 λx24=>br (BN x24.1 3) (λ_=>ix r18.1.1.2 0 λx25=>ix x25 0 λx26=>br (BN (AX (AA x26.2)) 1) (λ_=>ix r18.1.1.2 0 λx27=>ix x27 0 λx28=>ix x28.2 0 λx29=>some (seq x29.1 ([(97:UInt8)]))) λ_=>some false) λ_=>some false) λ_=>some false) λ_=>some false) λ_=>some false) λ_=>some false) λ_=>some false) λr30=>none) λ_=>some r16.2.1.1
end Go.Proofs.YthpkjfabdccpdaaGreat.Pl
namespace Go.Proofs.YthpkjfabdccpdaaGreat.Pl
open Go Go.Proofs.YthpkjfabdccpdaaGreat.Sv
def JobAt (L:AJ) (n:Nat) (j:G5):Prop := ∃ r0 r1 bt k,L.2[n]? = some [r0,r1]/\j=((n:Int),EQ r1.2 r0.2 bt k)/\k<=r1.2.length+r0.2.length/\(bt=true->n+1=L.2.length)/\VL r0.2/\VL r1.2
structure VSt (s:A3):Prop where
 lev:VLev s.1
 n1:1<=s.2.2
 n2:s.2.2<=1000001
 n3:Ey s.1.2<s.2.2
 due:s.2.1.map (·.1)=BQ 0 s.1.2
 job : ∀ j∈s.2.1,∃ n,JobAt s.1 n j
theorem gn (a b:List AD) (bt:Bool) (k:Nat):(EQ a b bt k).2.1.2.2=bt:=by
 show (CI (s0 bt) (Aw a b k)).2.2=bt;rw [Fv]
theorem Oh {L:AJ} (v:VLev L) {i:Nat} {j:G5}:KO L (BQ 0 L.2) i j=false <-> ∃ n,(BQ 0 L.2)[i]? = some j.1/\JobAt L n j:=by
 constructor
 ·intro h;unfold KO at h;cases hd:(BQ 0 L.2)[i]? with
  | none=>rw [hd] at h;cases h
  | some d =>
   rw [hd] at h;simp only at h;by_cases h1:j.1=d;rotate_left
   ·rw [if_pos h1] at h;cases h
   rw [if_neg (by simp [h1])] at h;by_cases h2:j.2.2.1.2.2=true/\j.1≠(L.2.length:Int)-1
   ·rw [if_pos h2] at h;cases h
   rw [if_neg h2] at h;obtain ⟨n,hn,r0,r1,hl⟩:=HA hd;rw [Nat.zero_add] at hn;rw [hn,Int.toNat_natCast,hl] at h;simp only at h;by_cases h3:j.2.2.2.2<0\/j.2.2.2.2>((r1.2.length+r0.2.length:Nat):Int)
   ·rw [if_pos h3] at h;cases h
   rw [if_neg h3] at h;have h4:EQ r1.2 r0.2 j.2.2.1.2.2 j.2.2.2.2.toNat=j.2:=by simpa using h
   have hv:=(v.lev n _ hl).2;refine ⟨n,by rw [h1],r0,r1,j.2.2.1.2.2,j.2.2.2.2.toNat,hl,Prod.ext (by rw [h1,hn]) h4.symm,by omega,λhb => ?_,(hv r0 (by simp)).vl,(hv r1 (by simp)).vl⟩
   have h5:j.1=(L.2.length:Int)-1:=by
    by_cases h6:j.1=(L.2.length:Int)-1
    ·exact h6
    ·exact absurd ⟨hb,h6⟩ h2
   omega
 ·rintro ⟨n,hd,r0,r1,bt,k,hl,rfl,hk,hb,v0,v1⟩;unfold KO;rw [hd];simp only;rw [if_neg (by simp),gn,if_neg (λh:bt=true/\(n:Int)≠(L.2.length:Int)-1=>h.2 (by have:=hb h.1;omega)),Int.toNat_natCast,hl];simp only;rw [show (EQ r1.2 r0.2 bt k).2.2.2=(k:Int) from rfl,if_neg (by omega),Int.toNat_natCast];simp
theorem Jm {L:AJ} {due:List Int} : ∀ {js:List G5} {i:Nat},FU L due i js=none <-> ∀ k j,js[k]? = some j->KO L due (i+k) j=false
 | [],i=>by simp [FU]
 | j::js,i=>by
  unfold FU;by_cases h:KO L due i j=true
  ·rw [if_pos h];simp only [reduceCtorEq,false_iff];intro h2;have:=h2 0 j rfl;rw [Nat.add_zero,h] at this;cases this
  ·rw [if_neg h,Jm (js:=js)];constructor
   ·intro h2 k j' hk;cases k with
    | zero=>cases hk;simpa using h
    | succ k=>rw [show i+(k+1)=i+1+k by omega];exact h2 k j' hk
   ·intro h2 k j' hk;rw [show i+1+k=i+(k+1) by omega];exact h2 (k+1) j' hk
theorem Jo {s:A3}:(Dw s).2=0<->VSt s:=by
 unfold Dw;constructor
 ·intro h;by_cases h0:(ER s.1).2.2≠0
  ·rw [if_pos h0] at h;exact absurd h h0
  rw [if_neg h0] at h;have v:=Hq.1 (Decidable.not_not.1 h0);by_cases h1:s.2.2<1\/s.2.2>1000001
  ·rw [if_pos h1] at h;cases h
  rw [if_neg h1] at h;by_cases h2:s.2.2<=Ey s.1.2
  ·rw [if_pos h2] at h;cases h
  rw [if_neg h2] at h;cases hg:FU s.1 (BQ 0 s.1.2) 0 s.2.1 with
  | some i=>rw [hg] at h;cases h
  | none =>
   rw [hg] at h;simp only at h;by_cases h3:s.2.1.length<(BQ 0 s.1.2).length
   ·rw [if_pos h3] at h;cases h
   have hj:=Jm.1 hg
   have hj2 : ∀ k j,s.2.1[k]? = some j -> ∃ n,(BQ 0 s.1.2)[k]? = some j.1/\JobAt s.1 n j:=λk j hk=>by
    have:=hj k j hk;rw [Nat.zero_add] at this;exact (Oh v).1 this
   refine ⟨v,by omega,by omega,by omega,?_,λj hm => ?_⟩
   ·apply List.ext_getElem?;intro k;rw [List.getElem?_map];cases hk:s.2.1[k]? with
    | some j=>obtain ⟨n,e,_⟩:=hj2 k j hk;rw [e];rfl
    | none =>
     have:=List.getElem?_eq_none_iff.1 hk;rw [List.getElem?_eq_none (by omega)];rfl
   ·obtain ⟨k,hk⟩:=List.getElem?_of_mem hm;obtain ⟨n,_,h⟩:=hj2 k j hk;exact ⟨n,h⟩
 ·intro v;rw [if_neg (by simp [Hq.2 v.lev]),if_neg (by have:=v.n1;have:=v.n2;omega),if_neg (by have:=v.n3;omega)]
  have hg:FU s.1 (BQ 0 s.1.2) 0 s.2.1=none:=Jm.2 λk j hk=>by
   rw [Nat.zero_add];obtain ⟨n,hn⟩:=v.job j (List.mem_of_getElem? hk);exact (Oh v.lev).2 ⟨n,by rw [<- v.due,List.getElem?_map,hk];rfl,hn⟩
  rw [hg];simp only;rw [if_neg (by rw [<- v.due];simp)]
structure Sm (s:A3):Prop where
 lv:s.1.2.length<=1048576
 rs : ∀ rs∈s.1.2,rs.length<=1048576 /\ ∀ r∈rs,r.2.length<=9223372036854775807
 js:s.2.1.length<=1048576
theorem nQ {s:A3} (m:Sm s):Ce s=some (Dw s):=UN s m.lv m.rs m.js
theorem j9 {s:A3} (m:Sm s):EH s=some (Dw s):=Sl s m.lv m.rs m.js
theorem VSt.jlen {s:A3} (v:VSt s):s.2.1.length=(BQ 0 s.1.2).length:=by rw [<- v.due];simp
theorem VSt.jsmall {s:A3} (v:VSt s):s.2.1.length<=12:=by
 have:=v.jlen;have:=Fa s.1.2 0;have:=v.lev.len;omega
theorem VSt.sm {s:A3} (v:VSt s):Sm s:=⟨v.lev.small.1,v.lev.small.2,by have:=v.jsmall;omega⟩
def jr (x:Int):Nat->List Int->Option Nat
 | _,[]=>none
 | k,y::l=>if y=x then some k else jr x (k+1) l
theorem ZZ {x:Int} : ∀ {l:List Int} {k i:Nat},jr x k l=some i->k<=i/\l[i-k]? = some x
 | [],_,_,h=>by cases h
 | y::l,k,i,h=>by
  unfold jr at h;by_cases e:y=x
  ·rw [if_pos e] at h;cases h;simp [e]
  ·rw [if_neg e] at h;obtain ⟨h1,h2⟩:=ZZ h;exact ⟨by omega,by rw [show i-k=(i-(k+1))+1 by omega];simpa using h2⟩
end Go.Proofs.YthpkjfabdccpdaaGreat.Pl
namespace Go.Proofs.YthpkjfabdccpdaaGreat.Pl
open Go Go.Proofs.YthpkjfabdccpdaaGreat.Sv
def Sn (L:AJ) (j:G5):Nat:=match L.2[j.1.toNat]? with
 | some [r0,r1]=>r1.2.length+r0.2.length-j.2.2.2.2.toNat
 | _=>0
def gp (L:AJ) (j:G5):Bool:=decide ((j.2.2.2.1.length:Int)<=Bc L.1 j.1.toNat)
def V5 (L:AJ) (n:Nat):Bool:=decide (n<12/\((L.2[n]?).getD []).length<2)
theorem VSt.at {s:A3} (v:VSt s) {level:Int} {i:Nat} (h:jr level 0 (BQ 0 s.1.2)=some i) : ∃ (j:G5) (n:Nat),s.2.1[i]? = some j/\level=(n:Int)/\j.1=(n:Int)/\JobAt s.1 n j/\n<s.1.2.length:=by
 obtain ⟨_,h1⟩:=ZZ h;rw [Nat.sub_zero] at h1;rw [<- v.due,List.getElem?_map] at h1;cases hj:s.2.1[i]? with
 | none=>rw [hj] at h1;cases h1
 | some j =>
  rw [hj] at h1;simp only [Option.map_some,Option.some.injEq] at h1;obtain ⟨n,hn⟩:=v.job j (List.mem_of_getElem? hj);have hn0:=hn;obtain ⟨r0,r1,bt,k,hl,e,_⟩:=hn;have h2:j.1=(n:Int):=by rw [e]
  exact ⟨j,n,rfl,by rw [<- h1,h2],h2,hn0,(List.getElem?_eq_some_iff.1 hl).1⟩
theorem JobAt.left {L:AJ} {n:Nat} {j:G5} (h:JobAt L n j):BY j.2=some ((Sn L j:Int),0)/\BC j.2=some ((Sn L j:Int),0)/\Sn L j<=10000:=by
 obtain ⟨r0,r1,bt,k,hl,rfl,hk,_,v0,v1⟩:=h;have l0:=v0.len;have l1:=v1.len
 have e:Sn L ((n:Int),EQ r1.2 r0.2 bt k)=r1.2.length+r0.2.length-k:=by
  unfold Sn;simp only [Int.toNat_natCast,hl];show r1.2.length+r0.2.length-((k:Int)).toNat=_;rw [Int.toNat_natCast]
 rw [e];exact ⟨Ms v1 v0 bt hk,LD v1 v0 bt hk,by omega⟩
theorem V6 {L:AJ} (v:VLev L) (k:Int):Ef (L,k)=some (if k<0\/k>=12 then 7 else 0):=by
 obtain ⟨hb,hr⟩:=v.small;unfold Ef;rw [LA _ hb hr,Fx v,AC,AS,if_pos rfl,BG,Dm];by_cases h1:k<0
 ·rw [if_pos h1,if_pos (.inl h1)]
 ·rw [if_neg h1];by_cases h2:k>=12
  ·rw [if_pos h2,if_pos (.inr h2)]
  ·rw [if_neg h2,if_neg (by omega)]
theorem gq (l:List BE):Am (l.length:Int) 2=decide (l.length<2):=by
 unfold Am;rw [decide_eq_decide];omega
theorem W8 {L:AJ} (v:VLev L) {n:Nat} (hn:n<=12):DO (L,(n:Int))=some (V5 L n,if n>=12 then 7 else 0):=by
 unfold DO V5;simp only [AV,AR];rw [V6 v,AC,AS];by_cases h:n>=12
 ·rw [if_pos (show (n:Int)<0\/(n:Int)>=12 by omega),if_neg (by decide),if_pos h];simp;omega
 ·rw [if_neg (show ¬ ((n:Int)<0\/(n:Int)>=12) by omega),if_pos rfl,if_neg h,BG];have h12:n<12:=by omega
  by_cases h2:n<L.2.length
  ·have hx:L.2[n]? = some (L.2[n]'h2):=by simp
   rw [if_pos (by omega),AF,AK hx,hx,gq,Option.getD_some];simp [h12]
  ·rw [if_neg (by omega),List.getElem?_eq_none (by omega)];simp [h12]
end Go.Proofs.YthpkjfabdccpdaaGreat.Pl
namespace Go.Proofs.YthpkjfabdccpdaaGreat.Pl
open Go Go.Proofs.YthpkjfabdccpdaaGreat.Sv
end Go.Proofs.YthpkjfabdccpdaaGreat.Pl
namespace Go.Proofs.YthpkjfabdccpdaaGreat.Pl
open Go Go.Proofs.YthpkjfabdccpdaaGreat.Sv
theorem IT {α β σ S:Type} {l:List α} (c:Nat) (hc9:c<=1000) (mk:Nat->σ->S) (I:Nat->σ->Prop) (Q:β->Prop) {f:S->Option (LR S β)} {s:S} (st:σ) (h0:s=mk 0 st) (hi:I 0 st)
  (hn : ∀ k st,(k=l.length\/k=c)->k<=l.length->I k st -> ∃ r,f (mk k st)=some (.dn r)/\Q r)
  (hc : ∀ k x st,l[k]? = some x->k<c->I k st->(∃ st',f (mk k st)=some (.nx (mk (k+1) st'))/\I (k+1) st') \/ ∃ r,f (mk k st)=some (.dn r)/\Q r) : ∃ r,loop f s=some r/\Q r:=by
 refine H2 (l:=l.take c) mk (λ_ k st=>I k st/\k<=(l.take c).length) Q st h0 (by simp;omega) ⟨hi,by omega⟩ (λst h=>hn _ st (by simp;omega) (by simp;omega) h.1) (λk x m st hd hx hk h => ?_);have hk2:k<c:=by simp at hk;omega
 have hx2:l[k]? = some x:=by rw [List.getElem?_take] at hx;rw [if_pos hk2] at hx;exact hx
 rcases hc k x st hx2 hk2 h.1 with ⟨st',h1,h2⟩ | h1
 ·exact .inl ⟨st',h1,h2,by omega⟩
 ·exact .inr h1
theorem P1 {k c:Nat} (h:k<c):Am (k:Int) (c:Int)=true:=by unfold Am;simp;omega
theorem W9 {α β:Type} {l:List α} {k c:Nat} (h:k=l.length\/k=c) (hk:k<=l.length) (A B C:Option β) (e:B=C):br (Am (k:Int) (l.length:Int)) (λ_=>br (Am (k:Int) (c:Int)) (λ_=>A) λ_=>B) (λ_=>C)=C:=by
 rw [BG];by_cases h1:(k:Int)<(l.length:Int)
 ·rw [if_pos h1,BG,if_neg (by omega),e]
 ·rw [if_neg h1]
theorem P2 (l:List AD) : ∃ b,Dz l=some b/\(b=false->l.length<=30):=by
 unfold Dz;simp only [AV,AR]
 obtain ⟨r,q1,q2⟩:=IT (l:=l) (σ:=Unit) (s:=((0:Int),false)) 40 (by omega) (λk _=>((k:Int),false)) (λ_ _=>True) (λ(r:Nat×((Int×Bool)×Unit))=>r.1=1\/(r.1=0/\r.2.1.2=true))
  (f:=λs0=>br (Am s0.1 (l.length:Int)) (λ_=>br (Am s0.1 40) (λ_=>AT s0.1 λk1=>ix l k1 λx2=>br (CE (E7 x2.1:Int) 100) (λ_=>some (.dn ((0,((s0.1,true),()))))) λ_=>AT s0.1 λk3=>ix l k3 λx4=>br (CE (E7 x4.2.1:Int) 100) (λ_=>some (.dn ((0,((s0.1,true),()))))) λ_=>some (.nx (AI .i64 s0.1 1,s0.2))) λ_=>some (.dn ((1,(s0,()))))) λ_=>some (.dn ((1,(s0,())))))
  () rfl trivial (λk _ h hk _=>⟨_,(W9 (c:=40) h hk _ _ _ rfl),.inl rfl⟩) (λk x _ hx hk _=>by
   simp only;have hk2:=(List.getElem?_eq_some_iff.1 hx).1;rw [rl hk2,AP,show Am (k:Int) 40=true from P1 hk,AP,AF,AK hx,A5,AF,AK hx,A5,Ab (by omega)]
   repeat' split
   all_goals first | exact .inr ⟨_,rfl,.inr ⟨rfl,rfl⟩⟩ | exact .inl ⟨(),rfl,trivial⟩)
 rw [q1,AC,Cd];rcases q2 with q2 | ⟨q2,q3⟩
 ·rw [if_neg (show ¬ r.1=0 by omega)];exact ⟨_,rfl,λh=>by unfold CE at h;simp at h;omega⟩
 ·rw [if_pos q2,q3];exact ⟨_,rfl,λh=>by cases h⟩
theorem So (l:List BE) : ∃ b,Cm l=some b/\(b=false->l.length<=6 /\ ∀ r∈l,r.2.length<=30):=by
 unfold Cm;simp only [AV,AR]
 obtain ⟨r,q1,q2⟩:=IT (l:=l) (σ:=Unit) (s:=((0:Int),false)) 10 (by omega) (λk _=>((k:Int),false)) (λk _ => ∀ i x,i<k->l[i]? = some x->x.2.length<=30) (λ(r:Nat×((Int×Bool)×Unit))=>(r.1=1 /\ ∀ i x,i<10->l[i]? = some x->x.2.length<=30)\/(r.1=0/\r.2.1.2=true))
  (f:=λs0=>br (Am s0.1 (l.length:Int)) (λ_=>br (Am s0.1 10) (λ_=>AT s0.1 λk1=>ix l k1 λx2=>bd (Dz x2.2) λr3=>br r3 (λ_=>some (.dn ((0,((s0.1,true),()))))) λ_=>some (.nx (AI .i64 s0.1 1,s0.2))) λ_=>some (.dn ((1,(s0,()))))) λ_=>some (.dn ((1,(s0,())))))
  () rfl (λi x h=>by omega) (λk _ h hk hI=>⟨_,(W9 (c:=10) h hk _ _ _ rfl),.inl ⟨rfl,λi x hi hx=>hI i x (by have:=(List.getElem?_eq_some_iff.1 hx).1;omega) hx⟩⟩) (λk x _ hx hk hI=>by
   simp only;have hk2:=(List.getElem?_eq_some_iff.1 hx).1;obtain ⟨b,e,hb⟩:=P2 x.2;rw [rl hk2,AP,show Am (k:Int) 10=true from P1 hk,AP,AF,AK hx,e,AC,Ab (by omega)];cases b with
   | true=>exact .inr ⟨_,rfl,.inr ⟨rfl,rfl⟩⟩
   | false =>
    refine .inl ⟨(),rfl,λi y hi hy => ?_⟩;by_cases h:i=k
    ·subst h;rw [hx] at hy;cases hy;exact hb rfl
    ·exact hI i y (by omega) hy)
 rw [q1,AC,Cd];rcases q2 with ⟨q2,q3⟩ | ⟨q2,q3⟩
 ·rw [if_neg (show ¬ r.1=0 by omega)];refine ⟨_,rfl,λh => ?_⟩;have hl:l.length<=6:=by unfold CE at h;simp at h;omega
  exact ⟨hl,λr hr=>by
   obtain ⟨i,hi⟩:=List.getElem?_of_mem hr
   exact q3 i r (by have:=(List.getElem?_eq_some_iff.1 hi).1;omega) hi⟩
 ·rw [if_pos q2,q3];exact ⟨_,rfl,λh=>by cases h⟩
theorem XA (L:AJ) : ∃ b,F6 L=some b/\(b=false->L.2.length<=14 /\ ∀ rs∈L.2,rs.length<=6 /\ ∀ r∈rs,r.2.length<=30):=by
 unfold F6;simp only [AV,AR]
 obtain ⟨r,q1,q2⟩:=IT (l:=L.2) (σ:=Unit) (s:=((0:Int),false)) 20 (by omega) (λk _=>((k:Int),false)) (λk _ => ∀ i x,i<k->L.2[i]? = some x->x.length<=6 /\ ∀ r∈x,r.2.length<=30) (λ(r:Nat×((Int×Bool)×Unit))=>(r.1=1 /\ ∀ i x,i<20->L.2[i]? = some x->x.length<=6 /\ ∀ r∈x,r.2.length<=30)\/(r.1=0/\r.2.1.2=true))
  (f:=λs0=>br (Am s0.1 (L.2.length:Int)) (λ_=>br (Am s0.1 20) (λ_=>AT s0.1 λk1=>ix L.2 k1 λx2=>bd (Cm x2) λr3=>br r3 (λ_=>some (.dn ((0,((s0.1,true),()))))) λ_=>some (.nx (AI .i64 s0.1 1,s0.2))) λ_=>some (.dn ((1,(s0,()))))) λ_=>some (.dn ((1,(s0,())))))
  () rfl (λi x h=>by omega) (λk _ h hk hI=>⟨_,(W9 (c:=20) h hk _ _ _ rfl),.inl ⟨rfl,λi x hi hx=>hI i x (by have:=(List.getElem?_eq_some_iff.1 hx).1;omega) hx⟩⟩) (λk x _ hx hk hI=>by
   simp only;have hk2:=(List.getElem?_eq_some_iff.1 hx).1;obtain ⟨b,e,hb⟩:=So x;rw [rl hk2,AP,show Am (k:Int) 20=true from P1 hk,AP,AF,AK hx,e,AC,Ab (by omega)];cases b with
   | true=>exact .inr ⟨_,rfl,.inr ⟨rfl,rfl⟩⟩
   | false =>
    refine .inl ⟨(),rfl,λi y hi hy => ?_⟩;by_cases h:i=k
    ·subst h;rw [hx] at hy;cases hy;exact hb rfl
    ·exact hI i y (by omega) hy)
 rw [q1,AC,Cd];rcases q2 with ⟨q2,q3⟩ | ⟨q2,q3⟩
 ·rw [if_neg (show ¬ r.1=0 by omega)];refine ⟨_,rfl,λh => ?_⟩;have hl:L.2.length<=14:=by unfold CE at h;simp at h;omega
  exact ⟨hl,λr hr=>by
   obtain ⟨i,hi⟩:=List.getElem?_of_mem hr
   exact q3 i r (by have:=(List.getElem?_eq_some_iff.1 hi).1;omega) hi⟩
 ·rw [if_pos q2,q3];exact ⟨_,rfl,λh=>by cases h⟩
theorem V7 (l:List AD) : ∃ b,Cf l=some b:=by
 unfold Cf;simp only [AV,AR]
 obtain ⟨r,q1,q2⟩:=IT (l:=l) (σ:=Unit) (s:=((0:Int),false)) 80 (by omega) (λk _=>((k:Int),false)) (λ_ _=>True) (λ(r:Nat×((Int×Bool)×Unit))=>True)
  (f:=λs0=>br (Am s0.1 (l.length:Int)) (λ_=>br (Am s0.1 80) (λ_=>AT s0.1 λk1=>ix l k1 λx2=>br (CE (E7 x2.1:Int) 100) (λ_=>some (.dn ((0,((s0.1,true),()))))) λ_=>AT s0.1 λk3=>ix l k3 λx4=>br (CE (E7 x4.2.1:Int) 100) (λ_=>some (.dn ((0,((s0.1,true),()))))) λ_=>some (.nx (AI .i64 s0.1 1,s0.2))) λ_=>some (.dn ((1,(s0,()))))) λ_=>some (.dn ((1,(s0,())))))
  () rfl trivial (λk _ h hk _=>⟨_,(W9 (c:=80) h hk _ _ _ rfl),trivial⟩) (λk x _ hx hk _=>by
   simp only;have hk2:=(List.getElem?_eq_some_iff.1 hx).1;rw [rl hk2,AP,show Am (k:Int) 80=true from P1 hk,AP,AF,AK hx,A5,AF,AK hx,A5,Ab (by omega)]
   repeat' split
   all_goals first | exact .inr ⟨_,rfl,trivial⟩ | exact .inl ⟨(),rfl,trivial⟩)
 rw [q1,AC,Cd];split<;>exact ⟨_,rfl⟩
theorem XB (s:A3) : ∃ b,F7 s=some b/\(b=false->Sm s /\ ∀ rs∈s.1.2,∀ r∈rs,r.2.length<=30):=by
 unfold F7;simp only [AV,AR]
 obtain ⟨r,q1,q2⟩:=IT (l:=s.2.1) (σ:=Unit) (s:=((0:Int),false)) 20 (by omega) (λk _=>((k:Int),false)) (λ_ _=>True) (λ(r:Nat×((Int×Bool)×Unit))=>r.1=0\/(r.1=1/\r.2.1.2=true))
  (f:=λs0=>br (Am s0.1 (s.2.1.length:Int)) (λ_=>br (Am s0.1 20) (λ_=>AT s0.1 λk1=>ix s.2.1 k1 λx2=>bd (loop (λs3=>br (Am s3.1 (x2.2.1.1.length:Int)) (λ_=>br (Am s3.1 10) (λ_=>AT s3.1 λk4=>ix x2.2.1.1 k4 λx5=>bd (Cf x5) λr6=>br r6 (λ_=>some (.dn ((0,((s3.1,true),()))))) λ_=>some (.nx (AI .i64 s3.1 1,s3.2))) λ_=>some (.dn ((1,(s3,()))))) λ_=>some (.dn ((1,(s3,()))))) (0,s0.2)) λr7=>br (neq r7.1 0) (λ_=>some (.dn ((1,((s0.1,r7.2.1.2),()))))) λ_=>bd (Cf x2.2.2.2.1) λr8=>br r8 (λ_=>some (.dn ((1,((s0.1,true),()))))) λ_=>br (CE (x2.2.1.1.length:Int) 6) (λ_=>some (.dn ((1,((s0.1,true),()))))) λ_=>br (CE (x2.2.1.2.1.length:Int) 40) (λ_=>some (.dn ((1,((s0.1,true),()))))) λ_=>br (CE (x2.2.1.2.2.1.length:Int) 40) (λ_=>some (.dn ((1,((s0.1,true),()))))) λ_=>br (CE (x2.2.1.2.2.2.1.length:Int) 40) (λ_=>some (.dn ((1,((s0.1,true),()))))) λ_=>br (CE (E7 x2.2.2.1.2.1:Int) 200) (λ_=>some (.dn ((1,((s0.1,true),()))))) λ_=>some (.nx (AI .i64 s0.1 1,r7.2.1.2))) λ_=>some (.dn ((0,(s0,()))))) λ_=>some (.dn ((0,(s0,())))))
  () rfl trivial (λk _ h hk _=>⟨_,(W9 (c:=20) h hk _ _ _ rfl),.inl rfl⟩) (λk x _ hx hk _=>by
   simp only;have hk2:=(List.getElem?_eq_some_iff.1 hx).1;rw [rl hk2,AP,show Am (k:Int) 20=true from P1 hk,AP,AF,AK hx]
   obtain ⟨r,q1,q2⟩:=IT (l:=x.2.1.1) (σ:=Unit) (s:=((0:Int),false)) 10 (by omega) (λk _=>((k:Int),false)) (λ_ _=>True) (λ(r:Nat×((Int×Bool)×Unit))=>(r.1=1/\r.2.1.2=false)\/(r.1=0/\r.2.1.2=true))
    (f:=λs3=>br (Am s3.1 (x.2.1.1.length:Int)) (λ_=>br (Am s3.1 10) (λ_=>AT s3.1 λk4=>ix x.2.1.1 k4 λx5=>bd (Cf x5) λr6=>br r6 (λ_=>some (.dn ((0,((s3.1,true),()))))) λ_=>some (.nx (AI .i64 s3.1 1,s3.2))) λ_=>some (.dn ((1,(s3,()))))) λ_=>some (.dn ((1,(s3,())))))
    () rfl trivial (λk _ h hk _=>⟨_,(W9 (c:=10) h hk _ _ _ rfl),.inl ⟨rfl,rfl⟩⟩) (λk y _ hy hk _=>by
     simp only;have hk2:=(List.getElem?_eq_some_iff.1 hy).1;obtain ⟨b,e⟩:=V7 y;rw [rl hk2,AP,show Am (k:Int) 10=true from P1 hk,AP,AF,AK hy,e,AC,Ab (by omega)];cases b with
     | true=>exact .inr ⟨_,rfl,.inr ⟨rfl,rfl⟩⟩
     | false=>exact .inl ⟨(),rfl,trivial⟩)
   obtain ⟨b,e⟩:=V7 x.2.2.2.1;rw [q1,AC,Cd,e];rcases q2 with ⟨q2,q3⟩ | ⟨q2,q3⟩
   ·rw [if_neg (show ¬ r.1=0 by omega),AC,Gl,A5,A5,A5,A5,A5,q3,Ab (by omega)]
    repeat' split
    all_goals first | exact .inr ⟨_,rfl,.inr ⟨rfl,rfl⟩⟩ | exact .inl ⟨(),rfl,trivial⟩
   ·rw [if_pos q2,q3]
    exact .inr ⟨_,rfl,.inr ⟨rfl,rfl⟩⟩)
 rw [q1,AC,Cd];rcases q2 with q2 | ⟨q2,q3⟩
 ·rw [if_pos q2,A5];by_cases h:(s.2.1.length:Int)>14
  ·rw [if_pos h];exact ⟨_,rfl,λh=>by cases h⟩
  ·rw [if_neg h];obtain ⟨b,e,hb⟩:=XA s.1;rw [e];refine ⟨b,rfl,λh2 => ?_⟩;obtain ⟨h3,h4⟩:=hb h2;exact ⟨⟨by omega,λrs hrs=>⟨by have:=(h4 rs hrs).1;omega,λr hr=>by have:=(h4 rs hrs).2 r hr;omega⟩,by omega⟩,λrs hrs=>(h4 rs hrs).2⟩
 ·rw [if_neg (show ¬ r.1=0 by omega),q3];exact ⟨_,rfl,λh=>by cases h⟩
end Go.Proofs.YthpkjfabdccpdaaGreat.Pl
namespace Go.Proofs.YthpkjfabdccpdaaGreat.Pl
open Go Go.Proofs.YthpkjfabdccpdaaGreat.Sv
theorem fR:EI ()=some true:=by kernel_rfl
theorem fS (a:Int):BN a a=true:=by unfold BN;simp
end Go.Proofs.YthpkjfabdccpdaaGreat.Pl
namespace Go.Proofs.YthpkjfabdccpdaaGreat.Pl
open Go Go.Proofs.YthpkjfabdccpdaaGreat.Sv
theorem fT {β:Type} (k:Unit->Option β):gd true k=k ():=rfl
def Ap (l:List (List BE)) (i:Nat):List BE:=(l[i]?).getD []
def I0 (l:List (List BE)):Nat->Nat
 | 0=>0
 | k+1=>if Ap l k=[] then I0 l k else k+1
def IU (l:List (List BE)) (n:Nat):List (List BE):=l++List.replicate (n+1-l.length) []
def FV (l:List (List BE)) (n:Nat) (r:List BE):List (List BE):=(IU l n).set n r
def HU (l:List (List BE)):List (List BE):=l.take (I0 l l.length)
def Eh (L:AJ) (n:Nat) (r:List BE):AJ:=(L.1,HU (FV L.2 n r))
theorem RK (l:List (List BE)) : ∀ k,I0 l k<=k
 | 0=>Nat.le_refl _
 | k+1=>by
  unfold I0;split
  ·exact Nat.le_succ_of_le (RK l k)
  ·exact Nat.le_refl _
theorem Oi (l:List (List BE)) : ∀ {k i:Nat},I0 l k<=i->i<k->Ap l i=[]
 | 0,_,_,h=>by omega
 | k+1,i,h1,h2=>by
  unfold I0 at h1;split at h1
  ·rename_i he;by_cases hi:i=k
   ·rw [hi];exact he
   ·exact Oi l h1 (by omega)
  ·omega
theorem P3 (l:List (List BE)) : ∀ {k m:Nat},I0 l k=m+1->Ap l m≠[]
 | 0,m,h=>by cases h
 | k+1,m,h=>by
  unfold I0 at h;split at h
  ·exact P3 l h
  ·rename_i hne;have:m=k:=by omega
   rw [this];exact hne
theorem P4 (l:List (List BE)) (i:Nat):Ap (HU l) i=Ap l i:=by
 unfold HU;by_cases h:i<I0 l l.length
 ·unfold Ap;rw [List.getElem?_take,if_pos h]
 ·have h1:Ap (l.take (I0 l l.length)) i=[]:=by
   unfold Ap;rw [List.getElem?_take,if_neg h];rfl
  rw [h1];by_cases h2:i<l.length
  ·exact (Oi l (by omega) h2).symm
  ·unfold Ap;rw [List.getElem?_eq_none (by omega)];rfl
theorem UT (l:List (List BE)):(HU l).getLast? ≠ some []:=by
 have hl:(HU l).length=I0 l l.length:=by
  have:=RK l l.length;unfold HU;rw [List.length_take];omega
 cases hd:I0 l l.length with
 | zero =>
  have:HU l=[]:=List.length_eq_zero_iff.1 (by rw [hl,hd]);rw [this];simp
 | succ m =>
  have h1:=P3 l hd;rw [List.getLast?_eq_getElem?,hl,hd];intro h2;have h3:Ap (HU l) m=[]:=by unfold Ap;rw [show m=m+1-1 by omega,h2];rfl
  rw [P4] at h3;exact h1 h3
theorem Jp (l:List (List BE)) (n:Nat):(IU l n).length=max l.length (n+1):=by
 unfold IU;simp;omega
theorem Sp (l:List (List BE)) (n i:Nat):Ap (IU l n) i=Ap l i:=by
 unfold Ap IU;by_cases h:i<l.length
 ·rw [List.getElem?_append_left h]
 ·rw [List.getElem?_append_right (by omega),List.getElem?_replicate,List.getElem?_eq_none (l:=l) (by omega)];split<;>rfl
theorem Sq (l:List (List BE)) (n i:Nat) (r:List BE):Ap (FV l n r) i=if i=n then r else Ap l i:=by
 unfold FV;by_cases h:i=n
 ·rw [if_pos h,h];have:=Jp l n;unfold Ap;rw [List.getElem?_set_self (by omega)];rfl
 ·rw [if_neg h];unfold Ap;rw [List.getElem?_set_ne (λe=>h e.symm)];exact Sp l n i
theorem P5 (L:AJ) (n i:Nat) (r:List BE):Ap (Eh L n r).2 i=if i=n then r else Ap L.2 i:=by
 show Ap (HU _) i=_;rw [P4,Sq]
theorem UU (L:AJ) (n:Nat) (r:List BE):(Eh L n r).2.getLast? ≠ some []:=UT _
theorem XC (L:AJ) (n:Nat) (r:List BE):(Eh L n r).2.length<=max L.2.length (n+1):=by
 show (HU _).length<=_;unfold HU;rw [List.length_take];have:(FV L.2 n r).length=max L.2.length (n+1):=by unfold FV;rw [List.length_set,Jp]
 omega
theorem XD (l:List (List BE)):(HU l).flatten=l.flatten:=by
 have h:l=HU l++l.drop (I0 l l.length):=(List.take_append_drop _ _).symm
 have h2:(l.drop (I0 l l.length)).flatten=[]:=by
  rw [List.flatten_eq_nil_iff];intro x hx;obtain ⟨i,hi⟩:=List.getElem?_of_mem hx;rw [List.getElem?_drop] at hi;have h3:=(List.getElem?_eq_some_iff.1 hi).1;have:=Oi l (k:=l.length) (i:=I0 l l.length+i) (by omega) h3;unfold Ap at this;rw [hi] at this;exact this
 conv=>rhs;rw [h,List.flatten_append,h2,List.append_nil]
theorem Za (l:List (List BE)) (n:Nat):(IU l n).flatten=l.flatten:=by
 unfold IU;rw [List.flatten_append]
 have:(List.replicate (n+1-l.length) ([]:List BE)).flatten=[]:=by
  rw [List.flatten_eq_nil_iff];intro x hx;exact (List.mem_replicate.1 hx).2
 rw [this,List.append_nil]
theorem P6 (L:AJ) (n:Nat) (r:List BE) : ∃ p q,L.2.flatten=p++(Ap L.2 n++q)/\(Eh L n r).2.flatten=p++(r++q):=by
 have hn:n<(IU L.2 n).length:=by rw [Jp];omega
 refine ⟨((IU L.2 n).take n).flatten,((IU L.2 n).drop (n+1)).flatten,?_,?_⟩
 ·rw [<- Sp L.2 n n,<- Za L.2 n]
  have:IU L.2 n=(IU L.2 n).take n++((IU L.2 n)[n]::(IU L.2 n).drop (n+1)):=by
   rw [<- List.drop_eq_getElem_cons hn,List.take_append_drop]
  have h2:Ap (IU L.2 n) n=(IU L.2 n)[n]:=by unfold Ap;rw [List.getElem?_eq_getElem hn];rfl
  rw [h2]
  conv=>lhs;rw [this]
  rw [List.flatten_append,List.flatten_cons]
 ·show (HU (FV L.2 n r)).flatten=_;rw [XD];unfold FV;rw [List.set_eq_take_append_cons_drop,if_pos hn,List.flatten_append,List.flatten_cons]
theorem VLev.own {L:AJ} (v:VLev L) (i:Nat):(Ap L.2 i).length<=2 /\ ∀ r∈Ap L.2 i,VR (Bc L.1 i) r:=by
 unfold Ap;cases h:L.2[i]? with
 | none=>exact ⟨by simp,λr hr=>by cases hr⟩
 | some rs=>exact v.lev i rs h
theorem VLev.with' {L:AJ} (v:VLev L) {n:Nat} (hn:n<12) {r:List BE} (hl:r.length<=2) (hr : ∀ x∈r,VR (Bc L.1 n) x) (hid:((Eh L n r).2.flatten.map Vz).Nodup):VLev (Eh L n r):=by
 refine ⟨v.B1,v.B2,?_,λi rs hi => ?_,hid,UU L n r⟩
 ·have:=XC L n r;have:=v.len;omega
 ·have h1:=P5 L n i r;unfold Ap at h1;rw [hi] at h1;simp only [Option.getD_some] at h1;rw [h1];split
  ·rename_i he;rw [he];exact ⟨hl,hr⟩
  ·exact v.own i
theorem VLev.leave {L:AJ} (v:VLev L) {n:Nat} (hn:n<12):VLev (Eh L n []):=by
 refine v.with' hn (by simp) (λ_ h=>by cases h) ?_
 obtain ⟨p,q,h1,h2⟩:=P6 L n [];have:=v.ids;rw [h1] at this;rw [h2,List.nil_append];refine List.Sublist.nodup (List.Sublist.map _ ?_) this;exact List.Sublist.append (List.Sublist.refl _) (List.sublist_append_right _ _)
theorem VLev.arrive {L:AJ} (v:VLev L) {n:Nat} (hn:n<12) {x:BE} (hl:(Ap L.2 n).length<2) (hx:VR (Bc L.1 n) x) (hid : ∀ y∈L.2.flatten,y.1≠x.1):VLev (Eh L n (Ap L.2 n++[x])):=by
 refine v.with' hn (by simp;omega) (λy hy => ?_) ?_
 ·rcases List.mem_append.1 hy with hy | hy
  ·exact (v.own n).2 y hy
  ·rw [List.mem_singleton.1 hy];exact hx
 ·obtain ⟨p,q,h1,h2⟩:=P6 L n (Ap L.2 n++[x])
  have hp:(Eh L n (Ap L.2 n++[x])).2.flatten.Perm (x::L.2.flatten):=by
   rw [h1,h2,List.append_assoc];refine List.Perm.trans ?_ (List.perm_middle (l₁:=p++Ap L.2 n) (l₂:=q) (a:=x) |>.trans (by rw [List.append_assoc]));rw [List.append_assoc];exact List.Perm.refl _
  refine (hp.map Vz).nodup_iff.2 (List.nodup_cons.2 ⟨λhm => ?_,v.ids⟩);obtain ⟨y,hy,e⟩:=List.mem_map.1 hm;exact hid y hy e
theorem Sr {l:List (List BE)} {x:BE}:x∈l.flatten <-> ∃ i,x∈Ap l i:=by
 rw [List.mem_flatten];constructor
 ·rintro ⟨rs,h1,h2⟩;obtain ⟨i,hi⟩:=List.getElem?_of_mem h1;exact ⟨i,by unfold Ap;rw [hi];exact h2⟩
 ·rintro ⟨i,h⟩;unfold Ap at h;cases hi:l[i]? with
  | none=>rw [hi] at h;cases h
  | some rs=>rw [hi] at h;exact ⟨rs,List.mem_of_getElem? hi,h⟩
theorem L9 {l:List (List BE)} {x:BE} (h:x∈l.flatten):x.1<=Ey l:=by
 have one : ∀ (rs:List BE) (m:Int),m<=rs.foldl (λm r=>J5 m r.1) m /\ ∀ x∈rs,x.1<=rs.foldl (λm r=>J5 m r.1) m:=by
  intro rs
  induction rs with
  | nil=>intro m;exact ⟨by simp,λx hx=>by cases hx⟩
  | cons r rs ih =>
   intro m;obtain ⟨h1,h2⟩:=ih (J5 m r.1);rw [F5] at h1 h2;simp only [List.foldl_cons,F5] at h1 h2 ⊢;refine ⟨by omega,λx hx => ?_⟩;rcases List.mem_cons.1 hx with e | hx
   ·rw [e];omega
   ·exact h2 x hx
 have two : ∀ (ls:List (List BE)) (m:Int),m<=ls.foldl (λm rs=>rs.foldl (λm r=>J5 m r.1) m) m /\ ∀ rs∈ls,∀ x∈rs,x.1<=ls.foldl (λm rs=>rs.foldl (λm r=>J5 m r.1) m) m:=by
  intro ls
  induction ls with
  | nil=>intro m;exact ⟨by simp,λx hx=>by cases hx⟩
  | cons rs ls ih =>
   intro m;obtain ⟨h1,h2⟩:=ih (rs.foldl (λm r=>J5 m r.1) m);obtain ⟨k1,k2⟩:=one rs m;simp only [List.foldl_cons];refine ⟨by omega,λrs' hrs x hx => ?_⟩;rcases List.mem_cons.1 hrs with e | hrs
   ·subst e;have:=k2 x hx;omega
   ·exact h2 rs' hrs x hx
 obtain ⟨rs,h1,h2⟩:=List.mem_flatten.1 h;exact (two l 0).2 rs h1 x h2
end Go.Proofs.YthpkjfabdccpdaaGreat.Pl
namespace Go.Proofs.YthpkjfabdccpdaaGreat.Pl
open Go Go.Proofs.YthpkjfabdccpdaaGreat.Sv
theorem P7 {M:List (List BE)} {f:Int->Option (LR Int (Nat×(Int×Unit)))} (h0:f 0=some (.dn (0,(0,())))) (hs : ∀ k,k<M.length->f ((k+1:Nat):Int)=if Ap M k=[] then some (.nx (k:Int)) else some (.dn (0,(((k+1:Nat):Int),())))) : ∀ k,k<=M.length->DW (k+1) f (k:Int)=some (0,((I0 M k:Nat):Int),())
 | 0,_=>BZ h0
 | k+1,hk=>by
  have h:=hs k (by omega);unfold I0;by_cases he:Ap M k=[]
  ·rw [if_pos he] at h ⊢;rw [BV h];exact P7 h0 hs k (by omega)
  ·rw [if_neg he] at h ⊢;exact BZ h
theorem gr (L:List (List BE)) (n:Nat):JN (DT (max L.length (n+1)) ([]:List BE)) 0 L (AA (DT (max L.length (n+1)) ([]:List BE)))=IU L n:=by
 have h1:AA (DT (max L.length (n+1)) ([]:List BE))=max L.length (n+1):=by unfold AA DT;simp
 rw [h1];unfold JN IU DT;rw [List.take_of_length_le (by omega:L.length<=max L.length (n+1))];simp only [List.take_zero,List.nil_append,List.drop_replicate,Nat.zero_add]
 congr 2
 omega
theorem Zb (l:List (List BE)) (n:Nat) (r:List BE):lset (IU l n) n r=FV l n r:=rfl
theorem D0 {l:List (List BE)} {i:Nat} (h:i<l.length):l[i]? = some (Ap l i):=by
 unfold Ap;rw [List.getElem?_eq_getElem h];rfl
theorem V8 {β:Type} (l:List BE) (x y:Unit->Option β):br (BN (l.length:Int) 0) x y=if l=[] then x () else y ():=by
 rw [Bj];by_cases h:l=[]
 ·rw [if_pos h,if_pos (by rw [h];rfl)]
 ·rw [if_neg h,if_neg (by have:=List.length_pos_iff.2 h;omega)]
theorem P8 {L:AJ} (h1:L.2.length<=1000) {n:Nat} (hn:n<1000) (r:List BE):DQ (L,((n:Int),r))=some (Eh L n r):=by
 have hk:J5 (AX (AA L.2)) (AI .i64 (n:Int) 1)=((max L.2.length (n+1):Nat):Int):=by
  rw [Ab (by omega),F5,AV,AR];omega
 unfold DQ;simp only [hk,AF,gr,Zb];have hp:(IU L.2 n).length=max L.2.length (n+1):=Jp _ _;have hr:(FV L.2 n r).length=max L.2.length (n+1):=by unfold FV;rw [List.length_set,hp]
 rw [Bb (by omega),Ml,if_pos (by rw [AR,hp];omega),AK (D0 (by omega))]
 have hlo:=P7 (M:=FV L.2 n r) (f:=λs4=>br (CE s4 0) (λ_=>AT (B7 .i64 s4 1) λk5=>gd (Dk k5 (AA (FV L.2 n r))) λ_=>ix (FV L.2 n r) k5 λx6=>br (BN (AX (AA x6)) 0) (λ_=>some (.nx (B7 .i64 s4 1))) λ_=>some (.dn ((0,(s4,()))))) λ_=>some (.dn ((0,(s4,()))))) rfl (λk hk=>by
  have hi:B7 .i64 ((k+1:Nat):Int) 1=(k:Int):=by rw [B8 (by omega)];omega
  simp only [hi,AF];rw [A5,if_pos (by omega),Ml,if_pos (by rw [AR];omega),AK (D0 hk)]
  exact V8 _ _ _) _ (Nat.le_refl _)
 rw [AV,show AA (FV L.2 n r)=(FV L.2 n r).length from rfl];refine A8 (C8 (by omega) hlo) ?_;have hd:=RK (FV L.2 n r) (FV L.2 n r).length;simp only [AF];rw [Bb hd,UA,if_pos (by omega),gi,if_pos (by omega),UA,if_pos (by unfold Ao QY;omega)];unfold Eh HU EJ Ao QY;simp
end Go.Proofs.YthpkjfabdccpdaaGreat.Pl
namespace Go.Proofs.YthpkjfabdccpdaaGreat.Pl
open Go Go.Proofs.YthpkjfabdccpdaaGreat.Sv
def XE (d:Int) (j:G5):Bool:=BN d j.1
def E4 (js:List G5) (d:Int):Option G5:=js.find? (XE d)
def MA (js:List G5):List (Int×G5):=js.map λj=>(j.1,j)
def zJ:G5:=(0,(([],([],([],([],0)))),((false,([],false)),([],0))))
def GC (L:AJ) (d:Int):G5:=match Ap L.2 d.toNat with
 | [r0,r1]=>(d,EQ r1.2 r0.2 (decide (d=(L.2.length:Int)-1)) 0)
 | _=>zJ
def Gp (s:A3) (L:AJ) (ended d:Int):G5:=(if d=ended then none else E4 s.2.1 d).getD (GC L d)
def V9 (s:A3) (L:AJ) (next ended:Int):A3:=(L,((BQ 0 L.2).map (Gp s L ended),next))
theorem P9 (d:Int) : ∀ js:List G5,ID (λa b=>BN a b) (MA js) d=E4 js d
 | []=>rfl
 | j::js=>by
  show (bif BN d j.1 then some j else ID (λa b=>BN a b) (MA js) d)=(j::js).find? (XE d)
  rw [List.find?_cons,P9 d js];show _=match BN d j.1 with | true=>some j | false=>E4 js d
  cases BN d j.1<;>rfl
theorem QA {j:G5} : ∀ {js:List G5},j.1 ∉ js.map (·.1)->HW (λa b=>BN a b) (MA js) j.1 j=MA (js++[j])
 | [],_=>rfl
 | i::js,h=>by
  show (bif BN j.1 i.1 then (j.1,j)::MA js else (i.1,i)::HW (λa b=>BN a b) (MA js) j.1 j)=(i.1,i)::MA (js++[j])
  have h1:BN j.1 i.1=false:=by rw [DI];simp;intro e;exact h (by simp [e])
  rw [h1,cond_false,QA (λhm=>h (by simp at hm ⊢;exact .inr hm))]
theorem Oj {js:List G5} {d:Int} (h:d ∉ js.map (·.1)):E4 js d=none:=by
 unfold E4;rw [List.find?_eq_none];intro j hj;unfold XE;rw [DI];simp only [decide_eq_true_eq];intro e;exact h (by rw [e];exact List.mem_map_of_mem hj)
theorem QB {x d:Int} : ∀ {js:List G5},(js.map (·.1)).Nodup->ID (λa b=>BN a b) (JD (λa b=>BN a b) (MA js) x) d=if d=x then none else E4 js d
 | [],_=>by split<;>rfl
 | j::js,h=>by
  rw [List.map_cons,List.nodup_cons] at h;show ID (λa b=>BN a b) (bif BN x j.1 then MA js else (j.1,j)::JD (λa b=>BN a b) (MA js) x) d=_
  have hf:E4 (j::js) d=if d=j.1 then some j else E4 js d:=by
   unfold E4;rw [List.find?_cons];unfold XE;rw [DI];by_cases e:d=j.1<;>simp [e]
  rw [DI,hf];by_cases hx:x=j.1
  ·rw [show decide (x=j.1)=true by simp [hx],cond_true,P9];by_cases hd:d=x
   ·rw [if_pos hd];exact Oj (by rw [hd,hx];exact h.1)
   ·rw [if_neg hd,if_neg (by rw [<- hx];exact hd)]
  ·rw [show decide (x=j.1)=false by simp [hx],cond_false];show (bif BN d j.1 then some j else ID (λa b=>BN a b) (JD (λa b=>BN a b) (MA js) x) d)=_
   rw [QB h.2,DI];by_cases hd:d=j.1
   ·rw [show decide (d=j.1)=true by simp [hd],cond_true,if_pos hd,if_neg (by rw [hd];exact λe=>hx e.symm)]
   ·rw [show decide (d=j.1)=false by simp [hd],cond_false,if_neg hd]
theorem VR.vl' {L:AJ} (v:VLev L) {n:Nat} {r:BE} (h:r∈Ap L.2 n):VL r.2:=((v.own n).2 r h).vl
theorem XF (L:AJ) (hl:L.2.length<=1000) (n:Nat):Cj (L,(n:Int))=some (decide ((n:Int)=(L.2.length:Int)-1)):=by
 unfold Cj;simp only [AV,AR];rw [B8 (by omega),DI]
theorem Zc {L:AJ} (v:VLev L) {n:Nat} (h:(Ap L.2 n).length=2):F9 (L,(n:Int))=some (GC L n,0):=by
 have hn:n<L.2.length:=by
  by_cases h0:n<L.2.length
  ·exact h0
  ·unfold Ap at h;rw [List.getElem?_eq_none (by omega)] at h;cases h
 have hl:=v.len;obtain ⟨hb,hr⟩:=v.small;unfold F9;simp only [AV,AR];rw [LA _ hb hr,Fx v,AC,AS,if_pos rfl,BG,if_neg (by omega),Dm,if_neg (by omega),Dm,if_neg (by omega),AF,AK (D0 hn),BG,if_neg (by omega),XF L (by omega) n,AC]
 obtain ⟨r0,r1,hrr⟩ : ∃ r0 r1,Ap L.2 n=[r0,r1]:=by
  match hq:Ap L.2 n with
  | [r0,r1]=>exact ⟨r0,r1,rfl⟩
  | []=>rw [hq] at h;cases h
  | [_]=>rw [hq] at h;cases h
  | _::_::_::_=>rw [hq] at h;simp at h
 rw [Sc _ (by rw [D0 hn,hrr]) (VR.vl' v (n:=n) (by rw [hrr];simp)) (VR.vl' v (n:=n) (by rw [hrr];simp)),AC];unfold GC;rw [Int.toNat_natCast,hrr]
theorem Ok (i:Nat) (rs:List BE) (ls:List (List BE)):BQ i (rs::ls)=(if rs.length=2 then [(i:Int)] else [])++BQ (i+1) ls:=rfl
theorem Ss {s:A3} (hj:(s.2.1.map (·.1)).Nodup) (hl:s.2.1.length<=1000) {L:AJ} (v:VLev L) (next ended:Int):BD (s,(L,(next,ended)))=some (V9 s L next ended,0):=by
 have hv:=v.len;unfold BD;simp only [AV,AR]
 rw [Cs (l:=s.2.1) (σ:=List (Int×G5)) (s:=((0:Int),([]:List (Int×G5)))) (λi m=>((i:Int),m)) (λls i m => ∃ p,s.2.1=p++ls/\m=MA p) (λ_ _ _=>(0,(((s.2.1.length:Int),MA s.2.1),()))) [] rfl (by omega) ⟨[],rfl,rfl⟩ (λm h=>by
  obtain ⟨p,h1,rfl⟩:=h
  simp only;rw [re,Ai,h1,List.append_nil]) (λi x ls m hd hx hi h=>by
   obtain ⟨p,h1,rfl⟩:=h;refine ⟨MA (p++[x]),?_,⟨p++[x],by rw [h1];simp,rfl⟩,rfl⟩;simp only;rw [rl hi,AP,AF,AK hx,Az hx (by omega),QA];intro hm;rw [h1,List.map_append,List.nodup_append] at hj
   exact hj.2.2 _ hm x.1 (by simp) rfl),AC]
 simp only
 rw [Cs (l:=L.2) (σ:=List G5) (s:=((0:Int),((0:Int),(((0:Int),(([]:List (List BE)),(([]:List G5),(0:Int)))),(L.1,(L.2,(([]:List G5),next))))))) (λi js=>((0:Int),((i:Int),(((0:Int),(([]:List (List BE)),(([]:List G5),(0:Int)))),(L.1,(L.2,(js,next))))))) (λls i js=>js++(BQ i ls).map (Gp s L ended)=(BQ 0 L.2).map (Gp s L ended)) (λ_ _ _=>(0,(((0:Int),((L.2.length:Int),(((0:Int),(([]:List (List BE)),(([]:List G5),(0:Int)))),(L.1,(L.2,((BQ 0 L.2).map (Gp s L ended),next)))))),()))) [] rfl (by omega) rfl (λm h=>by
  simp only;rw [re,Ai,<- h];simp [BQ]) (λi rs ls m hd hx hi h=>by
   have ho:Ap L.2 i=rs:=by unfold Ap;rw [hx];rfl
   have h2:=(v.own i).1;rw [ho] at h2;refine ⟨m++(if rs.length=2 then [Gp s L ended i] else []),?_,?_,rfl⟩
   ·simp only;rw [rl hi,AP,AF,AK hx,BG]
    have hm:m.length<=1000:=by
     have h4:=congrArg List.length h;have h5:=Fa L.2 0;rw [List.length_append,List.length_map,List.length_map] at h4;omega
    by_cases h4:rs.length=2;rotate_left
    ·rw [if_pos (by omega),if_neg h4,List.append_nil,Az hx (by omega)]
    rw [if_neg (by omega),if_pos h4,QB hj];have hn:Gp s L ended i=(if (i:Int)=ended then none else E4 s.2.1 i).getD (GC L i):=rfl
    cases hq:(if (i:Int)=ended then none else E4 s.2.1 (i:Int)) with
    | none =>
     rw [hq,Option.getD_none] at hn;rw [hn,Zc v (by rw [ho];exact h4),Be,Gl,if_neg (show ¬ iK (none:Option G5)=true by simp [iK]),AC];simp only;rw [AS,if_pos rfl,Bb (by simp only [Ao,List.length_cons,List.length_nil];omega),Az hx (by omega)];rfl
    | some j =>
     rw [hq,Option.getD_some] at hn;rw [hn,Be,Gl,if_pos (show iK (some j)=true from rfl),Bb (by simp only [Ao,List.length_cons,List.length_nil];omega),Az hx (by omega)];rfl
   ·rw [List.append_assoc,<- h,Ok,List.map_append]
    congr 2
    split<;>rfl),AC]
 rfl
end Go.Proofs.YthpkjfabdccpdaaGreat.Pl
namespace Go.Proofs.YthpkjfabdccpdaaGreat.Pl
open Go Go.Proofs.YthpkjfabdccpdaaGreat.Sv
def pS (s:Bs):Option L0:=if s.1=true then some s.2.1 else none
theorem Asc.weak : ∀ {l:List AD} {p p':Option L0},(∀ q',p'=some q' -> ∃ q,p=some q/\C1 q q'=false)->Asc p l->Asc p' l
 | [],_,_,_,_=>trivial
 | x::l,p,p',h,⟨h1,h2⟩=>⟨λq' hq'=>by
  obtain ⟨q,e,hq⟩:=h q' hq';have h3:=h1 q e;by_cases he:q'=q
  ·rw [he];exact h3
  ·exact IN (RC hq (λe=>he e.symm)) h3,h2⟩
theorem Su : ∀ (l:List AD) (s:Bs),OW s l->Asc (pS s) (FD s l)
 | [],_,_=>trivial
 | x::l,s,⟨_,h2,h3⟩=>by
  have ih:=Su l _ h3;have ih':Asc (some x.1) (FD (true,(x.1,s.2.2)) l):=ih;unfold FD;by_cases hk:keep s x=true
  ·rw [if_pos hk];refine ⟨λq hq => ?_,ih'⟩;unfold pS at hq;by_cases h1:s.1=true
   ·rw [if_pos h1] at hq;cases hq;refine RC (h2 h1) λe => ?_;unfold keep at hk;rw [h1,e] at hk;simp at hk
   ·rw [if_neg h1] at hq;cases hq
  ·rw [if_neg hk,List.nil_append];refine ih'.weak λq' hq'=>⟨x.1,rfl,?_⟩;unfold pS at hq';by_cases h1:s.1=true
   ·rw [if_pos h1] at hq';cases hq';exact h2 h1
   ·rw [if_neg h1] at hq';cases hq'
theorem Sw : ∀ {l:List AD} {s:Bs} {x:AD},x∈FD s l->x∈l
 | y::l,s,x,h=>by
  unfold FD at h;rcases List.mem_append.1 h with h | h
  ·split at h
   ·rw [List.mem_singleton.1 h];simp
   ·cases h
  ·exact List.mem_cons_of_mem _ (Sw h)
theorem WA : ∀ {l:List AD} {s:Bs},OW s l -> ∀ x∈l,kE x=0
 | y::l,s,⟨h1,_,h3⟩,x,h=>by
  rcases List.mem_cons.1 h with e | h
  ·rw [e];exact h1
  ·exact WA h3 x h
theorem gu {a b:List AD} (va:VL a) (vb:VL b) (bt:Bool) {k:Nat} (hk:k<=a.length+b.length) (hl:a.length+b.length<=5000):VL (EQ a b bt k).2.2.1/\(EQ a b bt k).2.2.1.length<=a.length+b.length:=by
 have hr:=HQ va vb bt hk
 have h1:(FD (s0 bt) (Aw a b k)).length<=k:=by
  have:=IQ (s0 bt) (Aw a b k);rw [CV va vb hk] at this;exact this
 have h2:(EQ a b bt k).2.2.1=FD (s0 bt) (Aw a b k):=rfl;rw [h2];exact ⟨⟨by omega,λx hx=>WA hr x (Sw hx),Su _ _ hr⟩,by omega⟩
theorem XG {S β:Type} {f:S->Option (LR S β)} {r:β} (mk:Int->S) (n:Nat) {s:S} (h0:s=mk ((n:Int)-1)) (hn:n<1000000) (hs : ∀ k,k<n->f (mk (k:Int))=some (.nx (mk ((k:Int)-1)))) (he:f (mk (-1))=some (.dn r)):loop f s=some r:=by
 subst h0
 have main : ∀ k,k<=n->DW (k+1) f (mk ((k:Int)-1))=some r:=by
  intro k
  induction k with
  | zero=>intro _;exact BZ he
  | succ k ih =>
   intro hk;have:=hs k (by omega);rw [show ((k+1:Nat):Int)-1=(k:Int) by omega,BV this];exact ih (by omega)
 exact C8 (by omega) (main n (Nat.le_refl _))
theorem Sx {L:AJ} (v:VLev L) {n:Nat} (hn:n<12) {x:BE} (hx:x.2.length<=1048576) (hid : ∀ y∈L.2.flatten,y.1≠x.1) (hl:(Ap L.2 n).length<2) :
  Bi (L,((n:Int),x))=some (if kR [] (Bc L.1 n) x≠0 then ((0,[]),kR [] (Bc L.1 n) x) else (Eh L n (Ap L.2 n++[x]),0)):=by
 have hv:=v.len;unfold Bi;simp only [AV,AR];rw [V6 v,AC,if_neg (by omega),AS,if_pos rfl,Py v.B1 v.B2 (by omega),Px x _ (by omega),show G1 (n:Int) 0=true by unfold G1;simp];rw [fT,AC,AS];by_cases hk:kR [] (Bc L.1 n) x=0;rotate_left
 ·rw [if_neg hk,if_pos hk]
 rw [if_pos hk,if_neg (by simp [hk])]
 rw [Cs (l:=L.2) (σ:=Unit) (s:=((0:Int),(((0:Int),([]:List (List BE))),(0:Int)))) (λi _=>((i:Int),(((0:Int),([]:List (List BE))),(0:Int)))) (λ_ _ _=>True) (λ_ _ _=>(0,(((L.2.length:Int),(((0:Int),([]:List (List BE))),(0:Int))),()))) () rfl (by omega) trivial (λ_ _=>by
  simp only;rw [re];rfl) (λi rs ls _ hd hi hlt _=>by
   refine ⟨(),?_,trivial,rfl⟩;have ho:Ap L.2 i=rs:=by unfold Ap;rw [hi];rfl
   have h2:=(v.own i).1;rw [ho] at h2;simp only;rw [rl hlt,AP,AF,AK hi,B8 (by omega)]
   rw [XG (λk=>(k,(((0:Int),([]:List (List BE))),(0:Int)))) rs.length rfl (by omega) (λk hk=>by
    have hg:rs[k]? = some rs[k]:=List.getElem?_eq_getElem hk;have hne:rs[k].1≠x.1:=hid _ (List.mem_flatten.2 ⟨rs,List.mem_of_getElem? hi,List.getElem_mem hk⟩);simp only
    rw [Dm,if_pos (by omega),AF,AK hg,Bj,if_neg hne,B8 (by omega)]) (r:=(0,(((-1:Int),(((0:Int),([]:List (List BE))),(0:Int))),()))) rfl,AC]
   rw [Az hi (by omega)]
   rfl),AC]
 rw [Cd,if_pos rfl,BG];by_cases h3:n<L.2.length
 ·rw [if_pos (by omega),AF,AK (D0 h3),Bj,if_neg (by omega),AF,AF,Bb (Nat.le_refl _),gj,if_pos rfl,Bb (Nat.zero_le _)];have hs:EJ (Ap L.2 n) 0 (Ap L.2 n).length=Ap L.2 n:=by unfold EJ;simp
  rw [hs,Bb (by simp only [Ao,List.length_cons,List.length_nil];omega),P8 (by omega) (by omega),AC];rfl
 ·rw [if_neg (by omega)];have ho:Ap L.2 n=[]:=by unfold Ap;rw [List.getElem?_eq_none (by omega)];rfl
  rw [Bb (by simp),P8 (by omega) (by omega),AC,ho];rfl
end Go.Proofs.YthpkjfabdccpdaaGreat.Pl
namespace Go.Proofs.YthpkjfabdccpdaaGreat.Pl
open Go Go.Proofs.YthpkjfabdccpdaaGreat.Sv
def zS:A3:=((0,[]),([],0))
def O9 (j:G5):List AD:=j.2.2.2.1
def ib (s:A3) (j:G5):Nat:=if gp s.1 j=true then j.1.toNat else j.1.toNat+1
def kA (s:A3) (j:G5):AJ:=if O9 j=[] then Eh s.1 j.1.toNat [] else Eh (Eh s.1 j.1.toNat []) (ib s j) (Ap (Eh s.1 j.1.toNat []).2 (ib s j)++[(s.2.2,O9 j)])
theorem QC : ∀ (ls:List (List BE)) (i:Nat),(BQ i ls).Nodup /\ ∀ d∈BQ i ls,(i:Int)<=d
 | [],_=>⟨.nil,λ_ h=>by cases h⟩
 | rs::ls,i=>by
  obtain ⟨h1,h2⟩:=QC ls (i+1);rw [Ok];by_cases h:rs.length=2
  ·rw [if_pos h];refine ⟨List.nodup_cons.2 ⟨λhm => ?_,h1⟩,λd hd => ?_⟩
   ·have:=h2 _ hm;omega
   ·rcases List.mem_cons.1 hd with e | hd
    ·omega
    ·have:=h2 d hd;omega
  ·rw [if_neg h];exact ⟨h1,λd hd=>by have:=h2 d hd;omega⟩
theorem VSt.nodup {s:A3} (v:VSt s):(s.2.1.map (·.1)).Nodup:=by rw [v.due];exact (QC _ _).1
theorem JobAt.out {L:AJ} {n:Nat} {j:G5} (ha:JobAt L n j) (v:VLev L) (hs:(∀ r∈Ap L.2 n,r.2.length<=2000)):VL (O9 j)/\((O9 j).length:Int)<=2*Bc L.1 n/\j.1=(n:Int)/\n<12/\Ap L.2 n≠[]:=by
 obtain ⟨r0,r1,bt,k,h1,rfl,hk,_,v0,v1⟩:=ha;have ho:Ap L.2 n=[r0,r1]:=by unfold Ap;rw [h1];rfl
 have l0:=hs r0 (by rw [ho];simp);have l1:=hs r1 (by rw [ho];simp);have m0:=((v.own n).2 r0 (by rw [ho];simp)).le;have m1:=((v.own n).2 r1 (by rw [ho];simp)).le;obtain ⟨h2,h3⟩:=gu v1 v0 bt hk (by omega);have hn:=(List.getElem?_eq_some_iff.1 h1).1;have hv:=v.len;refine ⟨h2,?_,rfl,by omega,by rw [ho];simp⟩
 have h4:((O9 ((n:Int),EQ r1.2 r0.2 bt k)).length:Int)<=(r1.2.length:Int)+(r0.2.length:Int):=by
  have:(O9 ((n:Int),EQ r1.2 r0.2 bt k)).length<=r1.2.length+r0.2.length:=h3;omega
 omega
structure InstF (s:A3) (n:Nat) (j:G5):Prop where
 l1:VLev (Eh s.1 n [])
 to12:O9 j≠[]->ib s j<12
 vr:O9 j≠[]->VR (Bc s.1.1 (ib s j)) (s.2.2,O9 j)
 id : ∀ y∈(Eh s.1 n []).2.flatten,y.1≠s.2.2
 room:O9 j≠[]->(Ap (Eh s.1 n []).2 (ib s j)).length<2
 lev:VLev (kA s j)
end Go.Proofs.YthpkjfabdccpdaaGreat.Pl
namespace Go.Proofs.YthpkjfabdccpdaaGreat.Pl
open Go Go.Proofs.YthpkjfabdccpdaaGreat.Sv
end Go.Proofs.YthpkjfabdccpdaaGreat.Pl
namespace Go.Proofs.YthpkjfabdccpdaaGreat.Pl
open Go Go.Proofs.YthpkjfabdccpdaaGreat.Sv
theorem WB {ls:List (List BE)} {d:Int} (h:d∈BQ 0 ls) : ∃ (n:Nat) (r0 r1:BE),d=(n:Int)/\ls[n]? = some [r0,r1]:=by
 obtain ⟨k,hk⟩:=List.getElem?_of_mem h;obtain ⟨n,h1,r0,r1,h2⟩:=HA hk;exact ⟨n,r0,r1,by rw [h1,Nat.zero_add],h2⟩
theorem Sy {l:List (List BE)} {n:Int} (h0:0<n) (h : ∀ x∈l.flatten,x.1<n):Ey l<n:=by
 have one : ∀ (rs:List BE) (m:Int),m<n->(∀ x∈rs,x.1<n)->rs.foldl (λm r=>J5 m r.1) m<n:=by
  intro rs
  induction rs with
  | nil=>intro m hm _;exact hm
  | cons r rs ih =>
   intro m hm hr;rw [List.foldl_cons];refine ih _ ?_ λx hx=>hr x (by simp [hx]);rw [F5];have:=hr r (by simp);omega
 have two : ∀ (ls:List (List BE)) (m:Int),m<n->(∀ rs∈ls,∀ x∈rs,x.1<n)->ls.foldl (λm rs=>rs.foldl (λm r=>J5 m r.1) m) m<n:=by
  intro ls
  induction ls with
  | nil=>intro m hm _;exact hm
  | cons rs ls ih =>
   intro m hm hr;rw [List.foldl_cons];exact ih _ (one rs m hm (hr rs (by simp))) λrs' hrs=>hr rs' (by simp [hrs])
 exact two l 0 h0 λrs hrs x hx=>h x (List.mem_flatten.2 ⟨rs,hrs,hx⟩)
theorem fU {l:List (List BE)} (hl:l.getLast? ≠ some []) {n:Nat} (h1:Ap l n≠[]) (h2 : ∀ i,n<i->Ap l i=[]):l.length=n+1:=by
 have h3:n<l.length:=by
  by_cases h:n<l.length
  ·exact h
  ·unfold Ap at h1;rw [List.getElem?_eq_none (by omega)] at h1;exact absurd rfl h1
 by_cases h4:l.length=n+1
 ·exact h4
 ·exfalso;have h5:=h2 (l.length-1) (by omega);refine hl ?_;rw [List.getLast?_eq_getElem?,D0 (by omega),h5]
theorem UV {js:List G5} {d:Int} {j:G5} (h:E4 js d=some j):j∈js/\j.1=d:=by
 unfold E4 at h;have h1:=List.find?_some h;unfold XE at h1;rw [DI] at h1;exact ⟨List.mem_of_find?_eq_some h,(of_decide_eq_true h1).symm⟩
theorem Zd {L:AJ} (v:VLev L) {n:Nat} {r0 r1:BE} (h:L.2[n]? = some [r0,r1]):JobAt L n (GC L (n:Int)):=by
 have ho:Ap L.2 n=[r0,r1]:=by unfold Ap;rw [h];rfl
 refine ⟨r0,r1,decide ((n:Int)=(L.2.length:Int)-1),0,h,?_,Nat.zero_le _,λhd => ?_,VR.vl' v (n:=n) (by rw [ho];simp),VR.vl' v (n:=n) (by rw [ho];simp)⟩
 ·unfold GC;rw [Int.toNat_natCast,ho]
 ·have:=of_decide_eq_true hd;have:=(List.getElem?_eq_some_iff.1 h).1;omega
theorem Ze {s:A3} (v:VSt s) {L:AJ} (vL:VLev L) {next ended:Int} (h1:1<=next) (h2:next<=1000001) (h3 : ∀ x∈L.2.flatten,x.1<next)
  (hk : ∀ (n:Nat) (r0 r1:BE),s.1.2[n]? = some [r0,r1]->(n:Int)≠ended->(∃ q0 q1,L.2[n]? = some [q0,q1])->L.2[n]? = some [r0,r1]/\(n+1=s.1.2.length->n+1=L.2.length)):VSt (V9 s L next ended):=by
 have each : ∀ d∈BQ 0 L.2,(Gp s L ended d).1=d /\ ∃ n,JobAt L n (Gp s L ended d):=λd hd=>by
  obtain ⟨n,q0,q1,rfl,hn⟩:=WB hd;unfold Gp;cases hq:(if (n:Int)=ended then none else E4 s.2.1 (n:Int)) with
  | none =>
   rw [Option.getD_none];have hb:=Zd vL hn;refine ⟨?_,n,hb⟩;obtain ⟨_,_,_,_,_,e,_⟩:=hb;rw [e]
  | some j =>
   rw [Option.getD_some];by_cases he:(n:Int)=ended
   ·rw [if_pos he] at hq;cases hq
   rw [if_neg he] at hq;obtain ⟨hj,hj1⟩:=UV hq;refine ⟨hj1,n,?_⟩;obtain ⟨m,r0,r1,bt,k,a1,rfl,a3,a4,a5,a6⟩:=v.job j hj;have hm:m=n:=by have:(m:Int)=(n:Int):=hj1;omega
   subst hm;obtain ⟨b1,b2⟩:=hk m r0 r1 a1 he ⟨q0,q1,hn⟩;exact ⟨r0,r1,bt,k,b1,rfl,a3,λhb=>b2 (a4 hb),a5,a6⟩
 refine ⟨vL,h1,h2,Sy (by show 0<next;omega) h3,?_,λj hj => ?_⟩
 ·show ((BQ 0 L.2).map (Gp s L ended)).map (·.1)=BQ 0 L.2;rw [List.map_map]
  conv=>rhs;rw [<- List.map_id (BQ 0 L.2)]
  exact List.map_congr_left λd hd=>(each d hd).1
 ·obtain ⟨d,hd,rfl⟩:=List.mem_map.1 hj;exact (each d hd).2
theorem RL {l:List (List BE)} {n:Nat} {r0 r1:BE}:l[n]? = some [r0,r1]<->Ap l n=[r0,r1]:=by
 unfold Ap;constructor
 ·intro h;rw [h];rfl
 ·intro h;cases hn:l[n]? with
  | none=>rw [hn] at h;cases h
  | some rs=>rw [hn] at h;exact congrArg some h
end Go.Proofs.YthpkjfabdccpdaaGreat.Pl
