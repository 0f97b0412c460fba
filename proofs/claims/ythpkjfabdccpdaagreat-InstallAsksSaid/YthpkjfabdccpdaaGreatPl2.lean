/- Functions of the program and of the specification as plain functions, and laws about them. No condition. -/
import Derived.Test.YthpkjfabdccpdaaGreatPl1
import Derived.KernelRfl
set_option linter.all false
namespace Go.Proofs.YthpkjfabdccpdaaGreat.Pl
open Go Go.Proofs.YthpkjfabdccpdaaGreat.Sv
set_option linter.all false
def g_law16_wide (x:(List Entry)):Option Bool :=
 bd (loop (λs0=>br (ilt s0.1 (nti (llen x))) (λ_=>br (ilt s0.1 80) (λ_=>nat s0.1 λk1=>ix x k1 λx2=>br (igt (nti (slen x2.1)) 100) (λ_=>some (.dn ((0,((s0.1,true),()))))) λ_=>nat s0.1 λk3=>ix x k3 λx4=>br (igt (nti (slen x4.2.1)) 100) (λ_=>some (.dn ((0,((s0.1,true),()))))) λ_=>some (.nx (iadd .i64 s0.1 1,s0.2))) λ_=>some (.dn ((1,(s0,()))))) λ_=>some (.dn ((1,(s0,()))))) (0,false)) λr5=>br (neq r5.1 0) (λ_=>some r5.2.1.2) λ_=>some (igt (nti (llen x)) 70)
def g_law14_Long (x:(List Entry)):Option Bool :=
 bd (loop (λs0=>br (ilt s0.1 (nti (llen x))) (λ_=>br (ilt s0.1 40) (λ_=>nat s0.1 λk1=>ix x k1 λx2=>br (igt (nti (slen x2.1)) 100) (λ_=>some (.dn ((0,((s0.1,true),()))))) λ_=>nat s0.1 λk3=>ix x k3 λx4=>br (igt (nti (slen x4.2.1)) 100) (λ_=>some (.dn ((0,((s0.1,true),()))))) λ_=>some (.nx (iadd .i64 s0.1 1,s0.2))) λ_=>some (.dn ((1,(s0,()))))) λ_=>some (.dn ((1,(s0,()))))) (0,false)) λr5=>br (neq r5.1 0) (λ_=>some r5.2.1.2) λ_=>some (igt (nti (llen x)) 30)
def g_law15_LongRuns (x:(List Run)):Option Bool :=
 bd (loop (λs0=>br (ilt s0.1 (nti (llen x))) (λ_=>br (ilt s0.1 10) (λ_=>nat s0.1 λk1=>ix x k1 λx2=>bd (g_law14_Long x2.2) λr3=>br r3 (λ_=>some (.dn ((0,((s0.1,true),()))))) λ_=>some (.nx (iadd .i64 s0.1 1,s0.2))) λ_=>some (.dn ((1,(s0,()))))) λ_=>some (.dn ((1,(s0,()))))) (0,false)) λr4=>br (neq r4.1 0) (λ_=>some r4.2.1.2) λ_=>some (igt (nti (llen x)) 6)
def g_law15_Long (x:Levels):Option Bool :=
 bd (loop (λs0=>br (ilt s0.1 (nti (llen x.2))) (λ_=>br (ilt s0.1 20) (λ_=>nat s0.1 λk1=>ix x.2 k1 λx2=>bd (g_law15_LongRuns x2) λr3=>br r3 (λ_=>some (.dn ((0,((s0.1,true),()))))) λ_=>some (.nx (iadd .i64 s0.1 1,s0.2))) λ_=>some (.dn ((1,(s0,()))))) λ_=>some (.dn ((1,(s0,()))))) (0,false)) λr4=>br (neq r4.1 0) (λ_=>some r4.2.1.2) λ_=>some (igt (nti (llen x.2)) 14)
def g_law16_Long (x:(Levels×((List (Int×(MgState×((Bool×LsKey)×((List Entry)×Int)))))×Int))):Option Bool :=
 bd (loop (λs0=>br (ilt s0.1 (nti (llen x.2.1))) (λ_=>br (ilt s0.1 20) (λ_=>nat s0.1 λk1=>ix x.2.1 k1 λx2=>bd (loop (λs3=>br (ilt s3.1 (nti (llen x2.2.1.1))) (λ_=>br (ilt s3.1 10) (λ_=>nat s3.1 λk4=>ix x2.2.1.1 k4 λx5=>bd (g_law16_wide x5) λr6=>br r6 (λ_=>some (.dn ((0,((s3.1,true),()))))) λ_=>some (.nx (iadd .i64 s3.1 1,s3.2))) λ_=>some (.dn ((1,(s3,()))))) λ_=>some (.dn ((1,(s3,()))))) (0,s0.2)) λr7=>br (neq r7.1 0) (λ_=>some (.dn ((1,((s0.1,r7.2.1.2),()))))) λ_=>bd (g_law16_wide x2.2.2.2.1) λr8=>br r8 (λ_=>some (.dn ((1,((s0.1,true),()))))) λ_=>br (igt (nti (llen x2.2.1.1)) 6) (λ_=>some (.dn ((1,((s0.1,true),()))))) λ_=>br (igt (nti (llen x2.2.1.2.1)) 40) (λ_=>some (.dn ((1,((s0.1,true),()))))) λ_=>br (igt (nti (llen x2.2.1.2.2.1)) 40) (λ_=>some (.dn ((1,((s0.1,true),()))))) λ_=>br (igt (nti (llen x2.2.1.2.2.2.1)) 40) (λ_=>some (.dn ((1,((s0.1,true),()))))) λ_=>br (igt (nti (slen x2.2.2.1.2.1)) 200) (λ_=>some (.dn ((1,((s0.1,true),()))))) λ_=>some (.nx (iadd .i64 s0.1 1,r7.2.1.2))) λ_=>some (.dn ((0,(s0,()))))) λ_=>some (.dn ((0,(s0,()))))) (0,false)) λr9=>br (neq r9.1 0) (λ_=>br (igt (nti (llen x.2.1)) 14) (λ_=>some true) λ_=>bd (g_law15_Long x.1) λr10=>some r10) λ_=>some r9.2.1.2
def g_law16_of (x:(Int×(Bool×(List UInt8)))):Option Run :=
 bd (loop (λ(s0:(Int×Run))=>br (ilt s0.1 (nti (slen x.2.2))) (λ_=>nat (iadd .i64 s0.1 1) λk1=>nat s0.1 λk2=>gd (nle k1 (slen x.2.2)) λ_=>gd (nle k2 k1) λ_=>gd (nle (nadd (llen s0.2.2) (llen ([(ssub x.2.2 k2 k1,(([]:List UInt8),(x.2.1,iadd .i64 (iadd .i64 (imul .i64 10 x.1) s0.1) 1)))]))) 1048576) λ_=>some (.nx ((iadd .i64 s0.1 1,(s0.2.1,lapp s0.2.2 ([(ssub x.2.2 k2 k1,([],(x.2.1,iadd .i64 (iadd .i64 (imul .i64 10 x.1) s0.1) 1)))])))))) λ_=>some (.dn ((0,(s0,()))))) ((0,(x.1,[])))) λr3=>some r3.2.1.2
def g_law16_Example (x:Unit):Option Levels :=
 bd (g_law16_of ((1,(false,[(97:UInt8),(98:UInt8)])))) λr0=>bd (g_law16_of ((2,(true,[(98:UInt8)])))) λr1=>some (2,[[r0,r1]])
def g_ref16_Of (x:Levels):Option ((Levels×((List (Int×(MgState×((Bool×LsKey)×((List Entry)×Int)))))×Int))×Int) :=
 bd (g_ref15_Check x) λr0=>br (ine r0.2.2 0) (λ_=>some ((((0,[]),([],0)),r0.2.2))) λ_=>bd (g_ref16_greatest x) λr1=>bd (g_ref16_Due x) λr2=>bd (loop (λ(s3:(Int×(Int×((List (List Run))×((List (Int×(MgState×((Bool×LsKey)×((List Entry)×Int)))))×Int)))))=>br (ilt s3.1 (nti (llen r2))) (λ_=>nat s3.1 λk4=>ix r2 k4 λx5=>nat s3.1 λk6=>ix r2 k6 λx7=>bd (g_ref16_lowest (x,x7)) λr8=>bd (g_ref16_begun ((x,(x5,r8)))) λr9=>gd (nle (nadd (llen s3.2.2.2.1) (llen [r9])) 1048576) λ_=>some (.nx ((iadd .i64 s3.1 1,(s3.2.1,(s3.2.2.1,(lapp s3.2.2.2.1 [r9],s3.2.2.2.2))))))) λ_=>some (.dn ((0,(s3,()))))) ((0,(x.1,(x.2,([],iadd .i64 r1 1)))))) λr10=>some ((((r10.2.1.2.1,r10.2.1.2.2.1),r10.2.1.2.2.2),0))
def g_jobs_Find (x:((Levels×((List (Int×(MgState×((Bool×LsKey)×((List Entry)×Int)))))×Int))×Int)):Option (Int×Int) :=
 bd (g_jobs_Check x.1) λr0=>br (ine r0.2 0) (λ_=>some (0,r0.2)) λ_=>bd (loop (λs1=>br (ilt s1.2 (nti (llen x.1.2.1))) (λ_=>nat s1.2 λk2=>ix x.1.2.1 k2 λx3=>br (ieq x3.1 x.2) (λ_=>some (.dn ((0,((s1.2,s1.2),()))))) λ_=>some (.nx (s1.1,iadd .i64 s1.2 1))) λ_=>some (.dn ((1,(s1,()))))) (0,0)) λr4=>br (neq r4.1 0) (λ_=>br (ilt r4.2.1.1 0) (λ_=>some (0,4)) λ_=>some (r4.2.1.1,0)) λ_=>br (ilt (-1) 0) (λ_=>some (0,4)) λ_=>some (((-1),0))
def g_install_at (x:((Levels×((List (Int×(MgState×((Bool×LsKey)×((List Entry)×Int)))))×Int))×Int)):Option (((Levels×((List (Int×(MgState×((Bool×LsKey)×((List Entry)×Int)))))×Int))×((Int×(MgState×((Bool×LsKey)×((List Entry)×Int))))×Int))×Int) :=
 bd (g_jobs_Find x) λr0=>br (ine r0.2 0) (λ_=>some (((((0,[]),([],0)),((0,(([],([],([],([],0)))),((false,([],false)),([],0)))),0)),r0.2))) λ_=>nat r0.1 λk1=>ix x.1.2.1 k1 λx2=>bd (g_slices_Left x2.2) λr3=>some (((x.1,(x2,r3.1)),r3.2))
def g_install_look_reads (x:((Levels×((List (Int×(MgState×((Bool×LsKey)×((List Entry)×Int)))))×Int))×((Int×(MgState×((Bool×LsKey)×((List Entry)×Int))))×Int))):Option Bool :=
 some (igt x.2.2 0)
def g_levels_Size (x:(Int×Int)):Option (Int×Int) :=
 br (ilt x.1 1) (λ_=>some (0,7)) λ_=>br (igt x.1 16) (λ_=>some (0,7)) λ_=>br (ilt x.2 0) (λ_=>some (0,7)) λ_=>br (ige x.2 12) (λ_=>some (0,7)) λ_=>gd (ige x.2 0) λ_=>some (ishl .i64 x.1 x.2,0)
def g_install_look_stays (x:((Levels×((List (Int×(MgState×((Bool×LsKey)×((List Entry)×Int)))))×Int))×((Int×(MgState×((Bool×LsKey)×((List Entry)×Int))))×Int))):Option Bool :=
 bd (g_levels_Size (x.1.1.1,x.2.1.1)) λr0=>br (ieq r0.2 0) (λ_=>some (ile (nti (llen x.2.1.2.2.2.1)) r0.1)) λ_=>some false
def g_levels_in (x:(Levels×Int)):Option Int :=
 bd (g_levels_Check x.1) λr0=>br (ine r0.2.2 0) (λ_=>some r0.2.2) λ_=>br (ilt x.2 0) (λ_=>some 7) λ_=>br (ige x.2 12) (λ_=>some 7) λ_=>some 0
def g_levels_Room (x:(Levels×Int)):Option (Bool×Int) :=
 bd (g_levels_in x) λr0=>br (ine r0 0) (λ_=>some (false,r0)) λ_=>br (ilt x.2 (nti (llen x.1.2))) (λ_=>nat x.2 λk1=>ix x.1.2 k1 λx2=>some ((ilt (nti (llen x2)) 2,0))) λ_=>some (true,0)
def g_install_look_rises (x:((Levels×((List (Int×(MgState×((Bool×LsKey)×((List Entry)×Int)))))×Int))×((Int×(MgState×((Bool×LsKey)×((List Entry)×Int))))×Int))):Option Bool :=
 bd (g_levels_Room (x.1.1,iadd .i64 x.2.1.1 1)) λr0=>br (ieq r0.2 0) (λ_=>some r0.1) λ_=>some false
def g_install_look_can (x:((Levels×((List (Int×(MgState×((Bool×LsKey)×((List Entry)×Int)))))×Int))×((Int×(MgState×((Bool×LsKey)×((List Entry)×Int))))×Int))):Option Bool :=
 bd (loop (λs0=>br (ilt s0.1 3) (λ_=>nat s0.1 λk1=>br (neq k1 0) (λ_=>bd (g_install_look_reads x) λr2=>br r2 (λ_=>some (.dn ((0,((s0.1,true),()))))) λ_=>some (.nx (iadd .i64 s0.1 1,s0.2))) λ_=>br (neq k1 1) (λ_=>bd (g_install_look_stays x) λr3=>br r3 (λ_=>some (.dn ((0,((s0.1,true),()))))) λ_=>some (.nx (iadd .i64 s0.1 1,s0.2))) λ_=>gd (neq k1 2) λ_=>bd (g_install_look_rises x) λr4=>br r4 (λ_=>some (.dn ((0,((s0.1,true),()))))) λ_=>some (.nx (iadd .i64 s0.1 1,s0.2))) λ_=>some (.dn ((1,(s0,()))))) (0,false)) λr5=>br (neq r5.1 0) (λ_=>some r5.2.1.2) λ_=>some false
def g_slices_Clone_JbJob_JbJob (x:(List (Int×(MgState×((Bool×LsKey)×((List Entry)×Int)))))):Option (List (Int×(MgState×((Bool×LsKey)×((List Entry)×Int))))) :=
 gd (nle (llen x) 1048576) λ_=>some x
def g_jobs_Read (x:((Levels×((List (Int×(MgState×((Bool×LsKey)×((List Entry)×Int)))))×Int))×(Int×Int))):Option ((Levels×((List (Int×(MgState×((Bool×LsKey)×((List Entry)×Int)))))×Int))×(Int×Int)) :=
 bd (g_jobs_Check x.1) λr0=>br (ine r0.2 0) (λ_=>some ((((0,[]),([],0)),(0,r0.2)))) λ_=>br (ilt x.2.2 0) (λ_=>some ((((0,[]),([],0)),(0,7)))) λ_=>bd (g_jobs_Find (x.1,x.2.1)) λr1=>br (ine r1.2 0) (λ_=>some ((((0,[]),([],0)),(0,r1.2)))) λ_=>nat r1.1 λk2=>ix x.1.2.1 k2 λx3=>bd (g_slices_Left x3.2) λr4=>br (ieq r4.1 0) (λ_=>some ((((0,[]),([],0)),(0,9)))) λ_=>nat r1.1 λk5=>ix x.1.2.1 k5 λx6=>bd (g_slices_Step (x6.2,x.2.2)) λr7=>br (ine r7.2.2 0) (λ_=>some ((((0,[]),([],0)),(0,r7.2.2)))) λ_=>bd (g_slices_Clone_JbJob_JbJob x.1.2.1) λr8=>nat r1.1 λk9=>gd (nlt k9 (llen r8)) λ_=>ix r8 k9 λx10=>some (((x.1.1,(lset r8 k9 (x10.1,r7.1),x.1.2.2)),(r7.2.1,0)))
def g_levels_with (x:(Levels×(Int×(List Run)))):Option Levels :=
 nat (imx (nti (llen x.1.2)) (iadd .i64 x.2.1 1)) λk0=>nat (imx (nti (llen x.1.2)) (iadd .i64 x.2.1 1)) λk1=>gd (nle k1 1048576) λ_=>nat x.2.1 λk2=>gd (nlt k2 (llen (lcpy (lrep k1 ([]:List Run)) 0 x.1.2 (llen (lrep k1 ([]:List Run)))))) λ_=>ix (lcpy (lrep k1 ([]:List Run)) 0 x.1.2 (llen (lrep k1 ([]:List Run)))) k2 λx3=>bd (loop (λs4=>br (igt s4 0) (λ_=>nat (isub .i64 s4 1) λk5=>gd (nlt k5 (llen (lset (lcpy (lrep k1 ([]:List Run)) 0 x.1.2 (llen (lrep k1 ([]:List Run)))) k2 x.2.2))) λ_=>ix (lset (lcpy (lrep k1 ([]:List Run)) 0 x.1.2 (llen (lrep k1 ([]:List Run)))) k2 x.2.2) k5 λx6=>br (ieq (nti (llen x6)) 0) (λ_=>some (.nx (isub .i64 s4 1))) λ_=>some (.dn ((0,(s4,()))))) λ_=>some (.dn ((0,(s4,()))))) (nti (llen (lset (lcpy (lrep k1 ([]:List Run)) 0 x.1.2 (llen (lrep k1 ([]:List Run)))) k2 x.2.2)))) λr7=>nat r7.2.1 λk8=>gd (nle k8 (llen (lset (lcpy (lrep k1 ([]:List Run)) 0 x.1.2 (llen (lrep k1 ([]:List Run)))) k2 x.2.2))) λ_=>gd (nle 0 k8) λ_=>br (nlt 0 (llen (lset (lcpy (lrep k1 ([]:List Run)) 0 x.1.2 (llen (lrep k1 ([]:List Run)))) k2 x.2.2))) (λ_=>gd (nle (nadd 0 (nsub k8 0)) (llen (lset (lcpy (lrep k1 ([]:List Run)) 0 x.1.2 (llen (lrep k1 ([]:List Run)))) k2 x.2.2))) λ_=>some ((x.1.1,lsub (lset (lcpy (lrep k1 ([]:List Run)) 0 x.1.2 (llen (lrep k1 ([]:List Run)))) k2 x.2.2) 0 (nadd 0 (nsub k8 0))))) λ_=>some (x.1.1,[])
def g_levels_Leave (x:(Levels×Int)):Option (Levels×((List Run)×Int)) :=
 bd (g_levels_in x) λr0=>br (ine r0 0) (λ_=>some (((0,[]),([],r0)))) λ_=>br (ilt x.2 (nti (llen x.1.2))) (λ_=>nat x.2 λk1=>ix x.1.2 k1 λx2=>br (ieq (nti (llen x2)) 0) (λ_=>some (((0,[]),([],4)))) λ_=>bd (g_levels_with ((x.1,(x.2,[])))) λr3=>gd (nle (llen x2) 1048576) λ_=>some ((r3,(x2,0)))) λ_=>some (((0,[]),([],4)))
def g_levels_Arrive (x:(Levels×(Int×Run))):Option (Levels×Int) :=
 bd (g_levels_in (x.1,x.2.1)) λr0=>br (ine r0 0) (λ_=>some (((0,[]),r0))) λ_=>gd (ige x.2.1 0) λ_=>bd (g_levels_fits (x.2.2,ishl .i64 x.1.1 x.2.1)) λr1=>br (ine r1 0) (λ_=>some (((0,[]),r1))) λ_=>bd (loop (λ(s2:(Int×(Levels×Int)))=>br (ilt s2.1 (nti (llen x.1.2))) (λ_=>nat s2.1 λk3=>ix x.1.2 k3 λx4=>bd (loop (λ(s5:(Int×(Levels×Int)))=>br (ige s5.1 0) (λ_=>nat s5.1 λk6=>ix x4 k6 λx7=>br (ieq x7.1 x.2.2.1) (λ_=>some (.dn ((1,((s5.1,((0,[]),8)),()))))) λ_=>some (.nx (isub .i64 s5.1 1,s5.2))) λ_=>some (.dn ((0,(s5,()))))) ((isub .i64 (nti (llen x4)) 1,s2.2))) λr8=>br (neq r8.1 0) (λ_=>some (.nx (iadd .i64 s2.1 1,r8.2.1.2))) λ_=>some (.dn ((1,((s2.1,r8.2.1.2),()))))) λ_=>some (.dn ((0,(s2,()))))) ((0,((0,[]),0)))) λr9=>br (neq r9.1 0) (λ_=>br (ilt x.2.1 (nti (llen x.1.2))) (λ_=>nat x.2.1 λk10=>ix x.1.2 k10 λx11=>br (ieq (nti (llen x11)) 2) (λ_=>some (((0,[]),5))) λ_=>nat (nti (llen x11)) λk12=>nat (nti (llen x11)) λk13=>gd (nle k12 (llen x11)) λ_=>gd (neq k12 k13) λ_=>gd (nle 0 k12) λ_=>gd (nle (nadd (llen (lsub x11 0 k12)) (llen [x.2.2])) 1048576) λ_=>bd (g_levels_with ((x.1,(x.2.1,lapp (lsub x11 0 k12) [x.2.2])))) λr14=>some (r14,0)) λ_=>gd (nle (llen [x.2.2]) 1048576) λ_=>bd (g_levels_with ((x.1,(x.2.1,[x.2.2])))) λr15=>some (r15,0)) λ_=>some r9.2.1.2
def g_jobs_Begin (x:(Levels×Int)):Option ((Int×(MgState×((Bool×LsKey)×((List Entry)×Int))))×Int) :=
 bd (g_levels_Check x.1) λr0=>br (ine r0.2.2 0) (λ_=>some (((0,(([],([],([],([],0)))),((false,([],false)),([],0)))),r0.2.2))) λ_=>br (ilt x.2 0) (λ_=>some (((0,(([],([],([],([],0)))),((false,([],false)),([],0)))),7))) λ_=>br (ige x.2 12) (λ_=>some (((0,(([],([],([],([],0)))),((false,([],false)),([],0)))),7))) λ_=>br (ige x.2 (nti (llen x.1.2))) (λ_=>some (((0,(([],([],([],([],0)))),((false,([],false)),([],0)))),4))) λ_=>nat x.2 λk1=>ix x.1.2 k1 λx2=>br (ilt (nti (llen x2)) 2) (λ_=>some (((0,(([],([],([],([],0)))),((false,([],false)),([],0)))),4))) λ_=>bd (g_jobs_lowest x) λr3=>bd (g_jobs_begun ((x.1,(x.2,r3)))) λr4=>some (r4,0)
def g_install_with (x:((Levels×((List (Int×(MgState×((Bool×LsKey)×((List Entry)×Int)))))×Int))×(Levels×(Int×Int)))):Option ((Levels×((List (Int×(MgState×((Bool×LsKey)×((List Entry)×Int)))))×Int))×Int) :=
 bd (loop (λ(s0:(Int×(List (Int×(Int×(MgState×((Bool×LsKey)×((List Entry)×Int))))))))=>br (ilt s0.1 (nti (llen x.1.2.1))) (λ_=>nat s0.1 λk1=>ix x.1.2.1 k1 λx2=>some (.nx ((iadd .i64 s0.1 1,mput ((λa3=>(λa4=>ieq a3 a4))) s0.2 x2.1 x2)))) λ_=>some (.dn ((0,(s0,()))))) (0,[])) λr5=>bd (loop (λ(s6:(Int×(Int×((Int×((List (List Run))×((List (Int×(MgState×((Bool×LsKey)×((List Entry)×Int)))))×Int)))×(Int×((List (List Run))×((List (Int×(MgState×((Bool×LsKey)×((List Entry)×Int)))))×Int)))))))=>br (ilt s6.2.1 (nti (llen x.2.1.2))) (λ_=>nat s6.2.1 λk7=>ix x.2.1.2 k7 λx8=>br (ilt (nti (llen x8)) 2) (λ_=>some (.nx ((s6.1,(iadd .i64 s6.2.1 1,s6.2.2))))) λ_=>br (bnot (ois (mget ((λa9=>(λa10=>ieq a9 a10))) (mdel ((λa11=>(λa12=>ieq a11 a12))) r5.2.1.2 x.2.2.2) s6.2.1))) (λ_=>bd (g_jobs_Begin (x.2.1,s6.2.1)) λr13=>br (ine r13.2 0) (λ_=>some (.dn ((1,((r13.2,(s6.2.1,((0,([],([],0))),s6.2.2.2))),()))))) λ_=>gd (nle (nadd (llen s6.2.2.2.2.2.1) (llen [r13.1])) 1048576) λ_=>some (.nx ((s6.1,(iadd .i64 s6.2.1 1,(s6.2.2.1,(s6.2.2.2.1,(s6.2.2.2.2.1,(lapp s6.2.2.2.2.2.1 [r13.1],s6.2.2.2.2.2.2))))))))) λ_=>gd (nle (nadd (llen s6.2.2.2.2.2.1) (llen ([((oget (mget ((λa14=>(λa15=>ieq a14 a15))) (mdel ((λa16=>(λa17=>ieq a16 a17))) r5.2.1.2 x.2.2.2) s6.2.1) ((0,(([],([],([],([],0)))),((false,([],false)),([],0)))))).1,(((((oget (mget ((λa18=>(λa19=>ieq a18 a19))) (mdel ((λa20=>(λa21=>ieq a20 a21))) r5.2.1.2 x.2.2.2) s6.2.1) ((0,(([],([],([],([],0)))),((false,([],false)),([],0)))))).2).1).1,(((((oget (mget ((λa22=>(λa23=>ieq a22 a23))) (mdel ((λa24=>(λa25=>ieq a24 a25))) r5.2.1.2 x.2.2.2) s6.2.1) ((0,(([],([],([],([],0)))),((false,([],false)),([],0)))))).2).1).2).1,((((((oget (mget ((λa26=>(λa27=>ieq a26 a27))) (mdel ((λa28=>(λa29=>ieq a28 a29))) r5.2.1.2 x.2.2.2) s6.2.1) ((0,(([],([],([],([],0)))),((false,([],false)),([],0)))))).2).1).2).2).1,(((((((oget (mget ((λa30=>(λa31=>ieq a30 a31))) (mdel ((λa32=>(λa33=>ieq a32 a33))) r5.2.1.2 x.2.2.2) s6.2.1) ((0,(([],([],([],([],0)))),((false,([],false)),([],0)))))).2).1).2).2).2).1,((((((oget (mget ((λa34=>(λa35=>ieq a34 a35))) (mdel ((λa36=>(λa37=>ieq a36 a37))) r5.2.1.2 x.2.2.2) s6.2.1) ((0,(([],([],([],([],0)))),((false,([],false)),([],0)))))).2).1).2).2).2).2)))),((((((oget (mget ((λa38=>(λa39=>ieq a38 a39))) (mdel ((λa40=>(λa41=>ieq a40 a41))) r5.2.1.2 x.2.2.2) s6.2.1) ((0,(([],([],([],([],0)))),((false,([],false)),([],0)))))).2).2).1).1,((((((oget (mget ((λa42=>(λa43=>ieq a42 a43))) (mdel ((λa44=>(λa45=>ieq a44 a45))) r5.2.1.2 x.2.2.2) s6.2.1) ((0,(([],([],([],([],0)))),((false,([],false)),([],0)))))).2).2).1).2).1,(((((oget (mget ((λa46=>(λa47=>ieq a46 a47))) (mdel ((λa48=>(λa49=>ieq a48 a49))) r5.2.1.2 x.2.2.2) s6.2.1) ((0,(([],([],([],([],0)))),((false,([],false)),([],0)))))).2).2).1).2).2)),(((((oget (mget ((λa50=>(λa51=>ieq a50 a51))) (mdel ((λa52=>(λa53=>ieq a52 a53))) r5.2.1.2 x.2.2.2) s6.2.1) ((0,(([],([],([],([],0)))),((false,([],false)),([],0)))))).2).2).2).1,((((oget (mget ((λa54=>(λa55=>ieq a54 a55))) (mdel ((λa56=>(λa57=>ieq a56 a57))) r5.2.1.2 x.2.2.2) s6.2.1) ((0,(([],([],([],([],0)))),((false,([],false)),([],0)))))).2).2).2).2))))]))) 1048576) λ_=>some (.nx ((s6.1,(iadd .i64 s6.2.1 1,(s6.2.2.1,(s6.2.2.2.1,(s6.2.2.2.2.1,(lapp s6.2.2.2.2.2.1 ([((oget (mget ((λa58=>(λa59=>ieq a58 a59))) (mdel ((λa60=>(λa61=>ieq a60 a61))) r5.2.1.2 x.2.2.2) s6.2.1) ((0,(([],([],([],([],0)))),((false,([],false)),([],0)))))).1,(((((oget (mget ((λa62=>(λa63=>ieq a62 a63))) (mdel ((λa64=>(λa65=>ieq a64 a65))) r5.2.1.2 x.2.2.2) s6.2.1) ((0,(([],([],([],([],0)))),((false,([],false)),([],0)))))).2).1).1,(((((oget (mget ((λa66=>(λa67=>ieq a66 a67))) (mdel ((λa68=>(λa69=>ieq a68 a69))) r5.2.1.2 x.2.2.2) s6.2.1) ((0,(([],([],([],([],0)))),((false,([],false)),([],0)))))).2).1).2).1,((((((oget (mget ((λa70=>(λa71=>ieq a70 a71))) (mdel ((λa72=>(λa73=>ieq a72 a73))) r5.2.1.2 x.2.2.2) s6.2.1) ((0,(([],([],([],([],0)))),((false,([],false)),([],0)))))).2).1).2).2).1,(((((((oget (mget ((λa74=>(λa75=>ieq a74 a75))) (mdel ((λa76=>(λa77=>ieq a76 a77))) r5.2.1.2 x.2.2.2) s6.2.1) ((0,(([],([],([],([],0)))),((false,([],false)),([],0)))))).2).1).2).2).2).1,((((((oget (mget ((λa78=>(λa79=>ieq a78 a79))) (mdel ((λa80=>(λa81=>ieq a80 a81))) r5.2.1.2 x.2.2.2) s6.2.1) ((0,(([],([],([],([],0)))),((false,([],false)),([],0)))))).2).1).2).2).2).2)))),((((((oget (mget ((λa82=>(λa83=>ieq a82 a83))) (mdel ((λa84=>(λa85=>ieq a84 a85))) r5.2.1.2 x.2.2.2) s6.2.1) ((0,(([],([],([],([],0)))),((false,([],false)),([],0)))))).2).2).1).1,((((((oget (mget ((λa86=>(λa87=>ieq a86 a87))) (mdel ((λa88=>(λa89=>ieq a88 a89))) r5.2.1.2 x.2.2.2) s6.2.1) ((0,(([],([],([],([],0)))),((false,([],false)),([],0)))))).2).2).1).2).1,(((((oget (mget ((λa90=>(λa91=>ieq a90 a91))) (mdel ((λa92=>(λa93=>ieq a92 a93))) r5.2.1.2 x.2.2.2) s6.2.1) ((0,(([],([],([],([],0)))),((false,([],false)),([],0)))))).2).2).1).2).2)),(((((oget (mget ((λa94=>(λa95=>ieq a94 a95))) (mdel ((λa96=>(λa97=>ieq a96 a97))) r5.2.1.2 x.2.2.2) s6.2.1) ((0,(([],([],([],([],0)))),((false,([],false)),([],0)))))).2).2).2).1,((((oget (mget ((λa98=>(λa99=>ieq a98 a99))) (mdel ((λa100=>(λa101=>ieq a100 a101))) r5.2.1.2 x.2.2.2) s6.2.1) ((0,(([],([],([],([],0)))),((false,([],false)),([],0)))))).2).2).2).2))))]),s6.2.2.2.2.2.2))))))))) λ_=>some (.dn ((0,(s6,()))))) ((0,(0,((0,([],([],0))),(x.2.1.1,(x.2.1.2,([],x.2.2.1)))))))) λr102=>br (neq r102.1 0) (λ_=>some ((((r102.2.1.2.2.2.1,r102.2.1.2.2.2.2.1),r102.2.1.2.2.2.2.2),0))) λ_=>some ((((r102.2.1.2.2.1.1,r102.2.1.2.2.1.2.1),r102.2.1.2.2.1.2.2),r102.2.1.1))
def g_install_Install (x:((Levels×((List (Int×(MgState×((Bool×LsKey)×((List Entry)×Int)))))×Int))×Int)):Option ((Levels×((List (Int×(MgState×((Bool×LsKey)×((List Entry)×Int)))))×Int))×Int) :=
 bd (g_install_at x) λr0=>br (ine r0.2 0) (λ_=>some ((((0,[]),([],0)),r0.2))) λ_=>bd (g_install_look_reads r0.1) λr1=>br r1 (λ_=>some ((((0,[]),([],0)),9))) λ_=>bd (g_install_look_can r0.1) λr2=>br (bnot r2) (λ_=>some ((((0,[]),([],0)),9))) λ_=>br (igt x.1.2.2 1000000) (λ_=>br (igt (nti (llen r0.1.2.1.2.2.2.1)) 0) (λ_=>some ((((0,[]),([],0)),5))) λ_=>bd (g_levels_Leave (x.1.1,x.2)) λr3=>br (ieq r3.2.2 0) (λ_=>br (igt (nti (llen r0.1.2.1.2.2.2.1)) 0) (λ_=>bd (g_install_look_stays r0.1) λr4=>br (bnot r4) (λ_=>bd (g_levels_Arrive ((r3.1,(iadd .i64 x.2 1,(x.1.2.2,r0.1.2.1.2.2.2.1))))) λr5=>br (ine r5.2 0) (λ_=>some ((((0,[]),([],0)),r5.2))) λ_=>bd (g_install_with ((x.1,(r5.1,(iadd .i64 x.1.2.2 1,x.2))))) λr6=>some r6) λ_=>bd (g_levels_Arrive ((r3.1,(x.2,(x.1.2.2,r0.1.2.1.2.2.2.1))))) λr7=>br (ine r7.2 0) (λ_=>some ((((0,[]),([],0)),r7.2))) λ_=>bd (g_install_with ((x.1,(r7.1,(iadd .i64 x.1.2.2 1,x.2))))) λr8=>some r8) λ_=>br (ine r3.2.2 0) (λ_=>some ((((0,[]),([],0)),r3.2.2))) λ_=>bd (g_install_with ((x.1,(r3.1,(x.1.2.2,x.2))))) λr9=>some r9) λ_=>br (ine r3.2.2 0) (λ_=>some ((((0,[]),([],0)),r3.2.2))) λ_=>bd (g_install_with ((x.1,(r3.1,(x.1.2.2,x.2))))) λr10=>some r10) λ_=>bd (g_levels_Leave (x.1.1,x.2)) λr11=>br (ieq r11.2.2 0) (λ_=>br (igt (nti (llen r0.1.2.1.2.2.2.1)) 0) (λ_=>bd (g_install_look_stays r0.1) λr12=>br (bnot r12) (λ_=>bd (g_levels_Arrive ((r11.1,(iadd .i64 x.2 1,(x.1.2.2,r0.1.2.1.2.2.2.1))))) λr13=>br (ine r13.2 0) (λ_=>some ((((0,[]),([],0)),r13.2))) λ_=>bd (g_install_with ((x.1,(r13.1,(iadd .i64 x.1.2.2 1,x.2))))) λr14=>some r14) λ_=>bd (g_levels_Arrive ((r11.1,(x.2,(x.1.2.2,r0.1.2.1.2.2.2.1))))) λr15=>br (ine r15.2 0) (λ_=>some ((((0,[]),([],0)),r15.2))) λ_=>bd (g_install_with ((x.1,(r15.1,(iadd .i64 x.1.2.2 1,x.2))))) λr16=>some r16) λ_=>br (ine r11.2.2 0) (λ_=>some ((((0,[]),([],0)),r11.2.2))) λ_=>bd (g_install_with ((x.1,(r11.1,(x.1.2.2,x.2))))) λr17=>some r17) λ_=>br (ine r11.2.2 0) (λ_=>some ((((0,[]),([],0)),r11.2.2))) λ_=>bd (g_install_with ((x.1,(r11.1,(x.1.2.2,x.2))))) λr18=>some r18
def g_install_Step (x:((Levels×((List (Int×(MgState×((Bool×LsKey)×((List Entry)×Int)))))×Int))×Int)):Option ((Levels×((List (Int×(MgState×((Bool×LsKey)×((List Entry)×Int)))))×Int))×(Bool×Int)) :=
 bd (g_install_at x) λr0=>br (ine r0.2 0) (λ_=>some ((((0,[]),([],0)),(false,r0.2)))) λ_=>bd (g_install_look_can r0.1) λr1=>br (bnot r1) (λ_=>some ((((0,[]),([],0)),(false,9)))) λ_=>bd (g_install_look_reads r0.1) λr2=>br r2 (λ_=>bd (g_jobs_Read ((x.1,(x.2,1)))) λr3=>some ((r3.1,(false,r3.2.2)))) λ_=>bd (g_install_Install x) λr4=>some ((r4.1,(ieq r4.2 0,r4.2)))
def g_install_Target (x:((Levels×((List (Int×(MgState×((Bool×LsKey)×((List Entry)×Int)))))×Int))×Int)):Option (Int×Int) :=
 bd (g_install_at x) λr0=>br (ine r0.2 0) (λ_=>some (0,r0.2)) λ_=>bd (g_install_look_reads r0.1) λr1=>br r1 (λ_=>some (0,9)) λ_=>bd (g_install_look_stays r0.1) λr2=>br r2 (λ_=>some (x.2,0)) λ_=>some (iadd .i64 x.2 1,0)
def g_jobs_Pending (x:(Levels×((List (Int×(MgState×((Bool×LsKey)×((List Entry)×Int)))))×Int))):Option ((List Int)×Int) :=
 bd (g_jobs_Check x) λr0=>br (ine r0.2 0) (λ_=>some ([],r0.2)) λ_=>bd (loop (λs1=>br (ilt s1.1 (nti (llen x.1.2))) (λ_=>nat s1.1 λk2=>ix x.1.2 k2 λx3=>br (ieq (nti (llen x3)) 2) (λ_=>gd (nle (nadd (llen s1.2) (llen [s1.1])) 1048576) λ_=>some (.nx (iadd .i64 s1.1 1,lapp s1.2 [s1.1]))) λ_=>some (.nx (iadd .i64 s1.1 1,s1.2))) λ_=>some (.dn ((0,(s1,()))))) (0,[])) λr4=>some (r4.2.1.2,0)
def g_install_Next (x:(Levels×((List (Int×(MgState×((Bool×LsKey)×((List Entry)×Int)))))×Int))):Option (Int×Int) :=
 bd (g_jobs_Pending x) λr0=>br (ine r0.2 0) (λ_=>some (0,r0.2)) λ_=>br (ieq (nti (llen r0.1)) 0) (λ_=>some (0,4)) λ_=>bd (loop (λs1=>br (ilt s1.2.2.1 (nti (llen r0.1))) (λ_=>nat s1.2.2.1 λk2=>ix r0.1 k2 λx3=>bd (g_install_at (x,x3)) λr4=>br (ine r4.2 0) (λ_=>some (.dn ((0,((r4.2,(s1.2.1,(s1.2.2.1,0))),()))))) λ_=>bd (g_install_look_can r4.1) λr5=>br r5 (λ_=>some (.dn ((1,((s1.1,(true,(s1.2.2.1,x3))),()))))) λ_=>some (.nx ((s1.1,(s1.2.1,(iadd .i64 s1.2.2.1 1,s1.2.2.2)))))) λ_=>some (.dn ((1,(s1,()))))) ((r0.2,(false,(0,0))))) λr6=>br (neq r6.1 0) (λ_=>some (r6.2.1.2.2.2,r6.2.1.1)) λ_=>br (bnot r6.2.1.2.1) (λ_=>some (0,9)) λ_=>some (r6.2.1.2.2.2,0)
def g_law17_shown (x:Unit):Option Bool :=
 bd (g_law16_Example ()) λr0=>bd (g_ref16_Of r0) λr1=>bd (loop (λ(s2:(Bool×(Int×(Int×((List (List Run))×((List (Int×(MgState×((Bool×LsKey)×((List Entry)×Int)))))×Int))))))=>jn (γ:=(Nat×(Bool×Unit))) (λs3=>jn (γ:=(Nat×(Bool×Unit))) (λs4=>br (ilt s2.2.1 3) (λ_=>some (.nx (ieq r1.2 0))) λ_=>some (.nx false)) () (λs5=>br s5 (λ_=>some (.nx s5)) λ_=>some (.dn ((0,(s5,()))))) λr6=>some (.dn ((0,(r6.2.1,()))))) () (λs7=>jn (γ:=(Nat×((Bool×(Int×((List (List Run))×((List (Int×(MgState×((Bool×LsKey)×((List Entry)×Int)))))×Int))))×Unit))) (λs8=>bd (g_install_Step ((((s8.2.1,s8.2.2.1),s8.2.2.2),0))) λr9=>jn (γ:=(Nat×(Bool×Unit))) (λs10=>br (ine r9.2.2 0) (λ_=>some (.nx true)) λ_=>some (.nx r9.2.1)) () (λs11=>br s11 (λ_=>some (.dn ((0,((false,s8.2),()))))) λ_=>some (.nx ((s8.1,(r9.1.1.1,(r9.1.1.2,r9.1.2)))))) λr12=>none) (s2.1,s2.2.2) (λs13=>some (.nx ((s13.1,(iadd .i64 s2.2.1 1,s13.2))))) λr14=>some (.dn ((1,((r14.2.1.1,(s2.2.1,r14.2.1.2)),()))))) λr15=>some (.dn ((0,(s2,()))))) ((false,(0,(r1.1.1.1,(r1.1.1.2,r1.1.2)))))) λr16=>br (neq r16.1 0) (λ_=>bd (g_install_Target ((((r16.2.1.2.2.1,r16.2.1.2.2.2.1),r16.2.1.2.2.2.2),0))) λr17=>bd (g_install_Step ((((r16.2.1.2.2.1,r16.2.1.2.2.2.1),r16.2.1.2.2.2.2),0))) λr18=>jn (γ:=(Nat×(Bool×Unit))) (λs19=>br (ine r1.2 0) (λ_=>some (.nx true)) λ_=>br (ine r17.1 0) (λ_=>some (.nx true)) λ_=>br (ine r17.2 0) (λ_=>some (.nx true)) λ_=>br (bnot r18.2.1) (λ_=>some (.nx true)) λ_=>some (.nx (ine r18.2.2 0))) () (λs20=>br s20 (λ_=>some false) λ_=>bd (g_install_Next r18.1) λr21=>br (ieq r21.2 4) (λ_=>br (ieq (nti (llen r18.1.2.1)) 0) (λ_=>br (ieq r18.1.2.2 4) (λ_=>br (ieq (nti (llen r18.1.1.2)) 1) (λ_=>ix r18.1.1.2 0 λx22=>br (ieq (nti (llen x22)) 1) (λ_=>ix r18.1.1.2 0 λx23=>ix x23 0 λx24=>br (ieq x24.1 3) (λ_=>ix r18.1.1.2 0 λx25=>ix x25 0 λx26=>br (ieq (nti (llen x26.2)) 1) (λ_=>ix r18.1.1.2 0 λx27=>ix x27 0 λx28=>ix x28.2 0 λx29=>some (seq x29.1 ([(97:UInt8)]))) λ_=>some false) λ_=>some false) λ_=>some false) λ_=>some false) λ_=>some false) λ_=>some false) λ_=>some false) λr30=>none) λ_=>some r16.2.1.1
def g_install_Can (x:((Levels×((List (Int×(MgState×((Bool×LsKey)×((List Entry)×Int)))))×Int))×Int)):Option (Bool×Int) :=
 bd (g_install_at x) λr0=>br (ine r0.2 0) (λ_=>some (false,r0.2)) λ_=>bd (g_install_look_can r0.1) λr1=>some (r1,0)
def g_ref15_Size (x:(Int×Int)):Option (Int×Int) :=
 br (ilt x.1 1) (λ_=>some (0,7)) λ_=>br (igt x.1 16) (λ_=>some (0,7)) λ_=>br (ilt x.2 0) (λ_=>some (0,7)) λ_=>br (ige x.2 12) (λ_=>some (0,7)) λ_=>bd (g_ref15_size x) λr0=>some (r0,0)
def g_ref17_small (x:((Levels×((List (Int×(MgState×((Bool×LsKey)×((List Entry)×Int)))))×Int))×(Int×(MgState×((Bool×LsKey)×((List Entry)×Int)))))):Option Bool :=
 bd (g_ref15_Size (x.1.1.1,x.2.1)) λr0=>some (ile (nti (llen x.2.2.2.2.1)) r0.1)
def g_ref17_room (x:((Levels×((List (Int×(MgState×((Bool×LsKey)×((List Entry)×Int)))))×Int))×Int)):Option Bool :=
 br (ilt (iadd .i64 x.2 1) 12) (λ_=>br (ige (iadd .i64 x.2 1) (nti (llen x.1.1.2))) (λ_=>some true) λ_=>nat (iadd .i64 x.2 1) λk0=>ix x.1.1.2 k0 λx1=>some (ilt (nti (llen x1)) 2)) λ_=>some false
def g_ref17_Can (x:((Levels×((List (Int×(MgState×((Bool×LsKey)×((List Entry)×Int)))))×Int))×Int)):Option (Bool×Int) :=
 bd (g_ref16_Left x) λr0=>br (ine r0.2 0) (λ_=>some (false,r0.2)) λ_=>bd (g_ref16_Find x) λr1=>br (igt r0.1 0) (λ_=>some (true,0)) λ_=>nat r1.1 λk2=>ix x.1.2.1 k2 λx3=>bd (g_ref17_small (x.1,x3)) λr4=>br r4 (λ_=>some (true,0)) λ_=>bd (g_ref17_room x) λr5=>some (r5,0)
def g_ref17_Target (x:((Levels×((List (Int×(MgState×((Bool×LsKey)×((List Entry)×Int)))))×Int))×Int)):Option (Int×Int) :=
 bd (g_ref16_Left x) λr0=>br (ieq r0.2 0) (λ_=>br (igt r0.1 0) (λ_=>some (0,9)) λ_=>br (ine r0.2 0) (λ_=>some (0,r0.2)) λ_=>bd (g_ref16_Find x) λr1=>nat r1.1 λk2=>ix x.1.2.1 k2 λx3=>bd (g_ref17_small (x.1,x3)) λr4=>br r4 (λ_=>some (x.2,0)) λ_=>some (iadd .i64 x.2 1,0)) λ_=>br (ine r0.2 0) (λ_=>some (0,r0.2)) λ_=>bd (g_ref16_Find x) λr5=>nat r5.1 λk6=>ix x.1.2.1 k6 λx7=>bd (g_ref17_small (x.1,x7)) λr8=>br r8 (λ_=>some (x.2,0)) λ_=>some (iadd .i64 x.2 1,0)
def g_ref17_Next (x:(Levels×((List (Int×(MgState×((Bool×LsKey)×((List Entry)×Int)))))×Int))):Option (Int×Int) :=
 bd (g_ref16_Pending x) λr0=>br (ine r0.2 0) (λ_=>some (0,r0.2)) λ_=>br (ieq (nti (llen r0.1)) 0) (λ_=>some (0,4)) λ_=>bd (loop (λs1=>br (ilt s1.2.2 (nti (llen r0.1))) (λ_=>nat s1.2.2 λk2=>ix r0.1 k2 λx3=>bd (g_ref17_Can (x,x3)) λr4=>br r4.1 (λ_=>nat s1.2.2 λk5=>ix r0.1 k5 λx6=>some (.dn ((0,((0,(x6,s1.2.2)),()))))) λ_=>some (.nx ((s1.1,(s1.2.1,iadd .i64 s1.2.2 1))))) λ_=>some (.dn ((1,(s1,()))))) ((0,(0,0)))) λr7=>br (neq r7.1 0) (λ_=>some (r7.2.1.2.1,r7.2.1.1)) λ_=>some (0,9)
def g_law17_InstallAsks (x:((Levels×((List (Int×(MgState×((Bool×LsKey)×((List Entry)×Int)))))×Int))×Int)):Option Bool :=
 bd (g_law16_Long x.1) λr0=>br r0 (λ_=>bd (g_law17_shown ()) λr1=>some r1) λ_=>bd (g_install_Can x) λr2=>bd (g_ref17_Can x) λr3=>bd (g_install_Target x) λr4=>bd (g_ref17_Target x) λr5=>br (bnot (beq r2.1 r3.1)) (λ_=>some false) λ_=>br (ine r2.2 r3.2) (λ_=>some false) λ_=>br (ine r4.1 r5.1) (λ_=>some false) λ_=>br (ine r4.2 r5.2) (λ_=>some false) λ_=>bd (g_install_Next x.1) λr6=>bd (g_ref17_Next x.1) λr7=>br (ieq r6.1 r7.1) (λ_=>br (ieq r6.2 r7.2) (λ_=>bd (g_law17_shown ()) λr8=>some r8) λ_=>some false) λ_=>some false
end Go.Proofs.YthpkjfabdccpdaaGreat.Pl
namespace Go.Proofs.YthpkjfabdccpdaaGreat.Pl
open Go Go.Proofs.YthpkjfabdccpdaaGreat.Sv
def JobAt (L:Levels) (n:Nat) (j:Job):Prop := ∃ r0 r1 bt k,L.2[n]? = some [r0,r1]∧j=((n:Int),SsT r1.2 r0.2 bt k)∧k≤r1.2.length+r0.2.length∧(bt=true→n+1=L.2.length)∧VL r0.2∧VL r1.2
structure VSt (s:JbState):Prop where
 lev:VLev s.1
 n1:1≤s.2.2
 n2:s.2.2≤1000001
 n3:greatestL s.1.2<s.2.2
 due:s.2.1.map (·.1)=dueGo 0 s.1.2
 job : ∀ j∈s.2.1,∃ n,JobAt s.1 n j
theorem SsT_bt (a b:List Entry) (bt:Bool) (k:Nat):(SsT a b bt k).2.1.2.2=bt:=by
 show (lastS (s0 bt) (mlist a b k)).2.2=bt
 rw [lastS_bt]
theorem jobE_false {L:Levels} (v:VLev L) {i:Nat} {j:Job}:jobE L (dueGo 0 L.2) i j=false ↔ ∃ n,(dueGo 0 L.2)[i]? = some j.1∧JobAt L n j:=by
 constructor
 ·intro h
  unfold jobE at h
  cases hd:(dueGo 0 L.2)[i]? with
  | none=>rw [hd] at h;cases h
  | some d =>
   rw [hd] at h
   simp only at h
   by_cases h1:j.1=d
   rotate_left
   ·rw [if_pos h1] at h;cases h
   rw [if_neg (by simp [h1])] at h
   by_cases h2:j.2.2.1.2.2=true∧j.1≠(L.2.length:Int)-1
   ·rw [if_pos h2] at h;cases h
   rw [if_neg h2] at h
   obtain ⟨n,hn,r0,r1,hl⟩:=dueGo_get hd
   rw [Nat.zero_add] at hn
   rw [hn,Int.toNat_natCast,hl] at h
   simp only at h
   by_cases h3:j.2.2.2.2<0∨j.2.2.2.2>((r1.2.length+r0.2.length:Nat):Int)
   ·rw [if_pos h3] at h;cases h
   rw [if_neg h3] at h
   have h4:SsT r1.2 r0.2 j.2.2.1.2.2 j.2.2.2.2.toNat=j.2:=by simpa using h
   have hv:=(v.lev n _ hl).2
   refine ⟨n,by rw [h1],r0,r1,j.2.2.1.2.2,j.2.2.2.2.toNat,hl,Prod.ext (by rw [h1,hn]) h4.symm,by omega,λhb => ?_,(hv r0 (by simp)).vl,(hv r1 (by simp)).vl⟩
   have h5:j.1=(L.2.length:Int)-1:=by
    by_cases h6:j.1=(L.2.length:Int)-1
    ·exact h6
    ·exact absurd ⟨hb,h6⟩ h2
   omega
 ·rintro ⟨n,hd,r0,r1,bt,k,hl,rfl,hk,hb,v0,v1⟩
  unfold jobE
  rw [hd]
  simp only
  rw [if_neg (by simp),SsT_bt,if_neg (λh:bt=true∧(n:Int)≠(L.2.length:Int)-1=>h.2 (by have:=hb h.1;omega)),Int.toNat_natCast,hl]
  simp only
  rw [show (SsT r1.2 r0.2 bt k).2.2.2=(k:Int) from rfl,if_neg (by omega),Int.toNat_natCast]
  simp
theorem jobsGo_none {L:Levels} {due:List Int} : ∀ {js:List Job} {i:Nat},jobsGo L due i js=none ↔ ∀ k j,js[k]? = some j→jobE L due (i+k) j=false
 | [],i=>by simp [jobsGo]
 | j::js,i=>by
  unfold jobsGo
  by_cases h:jobE L due i j=true
  ·rw [if_pos h]
   simp only [reduceCtorEq,false_iff]
   intro h2
   have:=h2 0 j rfl
   rw [Nat.add_zero,h] at this
   cases this
  ·rw [if_neg h,jobsGo_none (js:=js)]
   constructor
   ·intro h2 k j' hk
    cases k with
    | zero=>cases hk;simpa using h
    | succ k=>rw [show i+(k+1)=i+1+k by omega];exact h2 k j' hk
   ·intro h2 k j' hk
    rw [show i+1+k=i+(k+1) by omega]
    exact h2 (k+1) j' hk
theorem jbCheck_iff {s:JbState}:(jbCheck s).2=0↔VSt s:=by
 unfold jbCheck
 constructor
 ·intro h
  by_cases h0:(lvCheck s.1).2.2≠0
  ·rw [if_pos h0] at h;exact absurd h h0
  rw [if_neg h0] at h
  have v:=lvCheck_iff.1 (Decidable.not_not.1 h0)
  by_cases h1:s.2.2<1∨s.2.2>1000001
  ·rw [if_pos h1] at h;cases h
  rw [if_neg h1] at h
  by_cases h2:s.2.2≤greatestL s.1.2
  ·rw [if_pos h2] at h;cases h
  rw [if_neg h2] at h
  cases hg:jobsGo s.1 (dueGo 0 s.1.2) 0 s.2.1 with
  | some i=>rw [hg] at h;cases h
  | none =>
   rw [hg] at h
   simp only at h
   by_cases h3:s.2.1.length<(dueGo 0 s.1.2).length
   ·rw [if_pos h3] at h;cases h
   have hj:=jobsGo_none.1 hg
   have hj2 : ∀ k j,s.2.1[k]? = some j → ∃ n,(dueGo 0 s.1.2)[k]? = some j.1∧JobAt s.1 n j:=λk j hk=>by
    have:=hj k j hk
    rw [Nat.zero_add] at this
    exact (jobE_false v).1 this
   refine ⟨v,by omega,by omega,by omega,?_,λj hm => ?_⟩
   ·apply List.ext_getElem?
    intro k
    rw [List.getElem?_map]
    cases hk:s.2.1[k]? with
    | some j=>obtain ⟨n,e,_⟩:=hj2 k j hk;rw [e];rfl
    | none =>
     have:=List.getElem?_eq_none_iff.1 hk
     rw [List.getElem?_eq_none (by omega)];rfl
   ·obtain ⟨k,hk⟩:=List.getElem?_of_mem hm
    obtain ⟨n,_,h⟩:=hj2 k j hk
    exact ⟨n,h⟩
 ·intro v
  rw [if_neg (by simp [lvCheck_iff.2 v.lev]),if_neg (by have:=v.n1;have:=v.n2;omega),if_neg (by have:=v.n3;omega)]
  have hg:jobsGo s.1 (dueGo 0 s.1.2) 0 s.2.1=none:=jobsGo_none.2 λk j hk=>by
   rw [Nat.zero_add]
   obtain ⟨n,hn⟩:=v.job j (List.mem_of_getElem? hk)
   exact (jobE_false v.lev).2 ⟨n,by rw [← v.due,List.getElem?_map,hk];rfl,hn⟩
  rw [hg]
  simp only
  rw [if_neg (by rw [← v.due];simp)]
structure Sm (s:JbState):Prop where
 lv:s.1.2.length≤1048576
 rs : ∀ rs∈s.1.2,rs.length≤1048576 ∧ ∀ r∈rs,r.2.length≤1048576
 js:s.2.1.length≤1048576
theorem chk {s:JbState} (m:Sm s):g_jobs_Check s=some (jbCheck s):=jbCheck_ok s m.lv m.rs m.js
theorem rchk {s:JbState} (m:Sm s):g_ref16_Check s=some (jbCheck s):=rjbCheck_ok s m.lv m.rs m.js
theorem VSt.jlen {s:JbState} (v:VSt s):s.2.1.length=(dueGo 0 s.1.2).length:=by rw [← v.due];simp
theorem VSt.jsmall {s:JbState} (v:VSt s):s.2.1.length≤12:=by
 have:=v.jlen
 have:=dueGo_len s.1.2 0
 have:=v.lev.len
 omega
theorem VSt.sm {s:JbState} (v:VSt s):Sm s:=⟨v.lev.small.1,v.lev.small.2,by have:=v.jsmall;omega⟩
def fnd (x:Int):Nat→List Int→Option Nat
 | _,[]=>none
 | k,y::l=>if y=x then some k else fnd x (k+1) l
theorem fnd_ge {x:Int} : ∀ {l:List Int} {k i:Nat},fnd x k l=some i→k≤i∧l[i-k]? = some x
 | [],_,_,h=>by cases h
 | y::l,k,i,h=>by
  unfold fnd at h
  by_cases e:y=x
  ·rw [if_pos e] at h;cases h;simp [e]
  ·rw [if_neg e] at h
   obtain ⟨h1,h2⟩:=fnd_ge h
   exact ⟨by omega,by rw [show i-k=(i-(k+1))+1 by omega];simpa using h2⟩
theorem fnd_mem {x:Int} : ∀ {l:List Int} {k:Nat},x∈l → ∃ i,fnd x k l=some i
 | [],_,h=>by cases h
 | y::l,k,h=>by
  unfold fnd
  by_cases e:y=x
  ·rw [if_pos e];exact ⟨k,rfl⟩
  ·rw [if_neg e]
   exact fnd_mem (by rcases List.mem_cons.1 h with h | h;exact absurd h.symm e;exact h)
def findS (s:JbState) (level:Int):Int×Int:=if (jbCheck s).2≠0 then (0,(jbCheck s).2) else match fnd level 0 (dueGo 0 s.1.2) with
 | some i=>((i:Int),0)
 | none=>(0,4)
theorem find_ok {s:JbState} (m:Sm s) (level:Int):g_jobs_Find (s,level)=some (findS s level):=by
 unfold g_jobs_Find findS
 simp only [nti_eq,llen_eq]
 rw [chk m,bd_val,br_ne]
 by_cases h0:(jbCheck s).2=0
 rotate_left
 ·rw [if_neg h0,if_pos h0]
 rw [if_pos h0,if_neg (show ¬ (jbCheck s).2≠0 by simp [h0])]
 have v:=jbCheck_iff.1 h0
 have hj:=v.jsmall
 rw [← v.due]
 obtain ⟨T,hT⟩ : ∃ T,T=fnd level 0 (s.2.1.map (·.1)):=⟨_,rfl⟩
 rw [← hT]
 obtain ⟨r,q1,q2⟩:=loop_q (l:=s.2.1) (σ:=Unit) (s:=((0:Int),(0:Int))) (λk _=>((0:Int),(k:Int))) (λjs k _=>fnd level k (js.map (·.1))=T) (λ(r:Nat×((Int×Int)×Unit))=>(r.1=1∧T=none)∨(r.1=0 ∧ ∃ i:Nat,T=some i∧r.2.1.1=(i:Int)))
  (f:=λs1=>br (ilt s1.2 (s.2.1.length:Int)) (λ_=>nat s1.2 λk2=>ix s.2.1 k2 λx3=>br (ieq x3.1 level) (λ_=>some (.dn ((0,((s1.2,s1.2),()))))) λ_=>some (.nx (s1.1,iadd .i64 s1.2 1))) λ_=>some (.dn ((1,(s1,())))))
  () rfl (by omega) hT.symm (λ_ h=>⟨_,by simp only;rw [re];rfl,.inl ⟨rfl,by rw [← h];rfl⟩⟩) (λk j js _ hd hx hk h=>by
   simp only
   rw [rl hk,br_true,nat_cast,ix_val hx,br_eq]
   unfold fnd at h
   simp only [List.map_cons] at h
   by_cases e:j.1=level
   ·rw [if_pos e]
    rw [if_pos e] at h
    exact .inr ⟨_,rfl,.inr ⟨rfl,k,h.symm,rfl⟩⟩
   ·rw [if_neg e]
    rw [if_neg e] at h
    exact .inl ⟨(),by rw [iadd_rng hx (by omega)],h⟩)
 refine bd_eq q1 ?_
 rw [br_neq]
 rcases q2 with ⟨q2,q3⟩ | ⟨q2,i,q3,q4⟩
 ·rw [if_neg (show ¬ r.1=0 by omega),q3];rfl
 ·rw [if_pos q2,q3,q4,br_lt,if_neg (by omega)]
theorem rpend_ok {s:JbState} (m:Sm s):g_ref16_Pending s=some (if (jbCheck s).2≠0 then ([],(jbCheck s).2) else (dueGo 0 s.1.2,0)):=by
 unfold g_ref16_Pending
 rw [rchk m,bd_val,br_ne]
 by_cases h0:(jbCheck s).2=0
 ·rw [if_pos h0,if_neg (show ¬ (jbCheck s).2≠0 by simp [h0]),rdue_ok (by have:=(jbCheck_iff.1 h0).lev.len;omega),bd_val]
 ·rw [if_neg h0,if_pos h0]
theorem rfind_ok {s:JbState} (m:Sm s) (level:Int):g_ref16_Find (s,level)=some (findS s level):=by
 unfold g_ref16_Find findS
 simp only [nti_eq,llen_eq]
 rw [rpend_ok m,bd_val,br_ne]
 by_cases h0:(jbCheck s).2=0
 rotate_left
 ·rw [if_pos h0,if_neg h0,if_pos h0]
 rw [if_neg (show ¬ (jbCheck s).2≠0 by simp [h0]),if_pos rfl,if_neg (show ¬ (jbCheck s).2≠0 by simp [h0])]
 have v:=jbCheck_iff.1 h0
 have hj:=v.jsmall
 have hd:=v.jlen
 obtain ⟨due,hdue⟩ : ∃ due,due=dueGo 0 s.1.2:=⟨_,rfl⟩
 rw [← hdue] at hd ⊢
 obtain ⟨T,hT⟩ : ∃ T,T=fnd level 0 due:=⟨_,rfl⟩
 rw [← hT]
 simp only
 obtain ⟨r,q1,q2⟩:=loop_q (l:=due) (σ:=Unit) (s:=((0:Int),((0:Int),(0:Int)))) (λk _=>((0:Int),((0:Int),(k:Int)))) (λjs k _=>fnd level k js=T) (λ(r:Nat×((Int×(Int×Int))×Unit))=>(r.1=1∧T=none)∨(r.1=0 ∧ ∃ i:Nat,T=some i∧r.2.1.2.1=(i:Int)∧r.2.1.1=0))
  (f:=λs1=>br (ilt s1.2.2 (due.length:Int)) (λ_=>nat s1.2.2 λk2=>ix due k2 λx3=>br (ieq x3 level) (λ_=>some (.dn ((0,((0,(s1.2.2,s1.2.2)),()))))) λ_=>some (.nx ((s1.1,(s1.2.1,iadd .i64 s1.2.2 1))))) λ_=>some (.dn ((1,(s1,())))))
  () rfl (by omega) hT.symm (λ_ h=>⟨_,by simp only;rw [re];rfl,.inl ⟨rfl,by rw [← h];rfl⟩⟩) (λk j js _ hd hx hk h=>by
   simp only
   rw [rl hk,br_true,nat_cast,ix_val hx,br_eq]
   unfold fnd at h
   by_cases e:j=level
   ·rw [if_pos e]
    rw [if_pos e] at h
    exact .inr ⟨_,rfl,.inr ⟨rfl,k,h.symm,rfl,rfl⟩⟩
   ·rw [if_neg e]
    rw [if_neg e] at h
    exact .inl ⟨(),by rw [iadd_rng hx (by omega)],h⟩)
 refine bd_eq q1 ?_
 rw [br_neq]
 rcases q2 with ⟨q2,q3⟩ | ⟨q2,i,q3,q4,q5⟩
 ·rw [if_neg (show ¬ r.1=0 by omega),q3]
 ·rw [if_pos q2,q3,q4,q5]
end Go.Proofs.YthpkjfabdccpdaaGreat.Pl
namespace Go.Proofs.YthpkjfabdccpdaaGreat.Pl
open Go Go.Proofs.YthpkjfabdccpdaaGreat.Sv
def leftJ (L:Levels) (j:Job):Nat:=match L.2[j.1.toNat]? with
 | some [r0,r1]=>r1.2.length+r0.2.length-j.2.2.2.2.toNat
 | _=>0
def smallJ (L:Levels) (j:Job):Bool:=decide ((j.2.2.2.1.length:Int)≤sizeL L.1 j.1.toNat)
def roomL (L:Levels) (n:Nat):Bool:=decide (n<12∧((L.2[n]?).getD []).length<2)
def canJ (L:Levels) (j:Job):Bool:=decide (0<leftJ L j)||(smallJ L j||roomL L (j.1.toNat+1))
def atS (s:JbState) (level:Int):Option Job:=match fnd level 0 (dueGo 0 s.1.2) with
 | some i=>s.2.1[i]?
 | none=>none
theorem VSt.at {s:JbState} (v:VSt s) {level:Int} {i:Nat} (h:fnd level 0 (dueGo 0 s.1.2)=some i) : ∃ (j:Job) (n:Nat),s.2.1[i]? = some j∧level=(n:Int)∧j.1=(n:Int)∧JobAt s.1 n j∧n<s.1.2.length:=by
 obtain ⟨_,h1⟩:=fnd_ge h
 rw [Nat.sub_zero] at h1
 rw [← v.due,List.getElem?_map] at h1
 cases hj:s.2.1[i]? with
 | none=>rw [hj] at h1;cases h1
 | some j =>
  rw [hj] at h1
  simp only [Option.map_some,Option.some.injEq] at h1
  obtain ⟨n,hn⟩:=v.job j (List.mem_of_getElem? hj)
  have hn0:=hn
  obtain ⟨r0,r1,bt,k,hl,e,_⟩:=hn
  have h2:j.1=(n:Int):=by rw [e]
  exact ⟨j,n,rfl,by rw [← h1,h2],h2,hn0,(List.getElem?_eq_some_iff.1 hl).1⟩
theorem JobAt.left {L:Levels} {n:Nat} {j:Job} (h:JobAt L n j):g_slices_Left j.2=some ((leftJ L j:Int),0)∧g_ref13_Left j.2=some ((leftJ L j:Int),0)∧leftJ L j≤10000:=by
 obtain ⟨r0,r1,bt,k,hl,rfl,hk,_,v0,v1⟩:=h
 have l0:=v0.len
 have l1:=v1.len
 have e:leftJ L ((n:Int),SsT r1.2 r0.2 bt k)=r1.2.length+r0.2.length-k:=by
  unfold leftJ
  simp only [Int.toNat_natCast,hl]
  show r1.2.length+r0.2.length-((k:Int)).toNat=_
  rw [Int.toNat_natCast]
 rw [e]
 exact ⟨slLeft_ok v1 v0 bt hk,rslLeft_ok v1 v0 bt hk,by omega⟩
theorem lvSize_ok {L:Levels} (v:VLev L) {n:Nat} (hn:n<12):g_levels_Size (L.1,(n:Int))=some (sizeL L.1 n,0):=by
 have h1:=v.B1
 have h2:=v.B2
 unfold g_levels_Size
 rw [br_lt,if_neg (by omega),br_gt,if_neg (by omega),br_lt,if_neg (by omega),br_ge,if_neg (by omega),ishl_size h1 h2 (by omega)]
 have:ige (n:Int) 0=true:=by unfold ige;simp
 rw [this];rfl
theorem rSize_ok {L:Levels} (v:VLev L) {n:Nat} (hn:n<12):g_ref15_Size (L.1,(n:Int))=some (sizeL L.1 n,0):=by
 have h1:=v.B1
 have h2:=v.B2
 unfold g_ref15_Size
 rw [br_lt,if_neg (by omega),br_gt,if_neg (by omega),br_lt,if_neg (by omega),br_ge,if_neg (by omega),rsize_ok h1 h2 (by omega),bd_val]
theorem lvIn_ok {L:Levels} (v:VLev L) (k:Int):g_levels_in (L,k)=some (if k<0∨k≥12 then 7 else 0):=by
 obtain ⟨hb,hr⟩:=v.small
 unfold g_levels_in
 rw [lvCheck_ok _ hb hr,lvCheck_zero v,bd_val,br_ne,if_pos rfl,br_lt,br_ge]
 by_cases h1:k<0
 ·rw [if_pos h1,if_pos (.inl h1)]
 ·rw [if_neg h1]
  by_cases h2:k≥12
  ·rw [if_pos h2,if_pos (.inr h2)]
  ·rw [if_neg h2,if_neg (by omega)]
theorem lt_two (l:List Run):ilt (l.length:Int) 2=decide (l.length<2):=by
 unfold ilt
 rw [decide_eq_decide];omega
theorem lvRoom_ok {L:Levels} (v:VLev L) {n:Nat} (hn:n≤12):g_levels_Room (L,(n:Int))=some (roomL L n,if n≥12 then 7 else 0):=by
 unfold g_levels_Room roomL
 simp only [nti_eq,llen_eq]
 rw [lvIn_ok v,bd_val,br_ne]
 by_cases h:n≥12
 ·rw [if_pos (show (n:Int)<0∨(n:Int)≥12 by omega),if_neg (by decide),if_pos h]
  simp;omega
 ·rw [if_neg (show ¬ ((n:Int)<0∨(n:Int)≥12) by omega),if_pos rfl,if_neg h,br_lt]
  have h12:n<12:=by omega
  by_cases h2:n<L.2.length
  ·have hx:L.2[n]? = some (L.2[n]'h2):=by simp
   rw [if_pos (by omega),nat_cast,ix_val hx,hx,lt_two,Option.getD_some]
   simp [h12]
  ·rw [if_neg (by omega),List.getElem?_eq_none (by omega)]
   simp [h12]
theorem rroom_ok {s:JbState} (v:VLev s.1) {n:Nat} (hn:n<12):g_ref17_room (s,(n:Int))=some (roomL s.1 (n+1)):=by
 unfold g_ref17_room roomL
 simp only [nti_eq,llen_eq]
 rw [iadd_nat (by omega),br_lt]
 by_cases h:n+1<12
 ·rw [if_pos (by omega),br_ge]
  by_cases h2:n+1<s.1.2.length
  ·have hx:s.1.2[n+1]? = some (s.1.2[n+1]'h2):=by simp
   rw [if_neg (by omega),nat_cast,ix_val hx,hx,lt_two,Option.getD_some]
   simp [h]
  ·rw [if_pos (by omega),List.getElem?_eq_none (by omega)]
   simp [h]
 ·rw [if_neg (by omega)]
  simp;omega
abbrev Look:=JbState×(Job×Int)
theorem stays_ok {s:JbState} (v:VLev s.1) {n:Nat} {j:Job} (hj:j.1=(n:Int)) (hn:n<12) (l:Int):g_install_look_stays (s,(j,l))=some (smallJ s.1 j):=by
 unfold g_install_look_stays smallJ
 simp only [nti_eq,llen_eq]
 rw [hj,lvSize_ok v hn,bd_val,br_eq,if_pos rfl,Int.toNat_natCast];rfl
theorem rsmall_ok {s:JbState} (v:VLev s.1) {n:Nat} {j:Job} (hj:j.1=(n:Int)) (hn:n<12):g_ref17_small (s,j)=some (smallJ s.1 j):=by
 unfold g_ref17_small smallJ
 simp only [nti_eq,llen_eq]
 rw [hj,rSize_ok v hn,bd_val,Int.toNat_natCast];rfl
theorem rises_ok {s:JbState} (v:VLev s.1) {n:Nat} {j:Job} (hj:j.1=(n:Int)) (hn:n<12) (l:Int):g_install_look_rises (s,(j,l))=some (roomL s.1 (n+1)):=by
 unfold g_install_look_rises
 simp only
 rw [hj,iadd_nat (by omega),lvRoom_ok v (by omega),bd_val,br_eq]
 by_cases h:n+1≥12
 ·rw [if_pos h,if_neg (show ¬ (7:Int)=0 by decide)]
  unfold roomL;simp;omega
 ·rw [if_neg h,if_pos rfl]
theorem can_ok {s:JbState} (v:VLev s.1) {n:Nat} {j:Job} (hj:j.1=(n:Int)) (hn:n<12) (l:Nat) (hl:l=leftJ s.1 j):g_install_look_can (s,(j,(l:Int)))=some (canJ s.1 j):=by
 have e0:g_install_look_reads (s,(j,(l:Int)))=some (decide (0<leftJ s.1 j)):=by
  unfold g_install_look_reads igt
  rw [hl]
  simp
 have e1:=stays_ok v hj hn (l:Int)
 have e2:=rises_ok v hj hn (l:Int)
 unfold g_install_look_can canJ
 rw [e0,e1,e2,hj,Int.toNat_natCast]
 simp only [bd_val]
 cases h0:decide (0<leftJ s.1 j) with
 | true=>exact bd_eq (x:=(0,((0,true),()))) (loop_of (n:=1) (by omega) (loopN_dn rfl)) rfl
 | false =>
  cases h1:smallJ s.1 j with
  | true=>exact bd_eq (x:=(0,((1,true),()))) (loop_of (n:=2) (by omega) ((loopN_nx (s':=(1,false)) rfl).trans (loopN_dn rfl))) rfl
  | false =>
   cases h2:roomL s.1 (n+1) with
   | true=>exact bd_eq (x:=(0,((2,true),()))) (loop_of (n:=3) (by omega) ((loopN_nx (s':=(1,false)) rfl).trans ((loopN_nx (s':=(2,false)) rfl).trans (loopN_dn rfl)))) rfl
   | false=>exact bd_eq (x:=(1,((3,false),()))) (loop_of (n:=4) (by omega) ((loopN_nx (s':=(1,false)) rfl).trans ((loopN_nx (s':=(2,false)) rfl).trans ((loopN_nx (s':=(3,false)) rfl).trans (loopN_dn rfl))))) rfl
end Go.Proofs.YthpkjfabdccpdaaGreat.Pl
namespace Go.Proofs.YthpkjfabdccpdaaGreat.Pl
open Go Go.Proofs.YthpkjfabdccpdaaGreat.Sv
def askS {α:Type} (z:α) (f:JbState→Job→α×Int) (s:JbState) (level:Int):α×Int:=if (jbCheck s).2≠0 then (z,(jbCheck s).2) else match atS s level with
 | some j=>f s j
 | none=>(z,4)
def z0:Look:=(((0,[]),([],0)),((0,(([],([],([],([],0)))),((false,([],false)),([],0)))),0))
theorem at_ok {s:JbState} (m:Sm s) (level:Int):g_install_at (s,level)=some (askS z0 (λs j=>((s,(j,(leftJ s.1 j:Int))),0)) s level):=by
 unfold g_install_at
 rw [find_ok m,bd_val]
 unfold askS atS findS
 by_cases h0:(jbCheck s).2=0
 rotate_left
 ·rw [if_pos h0,br_ne,if_neg h0,if_pos h0];rfl
 rw [if_neg (show ¬ (jbCheck s).2≠0 by simp [h0]),if_neg (show ¬ (jbCheck s).2≠0 by simp [h0])]
 have v:=jbCheck_iff.1 h0
 cases hf:fnd level 0 (dueGo 0 s.1.2) with
 | none=>rfl
 | some i =>
  obtain ⟨j,n,hj,hl,hjn,ha,hn⟩:=v.at hf
  simp only
  rw [br_ne,if_pos rfl,nat_cast,ix_val hj,hj,(JobAt.left ha).1,bd_val]
theorem Can_ok {s:JbState} (m:Sm s) (level:Int):g_install_Can (s,level)=some (askS false (λs j=>(canJ s.1 j,0)) s level):=by
 unfold g_install_Can
 rw [at_ok m,bd_val]
 unfold askS
 by_cases h0:(jbCheck s).2=0
 rotate_left
 ·rw [if_pos h0,br_ne,if_neg h0,if_pos h0]
 rw [if_neg (show ¬ (jbCheck s).2≠0 by simp [h0]),if_neg (show ¬ (jbCheck s).2≠0 by simp [h0])]
 have v:=jbCheck_iff.1 h0
 unfold atS
 cases hf:fnd level 0 (dueGo 0 s.1.2) with
 | none=>rfl
 | some i =>
  obtain ⟨j,n,hj,hl,hjn,ha,hn⟩:=v.at hf
  have:=v.lev.len
  simp only [hj]
  rw [br_ne,if_pos rfl,can_ok v.lev hjn (by omega) _ rfl,bd_val]
theorem rLeftS_ok {s:JbState} (m:Sm s) (level:Int):g_ref16_Left (s,level)=some (askS 0 (λs j=>((leftJ s.1 j:Int),0)) s level):=by
 unfold g_ref16_Left
 rw [rfind_ok m,bd_val]
 unfold askS atS findS
 by_cases h0:(jbCheck s).2=0
 rotate_left
 ·rw [if_pos h0,br_ne,if_neg h0,if_pos h0]
 rw [if_neg (show ¬ (jbCheck s).2≠0 by simp [h0]),if_neg (show ¬ (jbCheck s).2≠0 by simp [h0])]
 have v:=jbCheck_iff.1 h0
 cases hf:fnd level 0 (dueGo 0 s.1.2) with
 | none=>rfl
 | some i =>
  obtain ⟨j,n,hj,hl,hjn,ha,hn⟩:=v.at hf
  simp only [hj]
  rw [br_ne,if_pos rfl,nat_cast,ix_val hj,(JobAt.left ha).2.1,bd_val]
theorem rCan_ok {s:JbState} (m:Sm s) (level:Int):g_ref17_Can (s,level)=some (askS false (λs j=>(canJ s.1 j,0)) s level):=by
 unfold g_ref17_Can
 rw [rLeftS_ok m,bd_val,rfind_ok m,bd_val]
 unfold askS
 by_cases h0:(jbCheck s).2=0
 rotate_left
 ·rw [if_pos h0,br_ne,if_neg h0,if_pos h0]
 rw [if_neg (show ¬ (jbCheck s).2≠0 by simp [h0]),if_neg (show ¬ (jbCheck s).2≠0 by simp [h0])]
 have v:=jbCheck_iff.1 h0
 unfold atS findS
 cases hf:fnd level 0 (dueGo 0 s.1.2) with
 | none=>rfl
 | some i =>
  obtain ⟨j,n,hj,hl,hjn,ha,hn⟩:=v.at hf
  have:=v.lev.len
  rw [if_neg (show ¬ (jbCheck s).2≠0 by simp [h0])]
  simp only [hj]
  rw [br_ne,if_pos rfl,br_gt,nat_cast,ix_val hj,rsmall_ok v.lev hjn (by omega),bd_val,hl,rroom_ok v.lev (by omega),bd_val]
  unfold canJ
  rw [hjn,Int.toNat_natCast]
  by_cases h1:0<leftJ s.1 j
  ·rw [if_pos (by omega)];simp [h1]
  ·rw [if_neg (by omega)]
   cases smallJ s.1 j<;>simp [h1,br_true,br_false]
def targetJ (s:JbState) (j:Job):Int×Int:=if 0<leftJ s.1 j then (0,9) else if smallJ s.1 j=true then (j.1,0) else (j.1+1,0)
theorem Target_ok {s:JbState} (m:Sm s) (level:Int):g_install_Target (s,level)=some (askS 0 targetJ s level):=by
 unfold g_install_Target
 rw [at_ok m,bd_val]
 unfold askS
 by_cases h0:(jbCheck s).2=0
 rotate_left
 ·rw [if_pos h0,br_ne,if_neg h0,if_pos h0]
 rw [if_neg (show ¬ (jbCheck s).2≠0 by simp [h0]),if_neg (show ¬ (jbCheck s).2≠0 by simp [h0])]
 have v:=jbCheck_iff.1 h0
 unfold atS
 cases hf:fnd level 0 (dueGo 0 s.1.2) with
 | none=>rfl
 | some i =>
  obtain ⟨j,n,hj,hl,hjn,ha,hn⟩:=v.at hf
  have:=v.lev.len
  simp only [hj]
  unfold g_install_look_reads targetJ
  rw [br_ne,if_pos rfl,bd_val,br_gt,stays_ok v.lev hjn (by omega),bd_val,hl,iadd_nat (by omega),hjn]
  by_cases h1:0<leftJ s.1 j
  ·rw [if_pos (show ((leftJ s.1 j:Int))>0 by omega),if_pos h1]
  ·rw [if_neg (show ¬ ((leftJ s.1 j:Int))>0 by omega),if_neg h1,br_b]
   by_cases h2:smallJ s.1 j=true
   ·rw [if_pos h2,if_pos h2]
   ·rw [if_neg h2,if_neg h2];rfl
theorem rTarget_ok {s:JbState} (m:Sm s) (level:Int):g_ref17_Target (s,level)=some (askS 0 targetJ s level):=by
 unfold g_ref17_Target
 rw [rLeftS_ok m,bd_val,rfind_ok m]
 unfold askS
 by_cases h0:(jbCheck s).2=0
 rotate_left
 ·rw [if_pos h0,br_eq,if_neg h0,br_ne,if_neg h0,if_pos h0]
 rw [if_neg (show ¬ (jbCheck s).2≠0 by simp [h0]),if_neg (show ¬ (jbCheck s).2≠0 by simp [h0])]
 have v:=jbCheck_iff.1 h0
 unfold atS findS
 cases hf:fnd level 0 (dueGo 0 s.1.2) with
 | none=>rfl
 | some i =>
  obtain ⟨j,n,hj,hl,hjn,ha,hn⟩:=v.at hf
  have:=v.lev.len
  rw [if_neg (show ¬ (jbCheck s).2≠0 by simp [h0])]
  simp only [hj]
  unfold targetJ
  rw [br_eq,if_pos rfl,br_gt]
  by_cases h1:0<leftJ s.1 j
  ·rw [if_pos (show ((leftJ s.1 j:Int))>0 by omega),if_pos h1]
  ·rw [if_neg (show ¬ ((leftJ s.1 j:Int))>0 by omega),if_neg h1,br_ne,if_pos rfl,bd_val,nat_cast,ix_val hj,rsmall_ok v.lev hjn (by omega),bd_val,br_b,hl,iadd_nat (by omega),hjn]
   by_cases h2:smallJ s.1 j=true
   ·rw [if_pos h2,if_pos h2]
   ·rw [if_neg h2,if_neg h2];rfl
theorem pend_ok {s:JbState} (m:Sm s):g_jobs_Pending s=some (if (jbCheck s).2≠0 then ([],(jbCheck s).2) else (dueGo 0 s.1.2,0)):=by
 unfold g_jobs_Pending
 simp only [nti_eq,llen_eq]
 rw [chk m,bd_val,br_ne]
 by_cases h0:(jbCheck s).2=0
 rotate_left
 ·rw [if_neg h0,if_pos h0]
 rw [if_pos h0,if_neg (show ¬ (jbCheck s).2≠0 by simp [h0])]
 have hl:=(jbCheck_iff.1 h0).lev.len
 rw [loop_run (l:=s.1.2) (σ:=List Int) (s:=((0:Int),([]:List Int))) (λi m=>((i:Int),m)) (λls i m=>m++dueGo i ls=dueGo 0 s.1.2) (λ_ _ _=>(0,(((s.1.2.length:Int),dueGo 0 s.1.2),()))) [] rfl (by omega) rfl (λm h=>by
  simp only;rw [re,br_false,← h];simp [dueGo]) (λi rs ls m hd hx hi h=>by
   refine ⟨m++(if rs.length=2 then [(i:Int)] else []),?_,?_,rfl⟩
   ·simp only
    rw [rl hi,br_true,nat_cast,ix_val hx,br_eq]
    have hm:m.length≤1000:=by
     have h4:=congrArg List.length h
     have h5:=dueGo_len s.1.2 0
     rw [List.length_append] at h4
     omega
    by_cases h4:rs.length=2
    ·rw [if_pos (by omega),if_pos h4,gd_le (by simp only [nadd,List.length_cons,List.length_nil];omega),iadd_rng hx (by omega)];rfl
    ·rw [if_neg (by omega),if_neg h4,List.append_nil,iadd_rng hx (by omega)]
   ·rw [List.append_assoc];exact h),bd_val]
def firstCan (s:JbState):List Int→Option Int
 | []=>none
 | d::l=>if (askS false (λs j=>(canJ s.1 j,0)) s d).1=true then some d else firstCan s l
def nextS (s:JbState):Int×Int:=if (jbCheck s).2≠0 then (0,(jbCheck s).2) else if dueGo 0 s.1.2=[] then (0,4) else match firstCan s (dueGo 0 s.1.2) with
 | some d=>(d,0)
 | none=>(0,9)
theorem VSt.atDue {s:JbState} (v:VSt s) {d:Int} (h:d∈dueGo 0 s.1.2) : ∃ (j:Job) (n:Nat),atS s d=some j∧d=(n:Int)∧j.1=(n:Int)∧JobAt s.1 n j∧n<s.1.2.length:=by
 obtain ⟨i,hf⟩:=fnd_mem (k:=0) h
 obtain ⟨j,n,hj,hl,hjn,ha,hn⟩:=v.at hf
 exact ⟨j,n,by unfold atS;rw [hf];exact hj,hl,hjn,ha,hn⟩
theorem Next_ok {s:JbState} (m:Sm s):g_install_Next s=some (nextS s):=by
 unfold g_install_Next nextS
 rw [pend_ok m,bd_val]
 by_cases h0:(jbCheck s).2=0
 rotate_left
 ·rw [if_pos h0,br_ne,if_neg h0,if_pos h0]
 rw [if_neg (show ¬ (jbCheck s).2≠0 by simp [h0]),if_neg (show ¬ (jbCheck s).2≠0 by simp [h0]),br_ne,if_pos rfl]
 have v:=jbCheck_iff.1 h0
 have hdl:(dueGo 0 s.1.2).length≤12:=by have:=dueGo_len s.1.2 0;have:=v.lev.len;omega
 simp only [nti_eq,llen_eq]
 rw [br_eq]
 by_cases hn:dueGo 0 s.1.2=[]
 ·rw [if_pos (by rw [hn];rfl),if_pos hn]
 rw [if_neg (by have:=List.length_pos_iff.2 hn;omega),if_neg hn]
 obtain ⟨T,hT⟩ : ∃ T,T=firstCan s (dueGo 0 s.1.2):=⟨_,rfl⟩
 rw [← hT]
 obtain ⟨r,q1,q2⟩:=loop_q (l:=dueGo 0 s.1.2) (σ:=Unit) (s:=((0:Int),(false,((0:Int),(0:Int))))) (λk _=>((0:Int),(false,((k:Int),(0:Int))))) (λl k _=>firstCan s l=T) (λ(r:Nat×((Int×(Bool×(Int×Int)))×Unit))=>r.1=1∧((T=none∧r.2.1.2.1=false)∨(∃ d,T=some d∧r.2.1.2.1=true∧r.2.1.2.2.2=d)))
  (f:=λs1=>br (ilt s1.2.2.1 ((dueGo 0 s.1.2).length:Int)) (λ_=>nat s1.2.2.1 λk2=>ix (dueGo 0 s.1.2) k2 λx3=>bd (g_install_at (s,x3)) λr4=>br (ine r4.2 0) (λ_=>some (.dn ((0,((r4.2,(s1.2.1,(s1.2.2.1,0))),()))))) λ_=>bd (g_install_look_can r4.1) λr5=>br r5 (λ_=>some (.dn ((1,((s1.1,(true,(s1.2.2.1,x3))),()))))) λ_=>some (.nx ((s1.1,(s1.2.1,(iadd .i64 s1.2.2.1 1,s1.2.2.2)))))) λ_=>some (.dn ((1,(s1,())))))
  () rfl (by omega) hT.symm (λ_ h=>⟨_,by simp only;rw [re];rfl,rfl,.inl ⟨by rw [← h];rfl,rfl⟩⟩) (λk d l _ hd hx hk h=>by
   simp only
   obtain ⟨j,n,ha,hl,hjn,hA,hn⟩:=v.atDue (List.mem_of_getElem? hx)
   have:=v.lev.len
   unfold firstCan at h
   have h1:askS false (λs j=>(canJ s.1 j,0)) s d=(canJ s.1 j,0):=by unfold askS;rw [if_neg (show ¬ (jbCheck s).2≠0 by simp [h0]),ha]
   have h2:askS z0 (λs j=>((s,(j,(leftJ s.1 j:Int))),0)) s d=((s,(j,(leftJ s.1 j:Int))),0):=by unfold askS;rw [if_neg (show ¬ (jbCheck s).2≠0 by simp [h0]),ha]
   rw [h1] at h
   rw [rl hk,br_true,nat_cast,ix_val hx,at_ok m,h2,bd_val,br_ne,if_pos rfl,can_ok v.lev hjn (by omega) _ rfl,bd_val,br_b]
   by_cases e:canJ s.1 j=true
   ·rw [if_pos e]
    rw [if_pos e] at h
    exact .inr ⟨_,rfl,rfl,.inr ⟨d,h.symm,rfl,rfl⟩⟩
   ·rw [if_neg e]
    rw [if_neg e] at h
    exact .inl ⟨(),by rw [iadd_rng hx (by omega)],h⟩)
 refine bd_eq q1 ?_
 obtain ⟨q2,q3⟩:=q2
 rw [br_neq,if_neg (show ¬ r.1=0 by omega),br_bnot,br_b]
 rcases q3 with ⟨q3,q4⟩ | ⟨d,q3,q4,q5⟩
 ·rw [if_neg (by simp [q4]),q3]
 ·rw [if_pos q4,q3,q5]
theorem rNextS_ok {s:JbState} (m:Sm s):g_ref17_Next s=some (nextS s):=by
 unfold g_ref17_Next nextS
 rw [rpend_ok m,bd_val]
 by_cases h0:(jbCheck s).2=0
 rotate_left
 ·rw [if_pos h0,br_ne,if_neg h0,if_pos h0]
 rw [if_neg (show ¬ (jbCheck s).2≠0 by simp [h0]),if_neg (show ¬ (jbCheck s).2≠0 by simp [h0]),br_ne,if_pos rfl]
 have v:=jbCheck_iff.1 h0
 have hdl:(dueGo 0 s.1.2).length≤12:=by have:=dueGo_len s.1.2 0;have:=v.lev.len;omega
 simp only [nti_eq,llen_eq]
 rw [br_eq]
 by_cases hn:dueGo 0 s.1.2=[]
 ·rw [if_pos (by rw [hn];rfl),if_pos hn]
 rw [if_neg (by have:=List.length_pos_iff.2 hn;omega),if_neg hn]
 obtain ⟨T,hT⟩ : ∃ T,T=firstCan s (dueGo 0 s.1.2):=⟨_,rfl⟩
 rw [← hT]
 obtain ⟨r,q1,q2⟩:=loop_q (l:=dueGo 0 s.1.2) (σ:=Unit) (s:=((0:Int),((0:Int),(0:Int)))) (λk _=>((0:Int),((0:Int),(k:Int)))) (λl k _=>firstCan s l=T) (λ(r:Nat×((Int×(Int×Int))×Unit))=>(r.1=1∧T=none)∨(r.1=0 ∧ ∃ d,T=some d∧r.2.1.2.1=d∧r.2.1.1=0))
  (f:=λs1=>br (ilt s1.2.2 ((dueGo 0 s.1.2).length:Int)) (λ_=>nat s1.2.2 λk2=>ix (dueGo 0 s.1.2) k2 λx3=>bd (g_ref17_Can (s,x3)) λr4=>br r4.1 (λ_=>nat s1.2.2 λk5=>ix (dueGo 0 s.1.2) k5 λx6=>some (.dn ((0,((0,(x6,s1.2.2)),()))))) λ_=>some (.nx ((s1.1,(s1.2.1,iadd .i64 s1.2.2 1))))) λ_=>some (.dn ((1,(s1,())))))
  () rfl (by omega) hT.symm (λ_ h=>⟨_,by simp only;rw [re];rfl,.inl ⟨rfl,by rw [← h];rfl⟩⟩) (λk d l _ hd hx hk h=>by
   simp only
   unfold firstCan at h
   rw [rl hk,br_true,nat_cast,ix_val hx,rCan_ok m,bd_val,br_b,nat_cast,ix_val hx]
   by_cases e:(askS false (λs j=>(canJ s.1 j,0)) s d).1=true
   ·rw [if_pos e]
    rw [if_pos e] at h
    exact .inr ⟨_,rfl,.inr ⟨rfl,d,h.symm,rfl,rfl⟩⟩
   ·rw [if_neg e]
    rw [if_neg e] at h
    exact .inl ⟨(),by rw [iadd_rng hx (by omega)],h⟩)
 refine bd_eq q1 ?_
 rw [br_neq]
 rcases q2 with ⟨q2,q3⟩ | ⟨q2,d,q3,q4,q5⟩
 ·rw [if_neg (show ¬ r.1=0 by omega),q3]
 ·rw [if_pos q2,q3,q4,q5]
end Go.Proofs.YthpkjfabdccpdaaGreat.Pl
namespace Go.Proofs.YthpkjfabdccpdaaGreat.Pl
open Go Go.Proofs.YthpkjfabdccpdaaGreat.Sv
theorem loop_cut {α β σ S:Type} {l:List α} (c:Nat) (hc9:c≤1000) (mk:Nat→σ→S) (I:Nat→σ→Prop) (Q:β→Prop) {f:S→Option (LR S β)} {s:S} (st:σ) (h0:s=mk 0 st) (hi:I 0 st)
  (hn : ∀ k st,(k=l.length∨k=c)→k≤l.length→I k st → ∃ r,f (mk k st)=some (.dn r)∧Q r)
  (hc : ∀ k x st,l[k]? = some x→k<c→I k st→(∃ st',f (mk k st)=some (.nx (mk (k+1) st'))∧I (k+1) st') ∨ ∃ r,f (mk k st)=some (.dn r)∧Q r) : ∃ r,loop f s=some r∧Q r:=by
 refine loop_q (l:=l.take c) mk (λ_ k st=>I k st∧k≤(l.take c).length) Q st h0 (by simp;omega) ⟨hi,by omega⟩ (λst h=>hn _ st (by simp;omega) (by simp;omega) h.1) (λk x m st hd hx hk h => ?_)
 have hk2:k<c:=by simp at hk;omega
 have hx2:l[k]? = some x:=by rw [List.getElem?_take] at hx;rw [if_pos hk2] at hx;exact hx
 rcases hc k x st hx2 hk2 h.1 with ⟨st',h1,h2⟩ | h1
 ·exact .inl ⟨st',h1,h2,by omega⟩
 ·exact .inr h1
theorem ilt_c {k c:Nat} (h:k<c):ilt (k:Int) (c:Int)=true:=by unfold ilt;simp;omega
theorem cut2 {α β:Type} {l:List α} {k c:Nat} (h:k=l.length∨k=c) (hk:k≤l.length) (A B C:Option β) (e:B=C):br (ilt (k:Int) (l.length:Int)) (λ_=>br (ilt (k:Int) (c:Int)) (λ_=>A) λ_=>B) (λ_=>C)=C:=by
 rw [br_lt]
 by_cases h1:(k:Int)<(l.length:Int)
 ·rw [if_pos h1,br_lt,if_neg (by omega),e]
 ·rw [if_neg h1]
theorem long14_ok (l:List Entry) : ∃ b,g_law14_Long l=some b∧(b=false→l.length≤30):=by
 unfold g_law14_Long
 simp only [nti_eq,llen_eq]
 obtain ⟨r,q1,q2⟩:=loop_cut (l:=l) (σ:=Unit) (s:=((0:Int),false)) 40 (by omega) (λk _=>((k:Int),false)) (λ_ _=>True) (λ(r:Nat×((Int×Bool)×Unit))=>r.1=1∨(r.1=0∧r.2.1.2=true))
  (f:=λs0=>br (ilt s0.1 (l.length:Int)) (λ_=>br (ilt s0.1 40) (λ_=>nat s0.1 λk1=>ix l k1 λx2=>br (igt (slen x2.1:Int) 100) (λ_=>some (.dn ((0,((s0.1,true),()))))) λ_=>nat s0.1 λk3=>ix l k3 λx4=>br (igt (slen x4.2.1:Int) 100) (λ_=>some (.dn ((0,((s0.1,true),()))))) λ_=>some (.nx (iadd .i64 s0.1 1,s0.2))) λ_=>some (.dn ((1,(s0,()))))) λ_=>some (.dn ((1,(s0,())))))
  () rfl trivial (λk _ h hk _=>⟨_,(cut2 (c:=40) h hk _ _ _ rfl),.inl rfl⟩) (λk x _ hx hk _=>by
   simp only
   have hk2:=(List.getElem?_eq_some_iff.1 hx).1
   rw [rl hk2,br_true,show ilt (k:Int) 40=true from ilt_c hk,br_true,nat_cast,ix_val hx,br_gt,nat_cast,ix_val hx,br_gt,iadd_nat (by omega)]
   repeat' split
   all_goals first | exact .inr ⟨_,rfl,.inr ⟨rfl,rfl⟩⟩ | exact .inl ⟨(),rfl,trivial⟩)
 rw [q1,bd_val,br_neq]
 rcases q2 with q2 | ⟨q2,q3⟩
 ·rw [if_neg (show ¬ r.1=0 by omega)]
  exact ⟨_,rfl,λh=>by unfold igt at h;simp at h;omega⟩
 ·rw [if_pos q2,q3]
  exact ⟨_,rfl,λh=>by cases h⟩
theorem longRuns_ok (l:List Run) : ∃ b,g_law15_LongRuns l=some b∧(b=false→l.length≤6 ∧ ∀ r∈l,r.2.length≤30):=by
 unfold g_law15_LongRuns
 simp only [nti_eq,llen_eq]
 obtain ⟨r,q1,q2⟩:=loop_cut (l:=l) (σ:=Unit) (s:=((0:Int),false)) 10 (by omega) (λk _=>((k:Int),false)) (λk _ => ∀ i x,i<k→l[i]? = some x→x.2.length≤30) (λ(r:Nat×((Int×Bool)×Unit))=>(r.1=1 ∧ ∀ i x,i<10→l[i]? = some x→x.2.length≤30)∨(r.1=0∧r.2.1.2=true))
  (f:=λs0=>br (ilt s0.1 (l.length:Int)) (λ_=>br (ilt s0.1 10) (λ_=>nat s0.1 λk1=>ix l k1 λx2=>bd (g_law14_Long x2.2) λr3=>br r3 (λ_=>some (.dn ((0,((s0.1,true),()))))) λ_=>some (.nx (iadd .i64 s0.1 1,s0.2))) λ_=>some (.dn ((1,(s0,()))))) λ_=>some (.dn ((1,(s0,())))))
  () rfl (λi x h=>by omega) (λk _ h hk hI=>⟨_,(cut2 (c:=10) h hk _ _ _ rfl),.inl ⟨rfl,λi x hi hx=>hI i x (by have:=(List.getElem?_eq_some_iff.1 hx).1;omega) hx⟩⟩) (λk x _ hx hk hI=>by
   simp only
   have hk2:=(List.getElem?_eq_some_iff.1 hx).1
   obtain ⟨b,e,hb⟩:=long14_ok x.2
   rw [rl hk2,br_true,show ilt (k:Int) 10=true from ilt_c hk,br_true,nat_cast,ix_val hx,e,bd_val,iadd_nat (by omega)]
   cases b with
   | true=>exact .inr ⟨_,rfl,.inr ⟨rfl,rfl⟩⟩
   | false =>
    refine .inl ⟨(),rfl,λi y hi hy => ?_⟩
    by_cases h:i=k
    ·subst h;rw [hx] at hy;cases hy;exact hb rfl
    ·exact hI i y (by omega) hy)
 rw [q1,bd_val,br_neq]
 rcases q2 with ⟨q2,q3⟩ | ⟨q2,q3⟩
 ·rw [if_neg (show ¬ r.1=0 by omega)]
  refine ⟨_,rfl,λh => ?_⟩
  have hl:l.length≤6:=by unfold igt at h;simp at h;omega
  exact ⟨hl,λr hr=>by
   obtain ⟨i,hi⟩:=List.getElem?_of_mem hr
   exact q3 i r (by have:=(List.getElem?_eq_some_iff.1 hi).1;omega) hi⟩
 ·rw [if_pos q2,q3]
  exact ⟨_,rfl,λh=>by cases h⟩
theorem long15_ok (L:Levels) : ∃ b,g_law15_Long L=some b∧(b=false→L.2.length≤14 ∧ ∀ rs∈L.2,rs.length≤6 ∧ ∀ r∈rs,r.2.length≤30):=by
 unfold g_law15_Long
 simp only [nti_eq,llen_eq]
 obtain ⟨r,q1,q2⟩:=loop_cut (l:=L.2) (σ:=Unit) (s:=((0:Int),false)) 20 (by omega) (λk _=>((k:Int),false)) (λk _ => ∀ i x,i<k→L.2[i]? = some x→x.length≤6 ∧ ∀ r∈x,r.2.length≤30) (λ(r:Nat×((Int×Bool)×Unit))=>(r.1=1 ∧ ∀ i x,i<20→L.2[i]? = some x→x.length≤6 ∧ ∀ r∈x,r.2.length≤30)∨(r.1=0∧r.2.1.2=true))
  (f:=λs0=>br (ilt s0.1 (L.2.length:Int)) (λ_=>br (ilt s0.1 20) (λ_=>nat s0.1 λk1=>ix L.2 k1 λx2=>bd (g_law15_LongRuns x2) λr3=>br r3 (λ_=>some (.dn ((0,((s0.1,true),()))))) λ_=>some (.nx (iadd .i64 s0.1 1,s0.2))) λ_=>some (.dn ((1,(s0,()))))) λ_=>some (.dn ((1,(s0,())))))
  () rfl (λi x h=>by omega) (λk _ h hk hI=>⟨_,(cut2 (c:=20) h hk _ _ _ rfl),.inl ⟨rfl,λi x hi hx=>hI i x (by have:=(List.getElem?_eq_some_iff.1 hx).1;omega) hx⟩⟩) (λk x _ hx hk hI=>by
   simp only
   have hk2:=(List.getElem?_eq_some_iff.1 hx).1
   obtain ⟨b,e,hb⟩:=longRuns_ok x
   rw [rl hk2,br_true,show ilt (k:Int) 20=true from ilt_c hk,br_true,nat_cast,ix_val hx,e,bd_val,iadd_nat (by omega)]
   cases b with
   | true=>exact .inr ⟨_,rfl,.inr ⟨rfl,rfl⟩⟩
   | false =>
    refine .inl ⟨(),rfl,λi y hi hy => ?_⟩
    by_cases h:i=k
    ·subst h;rw [hx] at hy;cases hy;exact hb rfl
    ·exact hI i y (by omega) hy)
 rw [q1,bd_val,br_neq]
 rcases q2 with ⟨q2,q3⟩ | ⟨q2,q3⟩
 ·rw [if_neg (show ¬ r.1=0 by omega)]
  refine ⟨_,rfl,λh => ?_⟩
  have hl:L.2.length≤14:=by unfold igt at h;simp at h;omega
  exact ⟨hl,λr hr=>by
   obtain ⟨i,hi⟩:=List.getElem?_of_mem hr
   exact q3 i r (by have:=(List.getElem?_eq_some_iff.1 hi).1;omega) hi⟩
 ·rw [if_pos q2,q3]
  exact ⟨_,rfl,λh=>by cases h⟩
theorem wide_ok (l:List Entry) : ∃ b,g_law16_wide l=some b:=by
 unfold g_law16_wide
 simp only [nti_eq,llen_eq]
 obtain ⟨r,q1,q2⟩:=loop_cut (l:=l) (σ:=Unit) (s:=((0:Int),false)) 80 (by omega) (λk _=>((k:Int),false)) (λ_ _=>True) (λ(r:Nat×((Int×Bool)×Unit))=>True)
  (f:=λs0=>br (ilt s0.1 (l.length:Int)) (λ_=>br (ilt s0.1 80) (λ_=>nat s0.1 λk1=>ix l k1 λx2=>br (igt (slen x2.1:Int) 100) (λ_=>some (.dn ((0,((s0.1,true),()))))) λ_=>nat s0.1 λk3=>ix l k3 λx4=>br (igt (slen x4.2.1:Int) 100) (λ_=>some (.dn ((0,((s0.1,true),()))))) λ_=>some (.nx (iadd .i64 s0.1 1,s0.2))) λ_=>some (.dn ((1,(s0,()))))) λ_=>some (.dn ((1,(s0,())))))
  () rfl trivial (λk _ h hk _=>⟨_,(cut2 (c:=80) h hk _ _ _ rfl),trivial⟩) (λk x _ hx hk _=>by
   simp only
   have hk2:=(List.getElem?_eq_some_iff.1 hx).1
   rw [rl hk2,br_true,show ilt (k:Int) 80=true from ilt_c hk,br_true,nat_cast,ix_val hx,br_gt,nat_cast,ix_val hx,br_gt,iadd_nat (by omega)]
   repeat' split
   all_goals first | exact .inr ⟨_,rfl,trivial⟩ | exact .inl ⟨(),rfl,trivial⟩)
 rw [q1,bd_val,br_neq]
 split<;>exact ⟨_,rfl⟩
theorem long16_ok (s:JbState) : ∃ b,g_law16_Long s=some b∧(b=false→Sm s):=by
 unfold g_law16_Long
 simp only [nti_eq,llen_eq]
 obtain ⟨r,q1,q2⟩:=loop_cut (l:=s.2.1) (σ:=Unit) (s:=((0:Int),false)) 20 (by omega) (λk _=>((k:Int),false)) (λ_ _=>True) (λ(r:Nat×((Int×Bool)×Unit))=>r.1=0∨(r.1=1∧r.2.1.2=true))
  (f:=λs0=>br (ilt s0.1 (s.2.1.length:Int)) (λ_=>br (ilt s0.1 20) (λ_=>nat s0.1 λk1=>ix s.2.1 k1 λx2=>bd (loop (λs3=>br (ilt s3.1 (x2.2.1.1.length:Int)) (λ_=>br (ilt s3.1 10) (λ_=>nat s3.1 λk4=>ix x2.2.1.1 k4 λx5=>bd (g_law16_wide x5) λr6=>br r6 (λ_=>some (.dn ((0,((s3.1,true),()))))) λ_=>some (.nx (iadd .i64 s3.1 1,s3.2))) λ_=>some (.dn ((1,(s3,()))))) λ_=>some (.dn ((1,(s3,()))))) (0,s0.2)) λr7=>br (neq r7.1 0) (λ_=>some (.dn ((1,((s0.1,r7.2.1.2),()))))) λ_=>bd (g_law16_wide x2.2.2.2.1) λr8=>br r8 (λ_=>some (.dn ((1,((s0.1,true),()))))) λ_=>br (igt (x2.2.1.1.length:Int) 6) (λ_=>some (.dn ((1,((s0.1,true),()))))) λ_=>br (igt (x2.2.1.2.1.length:Int) 40) (λ_=>some (.dn ((1,((s0.1,true),()))))) λ_=>br (igt (x2.2.1.2.2.1.length:Int) 40) (λ_=>some (.dn ((1,((s0.1,true),()))))) λ_=>br (igt (x2.2.1.2.2.2.1.length:Int) 40) (λ_=>some (.dn ((1,((s0.1,true),()))))) λ_=>br (igt (slen x2.2.2.1.2.1:Int) 200) (λ_=>some (.dn ((1,((s0.1,true),()))))) λ_=>some (.nx (iadd .i64 s0.1 1,r7.2.1.2))) λ_=>some (.dn ((0,(s0,()))))) λ_=>some (.dn ((0,(s0,())))))
  () rfl trivial (λk _ h hk _=>⟨_,(cut2 (c:=20) h hk _ _ _ rfl),.inl rfl⟩) (λk x _ hx hk _=>by
   simp only
   have hk2:=(List.getElem?_eq_some_iff.1 hx).1
   rw [rl hk2,br_true,show ilt (k:Int) 20=true from ilt_c hk,br_true,nat_cast,ix_val hx]
   obtain ⟨r,q1,q2⟩:=loop_cut (l:=x.2.1.1) (σ:=Unit) (s:=((0:Int),false)) 10 (by omega) (λk _=>((k:Int),false)) (λ_ _=>True) (λ(r:Nat×((Int×Bool)×Unit))=>(r.1=1∧r.2.1.2=false)∨(r.1=0∧r.2.1.2=true))
    (f:=λs3=>br (ilt s3.1 (x.2.1.1.length:Int)) (λ_=>br (ilt s3.1 10) (λ_=>nat s3.1 λk4=>ix x.2.1.1 k4 λx5=>bd (g_law16_wide x5) λr6=>br r6 (λ_=>some (.dn ((0,((s3.1,true),()))))) λ_=>some (.nx (iadd .i64 s3.1 1,s3.2))) λ_=>some (.dn ((1,(s3,()))))) λ_=>some (.dn ((1,(s3,())))))
    () rfl trivial (λk _ h hk _=>⟨_,(cut2 (c:=10) h hk _ _ _ rfl),.inl ⟨rfl,rfl⟩⟩) (λk y _ hy hk _=>by
     simp only
     have hk2:=(List.getElem?_eq_some_iff.1 hy).1
     obtain ⟨b,e⟩:=wide_ok y
     rw [rl hk2,br_true,show ilt (k:Int) 10=true from ilt_c hk,br_true,nat_cast,ix_val hy,e,bd_val,iadd_nat (by omega)]
     cases b with
     | true=>exact .inr ⟨_,rfl,.inr ⟨rfl,rfl⟩⟩
     | false=>exact .inl ⟨(),rfl,trivial⟩)
   obtain ⟨b,e⟩:=wide_ok x.2.2.2.1
   rw [q1,bd_val,br_neq,e]
   rcases q2 with ⟨q2,q3⟩ | ⟨q2,q3⟩
   ·rw [if_neg (show ¬ r.1=0 by omega),bd_val,br_b,br_gt,br_gt,br_gt,br_gt,br_gt,q3,iadd_nat (by omega)]
    repeat' split
    all_goals first | exact .inr ⟨_,rfl,.inr ⟨rfl,rfl⟩⟩ | exact .inl ⟨(),rfl,trivial⟩
   ·rw [if_pos q2,q3]
    exact .inr ⟨_,rfl,.inr ⟨rfl,rfl⟩⟩)
 rw [q1,bd_val,br_neq]
 rcases q2 with q2 | ⟨q2,q3⟩
 ·rw [if_pos q2,br_gt]
  by_cases h:(s.2.1.length:Int)>14
  ·rw [if_pos h];exact ⟨_,rfl,λh=>by cases h⟩
  ·rw [if_neg h]
   obtain ⟨b,e,hb⟩:=long15_ok s.1
   rw [e]
   refine ⟨b,rfl,λh2 => ?_⟩
   obtain ⟨h3,h4⟩:=hb h2
   exact ⟨by omega,λrs hrs=>⟨by have:=(h4 rs hrs).1;omega,λr hr=>by have:=(h4 rs hrs).2 r hr;omega⟩,by omega⟩
 ·rw [if_neg (show ¬ r.1=0 by omega),q3]
  exact ⟨_,rfl,λh=>by cases h⟩
end Go.Proofs.YthpkjfabdccpdaaGreat.Pl
namespace Go.Proofs.YthpkjfabdccpdaaGreat.Pl
open Go Go.Proofs.YthpkjfabdccpdaaGreat.Sv
theorem shown17:g_law17_shown ()=some true:=by kernel_rfl
theorem ieq_rfl (a:Int):ieq a a=true:=by unfold ieq;simp
theorem installAsks (x:JbState×Int):g_law17_InstallAsks x=some true:=by
 obtain ⟨s,level⟩:=x
 unfold g_law17_InstallAsks
 obtain ⟨b,e,hb⟩:=long16_ok s
 rw [e,bd_val,shown17]
 cases b with
 | true=>rfl
 | false =>
  have m:=hb rfl
  rw [br_false,Can_ok m,rCan_ok m,Target_ok m,rTarget_ok m,Next_ok m,rNextS_ok m]
  simp only [bd_val]
  rw [beq_rfl,bnot_t,br_false,br_ne,if_pos rfl,br_ne,if_pos rfl,br_ne,if_pos rfl,ieq_rfl,ieq_rfl]
  rfl
end Go.Proofs.YthpkjfabdccpdaaGreat.Pl
