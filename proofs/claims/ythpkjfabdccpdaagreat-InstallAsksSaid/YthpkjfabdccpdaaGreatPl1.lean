/- Functions of the program and of the specification as plain functions, and laws about them. No condition. -/
import Derived.Test.YthpkjfabdccpdaaGreatPl0
set_option linter.all false
namespace Go.Proofs.YthpkjfabdccpdaaGreat.Pl
open Go Go.Proofs.YthpkjfabdccpdaaGreat.Sv
set_option linter.all false
def g_ref15_size (x:(Int×Int)):Option Int :=
 bd (loop (λs0=>br (ilt s0.2 x.2) (λ_=>some (.nx (imul .i64 2 s0.1,iadd .i64 s0.2 1))) λ_=>some (.dn ((0,(s0,()))))) (x.1,0)) λr1=>some r1.2.1.1
def g_ref03_Check (x:Entry):Option Int :=
 br (igt (nti (slen x.1)) 32) (λ_=>some 3) λ_=>br (igt (nti (slen x.2.1)) 64) (λ_=>some 3) λ_=>br x.2.2.1 (λ_=>br (bnot (seq x.2.1 [])) (λ_=>some 6) λ_=>br (ilt x.2.2.2 1) (λ_=>some 7) λ_=>br (igt x.2.2.2 1000000000) (λ_=>some 7) λ_=>some 0) λ_=>br (ilt x.2.2.2 1) (λ_=>some 7) λ_=>br (igt x.2.2.2 1000000000) (λ_=>some 7) λ_=>some 0
def g_ref02_common (x:((List UInt8)×(List UInt8))):Option Int :=
 bd (loop (λs0=>br (ilt s0 (nti (slen x.1))) (λ_=>br (ilt s0 (nti (slen x.2))) (λ_=>nat s0 λk1=>ix x.1 k1 λx2=>nat s0 λk3=>ix x.2 k3 λx4=>br (ieq (u8i x2) (u8i x4)) (λ_=>some (.nx (iadd .i64 s0 1))) λ_=>some (.dn ((0,(s0,()))))) λ_=>some (.dn ((0,(s0,()))))) λ_=>some (.dn ((0,(s0,()))))) 0) λr5=>some r5.2.1
def g_ref02_Order (x:((List UInt8)×(List UInt8))):Option Int :=
 bd (g_ref02_common x) λr0=>br (ieq r0 (nti (slen x.1))) (λ_=>br (ieq r0 (nti (slen x.2))) (λ_=>some 0) λ_=>br (ieq r0 (nti (slen x.1))) (λ_=>some (-1)) λ_=>br (ilt r0 (nti (slen x.2))) (λ_=>nat r0 λk1=>ix x.1 k1 λx2=>nat r0 λk3=>ix x.2 k3 λx4=>br (ilt (u8i x2) (u8i x4)) (λ_=>some (-1)) λ_=>some 1) λ_=>some 1) λ_=>br (ieq r0 (nti (slen x.1))) (λ_=>some (-1)) λ_=>br (ilt r0 (nti (slen x.2))) (λ_=>nat r0 λk5=>ix x.1 k5 λx6=>nat r0 λk7=>ix x.2 k7 λx8=>br (ilt (u8i x6) (u8i x8)) (λ_=>some (-1)) λ_=>some 1) λ_=>some 1
def g_ref03_CheckList (x:(List Entry)):Option (Int×Int) :=
 br (igt (nti (llen x)) 5000) (λ_=>some (((-1),3))) λ_=>bd (loop (λs0=>br (ilt s0.2.2 (nti (llen x))) (λ_=>nat s0.2.2 λk1=>ix x k1 λx2=>bd (g_ref03_Check x2) λr3=>br (ieq r3 0) (λ_=>br (igt s0.2.2 0) (λ_=>nat (isub .i64 s0.2.2 1) λk4=>ix x k4 λx5=>nat s0.2.2 λk6=>ix x k6 λx7=>bd (g_ref02_Order (x5.1,x7.1)) λr8=>br (ige r8 0) (λ_=>some (.dn ((0,((6,(s0.2.2,s0.2.2)),()))))) λ_=>br (ine r3 0) (λ_=>some (.dn ((0,((r3,(s0.2.2,s0.2.2)),()))))) λ_=>some (.nx ((s0.1,(s0.2.1,iadd .i64 s0.2.2 1))))) λ_=>br (ine r3 0) (λ_=>some (.dn ((0,((r3,(s0.2.2,s0.2.2)),()))))) λ_=>some (.nx ((s0.1,(s0.2.1,iadd .i64 s0.2.2 1))))) λ_=>br (ine r3 0) (λ_=>some (.dn ((0,((r3,(s0.2.2,s0.2.2)),()))))) λ_=>some (.nx ((s0.1,(s0.2.1,iadd .i64 s0.2.2 1))))) λ_=>some (.dn ((1,(s0,()))))) ((0,(0,0)))) λr9=>br (neq r9.1 0) (λ_=>some (r9.2.1.2.1,r9.2.1.1)) λ_=>some (0,0)
def g_ref08_Check (x:Run):Option (Int×Int) :=
 br (ilt x.1 1) (λ_=>some (((-1),7))) λ_=>br (igt x.1 1000000) (λ_=>some (((-1),7))) λ_=>bd (g_ref03_CheckList x.2) λr0=>some r0
def g_ref15_fits (x:(Run×(Int×(List Int)))):Option Int :=
 bd (g_ref08_Check x.1) λr0=>br (ine r0.2 0) (λ_=>some r0.2) λ_=>br (ieq (nti (llen x.1.2)) 0) (λ_=>some 4) λ_=>br (igt (nti (llen x.1.2)) x.2.1) (λ_=>some 3) λ_=>bd (loop (λs1=>br (ilt s1.1 (nti (llen x.2.2))) (λ_=>nat s1.1 λk2=>ix x.2.2 k2 λx3=>br (ieq x3 x.1.1) (λ_=>some (.dn ((0,((s1.1,8),()))))) λ_=>some (.nx (iadd .i64 s1.1 1,s1.2))) λ_=>some (.dn ((1,(s1,()))))) (0,0)) λr4=>br (neq r4.1 0) (λ_=>some r4.2.1.2) λ_=>some 0
def g_ref15_Check (x:Levels):Option (Int×(Int×Int)) :=
 br (ilt x.1 1) (λ_=>some ((0,(0,7)))) λ_=>br (igt x.1 16) (λ_=>some ((0,(0,7)))) λ_=>br (igt (nti (llen x.2)) 12) (λ_=>some ((0,(0,3)))) λ_=>bd (loop (λ(s0:(Int×((List Int)×(Int×(Int×Int)))))=>br (ilt s0.2.2.2.2 (nti (llen x.2))) (λ_=>nat s0.2.2.2.2 λk1=>ix x.2 k1 λx2=>br (igt (nti (llen x2)) 2) (λ_=>some (.dn ((0,((0,(s0.2.1,(s0.2.2.2.2,(3,s0.2.2.2.2)))),()))))) λ_=>bd (loop (λ(s3:(Int×((List Int)×(Int×(Int×Int)))))=>br (ilt s3.2.2.2.2 (nti (llen x2))) (λ_=>nat s3.2.2.2.2 λk4=>ix x2 k4 λx5=>bd (g_ref15_size (x.1,s0.2.2.2.2)) λr6=>bd (g_ref15_fits ((x5,(r6,s3.2.1)))) λr7=>br (ine r7 0) (λ_=>some (.dn ((0,((s3.2.2.2.2,(s3.2.1,(s0.2.2.2.2,(r7,s3.2.2.2.2)))),()))))) λ_=>nat s3.2.2.2.2 λk8=>ix x2 k8 λx9=>gd (nle (nadd (llen s3.2.1) (llen [x9.1])) 1048576) λ_=>some (.nx ((s3.1,(lapp s3.2.1 [x9.1],(s3.2.2.1,(s3.2.2.2.1,iadd .i64 s3.2.2.2.2 1))))))) λ_=>some (.dn ((1,(s3,()))))) ((s0.1,(s0.2.1,(s0.2.2.1,(s0.2.2.2.1,0)))))) λr10=>br (neq r10.1 0) (λ_=>some (.dn ((0,((r10.2.1.1,(r10.2.1.2.1,(r10.2.1.2.2.1,(r10.2.1.2.2.2.1,s0.2.2.2.2)))),()))))) λ_=>some (.nx ((r10.2.1.1,(r10.2.1.2.1,(r10.2.1.2.2.1,(r10.2.1.2.2.2.1,iadd .i64 s0.2.2.2.2 1))))))) λ_=>some (.dn ((1,(s0,()))))) ((0,([],(0,(0,0)))))) λr11=>br (neq r11.1 0) (λ_=>some ((r11.2.1.2.2.1,(r11.2.1.1,r11.2.1.2.2.2.1)))) λ_=>br (igt (nti (llen x.2)) 0) (λ_=>nat (isub .i64 (nti (llen x.2)) 1) λk12=>ix x.2 k12 λx13=>br (ieq (nti (llen x13)) 0) (λ_=>some ((isub .i64 (nti (llen x.2)) 1,(0,6)))) λ_=>some ((0,(0,0)))) λ_=>some ((0,(0,0)))
def g_ref15_Newest (x:Levels):Option ((List Run)×Int) :=
 bd (g_ref15_Check x) λr0=>br (ine r0.2.2 0) (λ_=>some ([],r0.2.2)) λ_=>bd (loop (λs1=>br (ilt s1.2 (nti (llen x.2))) (λ_=>nat s1.2 λk2=>ix x.2 k2 λx3=>bd (loop (λs4=>br (ige s4.2 0) (λ_=>nat s1.2 λk5=>ix x.2 k5 λx6=>nat s4.2 λk7=>ix x6 k7 λx8=>gd (nle (nadd (llen s4.1) (llen [x8])) 1048576) λ_=>some (.nx (lapp s4.1 [x8],isub .i64 s4.2 1))) λ_=>some (.dn ((0,(s4,()))))) ((s1.1,isub .i64 (nti (llen x3)) 1))) λr9=>some (.nx (r9.2.1.1,iadd .i64 s1.2 1))) λ_=>some (.dn ((0,(s1,()))))) ([],0)) λr10=>some (r10.2.1.1,0)
def g_ref16_greatest (x:Levels):Option Int :=
 bd (g_ref15_Newest x) λr0=>bd (loop (λs1=>br (ilt s1.2 (nti (llen r0.1))) (λ_=>nat s1.2 λk2=>ix r0.1 k2 λx3=>some (.nx (imx s1.1 x3.1,iadd .i64 s1.2 1))) λ_=>some (.dn ((0,(s1,()))))) (0,0)) λr4=>some r4.2.1.1
def g_ref16_Due (x:Levels):Option (List Int) :=
 bd (loop (λs0=>br (ilt s0.2 (nti (llen x.2))) (λ_=>nat s0.2 λk1=>ix x.2 k1 λx2=>br (ieq (nti (llen x2)) 2) (λ_=>gd (nle (nadd (llen s0.1) (llen [s0.2])) 1048576) λ_=>some (.nx (lapp s0.1 [s0.2],iadd .i64 s0.2 1))) λ_=>some (.nx (s0.1,iadd .i64 s0.2 1))) λ_=>some (.dn ((0,(s0,()))))) ([],0)) λr3=>some r3.2.1.1
def g_ref15_in (x:(Levels×Int)):Option Int :=
 bd (g_ref15_Check x.1) λr0=>br (ieq r0.2.2 0) (λ_=>br (ilt x.2 0) (λ_=>some 7) λ_=>br (ige x.2 12) (λ_=>some 7) λ_=>some r0.2.2) λ_=>some r0.2.2
def g_ref15_Above (x:(Levels×Int)):Option (Bool×Int) :=
 bd (g_ref15_in x) λr0=>br (ine r0 0) (λ_=>some (false,r0)) λ_=>some ((igt (nti (llen x.1.2)) (iadd .i64 x.2 1),0))
def g_ref16_lowest (x:(Levels×Int)):Option Bool :=
 bd (g_ref15_Above x) λr0=>some (bnot r0.1)
def g_ref11_right (x:(List (List Entry))):Option (Int×Int) :=
 br (ieq (nti (llen x)) 0) (λ_=>some (((-1),6))) λ_=>br (igt (nti (llen x)) 32) (λ_=>some (((-1),3))) λ_=>bd (loop (λs0=>br (ilt s0.2.2 (nti (llen x))) (λ_=>nat s0.2.2 λk1=>ix x k1 λx2=>bd (g_ref03_CheckList x2) λr3=>br (ine r3.2 0) (λ_=>some (.dn ((0,((r3.2,(s0.2.2,s0.2.2)),()))))) λ_=>some (.nx ((s0.1,(s0.2.1,iadd .i64 s0.2.2 1))))) λ_=>some (.dn ((1,(s0,()))))) ((0,(0,0)))) λr4=>br (neq r4.1 0) (λ_=>some (r4.2.1.2.1,r4.2.1.1)) λ_=>some (0,0)
def g_ref10_right (x:(List LsKey)):Option Int :=
 br (ieq (nti (llen x)) 0) (λ_=>some 6) λ_=>br (igt (nti (llen x)) 32) (λ_=>some 3) λ_=>bd (loop (λs0=>br (ilt s0.1 (nti (llen x))) (λ_=>nat s0.1 λk1=>ix x k1 λx2=>br x2.2 (λ_=>nat s0.1 λk3=>ix x k3 λx4=>br (bnot (seq x4.1 [])) (λ_=>some (.dn ((0,((s0.1,2),()))))) λ_=>some (.nx (iadd .i64 s0.1 1,s0.2))) λ_=>some (.nx (iadd .i64 s0.1 1,s0.2))) λ_=>some (.dn ((1,(s0,()))))) (0,0)) λr5=>br (neq r5.1 0) (λ_=>some r5.2.1.2) λ_=>some 0
def g_ref10_wins (x:((List LsKey)×(Int×Int))):Option Bool :=
 nat x.2.1 λk0=>ix x.1 k0 λx1=>nat x.2.2 λk2=>ix x.1 k2 λx3=>br (bnot (beq x1.2 x3.2)) (λ_=>some x3.2) λ_=>br (bnot x1.2) (λ_=>br (bnot (seq x1.1 x3.1)) (λ_=>some (slt x1.1 x3.1)) λ_=>some (ilt x.2.1 x.2.2)) λ_=>some (ilt x.2.1 x.2.2)
def g_ref10_player_body (rec:((List LsKey)×Int)→Option (Int×Int)) (x:((List LsKey)×Int)):Option (Int×Int) :=
 br (ige x.2 (nti (llen x.1))) (λ_=>some ((isub .i64 x.2 (nti (llen x.1)),0))) λ_=>bd (rec (x.1,imul .i64 2 x.2)) λr0=>bd (rec ((x.1,iadd .i64 (imul .i64 2 x.2) 1))) λr1=>bd (g_ref10_wins ((x.1,(r0.1,r1.1)))) λr2=>br r2 (λ_=>some (r0.1,r1.1)) λ_=>some (r1.1,r0.1)
def g_ref10_player:((List LsKey)×Int)→Option (Int×Int):=iterR g_ref10_player_body 100
def g_ref10_tree (x:(List LsKey)):Option LsTree :=
 gd (nle (llen x) 1048576) λ_=>nat (nti (llen x)) λk0=>nat (nti (llen x)) λk1=>gd (nle k1 1048576) λ_=>bd (loop (λs2=>br (ilt s2.1 (nti (llen x))) (λ_=>bd (g_ref10_player (x,s2.1)) λr3=>nat s2.1 λk4=>gd (nlt k4 (llen s2.2.2.1)) λ_=>ix s2.2.2.1 k4 λx5=>some (.nx ((iadd .i64 s2.1 1,(s2.2.1,(lset s2.2.2.1 k4 r3.2,s2.2.2.2)))))) λ_=>some (.dn ((0,(s2,()))))) ((1,(x,(lrep k1 0,(0:Int)))))) λr6=>bd (g_ref10_player (x,1)) λr7=>some ((r6.2.1.2.1,(r6.2.1.2.2.1,r7.1)))
def g_ref10_Build (x:(List LsKey)):Option (LsTree×Int) :=
 bd (g_ref10_right x) λr0=>br (ine r0 0) (λ_=>some ((([],([],0)),r0))) λ_=>bd (g_ref10_tree x) λr1=>some (r1,0)
def g_ref11_state (x:((List (List Entry))×(List Int))):Option MgState :=
 gd (nle (llen x.1) 1048576) λ_=>gd (nle (llen x.2) 1048576) λ_=>bd (loop (λs0=>br (ilt s0.1 (nti (llen x.1))) (λ_=>nat s0.1 λk1=>ix x.2 k1 λx2=>nat s0.1 λk3=>ix x.1 k3 λx4=>br (bnot (ieq x2 (nti (llen x4)))) (λ_=>nat s0.1 λk5=>ix x.1 k5 λx6=>nat s0.1 λk7=>ix x.2 k7 λx8=>nat x8 λk9=>ix x6 k9 λx10=>gd (nle (nadd (llen s0.2) (llen ([(x10.1,ieq x2 (nti (llen x4)))]))) 1048576) λ_=>some (.nx ((iadd .i64 s0.1 1,lapp s0.2 ([(x10.1,ieq x2 (nti (llen x4)))]))))) λ_=>gd (nle (nadd (llen s0.2) (llen ([(([]:List UInt8),ieq x2 (nti (llen x4)))]))) 1048576) λ_=>some (.nx ((iadd .i64 s0.1 1,lapp s0.2 ([([],ieq x2 (nti (llen x4)))]))))) λ_=>some (.dn ((0,(s0,()))))) (0,[])) λr11=>bd (g_ref10_Build r11.2.1.2) λr12=>some ((x.1,(x.2,r12.1)))
def g_ref11_Begin (x:(List (List Entry))):Option (MgState×(Int×Int)) :=
 bd (g_ref11_right x) λr0=>br (ine r0.2 0) (λ_=>some ((([],([],([],([],0)))),r0))) λ_=>nat (nti (llen x)) λk1=>nat (nti (llen x)) λk2=>gd (nle k2 1048576) λ_=>bd (g_ref11_state (x,lrep k2 0)) λr3=>some ((r3,(0,0)))
def g_ref12_Begin (x:Bool):Option (Bool×LsKey) :=
 some ((false,([],x)))
def g_ref13_Begin (x:((List (List Entry))×Bool)):Option ((MgState×((Bool×LsKey)×((List Entry)×Int)))×(Int×Int)) :=
 bd (g_ref11_Begin x.1) λr0=>br (ine r0.2.2 0) (λ_=>some (((([],([],([],([],0)))),((false,([],false)),([],0))),r0.2))) λ_=>bd (g_ref12_Begin x.2) λr1=>some (((r0.1,(r1,([],0))),(0,0)))
def g_ref16_begun (x:(Levels×(Int×Bool))):Option (Int×(MgState×((Bool×LsKey)×((List Entry)×Int)))) :=
 br (ige x.2.1 (nti (llen x.1.2))) (λ_=>none) λ_=>nat x.2.1 λk0=>ix x.1.2 k0 λx1=>ix x1 1 λx2=>ix x1 0 λx3=>bd (g_ref13_Begin ([x2.2,x3.2],x.2.2)) λr4=>some (x.2.1,r4.1)
def g_ref10_Ints (x:((List Int)×(List Int))):Option Bool :=
 br (ine (nti (llen x.1)) (nti (llen x.2))) (λ_=>some false) λ_=>bd (loop (λs0=>br (ilt s0.1 (nti (llen x.1))) (λ_=>nat s0.1 λk1=>ix x.1 k1 λx2=>nat s0.1 λk3=>ix x.2 k3 λx4=>br (ine x2 x4) (λ_=>some (.dn ((0,((s0.1,false),()))))) λ_=>some (.nx (iadd .i64 s0.1 1,s0.2))) λ_=>some (.dn ((1,(s0,()))))) (0,false)) λr5=>br (neq r5.1 0) (λ_=>some r5.2.1.2) λ_=>some true
def g_ref10_Same (x:(LsTree×LsTree)):Option Bool :=
 br (ine (nti (llen x.1.1)) (nti (llen x.2.1))) (λ_=>some false) λ_=>br (ine x.1.2.2 x.2.2.2) (λ_=>some false) λ_=>bd (g_ref10_Ints (x.1.2.1,x.2.2.1)) λr0=>br (bnot r0) (λ_=>some false) λ_=>bd (loop (λs1=>br (ilt s1.1 (nti (llen x.1.1))) (λ_=>nat s1.1 λk2=>ix x.1.1 k2 λx3=>nat s1.1 λk4=>ix x.2.1 k4 λx5=>br (bnot (band (seq x3.1 x5.1) (band (beq x3.2 x5.2) true))) (λ_=>some (.dn ((0,((s1.1,false),()))))) λ_=>some (.nx (iadd .i64 s1.1 1,s1.2))) λ_=>some (.dn ((1,(s1,()))))) (0,false)) λr6=>br (neq r6.1 0) (λ_=>some r6.2.1.2) λ_=>some true
def g_ref11_first (x:((List (List Entry))×(List Int))):Option Int :=
 bd (loop (λs0=>br (ilt s0.2 (nti (llen x.1))) (λ_=>nat s0.2 λk1=>ix x.2 k1 λx2=>nat s0.2 λk3=>ix x.1 k3 λx4=>br (ilt x2 (nti (llen x4))) (λ_=>br (ilt s0.1 0) (λ_=>some (.nx (s0.2,iadd .i64 s0.2 1))) λ_=>nat s0.2 λk5=>ix x.1 k5 λx6=>nat s0.2 λk7=>ix x.2 k7 λx8=>nat x8 λk9=>ix x6 k9 λx10=>nat s0.1 λk11=>ix x.1 k11 λx12=>nat s0.1 λk13=>ix x.2 k13 λx14=>nat x14 λk15=>ix x12 k15 λx16=>br (slt x10.1 x16.1) (λ_=>some (.nx (s0.2,iadd .i64 s0.2 1))) λ_=>some (.nx (s0.1,iadd .i64 s0.2 1))) λ_=>some (.nx (s0.1,iadd .i64 s0.2 1))) λ_=>some (.dn ((0,(s0,()))))) (((-1),0))) λr17=>some r17.2.1.1
def g_ref11_Check (x:MgState):Option (Int×Int) :=
 bd (g_ref11_right x.1) λr0=>br (ine r0.2 0) (λ_=>some r0) λ_=>br (ine (nti (llen x.2.1)) (nti (llen x.1))) (λ_=>some (((-1),6))) λ_=>bd (loop (λs1=>br (ilt s1.2.2 (nti (llen x.2.1))) (λ_=>nat s1.2.2 λk2=>ix x.2.1 k2 λx3=>br (ilt x3 0) (λ_=>some (.dn ((0,((6,(s1.2.2,s1.2.2)),()))))) λ_=>nat s1.2.2 λk4=>ix x.2.1 k4 λx5=>nat s1.2.2 λk6=>ix x.1 k6 λx7=>br (igt x5 (nti (llen x7))) (λ_=>some (.dn ((0,((6,(s1.2.2,s1.2.2)),()))))) λ_=>some (.nx ((s1.1,(s1.2.1,iadd .i64 s1.2.2 1))))) λ_=>some (.dn ((1,(s1,()))))) ((0,(0,0)))) λr8=>br (neq r8.1 0) (λ_=>some (r8.2.1.2.1,r8.2.1.1)) λ_=>bd (g_ref11_state (x.1,x.2.1)) λr9=>bd (g_ref10_Same (x.2.2,r9.2.2)) λr10=>br (bnot r10) (λ_=>some (((-1),6))) λ_=>bd (g_ref11_first (x.1,x.2.1)) λr11=>bd (loop (λs12=>br (ilt s12.2.2 (nti (llen x.1))) (λ_=>br (ige r11 0) (λ_=>nat s12.2.2 λk13=>ix x.2.1 k13 λx14=>br (ieq x14 0) (λ_=>some (.nx ((s12.1,(s12.2.1,iadd .i64 s12.2.2 1))))) λ_=>nat s12.2.2 λk15=>ix x.1 k15 λx16=>nat s12.2.2 λk17=>ix x.2.1 k17 λx18=>nat (isub .i64 x18 1) λk19=>ix x16 k19 λx20=>nat r11 λk21=>ix x.1 k21 λx22=>nat r11 λk23=>ix x.2.1 k23 λx24=>nat x24 λk25=>ix x22 k25 λx26=>br (slt x26.1 x20.1) (λ_=>some (.dn ((0,((6,(r11,s12.2.2)),()))))) λ_=>br (seq x20.1 x26.1) (λ_=>br (igt s12.2.2 r11) (λ_=>some (.dn ((0,((6,(r11,s12.2.2)),()))))) λ_=>some (.nx ((s12.1,(s12.2.1,iadd .i64 s12.2.2 1))))) λ_=>some (.nx ((s12.1,(s12.2.1,iadd .i64 s12.2.2 1))))) λ_=>some (.dn ((1,(s12,()))))) λ_=>some (.dn ((1,(s12,()))))) ((r8.2.1.1,(r8.2.1.2.1,0)))) λr27=>br (neq r27.1 0) (λ_=>some (r27.2.1.2.1,r27.2.1.1)) λ_=>some (0,0)
def g_ref13_read (x:(MgState×((Bool×LsKey)×((List Entry)×Int)))):Option Int :=
 bd (loop (λs0=>br (ilt s0.2 (nti (llen x.1.2.1))) (λ_=>nat s0.2 λk1=>ix x.1.2.1 k1 λx2=>some (.nx (iadd .i64 s0.1 x2,iadd .i64 s0.2 1))) λ_=>some (.dn ((0,(s0,()))))) (0,0)) λr3=>some r3.2.1.1
def g_ref11_All (x:(List (List Entry))):Option ((List Entry)×((List Int)×Int)) :=
 bd (g_ref11_right x) λr0=>br (ine r0.2 0) (λ_=>some (([],([],r0.2)))) λ_=>nat (nti (llen x)) λk1=>nat (nti (llen x)) λk2=>gd (nle k2 1048576) λ_=>bd (loop (λ(s3:((List Int)×((List Entry)×((List Entry)×(Int×((List Int)×(List Int)))))))=>bd (g_ref11_first (x,s3.2.2.2.2.2)) λr4=>br (ilt r4 0) (λ_=>some (.dn ((0,((s3.2.2.2.2.1,(s3.2.1,0)),()))))) λ_=>nat r4 λk5=>ix x k5 λx6=>nat r4 λk7=>gd (nlt k7 (llen s3.2.2.2.2.2)) λ_=>ix s3.2.2.2.2.2 k7 λx8=>nat x8 λk9=>ix x6 k9 λx10=>gd (nle (nadd (llen s3.2.1) (llen [x10])) 1048576) λ_=>gd (nle (nadd (llen s3.2.2.2.2.1) (llen [r4])) 1048576) λ_=>nat r4 λk11=>gd (nlt k11 (llen s3.2.2.2.2.2)) λ_=>ix s3.2.2.2.2.2 k11 λx12=>nat r4 λk13=>gd (nlt k13 (llen s3.2.2.2.2.2)) λ_=>ix s3.2.2.2.2.2 k13 λx14=>some (.nx ((s3.1,(lapp s3.2.1 [x10],(s3.2.2.1,(s3.2.2.2.1,(lapp s3.2.2.2.2.1 [r4],lset s3.2.2.2.2.2 k13 (iadd .i64 x12 1))))))))) (([],([],([],(0,([],lrep k2 0))))))) λr15=>some ((r15.2.1.2.1,(r15.2.1.1,r15.2.1.2.2)))
def g_ref12_Check (x:(Bool×LsKey)):Option Int :=
 br (igt (nti (slen x.2.1)) 32) (λ_=>some 3) λ_=>br (bnot x.1) (λ_=>br (bnot (seq x.2.1 [])) (λ_=>some 6) λ_=>some 0) λ_=>some 0
def g_ref12_Step (x:((Bool×LsKey)×Entry)):Option (Bool×((Bool×LsKey)×Int)) :=
 bd (g_ref12_Check x.1) λr0=>br (ieq r0 0) (λ_=>bd (g_ref03_Check x.2) λr1=>br (ieq r1 0) (λ_=>br x.1.1 (λ_=>br (slt x.2.1 x.1.2.1) (λ_=>some ((false,((false,([],false)),6)))) λ_=>br (ine r1 0) (λ_=>some ((false,((false,([],false)),r1)))) λ_=>br (bnot x.1.1) (λ_=>br x.1.2.2 (λ_=>some ((bnot x.2.2.2.1,((true,(x.2.1,x.1.2.2)),0)))) λ_=>some ((true,((true,(x.2.1,x.1.2.2)),0)))) λ_=>br (bnot (seq x.2.1 x.1.2.1)) (λ_=>br x.1.2.2 (λ_=>some ((bnot x.2.2.2.1,((true,(x.2.1,x.1.2.2)),0)))) λ_=>some ((true,((true,(x.2.1,x.1.2.2)),0)))) λ_=>some ((false,((true,(x.2.1,x.1.2.2)),0)))) λ_=>br (ine r1 0) (λ_=>some ((false,((false,([],false)),r1)))) λ_=>br (bnot x.1.1) (λ_=>br x.1.2.2 (λ_=>some ((bnot x.2.2.2.1,((true,(x.2.1,x.1.2.2)),0)))) λ_=>some ((true,((true,(x.2.1,x.1.2.2)),0)))) λ_=>br (bnot (seq x.2.1 x.1.2.1)) (λ_=>br x.1.2.2 (λ_=>some ((bnot x.2.2.2.1,((true,(x.2.1,x.1.2.2)),0)))) λ_=>some ((true,((true,(x.2.1,x.1.2.2)),0)))) λ_=>some ((false,((true,(x.2.1,x.1.2.2)),0)))) λ_=>br (ine r1 0) (λ_=>some ((false,((false,([],false)),r1)))) λ_=>br (bnot x.1.1) (λ_=>br x.1.2.2 (λ_=>some ((bnot x.2.2.2.1,((true,(x.2.1,x.1.2.2)),0)))) λ_=>some ((true,((true,(x.2.1,x.1.2.2)),0)))) λ_=>br (bnot (seq x.2.1 x.1.2.1)) (λ_=>br x.1.2.2 (λ_=>some ((bnot x.2.2.2.1,((true,(x.2.1,x.1.2.2)),0)))) λ_=>some ((true,((true,(x.2.1,x.1.2.2)),0)))) λ_=>some ((false,((true,(x.2.1,x.1.2.2)),0)))) λ_=>br (ieq r0 0) (λ_=>br x.1.1 (λ_=>br (slt x.2.1 x.1.2.1) (λ_=>some ((false,((false,([],false)),6)))) λ_=>br (ine r0 0) (λ_=>some ((false,((false,([],false)),r0)))) λ_=>br (bnot x.1.1) (λ_=>br x.1.2.2 (λ_=>some ((bnot x.2.2.2.1,((true,(x.2.1,x.1.2.2)),0)))) λ_=>some ((true,((true,(x.2.1,x.1.2.2)),0)))) λ_=>br (bnot (seq x.2.1 x.1.2.1)) (λ_=>br x.1.2.2 (λ_=>some ((bnot x.2.2.2.1,((true,(x.2.1,x.1.2.2)),0)))) λ_=>some ((true,((true,(x.2.1,x.1.2.2)),0)))) λ_=>some ((false,((true,(x.2.1,x.1.2.2)),0)))) λ_=>br (ine r0 0) (λ_=>some ((false,((false,([],false)),r0)))) λ_=>br (bnot x.1.1) (λ_=>br x.1.2.2 (λ_=>some ((bnot x.2.2.2.1,((true,(x.2.1,x.1.2.2)),0)))) λ_=>some ((true,((true,(x.2.1,x.1.2.2)),0)))) λ_=>br (bnot (seq x.2.1 x.1.2.1)) (λ_=>br x.1.2.2 (λ_=>some ((bnot x.2.2.2.1,((true,(x.2.1,x.1.2.2)),0)))) λ_=>some ((true,((true,(x.2.1,x.1.2.2)),0)))) λ_=>some ((false,((true,(x.2.1,x.1.2.2)),0)))) λ_=>br (ine r0 0) (λ_=>some ((false,((false,([],false)),r0)))) λ_=>br (bnot x.1.1) (λ_=>br x.1.2.2 (λ_=>some ((bnot x.2.2.2.1,((true,(x.2.1,x.1.2.2)),0)))) λ_=>some ((true,((true,(x.2.1,x.1.2.2)),0)))) λ_=>br (bnot (seq x.2.1 x.1.2.1)) (λ_=>br x.1.2.2 (λ_=>some ((bnot x.2.2.2.1,((true,(x.2.1,x.1.2.2)),0)))) λ_=>some ((true,((true,(x.2.1,x.1.2.2)),0)))) λ_=>some ((false,((true,(x.2.1,x.1.2.2)),0)))
def g_ref12_Filter (x:((List Entry)×Bool)):Option ((List Entry)×(Int×Int)) :=
 br (igt (nti (llen x.1)) 20000) (λ_=>some (([],((-1),3)))) λ_=>bd (g_ref12_Begin x.2) λr0=>bd (loop (λ(s1:(Int×(Int×((List Entry)×((List Entry)×(Int×(Bool×LsKey)))))))=>br (ilt s1.2.1 (nti (llen x.1))) (λ_=>nat s1.2.1 λk2=>ix x.1 k2 λx3=>bd (g_ref12_Step (s1.2.2.2.2.2,x3)) λr4=>br (ine r4.2.2 0) (λ_=>some (.dn ((0,((s1.2.1,(s1.2.1,([],(s1.2.2.2.1,(r4.2.2,s1.2.2.2.2.2))))),()))))) λ_=>br r4.1 (λ_=>nat s1.2.1 λk5=>ix x.1 k5 λx6=>gd (nle (nadd (llen s1.2.2.2.1) (llen [x6])) 1048576) λ_=>some (.nx ((s1.1,(iadd .i64 s1.2.1 1,(s1.2.2.1,(lapp s1.2.2.2.1 [x6],(s1.2.2.2.2.1,r4.2.1)))))))) λ_=>some (.nx ((s1.1,(iadd .i64 s1.2.1 1,(s1.2.2.1,(s1.2.2.2.1,(s1.2.2.2.2.1,r4.2.1)))))))) λ_=>some (.dn ((1,(s1,()))))) ((0,(0,([],([],(0,r0))))))) λr7=>br (neq r7.1 0) (λ_=>some ((r7.2.1.2.2.1,(r7.2.1.1,r7.2.1.2.2.2.2.1)))) λ_=>some ((r7.2.1.2.2.2.1,(0,0)))
def g_ref13_behind (x:((List Entry)×Bool)):Option ((List Entry)×(Bool×LsKey)) :=
 bd (g_ref12_Filter x) λr0=>bd (g_ref12_Begin x.2) λr1=>br (igt (nti (llen x.1)) 0) (λ_=>nat (isub .i64 (nti (llen x.1)) 1) λk2=>ix x.1 k2 λx3=>some ((r0.1,(true,(x3.1,r1.2.2))))) λ_=>some (r0.1,r1)
def g_ref11_SameEntries (x:((List Entry)×(List Entry))):Option Bool :=
 br (ine (nti (llen x.1)) (nti (llen x.2))) (λ_=>some false) λ_=>bd (loop (λs0=>br (ilt s0.1 (nti (llen x.1))) (λ_=>nat s0.1 λk1=>ix x.1 k1 λx2=>nat s0.1 λk3=>ix x.2 k3 λx4=>br (bnot (band (seq x2.1 x4.1) (band (seq x2.2.1 x4.2.1) (band (beq x2.2.2.1 x4.2.2.1) (band (ieq x2.2.2.2 x4.2.2.2) true))))) (λ_=>some (.dn ((0,((s0.1,false),()))))) λ_=>some (.nx (iadd .i64 s0.1 1,s0.2))) λ_=>some (.dn ((1,(s0,()))))) (0,false)) λr5=>br (neq r5.1 0) (λ_=>some r5.2.1.2) λ_=>some true
def g_ref13_Check (x:(MgState×((Bool×LsKey)×((List Entry)×Int)))):Option Int :=
 bd (g_ref11_Check x.1) λr0=>br (ine r0.2 0) (λ_=>some r0.2) λ_=>bd (g_ref13_read x) λr1=>br (igt (nti (llen x.2.2.1)) 20000) (λ_=>some 3) λ_=>br (igt r1 20000) (λ_=>some 3) λ_=>br (ine x.2.2.2 r1) (λ_=>some 7) λ_=>bd (g_ref11_All x.1.1) λr2=>nat r1 λk3=>gd (nle k3 (llen r2.1)) λ_=>gd (nle 0 k3) λ_=>bd (g_ref13_behind (lsub r2.1 0 k3,x.2.1.2.2)) λr4=>bd (g_ref11_SameEntries (x.2.2.1,r4.1)) λr5=>br (bnot r5) (λ_=>some 6) λ_=>br (bnot (band (beq x.2.1.1 r4.2.1) (band (seq x.2.1.2.1 r4.2.2.1) (band (beq x.2.1.2.2 r4.2.2.2) true)))) (λ_=>some 6) λ_=>some 0
def g_ref11_Left (x:MgState):Option (Int×Int) :=
 bd (g_ref11_Check x) λr0=>br (ine r0.2 0) (λ_=>some (0,r0.2)) λ_=>bd (loop (λs1=>br (ilt s1.1 (nti (llen x.1))) (λ_=>nat s1.1 λk2=>ix x.1 k2 λx3=>nat s1.1 λk4=>ix x.2.1 k4 λx5=>some (.nx ((iadd .i64 s1.1 1,isub .i64 (iadd .i64 s1.2 (nti (llen x3))) x5)))) λ_=>some (.dn ((0,(s1,()))))) (0,0)) λr6=>some (r6.2.1.2,0)
def g_ref13_Left (x:(MgState×((Bool×LsKey)×((List Entry)×Int)))):Option (Int×Int) :=
 bd (g_ref13_Check x) λr0=>br (ine r0 0) (λ_=>some (0,r0)) λ_=>bd (g_ref11_Left x.1) λr1=>some r1
def g_ref11_Next (x:MgState):Option (Entry×(Int×(MgState×Int))) :=
 bd (g_ref11_Check x) λr0=>br (ine r0.2 0) (λ_=>some (((([],([],(false,0))):Entry),(0,(([],([],([],([],0)))),r0.2))))) λ_=>bd (g_ref11_first (x.1,x.2.1)) λr1=>br (ilt r1 0) (λ_=>some (((([],([],(false,0))):Entry),(0,(([],([],([],([],0)))),12))))) λ_=>gd (nle (llen x.2.1) 1048576) λ_=>nat r1 λk2=>gd (nlt k2 (llen x.2.1)) λ_=>ix x.2.1 k2 λx3=>nat r1 λk4=>gd (nlt k4 (llen x.2.1)) λ_=>ix x.2.1 k4 λx5=>nat r1 λk6=>ix x.1 k6 λx7=>nat r1 λk8=>ix x.2.1 k8 λx9=>nat x9 λk10=>ix x7 k10 λx11=>bd (g_ref11_state ((x.1,lset x.2.1 k4 (iadd .i64 x3 1)))) λr12=>some ((x11,(r1,(r12,0))))
def g_ref13_Step (x:((MgState×((Bool×LsKey)×((List Entry)×Int)))×Int)):Option ((MgState×((Bool×LsKey)×((List Entry)×Int)))×(Int×Int)) :=
 bd (g_ref13_Left x.1) λr0=>br (ieq r0.2 0) (λ_=>br (ilt x.2 0) (λ_=>some (((([],([],([],([],0)))),((false,([],false)),([],0))),(0,7)))) λ_=>br (ine r0.2 0) (λ_=>some (((([],([],([],([],0)))),((false,([],false)),([],0))),(0,r0.2)))) λ_=>bd (g_ref13_read x.1) λr1=>br (igt (iadd .i64 r1 (imn x.2 r0.1)) 20000) (λ_=>some (((([],([],([],([],0)))),((false,([],false)),([],0))),(0,3)))) λ_=>bd (loop (λ(s2:(Int×((List (List Entry))×((List Int)×((List LsKey)×((List Int)×(Int×(Bool×((List UInt8)×(Bool×((List Entry)×Int)))))))))))=>br (ilt s2.1 (imn x.2 r0.1)) (λ_=>bd (g_ref11_Next ((s2.2.1,(s2.2.2.1,(s2.2.2.2.1,(s2.2.2.2.2.1,s2.2.2.2.2.2.1)))))) λr3=>some (.nx ((iadd .i64 s2.1 1,(r3.2.2.1.1,(r3.2.2.1.2.1,(r3.2.2.1.2.2.1,(r3.2.2.1.2.2.2.1,(r3.2.2.1.2.2.2.2,s2.2.2.2.2.2.2))))))))) λ_=>some (.dn ((0,(s2,()))))) ((0,(x.1.1.1,(x.1.1.2.1,(x.1.1.2.2.1,(x.1.1.2.2.2.1,(x.1.1.2.2.2.2,(x.1.2.1.1,(x.1.2.1.2.1,(x.1.2.1.2.2,x.1.2.2))))))))))) λr4=>bd (g_ref11_All x.1.1.1) λr5=>nat (iadd .i64 x.1.2.2.2 (imn x.2 r0.1)) λk6=>gd (nle k6 (llen r5.1)) λ_=>gd (nle 0 k6) λ_=>bd (g_ref13_behind (lsub r5.1 0 k6,x.1.2.1.2.2)) λr7=>some ((((r4.2.1.2.1,(r4.2.1.2.2.1,(r4.2.1.2.2.2.1,(r4.2.1.2.2.2.2.1,r4.2.1.2.2.2.2.2.1)))),(r7.2,(r7.1,iadd .i64 x.1.2.2.2 (imn x.2 r0.1)))),(imn x.2 r0.1,0)))) λ_=>br (ine r0.2 0) (λ_=>some (((([],([],([],([],0)))),((false,([],false)),([],0))),(0,r0.2)))) λ_=>bd (g_ref13_read x.1) λr8=>br (igt (iadd .i64 r8 (imn x.2 r0.1)) 20000) (λ_=>some (((([],([],([],([],0)))),((false,([],false)),([],0))),(0,3)))) λ_=>bd (loop (λ(s9:(Int×((List (List Entry))×((List Int)×((List LsKey)×((List Int)×(Int×(Bool×((List UInt8)×(Bool×((List Entry)×Int)))))))))))=>br (ilt s9.1 (imn x.2 r0.1)) (λ_=>bd (g_ref11_Next ((s9.2.1,(s9.2.2.1,(s9.2.2.2.1,(s9.2.2.2.2.1,s9.2.2.2.2.2.1)))))) λr10=>some (.nx ((iadd .i64 s9.1 1,(r10.2.2.1.1,(r10.2.2.1.2.1,(r10.2.2.1.2.2.1,(r10.2.2.1.2.2.2.1,(r10.2.2.1.2.2.2.2,s9.2.2.2.2.2.2))))))))) λ_=>some (.dn ((0,(s9,()))))) ((0,(x.1.1.1,(x.1.1.2.1,(x.1.1.2.2.1,(x.1.1.2.2.2.1,(x.1.1.2.2.2.2,(x.1.2.1.1,(x.1.2.1.2.1,(x.1.2.1.2.2,x.1.2.2))))))))))) λr11=>bd (g_ref11_All x.1.1.1) λr12=>nat (iadd .i64 x.1.2.2.2 (imn x.2 r0.1)) λk13=>gd (nle k13 (llen r12.1)) λ_=>gd (nle 0 k13) λ_=>bd (g_ref13_behind (lsub r12.1 0 k13,x.1.2.1.2.2)) λr14=>some ((((r11.2.1.2.1,(r11.2.1.2.2.1,(r11.2.1.2.2.2.1,(r11.2.1.2.2.2.2.1,r11.2.1.2.2.2.2.2.1)))),(r14.2,(r14.1,iadd .i64 x.1.2.2.2 (imn x.2 r0.1)))),(imn x.2 r0.1,0)))
def g_ref11_Same (x:(MgState×MgState)):Option Bool :=
 br (ine (nti (llen x.1.1)) (nti (llen x.2.1))) (λ_=>some false) λ_=>bd (g_ref10_Ints (x.1.2.1,x.2.2.1)) λr0=>br (bnot r0) (λ_=>some false) λ_=>bd (g_ref10_Same (x.1.2.2,x.2.2.2)) λr1=>br (bnot r1) (λ_=>some false) λ_=>bd (loop (λs2=>br (ilt s2.1 (nti (llen x.1.1))) (λ_=>nat s2.1 λk3=>ix x.1.1 k3 λx4=>nat s2.1 λk5=>ix x.2.1 k5 λx6=>bd (g_ref11_SameEntries (x4,x6)) λr7=>br (bnot r7) (λ_=>some (.dn ((0,((s2.1,false),()))))) λ_=>some (.nx (iadd .i64 s2.1 1,s2.2))) λ_=>some (.dn ((1,(s2,()))))) (0,false)) λr8=>br (neq r8.1 0) (λ_=>some r8.2.1.2) λ_=>some true
def g_ref13_Same (x:((MgState×((Bool×LsKey)×((List Entry)×Int)))×(MgState×((Bool×LsKey)×((List Entry)×Int))))):Option Bool :=
 bd (g_ref11_Same (x.1.1,x.2.1)) λr0=>br r0 (λ_=>br (band (beq x.1.2.1.1 x.2.2.1.1) (band (seq x.1.2.1.2.1 x.2.2.1.2.1) (band (beq x.1.2.1.2.2 x.2.2.1.2.2) true))) (λ_=>bd (g_ref11_SameEntries (x.1.2.2.1,x.2.2.2.1)) λr1=>br r1 (λ_=>some (ieq x.1.2.2.2 x.2.2.2.2)) λ_=>some false) λ_=>some false) λ_=>some false
def g_ref16_Check (x:(Levels×((List (Int×(MgState×((Bool×LsKey)×((List Entry)×Int)))))×Int))):Option (Int×Int) :=
 bd (g_ref15_Check x.1) λr0=>br (ieq r0.2.2 0) (λ_=>br (ilt x.2.2 1) (λ_=>some (((-1),7))) λ_=>br (igt x.2.2 1000001) (λ_=>some (((-1),7))) λ_=>br (ieq r0.2.2 0) (λ_=>bd (g_ref16_greatest x.1) λr1=>br (ile x.2.2 r1) (λ_=>some (((-1),6))) λ_=>br (ine r0.2.2 0) (λ_=>some (((-1),r0.2.2))) λ_=>bd (g_ref16_Due x.1) λr2=>bd (loop (λs3=>br (ilt s3.2.2 (nti (llen x.2.1))) (λ_=>nat s3.2.2 λk4=>ix x.2.1 k4 λx5=>br (ige s3.2.2 (nti (llen r2))) (λ_=>some (.dn ((0,((6,(s3.2.2,s3.2.2)),()))))) λ_=>nat s3.2.2 λk6=>ix r2 k6 λx7=>br (ine x5.1 x7) (λ_=>some (.dn ((0,((6,(s3.2.2,s3.2.2)),()))))) λ_=>br x5.2.2.1.2.2 (λ_=>bd (g_ref16_lowest (x.1,x5.1)) λr8=>br (bnot r8) (λ_=>some (.dn ((0,((6,(s3.2.2,s3.2.2)),()))))) λ_=>bd (g_ref16_begun ((x.1,(x5.1,x5.2.2.1.2.2)))) λr9=>bd (g_ref13_Left r9.2) λr10=>br (ilt x5.2.2.2.2 0) (λ_=>some (.dn ((0,((6,(s3.2.2,s3.2.2)),()))))) λ_=>br (igt x5.2.2.2.2 r10.1) (λ_=>some (.dn ((0,((6,(s3.2.2,s3.2.2)),()))))) λ_=>bd (g_ref13_Step (r9.2,x5.2.2.2.2)) λr11=>bd (g_ref13_Same (r11.1,x5.2)) λr12=>br (bnot r12) (λ_=>some (.dn ((0,((6,(s3.2.2,s3.2.2)),()))))) λ_=>some (.nx ((s3.1,(s3.2.1,iadd .i64 s3.2.2 1))))) λ_=>bd (g_ref16_begun ((x.1,(x5.1,x5.2.2.1.2.2)))) λr13=>bd (g_ref13_Left r13.2) λr14=>br (ilt x5.2.2.2.2 0) (λ_=>some (.dn ((0,((6,(s3.2.2,s3.2.2)),()))))) λ_=>br (igt x5.2.2.2.2 r14.1) (λ_=>some (.dn ((0,((6,(s3.2.2,s3.2.2)),()))))) λ_=>bd (g_ref13_Step (r13.2,x5.2.2.2.2)) λr15=>bd (g_ref13_Same (r15.1,x5.2)) λr16=>br (bnot r16) (λ_=>some (.dn ((0,((6,(s3.2.2,s3.2.2)),()))))) λ_=>some (.nx ((s3.1,(s3.2.1,iadd .i64 s3.2.2 1))))) λ_=>some (.dn ((1,(s3,()))))) ((0,(0,0)))) λr17=>br (neq r17.1 0) (λ_=>some (r17.2.1.2.1,r17.2.1.1)) λ_=>br (ilt (nti (llen x.2.1)) (nti (llen r2))) (λ_=>some (((-1),4))) λ_=>some (0,0)) λ_=>br (ine r0.2.2 0) (λ_=>some (((-1),r0.2.2))) λ_=>bd (g_ref16_Due x.1) λr18=>bd (loop (λs19=>br (ilt s19.2.2 (nti (llen x.2.1))) (λ_=>nat s19.2.2 λk20=>ix x.2.1 k20 λx21=>br (ige s19.2.2 (nti (llen r18))) (λ_=>some (.dn ((0,((6,(s19.2.2,s19.2.2)),()))))) λ_=>nat s19.2.2 λk22=>ix r18 k22 λx23=>br (ine x21.1 x23) (λ_=>some (.dn ((0,((6,(s19.2.2,s19.2.2)),()))))) λ_=>br x21.2.2.1.2.2 (λ_=>bd (g_ref16_lowest (x.1,x21.1)) λr24=>br (bnot r24) (λ_=>some (.dn ((0,((6,(s19.2.2,s19.2.2)),()))))) λ_=>bd (g_ref16_begun ((x.1,(x21.1,x21.2.2.1.2.2)))) λr25=>bd (g_ref13_Left r25.2) λr26=>br (ilt x21.2.2.2.2 0) (λ_=>some (.dn ((0,((6,(s19.2.2,s19.2.2)),()))))) λ_=>br (igt x21.2.2.2.2 r26.1) (λ_=>some (.dn ((0,((6,(s19.2.2,s19.2.2)),()))))) λ_=>bd (g_ref13_Step (r25.2,x21.2.2.2.2)) λr27=>bd (g_ref13_Same (r27.1,x21.2)) λr28=>br (bnot r28) (λ_=>some (.dn ((0,((6,(s19.2.2,s19.2.2)),()))))) λ_=>some (.nx ((s19.1,(s19.2.1,iadd .i64 s19.2.2 1))))) λ_=>bd (g_ref16_begun ((x.1,(x21.1,x21.2.2.1.2.2)))) λr29=>bd (g_ref13_Left r29.2) λr30=>br (ilt x21.2.2.2.2 0) (λ_=>some (.dn ((0,((6,(s19.2.2,s19.2.2)),()))))) λ_=>br (igt x21.2.2.2.2 r30.1) (λ_=>some (.dn ((0,((6,(s19.2.2,s19.2.2)),()))))) λ_=>bd (g_ref13_Step (r29.2,x21.2.2.2.2)) λr31=>bd (g_ref13_Same (r31.1,x21.2)) λr32=>br (bnot r32) (λ_=>some (.dn ((0,((6,(s19.2.2,s19.2.2)),()))))) λ_=>some (.nx ((s19.1,(s19.2.1,iadd .i64 s19.2.2 1))))) λ_=>some (.dn ((1,(s19,()))))) ((0,(0,0)))) λr33=>br (neq r33.1 0) (λ_=>some (r33.2.1.2.1,r33.2.1.1)) λ_=>br (ilt (nti (llen x.2.1)) (nti (llen r18))) (λ_=>some (((-1),4))) λ_=>some (0,0)) λ_=>br (ieq r0.2.2 0) (λ_=>bd (g_ref16_greatest x.1) λr34=>br (ile x.2.2 r34) (λ_=>some (((-1),6))) λ_=>br (ine r0.2.2 0) (λ_=>some (((-1),r0.2.2))) λ_=>bd (g_ref16_Due x.1) λr35=>bd (loop (λs36=>br (ilt s36.2.2 (nti (llen x.2.1))) (λ_=>nat s36.2.2 λk37=>ix x.2.1 k37 λx38=>br (ige s36.2.2 (nti (llen r35))) (λ_=>some (.dn ((0,((6,(s36.2.2,s36.2.2)),()))))) λ_=>nat s36.2.2 λk39=>ix r35 k39 λx40=>br (ine x38.1 x40) (λ_=>some (.dn ((0,((6,(s36.2.2,s36.2.2)),()))))) λ_=>br x38.2.2.1.2.2 (λ_=>bd (g_ref16_lowest (x.1,x38.1)) λr41=>br (bnot r41) (λ_=>some (.dn ((0,((6,(s36.2.2,s36.2.2)),()))))) λ_=>bd (g_ref16_begun ((x.1,(x38.1,x38.2.2.1.2.2)))) λr42=>bd (g_ref13_Left r42.2) λr43=>br (ilt x38.2.2.2.2 0) (λ_=>some (.dn ((0,((6,(s36.2.2,s36.2.2)),()))))) λ_=>br (igt x38.2.2.2.2 r43.1) (λ_=>some (.dn ((0,((6,(s36.2.2,s36.2.2)),()))))) λ_=>bd (g_ref13_Step (r42.2,x38.2.2.2.2)) λr44=>bd (g_ref13_Same (r44.1,x38.2)) λr45=>br (bnot r45) (λ_=>some (.dn ((0,((6,(s36.2.2,s36.2.2)),()))))) λ_=>some (.nx ((s36.1,(s36.2.1,iadd .i64 s36.2.2 1))))) λ_=>bd (g_ref16_begun ((x.1,(x38.1,x38.2.2.1.2.2)))) λr46=>bd (g_ref13_Left r46.2) λr47=>br (ilt x38.2.2.2.2 0) (λ_=>some (.dn ((0,((6,(s36.2.2,s36.2.2)),()))))) λ_=>br (igt x38.2.2.2.2 r47.1) (λ_=>some (.dn ((0,((6,(s36.2.2,s36.2.2)),()))))) λ_=>bd (g_ref13_Step (r46.2,x38.2.2.2.2)) λr48=>bd (g_ref13_Same (r48.1,x38.2)) λr49=>br (bnot r49) (λ_=>some (.dn ((0,((6,(s36.2.2,s36.2.2)),()))))) λ_=>some (.nx ((s36.1,(s36.2.1,iadd .i64 s36.2.2 1))))) λ_=>some (.dn ((1,(s36,()))))) ((0,(0,0)))) λr50=>br (neq r50.1 0) (λ_=>some (r50.2.1.2.1,r50.2.1.1)) λ_=>br (ilt (nti (llen x.2.1)) (nti (llen r35))) (λ_=>some (((-1),4))) λ_=>some (0,0)) λ_=>br (ine r0.2.2 0) (λ_=>some (((-1),r0.2.2))) λ_=>bd (g_ref16_Due x.1) λr51=>bd (loop (λs52=>br (ilt s52.2.2 (nti (llen x.2.1))) (λ_=>nat s52.2.2 λk53=>ix x.2.1 k53 λx54=>br (ige s52.2.2 (nti (llen r51))) (λ_=>some (.dn ((0,((6,(s52.2.2,s52.2.2)),()))))) λ_=>nat s52.2.2 λk55=>ix r51 k55 λx56=>br (ine x54.1 x56) (λ_=>some (.dn ((0,((6,(s52.2.2,s52.2.2)),()))))) λ_=>br x54.2.2.1.2.2 (λ_=>bd (g_ref16_lowest (x.1,x54.1)) λr57=>br (bnot r57) (λ_=>some (.dn ((0,((6,(s52.2.2,s52.2.2)),()))))) λ_=>bd (g_ref16_begun ((x.1,(x54.1,x54.2.2.1.2.2)))) λr58=>bd (g_ref13_Left r58.2) λr59=>br (ilt x54.2.2.2.2 0) (λ_=>some (.dn ((0,((6,(s52.2.2,s52.2.2)),()))))) λ_=>br (igt x54.2.2.2.2 r59.1) (λ_=>some (.dn ((0,((6,(s52.2.2,s52.2.2)),()))))) λ_=>bd (g_ref13_Step (r58.2,x54.2.2.2.2)) λr60=>bd (g_ref13_Same (r60.1,x54.2)) λr61=>br (bnot r61) (λ_=>some (.dn ((0,((6,(s52.2.2,s52.2.2)),()))))) λ_=>some (.nx ((s52.1,(s52.2.1,iadd .i64 s52.2.2 1))))) λ_=>bd (g_ref16_begun ((x.1,(x54.1,x54.2.2.1.2.2)))) λr62=>bd (g_ref13_Left r62.2) λr63=>br (ilt x54.2.2.2.2 0) (λ_=>some (.dn ((0,((6,(s52.2.2,s52.2.2)),()))))) λ_=>br (igt x54.2.2.2.2 r63.1) (λ_=>some (.dn ((0,((6,(s52.2.2,s52.2.2)),()))))) λ_=>bd (g_ref13_Step (r62.2,x54.2.2.2.2)) λr64=>bd (g_ref13_Same (r64.1,x54.2)) λr65=>br (bnot r65) (λ_=>some (.dn ((0,((6,(s52.2.2,s52.2.2)),()))))) λ_=>some (.nx ((s52.1,(s52.2.1,iadd .i64 s52.2.2 1))))) λ_=>some (.dn ((1,(s52,()))))) ((0,(0,0)))) λr66=>br (neq r66.1 0) (λ_=>some (r66.2.1.2.1,r66.2.1.1)) λ_=>br (ilt (nti (llen x.2.1)) (nti (llen r51))) (λ_=>some (((-1),4))) λ_=>some (0,0)
def g_ref16_Pending (x:(Levels×((List (Int×(MgState×((Bool×LsKey)×((List Entry)×Int)))))×Int))):Option ((List Int)×Int) :=
 bd (g_ref16_Check x) λr0=>br (ine r0.2 0) (λ_=>some ([],r0.2)) λ_=>bd (g_ref16_Due x.1) λr1=>some (r1,0)
def g_ref16_Find (x:((Levels×((List (Int×(MgState×((Bool×LsKey)×((List Entry)×Int)))))×Int))×Int)):Option (Int×Int) :=
 bd (g_ref16_Pending x.1) λr0=>br (ine r0.2 0) (λ_=>some (0,r0.2)) λ_=>bd (loop (λs1=>br (ilt s1.2.2 (nti (llen r0.1))) (λ_=>nat s1.2.2 λk2=>ix r0.1 k2 λx3=>br (ieq x3 x.2) (λ_=>some (.dn ((0,((0,(s1.2.2,s1.2.2)),()))))) λ_=>some (.nx ((s1.1,(s1.2.1,iadd .i64 s1.2.2 1))))) λ_=>some (.dn ((1,(s1,()))))) ((0,(0,0)))) λr4=>br (neq r4.1 0) (λ_=>some (r4.2.1.2.1,r4.2.1.1)) λ_=>some (0,4)
def g_ref16_Left (x:((Levels×((List (Int×(MgState×((Bool×LsKey)×((List Entry)×Int)))))×Int))×Int)):Option (Int×Int) :=
 bd (g_ref16_Find x) λr0=>br (ine r0.2 0) (λ_=>some (0,r0.2)) λ_=>nat r0.1 λk1=>ix x.1.2.1 k1 λx2=>bd (g_ref13_Left x2.2) λr3=>some r3
end Go.Proofs.YthpkjfabdccpdaaGreat.Pl
namespace Go.Proofs.YthpkjfabdccpdaaGreat.Pl
open Go Go.Proofs.YthpkjfabdccpdaaGreat.Sv
theorem ref_Check_ok (x:Entry):g_ref03_Check x=some (kE x):=by
 unfold g_ref03_Check kE
 rw [br_gt,nti_eq,slen_eq]
 by_cases h1:x.1.length>32
 ·rw [if_pos (by omega),if_pos (.inl h1)]
 rw [if_neg (by omega),br_gt,nti_eq,slen_eq]
 by_cases h2:x.2.1.length>64
 ·rw [if_pos (by omega),if_pos (.inr h2)]
 rw [if_neg (by omega : ¬ (x.2.1.length:Int)>64),if_neg (by omega),br_b]
 by_cases h3:x.2.2.1=true
 ·rw [if_pos h3,br_bnot,br_seq]
  by_cases h4:x.2.1=[]
  ·rw [if_pos h4,if_neg (by simp [h4]),br_lt,br_gt]
   by_cases h5:x.2.2.2<1
   ·simp [h5]
   ·by_cases h6:x.2.2.2>1000000000<;>simp [h5,h6]
  ·rw [if_neg h4,if_pos ⟨h3,h4⟩]
 ·rw [if_neg h3,if_neg (by simp [h3]),br_lt,br_gt]
  by_cases h5:x.2.2.2<1
  ·simp [h5]
  ·by_cases h6:x.2.2.2>1000000000<;>simp [h5,h6]
def comm:List UInt8→List UInt8→Nat
 | x::a,y::b=>if x=y then comm a b+1 else 0
 | _,_=>0
theorem u8i_eq (x y:UInt8):ieq (u8i x) (u8i y)=decide (x=y):=by
 rw [ieq_eq]
 unfold u8i
 by_cases h:x=y
 ·simp [h]
 ·have : ¬ ((x.toNat:Int)=(y.toNat:Int)):=λe=>h (UInt8.toNat_inj.1 (by omega))
  simp [h,this]
theorem common_ok (a b:List UInt8) (ha:a.length≤9223372036854775806):g_ref02_common (a,b)=some (comm a b:Int):=by
 unfold g_ref02_common
 simp only [nti_eq,slen_eq]
 have key : ∀ (m:List UInt8) (k n:Nat),a.drop k=m→k≤a.length→k≤b.length→m.length<n→loopN n (λs0=>br (ilt s0 (a.length:Int)) (λ_=>br (ilt s0 (b.length:Int)) (λ_=>nat s0 λk1=>ix a k1 λx2=>nat s0 λk3=>ix b k3 λx4=>br (ieq (u8i x2) (u8i x4)) (λ_=>some (LR.nx (iadd .i64 s0 1))) λ_=>some (.dn ((0,(s0,()))))) λ_=>some (.dn ((0,(s0,()))))) λ_=>some (.dn ((0,(s0,()))))) (k:Int)=some ((0:Nat),(((k+comm m (b.drop k):Nat):Int),())):=by
  intro m
  induction m with
  | nil =>
   intro k n hm hk hkb hn
   obtain ⟨n,rfl⟩ : ∃ j,n=j+1:=⟨n-1,by omega⟩
   have hkl:k=a.length:=by
    have:=congrArg List.length hm
    simp at this;omega
   subst hkl
   refine loopN_dn ?_
   rw [re];simp [br_false,comm]
  | cons x m ih =>
   intro k n hm hk hkb hn
   obtain ⟨n,rfl⟩ : ∃ j,n=j+1:=⟨n-1,by omega⟩
   have hx:a[k]? = some x:=by
    have:=congrArg List.head? hm
    rw [List.head?_drop] at this;simpa using this
   have hk':k<a.length:=(List.getElem?_eq_some_iff.1 hx).1
   have hm2:a.drop (k+1)=m:=by
    have:=congrArg List.tail hm
    rw [List.tail_drop] at this;simpa using this
   by_cases hb:k<b.length
   ·have hy:b[k]? = some b[k]:=by simp [hb]
    rw [List.drop_eq_getElem_cons hb]
    unfold comm
    by_cases e:x=b[k]
    ·rw [if_pos e]
     refine (loopN_nx (s':=((k+1:Nat):Int)) ?_).trans ?_
     ·rw [rl hk',br_true,rl hb,br_true,nat_cast,ix_val hx,nat_cast,ix_val hy,u8i_eq,br_dec,if_pos e,iadd_nat (by omega)]
     ·rw [ih (k+1) n hm2 (by omega) (by omega) (by simp at hn;omega),show k+1+comm m (b.drop (k+1))=k+(comm m (b.drop (k+1))+1) by omega]
    ·rw [if_neg e]
     refine loopN_dn ?_
     rw [rl hk',br_true,rl hb,br_true,nat_cast,ix_val hx,nat_cast,ix_val hy,u8i_eq,br_dec,if_neg e];simp
   ·have hb2:k=b.length:=by omega
    refine loopN_dn ?_
    rw [rl hk',br_true,hb2,re,br_false,List.drop_length]
    simp [comm]
 refine bd_eq (loop_of (n:=a.length+1) (by omega) (key a 0 (a.length+1) (by simp) (by omega) (by omega) (by omega))) ?_
 simp
def ordK (a b:Key):Int:=if slt a b=true then -1 else if a=b then 0 else 1
theorem comm_ord : ∀ (a b:Key),(comm a b≤a.length∧comm a b≤b.length)∧(comm a b=a.length→comm a b=b.length→ordK a b=0)∧(comm a b=a.length→comm a b≠b.length→ordK a b = -1)∧(comm a b≠a.length→comm a b=b.length→ordK a b=1)∧(∀ x y,a[comm a b]? = some x→b[comm a b]? = some y→ordK a b=if x.toNat<y.toNat then -1 else 1)
 | [],[]=>by simp [comm,ordK,slt_nil]
 | [],y::b=>by simp [comm,ordK,slt_nil_cons]
 | x::a,[]=>by simp [comm,ordK,slt_nil]
 | x::a,y::b=>by
  obtain ⟨⟨h0,h0'⟩,h1,h2,h3,h4⟩:=comm_ord a b
  by_cases e:x=y
  ·subst e
   have ho:ordK (x::a) (x::b)=ordK a b:=by
    unfold ordK
    rw [slt_cons]
    simp
   have hc:comm (x::a) (x::b)=comm a b+1:=by simp [comm]
   rw [ho,hc]
   refine ⟨⟨by simp;omega,by simp;omega⟩,λu v=>h1 (by simp at u;omega) (by simp at v;omega),λu v=>h2 (by simp at u;omega) (by simp at v;omega),λu v=>h3 (by simp at u;omega) (by simp at v;omega),λp q hp hq=>h4 p q (by simpa using hp) (by simpa using hq)⟩
  ·have hc:comm (x::a) (y::b)=0:=by simp [comm,e]
   rw [hc]
   refine ⟨⟨by omega,by omega⟩,λu=>by simp at u,λu=>by simp at u,λ_ u=>by simp at u,λp q hp hq => ?_⟩
   simp at hp hq
   subst hp hq
   unfold ordK
   rw [slt_cons]
   have hne : ¬ (x::a=y::b):=λh=>e (by injection h)
   by_cases hlt:x.toNat<y.toNat
   ·have:x<y:=UInt8.lt_iff_toNat_lt.2 hlt
    simp [this,hlt]
   ·have : ¬ x<y:=λh=>hlt (UInt8.lt_iff_toNat_lt.1 h)
    simp [this,hlt,e]
theorem Order_ok (a b:Key) (ha:a.length≤1000000000) (hb:b.length≤1000000000):g_ref02_Order (a,b)=some (ordK a b):=by
 obtain ⟨⟨h0,h0'⟩,h1,h2,h3,h4⟩:=comm_ord a b
 unfold g_ref02_Order
 simp only [nti_eq,slen_eq]
 rw [common_ok a b (by omega),bd_val,br_eq]
 have hl:(if (comm a b:Int)<(b.length:Int) then (nat (comm a b:Int) λk1=>ix a k1 λx2=>nat (comm a b:Int) λk3=>ix b k3 λx4=>br (ilt (u8i x2) (u8i x4)) (λ_=>some (-1:Int)) λ_=>some 1) else some 1)=(if comm a b=a.length then (if (comm a b:Int)<(b.length:Int) then (nat (comm a b:Int) λk1=>ix a k1 λx2=>nat (comm a b:Int) λk3=>ix b k3 λx4=>br (ilt (u8i x2) (u8i x4)) (λ_=>some (-1:Int)) λ_=>some 1) else some 1) else some (ordK a b)):=by
  by_cases u:comm a b=a.length
  ·rw [if_pos u]
  ·rw [if_neg u]
   by_cases v:comm a b=b.length
   ·rw [if_neg (by omega),h3 u v]
   ·rw [if_pos (by omega),nat_cast]
    have hx:a[comm a b]? = some (a[comm a b]'(by omega)):=by simp
    have hy:b[comm a b]? = some (b[comm a b]'(by omega)):=by simp
    rw [ix_val hx,nat_cast,ix_val hy,br_lt,h4 _ _ hx hy]
    unfold u8i
    by_cases w:(a[comm a b]'(by omega)).toNat<(b[comm a b]'(by omega)).toNat
    ·rw [if_pos (by omega),if_pos w]
    ·rw [if_neg (by omega),if_neg w]
 by_cases u:comm a b=a.length
 ·rw [if_pos (by omega),br_eq]
  by_cases v:comm a b=b.length
  ·rw [if_pos (by omega),h1 u v]
  ·rw [if_neg (by omega),br_eq,if_pos (by omega),h2 u v]
 ·rw [if_neg (by omega),br_eq,if_neg (by omega),br_lt,hl,if_neg u]
theorem ordK_ge (a b:Key):ordK a b≥0↔slt a b=false:=by
 unfold ordK
 cases h:slt a b with
 | true=>simp
 | false=>simp;split<;>omega
theorem ref_CheckList_ok (l:List Entry) (hl:l.length≤9223372036854775806):g_ref03_CheckList l=some (ckList l):=by
 unfold g_ref03_CheckList ckList
 simp only [nti_eq,llen_eq]
 rw [br_gt]
 by_cases h:l.length>5000
 ·rw [if_pos (by omega),if_pos h]
 rw [if_neg (by omega),if_neg h]
 obtain ⟨T,hT⟩ : ∃ T,T=ckGo none 0 l:=⟨_,rfl⟩
 rw [← hT]
 obtain ⟨r,q1,q2⟩:=loop_q (l:=l) (σ:=Unit) (s:=((0:Int),((0:Int),(0:Int)))) (λk _=>((0:Int),((0:Int),(k:Int)))) (λm k _=>ckGo (if k=0 then none else (l[k-1]?).map (·.1)) k m=T∧(∀ y,k≠0→l[k-1]? = some y→kE y=0)) (λ(r:Nat×((Int×(Int×Int))×Unit))=>(r.1=1∧T=(0,0))∨(r.1=0∧T=(r.2.1.2.1,r.2.1.1)))
  (f:=λs0=>br (ilt s0.2.2 (l.length:Int)) (λ_=>nat s0.2.2 λk1=>ix l k1 λx2=>bd (g_ref03_Check x2) λr3=>br (ieq r3 0) (λ_=>br (igt s0.2.2 0) (λ_=>nat (isub .i64 s0.2.2 1) λk4=>ix l k4 λx5=>nat s0.2.2 λk6=>ix l k6 λx7=>bd (g_ref02_Order (x5.1,x7.1)) λr8=>br (ige r8 0) (λ_=>some (.dn ((0,((6,(s0.2.2,s0.2.2)),()))))) λ_=>br (ine r3 0) (λ_=>some (.dn ((0,((r3,(s0.2.2,s0.2.2)),()))))) λ_=>some (.nx ((s0.1,(s0.2.1,iadd .i64 s0.2.2 1))))) λ_=>br (ine r3 0) (λ_=>some (.dn ((0,((r3,(s0.2.2,s0.2.2)),()))))) λ_=>some (.nx ((s0.1,(s0.2.1,iadd .i64 s0.2.2 1))))) λ_=>br (ine r3 0) (λ_=>some (.dn ((0,((r3,(s0.2.2,s0.2.2)),()))))) λ_=>some (.nx ((s0.1,(s0.2.1,iadd .i64 s0.2.2 1))))) λ_=>some (.dn ((1,(s0,())))))
  () rfl (by omega) ⟨hT.symm,λ_ h=>absurd rfl h⟩ (λ_ h=>by
   refine ⟨_,by simp only;rw [re];rfl,.inl ⟨rfl,?_⟩⟩
   rw [← h.1];simp [ckGo]) (λk x m _ hd hx hk h=>by
   simp only
   obtain ⟨h,hprev⟩:=h
   rw [rl hk,br_true,nat_cast,ix_val hx,ref_Check_ok,bd_val,br_eq]
   unfold ckGo at h
   have next:kE x=0→(T=ckGo (some x.1) (k+1) m)→ckGo (if k+1=0 then none else (l[k+1-1]?).map (·.1)) (k+1) m=T∧(∀ y,k+1≠0→l[k+1-1]? = some y→kE y=0):=λh0 e=>by
    rw [if_neg (by omega),Nat.add_sub_cancel,hx,e]
    exact ⟨rfl,λy _ hy=>by cases hy;exact h0⟩
   by_cases h0:kE x=0
   ·rw [if_pos h0,br_gt]
    rw [if_neg (by simp [h0])] at h
    by_cases hk0:k=0
    ·rw [if_neg (by omega),br_ne,if_pos h0]
     rw [if_pos hk0] at h
     exact .inl ⟨(),by rw [iadd_rng hx (by omega)],next h0 h.symm⟩
    ·have hy:l[k-1]? = some (l[k-1]'(by omega)):=by rw [List.getElem?_eq_getElem]
     rw [if_pos (by omega),show isub .i64 (k:Int) 1=((k-1:Nat):Int) by rw [isub_in (by omega)];omega,nat_cast,ix_val hy,nat_cast,ix_val hx]
     rw [if_neg hk0,hy] at h
     simp only [Option.map_some] at h
     rw [Order_ok _ _ (by have:=kE_key (hprev _ hk0 hy);omega) (by have:=kE_key h0;omega),bd_val,br_ge]
     by_cases hs:slt (l[k-1]'(by omega)).1 x.1=true
     ·rw [if_neg (λe=>by rw [ordK_ge,hs] at e;cases e),br_ne,if_pos h0]
      rw [if_pos hs] at h
      exact .inl ⟨(),by rw [iadd_rng hx (by omega)],next h0 h.symm⟩
     ·rw [if_pos ((ordK_ge _ _).2 (by simpa using hs))]
      rw [if_neg hs] at h
      exact .inr ⟨_,rfl,.inr ⟨rfl,h.symm⟩⟩
   ·rw [if_neg h0,br_ne,if_neg h0]
    rw [if_pos h0] at h
    exact .inr ⟨_,rfl,.inr ⟨rfl,h.symm⟩⟩)
 refine bd_eq q1 ?_
 rw [br_neq]
 rcases q2 with ⟨q2,q3⟩ | ⟨q2,q3⟩
 ·rw [if_neg (show ¬ r.1=0 by omega),q3]
 ·rw [if_pos q2,q3]
theorem wins_two (p q:LsKey) (hp:kfine p) (hq:kfine q):g_ref10_wins ([p,q],(0,1))=some (w0 p q):=by
 unfold g_ref10_wins w0
 refine (ndx 0 rfl (x:=p) rfl).trans ((ndx 1 rfl (x:=q) rfl).trans ?_)
 rw [beq_eq,bnot_eq,br_dec,br_bnot,br_b]
 by_cases h1:p.2=q.2
 ·rw [if_neg (show ¬ ¬ p.2=q.2 by simp [h1]),if_neg (show ¬ p.2≠q.2 by simp [h1])]
  by_cases h2:p.2=true
  ·rw [if_pos h2,hp h2,hq (h1 ▸ h2)];rfl
  ·rw [if_neg h2,br_bnot,br_seq]
   by_cases h3:p.1=q.1
   ·rw [if_pos h3,if_neg (by simp [h3])];rfl
   ·rw [if_neg h3,if_pos h3]
 ·rw [if_pos h1,if_pos h1]
theorem player_leaf (p q:LsKey) (n:Nat) (k:Int) (h:2≤k) (hk:k≤100):iterR g_ref10_player_body (n+1) ([p,q],k)=some (k-2,0):=by
 show g_ref10_player_body (iterR g_ref10_player_body n) ([p,q],k)=_
 unfold g_ref10_player_body
 show br (ige k 2) (λ_=>some (isub .i64 k 2,0)) _=_
 rw [br_ge,if_pos h,isub_in (by omega)]
theorem player_two (p q:LsKey) (hp:kfine p) (hq:kfine q):g_ref10_player ([p,q],1)=some (if w0 p q=true then (0,1) else (1,0)):=by
 show g_ref10_player_body (iterR g_ref10_player_body 99) ([p,q],1)=_
 unfold g_ref10_player_body
 show br (ige (1:Int) 2) (λ_=>some (isub .i64 (1:Int) 2,0)) (λ_=>bd (iterR g_ref10_player_body (98+1) ([p,q],2)) λr0=>bd (iterR g_ref10_player_body (98+1) ([p,q],3)) _)=_
 rw [br_ge,if_neg (by omega),player_leaf p q 98 2 (by omega) (by omega),bd_val,player_leaf p q 98 3 (by omega) (by omega),bd_val]
 show bd (g_ref10_wins ([p,q],(0,1))) _=_
 rw [wins_two p q hp hq,bd_val,br_b]
 cases h:w0 p q<;>rfl
theorem tree_ref (p q:LsKey) (hp:kfine p) (hq:kfine q):g_ref10_tree [p,q]=some (Tt p q):=by
 unfold g_ref10_tree
 refine Eq.trans (b:=bd (loop _ (1,([p,q],([0,0],0)))) _) rfl ?_
 refine bd_eq (x:=(0,((2,([p,q],([0,if w0 p q=true then 1 else 0],0))),()))) (loop_of (n:=2) (by omega) ((loopN_nx (s':=(2,([p,q],([0,if w0 p q=true then 1 else 0],0)))) ?_).trans (loopN_dn rfl))) ?_
 ·show bd (g_ref10_player ([p,q],1)) _=_
  rw [player_two p q hp hq,bd_val]
  refine (ngx 1 rfl (x:=(0:Int)) rfl).trans ?_
  cases h:w0 p q<;>rfl
 ·rw [player_two p q hp hq,bd_val]
  unfold Tt
  cases h:w0 p q<;>rfl
theorem right_ref {l:List LsKey} (h : ∀ k∈l,kfine k) (h0:l≠[]) (hl:l.length≤32):g_ref10_right l=some 0:=by
 unfold g_ref10_right
 simp only [nti_eq,llen_eq]
 rw [br_eq,br_gt,if_neg (by have:=List.length_pos_iff.2 h0;omega),if_neg (by omega)]
 rw [loop_run (l:=l) (σ:=Unit) (s:=((0:Int),(0:Int))) (λk _=>((k:Int),(0:Int))) (λ_ _ _=>True) (λ_ _ _=>(1,(((l.length:Int),0),()))) () rfl (by omega) trivial (λst _=>by
  simp only;rw [re];rfl) (λk x m st _ hx hk _=>⟨(),by
   simp only
   rw [rl hk,br_true,nat_cast,ix_val hx,br_b,iadd_rng hx (by omega)]
   by_cases hd:x.2=true
   ·rw [if_pos hd,nat_cast,ix_val hx,br_bnot,br_seq,if_pos (h x (List.mem_of_getElem? hx) hd)]
   ·rw [if_neg hd],trivial,rfl⟩),bd_val]
 rfl
theorem build_ref (p q:LsKey) (hp:kfine p) (hq:kfine q):g_ref10_Build [p,q]=some (Tt p q,0):=by
 unfold g_ref10_Build
 rw [right_ref (by simp [hp,hq]) (by simp) (by simp),bd_val,br_ne,if_pos rfl,tree_ref p q hp hq,bd_val]
end Go.Proofs.YthpkjfabdccpdaaGreat.Pl
namespace Go.Proofs.YthpkjfabdccpdaaGreat.Pl
open Go Go.Proofs.YthpkjfabdccpdaaGreat.Sv
theorem refEntries_eq:g_ref11_SameEntries=g_slices_Equal_Entry_Entry:=rfl
theorem refInts_eq:g_ref10_Ints=g_slices_Equal_int_int:=rfl
theorem refKeys_ok (l m:List LsKey) (hb:l.length≤9223372036854775806) (hl:l.length=m.length) : ∃ r,loop (λs1=>br (ilt s1.1 (l.length:Int)) (λ_=>nat s1.1 λk2=>ix l k2 λx3=>nat s1.1 λk4=>ix m k4 λx5=>br (bnot (band (seq x3.1 x5.1) (band (Sv.beq x3.2 x5.2) true))) (λ_=>some (LR.dn ((0:Nat),((s1.1,false),())))) λ_=>some (.nx (iadd .i64 s1.1 1,s1.2))) λ_=>some (.dn ((1,(s1,()))))) ((0:Int),false)=some r∧((l=m∧r.1=1)∨(l≠m∧r.1=0∧r.2.1.2=false)):=by
 refine loop_eqs l m hl hb (λk x y hx hy => ?_) (by simp only;rw [re];rfl)
 have hk:=(List.getElem?_eq_some_iff.1 hx).1
 have he : ∀ {β:Type} (u v:Unit→Option β),br (bnot (band (seq x.1 y.1) (band (Sv.beq x.2 y.2) true))) u v=if x=y then v () else u ():=by
  intro β u v
  rw [band_tr,seq_eq,beq_eq,band_eq,bnot_eq,br_dec]
  by_cases e:x=y
  ·subst e;simp
  ·rw [if_pos (λh=>e (Prod.ext h.1 h.2)),if_neg e]
 constructor
 ·intro e
  simp only
  rw [rl hk,br_true,nat_cast,ix_val hx,nat_cast,ix_val hy,he,if_pos e,iadd_nat (by omega)]
 ·intro e
  simp only
  rw [rl hk,br_true,nat_cast,ix_val hx,nat_cast,ix_val hy,he,if_neg e]
theorem refTree_ok (s t:LsTree) (h1:s.1.length≤1000) (h2:s.2.1.length≤1000):g_ref10_Same (s,t)=some (decide (s=t)):=by
 obtain ⟨sk,sl,sw⟩:=s
 obtain ⟨tk,tl,tw⟩:=t
 simp only at h1 h2
 unfold g_ref10_Same
 simp only [nti_eq,llen_eq]
 rw [br_ne]
 by_cases e1:(sk.length:Int)=(tk.length:Int)
 rotate_left
 ·rw [if_neg e1]
  have : ¬ sk=tk:=λe=>e1 (by rw [e])
  simp [this]
 rw [if_pos e1,br_ne]
 by_cases e2:sw=tw
 rotate_left
 ·rw [if_neg e2];simp [e2]
 rw [if_pos e2,refInts_eq,eqInts_ok _ _ (by omega),bd_val,bnot_eq,br_dec]
 by_cases e3:sl=tl
 rotate_left
 ·rw [if_pos e3];simp [e3]
 rw [if_neg (show ¬ ¬ sl=tl by simp [e3])]
 obtain ⟨r,q1,q2⟩:=refKeys_ok sk tk (by omega) (by omega)
 refine bd_eq q1 ?_
 rw [br_neq]
 rcases q2 with ⟨e,q2⟩ | ⟨e,q2,q3⟩
 ·rw [if_neg (show ¬ r.1=0 by omega)];simp [e,e2,e3]
 ·rw [if_pos q2,q3];simp [e]
theorem refMerge_ok (s t:MgState) (h1:s.1.length≤1000) (h2 : ∀ l∈s.1,l.length≤1000000) (h3:s.2.1.length≤1000) (h4:s.2.2.1.length≤1000) (h5:s.2.2.2.1.length≤1000):g_ref11_Same (s,t)=some (decide (s=t)):=by
 obtain ⟨sr,sa,st⟩:=s
 obtain ⟨tr,ta,tt⟩:=t
 simp only at h1 h2 h3 h4 h5
 unfold g_ref11_Same
 simp only [nti_eq,llen_eq]
 rw [br_ne]
 by_cases e1:(sr.length:Int)=(tr.length:Int)
 rotate_left
 ·rw [if_neg e1]
  have : ¬ sr=tr:=λe=>e1 (by rw [e])
  simp [this]
 rw [if_pos e1,refInts_eq,eqInts_ok _ _ (by omega),bd_val,bnot_eq,br_dec]
 by_cases e2:sa=ta
 rotate_left
 ·rw [if_pos e2];simp [e2]
 rw [if_neg (show ¬ ¬ sa=ta by simp [e2]),refTree_ok _ _ h4 h5,bd_val,bnot_eq,br_dec]
 by_cases e3:st=tt
 rotate_left
 ·rw [if_pos e3];simp [e3]
 rw [if_neg (show ¬ ¬ st=tt by simp [e3])]
 obtain ⟨r,q1,q2⟩:=loop_eqs sr tr (by omega) (by omega) (f:=λs2=>br (ilt s2.1 (sr.length:Int)) (λ_=>nat s2.1 λk3=>ix sr k3 λx4=>nat s2.1 λk5=>ix tr k5 λx6=>bd (g_ref11_SameEntries (x4,x6)) λr7=>br (bnot r7) (λ_=>some (.dn ((0,((s2.1,false),()))))) λ_=>some (.nx (iadd .i64 s2.1 1,s2.2))) λ_=>some (.dn ((1,(s2,()))))) (λk x y hx hy=>by
   have hk:=(List.getElem?_eq_some_iff.1 hx).1
   have hx1:=h2 x (List.mem_of_getElem? hx)
   constructor
   ·intro e
    simp only
    rw [rl hk,br_true,nat_cast,ix_val hx,nat_cast,ix_val hy,refEntries_eq,eqEntries_ok _ _ (by omega),bd_val,bnot_eq,br_dec,if_neg (by simp [e]),iadd_nat (by omega)]
   ·intro e
    simp only
    rw [rl hk,br_true,nat_cast,ix_val hx,nat_cast,ix_val hy,refEntries_eq,eqEntries_ok _ _ (by omega),bd_val,bnot_eq,br_dec,if_pos e]) (by simp only;rw [re];rfl)
 refine bd_eq q1 ?_
 rw [br_neq]
 rcases q2 with ⟨e,q2⟩ | ⟨e,q2,q3⟩
 ·rw [if_neg (show ¬ r.1=0 by omega)];simp [e,e2,e3]
 ·rw [if_pos q2,q3];simp [e]
theorem refSame_ok (x y:SlState) (h1:x.1.1.length≤1000) (h2 : ∀ l∈x.1.1,l.length≤1000000) (h3:x.1.2.1.length≤1000) (h4:x.1.2.2.1.length≤1000) (h5:x.1.2.2.2.1.length≤1000) (h6:x.2.2.1.length≤1000000):g_ref13_Same (x,y)=some (decide (x=y)):=by
 obtain ⟨xm,⟨xs,xt,xb⟩,xo,xn⟩:=x
 obtain ⟨ym,⟨ys,yt,yb⟩,yo,yn⟩:=y
 simp only at h1 h2 h3 h4 h5 h6
 unfold g_ref13_Same
 simp only [refMerge_ok _ _ h1 h2 h3 h4 h5,refEntries_eq,eqEntries_ok _ _ (show xo.length≤9223372036854775806 by omega),bd_val,br_dec,ieq_eq,seq_eq,beq_eq,band_tr,band_eq]
 repeat' split
 all_goals simp_all
section
variable {a b:List Entry} (va:VL a) (vb:VL b)
include va vb
theorem rright_two:g_ref11_right [a,b]=some (0,0):=by
 have la:=va.len
 have lb:=vb.len
 unfold g_ref11_right
 refine Eq.trans (b:=bd (loop _ (0,(0,0))) _) rfl ?_
 refine bd_eq (x:=(1,((0,(0,2)),()))) (loop_two (s1:=(0,(0,1))) (s2:=(0,(0,2))) ?_ ?_ rfl) rfl
 ·refine (rdx 0 rfl rfl (x:=a) rfl).trans ?_
  rw [ref_CheckList_ok _ (by omega),ckList_zero va,bd_val];rfl
 ·refine (rdx 1 rfl rfl (x:=b) rfl).trans ?_
  rw [ref_CheckList_ok _ (by omega),ckList_zero vb,bd_val];rfl
theorem rfirst_two {i j:Nat} (hi:i≤a.length) (hj:j≤b.length):g_ref11_first ([a,b],[(i:Int),(j:Int)])=some (if i=a.length∧j=b.length then -1 else if goA a b i j=true then 0 else 1):=by
 have la:=va.len
 have lb:=vb.len
 unfold g_ref11_first
 simp only [nti_eq,llen_eq]
 refine bd_eq (x:=(0,((if i=a.length∧j=b.length then -1 else if goA a b i j=true then 0 else 1,2),()))) (loop_two (s1:=(if i=a.length then -1 else 0,1)) (s2:=(if i=a.length∧j=b.length then -1 else if goA a b i j=true then 0 else 1,2)) ?_ ?_ rfl) rfl
 ·refine (rdx 0 rfl rfl (x:=(i:Int)) rfl).trans ((ndx 0 rfl (x:=a) rfl).trans ?_)
  rw [br_lt]
  by_cases h:i=a.length
  ·rw [if_neg (by omega),if_pos h];rfl
  ·rw [if_pos (by omega),if_neg h];rfl
 ·refine (rdx 1 rfl rfl (x:=(j:Int)) rfl).trans ((ndx 1 rfl (x:=b) rfl).trans ?_)
  rw [br_lt]
  by_cases h:j=b.length
  ·rw [if_neg (by omega)]
   by_cases h2:i=a.length
   ·rw [if_pos h2,if_pos ⟨h2,h⟩];rfl
   ·rw [if_neg h2,if_neg (λh3=>h2 h3.1)]
    have hx:a[i]? = some (a[i]'(by omega)):=by simp
    rw [goA_a hx (List.getElem?_eq_none (by omega))];rfl
  ·have hy:b[j]? = some (b[j]'(by omega)):=by simp
   rw [if_pos (by omega),br_lt,if_neg (λh3:i=a.length∧j=b.length=>h h3.2)]
   by_cases h2:i=a.length
   ·rw [if_pos h2,if_pos (by omega),goA_b (List.getElem?_eq_none (by omega)) hy];rfl
   ·rw [if_neg h2,if_neg (by omega)]
    have hx:a[i]? = some (a[i]'(by omega)):=by simp
    refine (ndx 1 rfl (x:=b) rfl).trans ((ndx 1 rfl (x:=(j:Int)) rfl).trans ((ndx j rfl hy).trans ((ndx 0 rfl (x:=a) rfl).trans ((ndx 0 rfl (x:=(i:Int)) rfl).trans ((ndx i rfl hx).trans ?_)))))
    rw [br_slt,goA_some hx hy]
    cases hs:slt (b[j]'(by omega)).1 (a[i]'(by omega)).1<;>rfl
theorem rstate_two {i j:Nat} (hi:i≤a.length) (hj:j≤b.length):g_ref11_state ([a,b],[(i:Int),(j:Int)])=some (Mst a b i j):=by
 have la:=va.len
 have lb:=vb.len
 unfold g_ref11_state
 simp only [nti_eq,llen_eq]
 rw [gd_le (show [a,b].length≤1048576 from (show 2≤1048576 by omega)),gd_le (show [(i:Int),(j:Int)].length≤1048576 from (show 2≤1048576 by omega))]
 refine bd_eq (x:=(0,((2,[kx a i,kx b j]),()))) (loop_two (s1:=(1,[kx a i])) (s2:=(2,[kx a i,kx b j])) ?_ ?_ rfl) ?_
 ·refine (rdx 0 rfl rfl (x:=(i:Int)) rfl).trans ((ndx 0 rfl (x:=a) rfl).trans ?_)
  rw [ieq_eq,bnot_eq,br_dec]
  by_cases h:i=a.length
  ·have hne:((i:Int)=(a.length:Int)):=by omega
   rw [if_neg (show ¬ ¬ ((i:Int)=(a.length:Int)) by simp [hne]),kx_none (List.getElem?_eq_none (by omega))]
   simp only [hne,decide_true]
   rfl
  ·have hx:a[i]? = some (a[i]'(by omega)):=by simp
   have hne : ¬ ((i:Int)=(a.length:Int)):=by omega
   rw [if_pos hne]
   refine (ndx 0 rfl (x:=a) rfl).trans ((ndx 0 rfl (x:=(i:Int)) rfl).trans ((ndx i rfl hx).trans ?_))
   rw [kx_some hx]
   simp only [hne,decide_false]
   rfl
 ·refine (rdx 1 rfl rfl (x:=(j:Int)) rfl).trans ((ndx 1 rfl (x:=b) rfl).trans ?_)
  rw [ieq_eq,bnot_eq,br_dec]
  by_cases h:j=b.length
  ·have hne:((j:Int)=(b.length:Int)):=by omega
   rw [if_neg (show ¬ ¬ ((j:Int)=(b.length:Int)) by simp [hne]),kx_none (l:=b) (i:=j) (List.getElem?_eq_none (by omega))]
   simp only [hne,decide_true]
   rfl
  ·have hx:b[j]? = some (b[j]'(by omega)):=by simp
   have hne : ¬ ((j:Int)=(b.length:Int)):=by omega
   rw [if_pos hne]
   refine (ndx 1 rfl (x:=b) rfl).trans ((ndx 1 rfl (x:=(j:Int)) rfl).trans ((ndx j rfl hx).trans ?_))
   rw [kx_some (l:=b) (i:=j) hx]
   simp only [hne,decide_false]
   rfl
 ·show bd (g_ref10_Build [kx a i,kx b j]) _=_
  rw [build_ref _ _ (kx_fine _ _) (kx_fine _ _)];rfl
theorem rlast {i:Nat} {l:List Entry} (h:i≠0) (hi:i≤l.length) : ∃ x,l[i-1]? = some x:=⟨l[i-1]'(by omega),by simp⟩
theorem rCheck_ok {i j:Nat} (I:Inv a b i j):g_ref11_Check (Mst a b i j)=some (0,0):=by
 have la:=va.len
 have lb:=vb.len
 have hi:=I.ia
 have hj:=I.jb
 unfold g_ref11_Check
 rw [show (Mst a b i j).1=[a,b] from rfl,rright_two va vb,bd_val,br_ne,if_pos rfl]
 rw [show (Mst a b i j).2.1=[(i:Int),(j:Int)] from rfl,br_ne,if_pos (show nti (llen [(i:Int),(j:Int)])=nti (llen [a,b]) from rfl)]
 refine bd_eq (x:=(1,((0,(0,2)),()))) (loop_two (s1:=(0,(0,1))) (s2:=(0,(0,2))) ?_ ?_ rfl) ?_
 ·refine (rdx 0 rfl rfl (x:=(i:Int)) rfl).trans ?_
  rw [br_lt,if_neg (by omega)]
  refine (ndx 0 rfl (x:=(i:Int)) rfl).trans ((ndx 0 rfl (x:=a) rfl).trans ?_)
  rw [br_gt,if_neg (by simp only [nti_eq,llen_eq];omega)];rfl
 ·refine (rdx 1 rfl rfl (x:=(j:Int)) rfl).trans ?_
  rw [br_lt,if_neg (by omega)]
  refine (ndx 1 rfl (x:=(j:Int)) rfl).trans ((ndx 1 rfl (x:=b) rfl).trans ?_)
  rw [br_gt,if_neg (by simp only [nti_eq,llen_eq];omega)];rfl
 rw [show neq ((1:Nat),(((0:Int),((0:Int),(2:Int))),())).1 0=false from rfl,br_false,rstate_two va vb hi hj,bd_val,refTree_ok (Mst a b i j).2.2 (Mst a b i j).2.2 (show 2≤1000 by omega) (show 2≤1000 by omega),bd_val,bnot_eq,br_dec,if_neg (show ¬ ¬ (Mst a b i j).2.2=(Mst a b i j).2.2 by simp),rfirst_two va vb hi hj,bd_val]
 by_cases hd:i=a.length∧j=b.length
 ·rw [if_pos hd]
  refine bd_eq (x:=(1,((0,(0,0)),()))) (loop_of (n:=1) (by omega) (loopN_dn ?_)) rfl
  rfl
 rw [if_neg hd]
 cases g:goA a b i j with
 | true =>
  rw [if_pos rfl]
  have hil:i<a.length:=by
   refine Nat.lt_of_not_le λh' => ?_
   have hb2:j<b.length:=by omega
   rw [goA_b (List.getElem?_eq_none h') (show b[j]? = some (b[j]'hb2) by simp)] at g;cases g
  have hx:a[i]? = some (a[i]'hil):=by simp
  refine bd_eq (x:=(1,((0,(0,2)),()))) (loop_two (s1:=(0,(0,1))) (s2:=(0,(0,2))) ?_ ?_ rfl) rfl
  ·show br (ilt (0:Int) 2) _ _=_
   rw [br_lt,if_pos (by omega),br_ge,if_pos (by omega)]
   refine (ndx 0 rfl (x:=(i:Int)) rfl).trans ?_
   rw [br_eq]
   by_cases h0:i=0
   ·rw [if_pos (by omega)];rfl
   ·rw [if_neg (by omega)]
    obtain ⟨y,hy⟩:=rlast va vb (l:=a) h0 hi
    refine (ndx 0 rfl (x:=a) rfl).trans ((ndx 0 rfl (x:=(i:Int)) rfl).trans ?_)
    rw [show isub .i64 (i:Int) 1=((i-1:Nat):Int) by rw [isub_in (by omega)];omega,nat_cast,ix_val hy]
    refine (ndx 0 rfl (x:=a) rfl).trans ((ndx 0 rfl (x:=(i:Int)) rfl).trans ((ndx i rfl hx).trans ?_))
    have hlt:=va.lt hy (show a[i-1+1]? = some _ by rw [show i-1+1=i by omega];exact hx)
    rw [br_slt,if_neg (by rw [slt_asymm hlt];simp),br_seq,if_neg (slt_ne hlt)];rfl
  ·show br (ilt (1:Int) 2) _ _=_
   rw [br_lt,if_pos (by omega),br_ge,if_pos (by omega)]
   refine (ndx 1 rfl (x:=(j:Int)) rfl).trans ?_
   rw [br_eq]
   by_cases h0:j=0
   ·rw [if_pos (by omega)];rfl
   ·rw [if_neg (by omega)]
    obtain ⟨y,hy⟩:=rlast va vb (l:=b) h0 hj
    refine (ndx 1 rfl (x:=b) rfl).trans ((ndx 1 rfl (x:=(j:Int)) rfl).trans ?_)
    rw [show isub .i64 (j:Int) 1=((j-1:Nat):Int) by rw [isub_in (by omega)];omega,nat_cast,ix_val hy]
    refine (ndx 0 rfl (x:=a) rfl).trans ((ndx 0 rfl (x:=(i:Int)) rfl).trans ((ndx i rfl hx).trans ?_))
    have hlt:=I.pb (j-1) (by omega) y _ hy hx
    rw [br_slt,if_neg (by rw [slt_asymm hlt];simp),br_seq,if_neg (slt_ne hlt)];rfl
 | false =>
  rw [if_neg (by simp)]
  have hjl:j<b.length:=by
   refine Nat.lt_of_not_le λh' => ?_
   have ha2:i<a.length:=by omega
   rw [goA_a (show a[i]? = some (a[i]'ha2) by simp) (List.getElem?_eq_none h')] at g;cases g
  have hx:b[j]? = some (b[j]'hjl):=by simp
  refine bd_eq (x:=(1,((0,(0,2)),()))) (loop_two (s1:=(0,(0,1))) (s2:=(0,(0,2))) ?_ ?_ rfl) rfl
  ·show br (ilt (0:Int) 2) _ _=_
   rw [br_lt,if_pos (by omega),br_ge,if_pos (by omega)]
   refine (ndx 0 rfl (x:=(i:Int)) rfl).trans ?_
   rw [br_eq]
   by_cases h0:i=0
   ·rw [if_pos (by omega)];rfl
   ·rw [if_neg (by omega)]
    obtain ⟨y,hy⟩:=rlast va vb (l:=a) h0 hi
    refine (ndx 0 rfl (x:=a) rfl).trans ((ndx 0 rfl (x:=(i:Int)) rfl).trans ?_)
    rw [show isub .i64 (i:Int) 1=((i-1:Nat):Int) by rw [isub_in (by omega)];omega,nat_cast,ix_val hy]
    refine (ndx 1 rfl (x:=b) rfl).trans ((ndx 1 rfl (x:=(j:Int)) rfl).trans ((ndx j rfl hx).trans ?_))
    have hle:=I.pa (i-1) (by omega) y _ hy hx
    rw [br_slt,if_neg (by rw [hle];simp),br_seq]
    by_cases he:y.1=(b[j]'hjl).1
    ·rw [if_pos he];rfl
    ·rw [if_neg he];rfl
  ·show br (ilt (1:Int) 2) _ _=_
   rw [br_lt,if_pos (by omega),br_ge,if_pos (by omega)]
   refine (ndx 1 rfl (x:=(j:Int)) rfl).trans ?_
   rw [br_eq]
   by_cases h0:j=0
   ·rw [if_pos (by omega)];rfl
   ·rw [if_neg (by omega)]
    obtain ⟨y,hy⟩:=rlast va vb (l:=b) h0 hj
    refine (ndx 1 rfl (x:=b) rfl).trans ((ndx 1 rfl (x:=(j:Int)) rfl).trans ?_)
    rw [show isub .i64 (j:Int) 1=((j-1:Nat):Int) by rw [isub_in (by omega)];omega,nat_cast,ix_val hy]
    refine (ndx 1 rfl (x:=b) rfl).trans ((ndx 1 rfl (x:=(j:Int)) rfl).trans ((ndx j rfl hx).trans ?_))
    have hlt:=vb.lt hy (show b[j-1+1]? = some _ by rw [show j-1+1=j by omega];exact hx)
    rw [br_slt,if_neg (by rw [slt_asymm hlt];simp),br_seq,if_neg (slt_ne hlt)];rfl
end
end Go.Proofs.YthpkjfabdccpdaaGreat.Pl
namespace Go.Proofs.YthpkjfabdccpdaaGreat.Pl
open Go Go.Proofs.YthpkjfabdccpdaaGreat.Sv
section
variable {a b:List Entry} (va:VL a) (vb:VL b)
include va vb
theorem rNext_ok {n:Nat} {x:Entry} (h:n<a.length+b.length) (hx:nxt a b n=some x):g_ref11_Next (MsN a b n)=some (x,((runN a b n:Int),(MsN a b (n+1),0))):=by
 obtain ⟨hI,hs⟩:=pos_ok va vb (n:=n) (by omega)
 obtain ⟨hI2,hs2⟩:=pos_ok va vb (n:=n+1) (by omega)
 have la:=va.len
 have lb:=vb.len
 have hia:=hI.ia
 have hjb:=hI.jb
 unfold g_ref11_Next
 rw [show MsN a b n=Mst a b (pos a b n).1 (pos a b n).2 from rfl,rCheck_ok va vb hI,bd_val,br_ne,if_pos rfl,show (Mst a b (pos a b n).1 (pos a b n).2).1=[a,b] from rfl,show (Mst a b (pos a b n).1 (pos a b n).2).2.1=[((pos a b n).1:Int),((pos a b n).2:Int)] from rfl,rfirst_two va vb hia hjb,bd_val,if_neg (λhh:(pos a b n).1=a.length∧(pos a b n).2=b.length=>by omega)]
 unfold nxt at hx
 have hpos:pos a b (n+1)=if goA a b (pos a b n).1 (pos a b n).2=true then ((pos a b n).1+1,(pos a b n).2) else ((pos a b n).1,(pos a b n).2+1):=rfl
 unfold MsN runN
 cases g:goA a b (pos a b n).1 (pos a b n).2 with
 | true =>
  rw [g,if_pos rfl] at hpos
  rw [g,if_pos rfl] at hx
  have hi:=(List.getElem?_eq_some_iff.1 hx).1
  rw [if_pos rfl,br_lt,if_neg (by omega),gd_le (show llen [((pos a b n).1:Int),((pos a b n).2:Int)]≤1048576 from (show 2≤1048576 by omega))]
  refine (ngx 0 rfl (x:=((pos a b n).1:Int)) rfl).trans ((ngx 0 rfl (x:=((pos a b n).1:Int)) rfl).trans ((ndx 0 rfl (x:=a) rfl).trans ((ndx 0 rfl (x:=((pos a b n).1:Int)) rfl).trans ((ndx _ rfl hx).trans ?_))))
  rw [iadd_nat (by omega),show lset [((pos a b n).1:Int),((pos a b n).2:Int)] 0 (((pos a b n).1+1:Nat):Int)=[(((pos a b n).1+1:Nat):Int),((pos a b n).2:Int)] from rfl,rstate_two va vb (by omega) hjb,bd_val,hpos]
  rfl
 | false =>
  rw [g,if_neg (by simp)] at hpos
  rw [g,if_neg (by simp)] at hx
  have hi:=(List.getElem?_eq_some_iff.1 hx).1
  rw [if_neg (by simp),br_lt,if_neg (by omega),gd_le (show llen [((pos a b n).1:Int),((pos a b n).2:Int)]≤1048576 from (show 2≤1048576 by omega))]
  refine (ngx 1 rfl (x:=((pos a b n).2:Int)) rfl).trans ((ngx 1 rfl (x:=((pos a b n).2:Int)) rfl).trans ((ndx 1 rfl (x:=b) rfl).trans ((ndx 1 rfl (x:=((pos a b n).2:Int)) rfl).trans ((ndx _ rfl hx).trans ?_))))
  rw [iadd_nat (by omega),show lset [((pos a b n).1:Int),((pos a b n).2:Int)] 1 (((pos a b n).2+1:Nat):Int)=[((pos a b n).1:Int),(((pos a b n).2+1:Nat):Int)] from rfl,rstate_two va vb hia (by omega),bd_val,hpos]
  rfl
theorem rLeft_ok {n:Nat} (h:n≤a.length+b.length):g_ref11_Left (MsN a b n)=some (((a.length+b.length-n:Nat):Int),0):=by
 obtain ⟨hI,hs⟩:=pos_ok va vb (n:=n) h
 have la:=va.len
 have lb:=vb.len
 have ha:=hI.ia
 have hb:=hI.jb
 unfold g_ref11_Left
 rw [show MsN a b n=Mst a b (pos a b n).1 (pos a b n).2 from rfl,rCheck_ok va vb hI,bd_val,br_ne,if_pos rfl]
 refine bd_eq (x:=(0,((2,((a.length+b.length-n:Nat):Int)),()))) (loop_two (s1:=(1,(a.length:Int)-((pos a b n).1:Int))) (s2:=(2,((a.length+b.length-n:Nat):Int))) ?_ ?_ rfl) rfl
 ·refine (rdx 0 rfl rfl (x:=a) rfl).trans ((ndx 0 rfl (x:=((pos a b n).1:Int)) rfl).trans ?_)
  simp only [nti_eq,llen_eq]
  rw [show iadd .i64 (0:Int) (a.length:Int)=(a.length:Int) by rw [iadd_in (by omega),Int.zero_add],isub_in (by omega)];rfl
 ·refine (rdx 1 rfl rfl (x:=b) rfl).trans ((ndx 1 rfl (x:=((pos a b n).2:Int)) rfl).trans ?_)
  simp only [nti_eq,llen_eq]
  show some (LR.nx ((2:Int),isub .i64 (iadd .i64 ((a.length:Int)-((pos a b n).1:Int)) (b.length:Int)) ((pos a b n).2:Int)))=_
  rw [iadd_in (by omega),isub_in (by omega),show (a.length:Int)-((pos a b n).1:Int)+(b.length:Int)-((pos a b n).2:Int)=((a.length+b.length-n:Nat):Int) by omega]
theorem rAll_ok:g_ref11_All [a,b]=some (mlist a b (a.length+b.length),(fromL a b (a.length+b.length),0)):=by
 have la:=va.len
 have lb:=vb.len
 unfold g_ref11_All
 rw [rright_two va vb,bd_val,br_ne,if_pos rfl]
 refine Eq.trans (b:=bd (loop _ ([],([],([],(0,([],[0,0])))))) _) rfl ?_
 refine bd_eq (x:=(0,((fromL a b (a.length+b.length),(mlist a b (a.length+b.length),0)),())))
  (loop_from (λk=>([],(mlist a b k,([],(0,(fromL a b k,[((pos a b k).1:Int),((pos a b k).2:Int)])))))) 0 (a.length+b.length) rfl (by omega) (by omega) (λk _ hk => ?_) ?_) rfl
 ·obtain ⟨x,hx,_⟩:=nxt_some va vb (n:=k) hk
  obtain ⟨hI,hs⟩:=pos_ok va vb (n:=k) (by omega)
  have hl1:(mlist a b k).length=k:=mlist_len va vb (by omega)
  have hl2:=fromL_len a b k
  simp only
  rw [rfirst_two va vb hI.ia hI.jb,bd_val,if_neg (λhh:(pos a b k).1=a.length∧(pos a b k).2=b.length=>by omega)]
  rw [mlist_succ va vb hx]
  unfold nxt at hx
  rw [show fromL a b (k+1)=fromL a b k++[(runN a b k:Int)] from rfl]
  unfold runN
  rw [show pos a b (k+1)=if goA a b (pos a b k).1 (pos a b k).2=true then ((pos a b k).1+1,(pos a b k).2) else ((pos a b k).1,(pos a b k).2+1) from rfl]
  have g1 : ∀ {β:Type} (y:Entry) (q:Unit→Option β),gd (nle (nadd (llen (mlist a b k)) (llen [y])) 1048576) q=q ():=λy q=>gd_le (by simp only [nadd,llen,hl1,List.length_cons,List.length_nil];omega) q
  have g2 : ∀ {β:Type} (y:Int) (q:Unit→Option β),gd (nle (nadd (llen (fromL a b k)) (llen [y])) 1048576) q=q ():=λy q=>gd_le (by simp only [nadd,llen,hl2,List.length_cons,List.length_nil];omega) q
  cases g:goA a b (pos a b k).1 (pos a b k).2 with
  | true =>
   rw [g,if_pos rfl] at hx
   have hi:=(List.getElem?_eq_some_iff.1 hx).1
   simp only [if_true]
   rw [br_lt,if_neg (by omega)]
   refine (ndx 0 rfl (x:=a) rfl).trans ((ngx 0 rfl (x:=((pos a b k).1:Int)) rfl).trans ((ndx _ rfl hx).trans ?_))
   rw [g1,g2]
   refine (ngx 0 rfl (x:=((pos a b k).1:Int)) rfl).trans ((ngx 0 rfl (x:=((pos a b k).1:Int)) rfl).trans ?_)
   rw [iadd_nat (by omega)];rfl
  | false =>
   rw [g,if_neg (by simp)] at hx
   have hi:=(List.getElem?_eq_some_iff.1 hx).1
   simp only [Bool.false_eq_true,if_false]
   rw [br_lt,if_neg (by omega)]
   refine (ndx 1 rfl (x:=b) rfl).trans ((ngx 1 rfl (x:=((pos a b k).2:Int)) rfl).trans ((ndx _ rfl hx).trans ?_))
   rw [g1,g2]
   refine (ngx 1 rfl (x:=((pos a b k).2:Int)) rfl).trans ((ngx 1 rfl (x:=((pos a b k).2:Int)) rfl).trans ?_)
   rw [iadd_nat (by omega)];rfl
 ·obtain ⟨hI,hs⟩:=pos_ok va vb (n:=a.length+b.length) (Nat.le_refl _)
  simp only
  rw [rfirst_two va vb hI.ia hI.jb,bd_val,if_pos (show (pos a b (a.length+b.length)).1=a.length∧(pos a b (a.length+b.length)).2=b.length by have:=hI.ia;have:=hI.jb;omega),br_lt,if_pos (by omega)]
end
theorem rshCheck_ok {s:ShState} (h1:s.2.1.length≤32) (h2:s.1=false→s.2.1=[]):g_ref12_Check s=some 0:=by
 unfold g_ref12_Check
 rw [br_gt,if_neg (by simp only [nti_eq,slen_eq];omega),br_bnot,br_b]
 cases h:s.1 with
 | true=>rfl
 | false=>rw [if_neg (by simp),br_bnot,br_seq,if_pos (h2 h)]
theorem rshStep_ok {s:ShState} {x:Entry} (h1:s.2.1.length≤32) (h2:s.1=false→s.2.1=[]) (h3:kE x=0) (h4:s.1=true→slt x.1 s.2.1=false):g_ref12_Step (s,x)=some (keep s x,((true,(x.1,s.2.2)),0)):=by
 unfold g_ref12_Step keep
 rw [rshCheck_ok h1 h2,bd_val,br_eq,if_pos rfl,ref_Check_ok,h3,bd_val,br_eq,if_pos rfl]
 obtain ⟨s1,s2,s3⟩:=s
 obtain ⟨x1,x2,x3,x4⟩:=x
 simp only at h4 ⊢
 cases s1 with
 | true =>
  have:=h4 rfl
  simp only [br_true,br_slt,this,Bool.false_eq_true,if_false,br_ne,if_true,br_bnot,br_seq]
  by_cases he:x1=s2
  ·simp [he,br_false]
  ·simp only [he,if_false,decide_false]
   cases s3<;>cases x3<;>rfl
 | false =>
  simp only [br_false,br_ne,if_true,br_bnot]
  cases s3<;>cases x3<;>rfl
theorem rFilter_ok {l:List Entry} {bt:Bool} (hl:l.length≤20000) (hr:Rise (false,([],bt)) l):g_ref12_Filter (l,bt)=some (filt (false,([],bt)) l,(0,0)):=by
 unfold g_ref12_Filter g_ref12_Begin
 simp only [nti_eq,llen_eq]
 rw [br_gt,if_neg (by omega),bd_val]
 rw [loop_run (l:=l) (σ:=ShState×List Entry) (s:=(0,(0,([],([],(0,(false,([],bt)))))))) (λk st=>((0:Int),((k:Int),(([]:List Entry),(st.2,((0:Int),st.1))))))
  (λm k st=>Rise st.1 m∧st.1.2.1.length≤32∧(st.1.1=false→st.1.2.1=[])∧st.2.length≤k∧k+m.length=l.length)
  (λm k st=>(1,((0,((l.length:Int),([],(st.2++filt st.1 m,(0,lastS st.1 m))))),()))) ((false,([],bt)),[]) rfl (by omega) ⟨hr,by simp,λ_=>rfl,by simp,by simp⟩ ?_ ?_,bd_val]
 ·simp
  rfl
 ·intro st _
  simp only
  rw [re,br_false]
  simp [lastS,filt]
 ·rintro k x m ⟨s,out⟩ hm hx hk ⟨⟨h1,h2,h3⟩,h4,h5,h6,h7⟩
  simp only at h1 h2 h3 h4 h5 h6 ⊢
  refine ⟨((true,(x.1,s.2.2)),out++if keep s x=true then [x] else []),?_,⟨h3,kE_key h1,(λh=>by cases h),?_,by simp at h7;omega⟩,?_⟩
  ·rw [rl hk,br_true,nat_cast,ix_val hx,rshStep_ok h4 h5 h1 h2,bd_val,br_ne,if_pos rfl,br_b,nat_cast,ix_val hx]
   have hg : ∀ {β:Type} (k:Unit→Option β),gd (nle (nadd out.length [x].length) 1048576) k=k ():=λk=>gd_app' h6 (by simp at h7;omega) x k
   rw [hg,iadd_rng hx (show l.length≤9223372036854775807 by omega)]
   cases hk2:keep s x<;>simp [lapp]
  ·split<;>simp<;>omega
  ·simp only [lastS,filt,List.append_assoc]
section
variable {a b:List Entry} (va:VL a) (vb:VL b)
include va vb
theorem behind_ok (bt:Bool) {n:Nat} (h:n≤a.length+b.length):g_ref13_behind (mlist a b n,bt)=some (filt (s0 bt) (mlist a b n),lastS (s0 bt) (mlist a b n)):=by
 have la:=va.len
 have lb:=vb.len
 have hml:(mlist a b n).length=n:=mlist_len va vb h
 unfold g_ref13_behind
 simp only [nti_eq,llen_eq]
 rw [rFilter_ok (by omega) (rise_mlist va vb bt h),bd_val]
 unfold g_ref12_Begin
 rw [bd_val,br_gt,hml]
 cases n with
 | zero=>rw [if_neg (by omega)];rfl
 | succ m =>
  obtain ⟨x,hx,_⟩:=nxt_some va vb (n:=m) (by omega)
  rw [if_pos (by omega),show isub .i64 ((m+1:Nat):Int) 1=(m:Int) by rw [isub_in (by omega)];omega,nat_cast,ix_val (x:=x) (by rw [mlist_get va vb h (by omega)];exact hx),lastS_mlist va vb bt hx]
theorem rread_ok (bt:Bool) {n:Nat} (h:n≤a.length+b.length):g_ref13_read (SsT a b bt n)=some (n:Int):=by
 obtain ⟨hI,hs⟩:=pos_ok va vb (n:=n) h
 have la:=va.len
 have lb:=vb.len
 unfold g_ref13_read
 refine bd_eq (x:=(0,(((n:Int),2),()))) (loop_two (s1:=(((pos a b n).1:Int),1)) (s2:=((n:Int),2)) ?_ ?_ rfl) rfl
 ·refine (rdx 0 rfl rfl (x:=((pos a b n).1:Int)) rfl).trans ?_
  show some (LR.nx (iadd .i64 0 ((pos a b n).1:Int),(1:Int)))=_
  rw [iadd_in (by omega),Int.zero_add]
 ·refine (rdx 1 rfl rfl (x:=((pos a b n).2:Int)) rfl).trans ?_
  show some (LR.nx (iadd .i64 ((pos a b n).1:Int) ((pos a b n).2:Int),(2:Int)))=_
  rw [iadd_in (by omega),show ((pos a b n).1:Int)+((pos a b n).2:Int)=(n:Int) by omega]
theorem rslCheck_ok (bt:Bool) {n:Nat} (h:n≤a.length+b.length):g_ref13_Check (SsT a b bt n)=some 0:=by
 obtain ⟨hI,hs⟩:=pos_ok va vb (n:=n) h
 have la:=va.len
 have lb:=vb.len
 have hfl:=filt_len (s0 bt) (mlist a b n)
 have hml:(mlist a b n).length=n:=mlist_len va vb h
 unfold g_ref13_Check
 rw [show (SsT a b bt n).1=Mst a b (pos a b n).1 (pos a b n).2 from rfl,rCheck_ok va vb hI,bd_val,br_ne,if_pos rfl,rread_ok va vb bt h,bd_val]
 simp only [nti_eq,llen_eq]
 rw [show (SsT a b bt n).2.2.1=filt (s0 bt) (mlist a b n) from rfl,show (SsT a b bt n).2.2.2=(n:Int) from rfl,show (SsT a b bt n).2.1=lastS (s0 bt) (mlist a b n) from rfl,br_gt,if_neg (by omega),br_gt,if_neg (by omega),br_ne,if_pos rfl]
 rw [show (Mst a b (pos a b n).1 (pos a b n).2).1=[a,b] from rfl,rAll_ok va vb,bd_val,nat_cast]
 rw [gd_le (by rw [mlist_len va vb (Nat.le_refl _)];exact h),gd_le (Nat.zero_le _)]
 rw [show lsub (mlist a b (a.length+b.length)) 0 n=mlist a b n from by unfold lsub;rw [List.drop_zero,Nat.sub_zero];exact mlist_full_take va vb h,lastS_bt]
 rw [show (s0 bt).2.2=bt from rfl,behind_ok va vb bt h,bd_val,refEntries_eq,eqEntries_ok _ _ (by omega),bd_val,bnot_eq,br_dec,if_neg (by simp),lastS_bt,beq_rfl,beq_rfl,seq_rfl]
 rfl
theorem rslLeft_ok (bt:Bool) {n:Nat} (h:n≤a.length+b.length):g_ref13_Left (SsT a b bt n)=some (((a.length+b.length-n:Nat):Int),0):=by
 unfold g_ref13_Left
 rw [rslCheck_ok va vb bt h,bd_val,br_ne,if_pos rfl,show (SsT a b bt n).1=MsN a b n from rfl,rLeft_ok va vb h];rfl
theorem rslStep_ok (bt:Bool) {n:Nat} (h:n≤a.length+b.length) {k:Nat}:g_ref13_Step (SsT a b bt n,(k:Int))=some (SsT a b bt (n+min k (a.length+b.length-n)),(((min k (a.length+b.length-n):Nat):Int),0)):=by
 have la:=va.len
 have lb:=vb.len
 obtain ⟨u,hu⟩ : ∃ u,u=min k (a.length+b.length-n):=⟨_,rfl⟩
 have him:imn (k:Int) ((a.length+b.length-n:Nat):Int)=(u:Int):=by
  unfold imn;split<;>omega
 rw [← hu]
 unfold g_ref13_Step
 rw [rslLeft_ok va vb bt h,bd_val,br_eq,if_pos rfl]
 simp only [him,nti_eq,llen_eq]
 rw [br_lt,if_neg (by omega),br_ne,if_pos rfl,rread_ok va vb bt h,bd_val,iadd_in (by omega),br_gt,if_neg (by omega)]
 refine bd_eq (x:=(0,(((u:Int),((MsN a b (n+u)).1,((MsN a b (n+u)).2.1,((MsN a b (n+u)).2.2.1,((MsN a b (n+u)).2.2.2.1,((MsN a b (n+u)).2.2.2.2,((SsT a b bt n).2.1.1,((SsT a b bt n).2.1.2.1,((SsT a b bt n).2.1.2.2,(SsT a b bt n).2.2))))))))),())))
  (loop_from (λj=>((j:Int),((MsN a b (n+j)).1,((MsN a b (n+j)).2.1,((MsN a b (n+j)).2.2.1,((MsN a b (n+j)).2.2.2.1,((MsN a b (n+j)).2.2.2.2,((SsT a b bt n).2.1.1,((SsT a b bt n).2.1.2.1,((SsT a b bt n).2.1.2.2,(SsT a b bt n).2.2)))))))))) 0 u rfl (by omega) (by omega) (λj _ hj => ?_) ?_) ?_
 ·obtain ⟨y,hy,_⟩:=nxt_some va vb (n:=n+j) (by omega)
  show br (ilt (j:Int) (u:Int)) _ _=_
  rw [br_lt,if_pos (by omega)]
  show bd (g_ref11_Next (MsN a b (n+j))) _=_
  rw [rNext_ok va vb (by omega) hy,bd_val,iadd_nat (by omega)]
  rfl
 ·show br (ilt (u:Int) (u:Int)) _ _=_
  rw [br_lt,if_neg (by omega)]
 ·rw [show (SsT a b bt n).1.1=[a,b] from rfl,rAll_ok va vb,bd_val,show (SsT a b bt n).2.2.2=(n:Int) from rfl,show iadd .i64 (n:Int) (u:Int)=((n+u:Nat):Int) by rw [iadd_in (by omega)];omega,nat_cast]
  rw [gd_le (by rw [mlist_len va vb (Nat.le_refl _)];omega),gd_le (Nat.zero_le _)]
  rw [show lsub (mlist a b (a.length+b.length)) 0 (n+u)=mlist a b (n+u) from by unfold lsub;rw [List.drop_zero,Nat.sub_zero];exact mlist_full_take va vb (by omega),show (SsT a b bt n).2.1.2.2=bt from lastS_bt _ _,behind_ok va vb bt (by omega),bd_val]
  rfl
end
end Go.Proofs.YthpkjfabdccpdaaGreat.Pl
namespace Go.Proofs.YthpkjfabdccpdaaGreat.Pl
open Go Go.Proofs.YthpkjfabdccpdaaGreat.Sv
theorem size_succ (B:Int) (i:Nat):sizeL B (i+1)=2*sizeL B i:=by
 unfold sizeL
 rw [Int.pow_succ,← Int.mul_assoc,Int.mul_comm]
theorem rsize_ok {B:Int} {i:Nat} (h1:1≤B) (h2:B≤16) (hi:i≤12):g_ref15_size (B,(i:Int))=some (sizeL B i):=by
 unfold g_ref15_size
 refine bd_eq (x:=(0,((sizeL B i,(i:Int)),()))) (loop_for (λk=>(sizeL B k,(k:Int))) i (by simp [sizeL]) (by omega) (λk hk => ?_) ?_) rfl
 ·have h3:=sizeL_in h1 h2 (show k≤12 by omega)
  simp only
  rw [br_lt,if_pos (by omega),imul_in (by omega),iadd_nat (by omega),size_succ]
 ·simp only
  rw [br_lt,if_neg (by omega)]
theorem rrun_ok (r:Run) (hl:r.2.length≤9223372036854775806):g_ref08_Check r=some (if r.1<1∨r.1>1000000 then (-1,7) else ckList r.2):=by
 unfold g_ref08_Check
 rw [br_lt,br_gt,ref_CheckList_ok _ hl,bd_val]
 by_cases h:r.1<1
 ·rw [if_pos h,if_pos (.inl h)]
 ·rw [if_neg h]
  by_cases h2:r.1>1000000
  ·rw [if_pos h2,if_pos (.inr h2)]
  ·rw [if_neg h2,if_neg (by omega)]
theorem rfits_ok (r:Run) (most:Int) (ids:List Int) (hl:r.2.length≤1048576) (hi:ids.length≤1048576):g_ref15_fits (r,(most,ids))=some (kR ids most r):=by
 unfold g_ref15_fits kR
 rw [rrun_ok r (by omega),bd_val]
 simp only [nti_eq,llen_eq]
 by_cases h:r.1<1∨r.1>1000000
 ·rw [if_pos h,if_pos h];rfl
 rw [if_neg h,if_neg h,br_ne]
 by_cases h2:(ckList r.2).2=0
 rotate_left
 ·rw [if_neg h2,if_pos h2]
 rw [if_pos h2,if_neg (show ¬ (ckList r.2).2≠0 by simp [h2]),br_eq,br_gt]
 by_cases h3:r.2.length=0
 ·rw [if_pos (by omega),if_pos h3]
 rw [if_neg (by omega),if_neg h3]
 by_cases h4:(r.2.length:Int)>most
 ·rw [if_pos h4,if_pos h4]
 rw [if_neg h4,if_neg h4]
 obtain ⟨q,q1,q2⟩:=loop_q (l:=ids) (σ:=Unit) (s:=((0:Int),(0:Int))) (λk _=>((k:Int),(0:Int))) (λm k _=>r.1∈ids↔r.1∈m) (λ(q:Nat×((Int×Int)×Unit))=>(q.1=1∧r.1 ∉ ids)∨(q.1=0∧r.1∈ids∧q.2.1.2=8))
  (f:=λs1=>br (ilt s1.1 (ids.length:Int)) (λ_=>nat s1.1 λk2=>ix ids k2 λx3=>br (ieq x3 r.1) (λ_=>some (.dn ((0,((s1.1,8),()))))) λ_=>some (.nx (iadd .i64 s1.1 1,s1.2))) λ_=>some (.dn ((1,(s1,())))))
  () rfl (by omega) Iff.rfl (λ_ h=>⟨_,by simp only;rw [re];rfl,.inl ⟨rfl,by simpa using h⟩⟩) (λk x m _ hd hx hk h=>by
   simp only
   rw [rl hk,br_true,nat_cast,ix_val hx,br_eq]
   by_cases e:x=r.1
   ·rw [if_pos e];exact .inr ⟨_,rfl,.inr ⟨rfl,by rw [h,e];simp,rfl⟩⟩
   ·rw [if_neg e];exact .inl ⟨(),by rw [iadd_rng hx (by omega)],by rw [h,List.mem_cons];exact ⟨λu=>u.elim (λe2=>absurd e2.symm e) id,.inr⟩⟩)
 refine bd_eq q1 ?_
 rw [br_neq]
 rcases q2 with ⟨q2,q3⟩ | ⟨q2,q3,q4⟩
 ·rw [if_neg (show ¬ q.1=0 by omega),if_neg q3]
 ·rw [if_pos q2,if_pos q3,q4]
theorem rlv_ok (L:Levels) (hb:L.2.length≤1048576) (hr : ∀ rs∈L.2,rs.length≤1048576 ∧ ∀ r∈rs,r.2.length≤1048576):g_ref15_Check L=some (lvCheck L):=by
 unfold g_ref15_Check lvCheck
 simp only [nti_eq,llen_eq]
 rw [br_lt,br_gt,br_gt]
 by_cases hB1:L.1<1
 ·rw [if_pos hB1,if_pos (.inl hB1)]
 rw [if_neg hB1]
 by_cases hB2:L.1>16
 ·rw [if_pos hB2,if_pos (.inr hB2)]
 rw [if_neg hB2,if_neg (show ¬ (L.1<1∨L.1>16) by omega)]
 by_cases hl:(L.2.length:Int)>12
 ·rw [if_pos hl,if_pos (by omega)]
 rw [if_neg hl,if_neg (by omega)]
 have hl2:L.2.length≤12:=by omega
 obtain ⟨T,hT⟩ : ∃ T,T=lvGo L.1 0 [] L.2:=⟨_,rfl⟩
 rw [← hT]
 have hlast:T=none→(br (igt (L.2.length:Int) 0) (λ_=>nat (isub .i64 (L.2.length:Int) 1) λk15=>ix L.2 k15 λx16=>br (ieq (x16.length:Int) 0) (λ_=>some ((isub .i64 (L.2.length:Int) 1,((0:Int),(6:Int))))) λ_=>some ((0,(0,0)))) λ_=>some ((0,(0,0))))=some (if L.2.getLast? = some [] then (((L.2.length-1:Nat):Int),(0,6)) else (0,(0,0))):=by
  intro _
  rw [br_gt]
  by_cases hn:L.2=[]
  ·rw [hn];rfl
  ·have hp:=List.length_pos_iff.2 hn
   rw [if_pos (by omega),show isub .i64 (L.2.length:Int) 1=((L.2.length-1:Nat):Int) by rw [isub_in (by omega)];omega,nat_cast,List.getLast?_eq_getElem?]
   have hx:L.2[L.2.length-1]? = some (L.2[L.2.length-1]'(by omega)):=by simp
   rw [ix_val hx,hx,br_eq]
   by_cases he:L.2[L.2.length-1]'(by omega)=[]
   ·rw [he];simp
   ·rw [if_neg (by have:=List.length_pos_iff.2 he;omega),if_neg (by simp [he])]
 obtain ⟨r,q1,q2⟩:=loop_q (l:=L.2) (σ:=List Int) (s:=((0:Int),(([]:List Int),((0:Int),((0:Int),(0:Int)))))) (λi ids=>((0:Int),(ids,((0:Int),((0:Int),(i:Int))))))
  (λm i ids=>lvGo L.1 i ids m=T∧ids.length≤2*i) (λ(r:Nat×((Int×(List Int×(Int×(Int×Int))))×Unit))=>(r.1=1∧T=none)∨(r.1=0∧Q1 T r.2.1.1 r.2.1.2.2.1 r.2.1.2.2.2.1∧T≠none))
  (f:=λ(s0:(Int×((List Int)×(Int×(Int×Int)))))=>br (ilt s0.2.2.2.2 (L.2.length:Int)) (λ_=>nat s0.2.2.2.2 λk1=>ix L.2 k1 λx2=>br (igt (x2.length:Int) 2) (λ_=>some (.dn ((0,((0,(s0.2.1,(s0.2.2.2.2,(3,s0.2.2.2.2)))),()))))) λ_=>bd (loop (λ(s3:(Int×((List Int)×(Int×(Int×Int)))))=>br (ilt s3.2.2.2.2 (x2.length:Int)) (λ_=>nat s3.2.2.2.2 λk4=>ix x2 k4 λx5=>bd (g_ref15_size (L.1,s0.2.2.2.2)) λr6=>bd (g_ref15_fits ((x5,(r6,s3.2.1)))) λr7=>br (ine r7 0) (λ_=>some (.dn ((0,((s3.2.2.2.2,(s3.2.1,(s0.2.2.2.2,(r7,s3.2.2.2.2)))),()))))) λ_=>nat s3.2.2.2.2 λk8=>ix x2 k8 λx9=>gd (nle (nadd s3.2.1.length [x9.1].length) 1048576) λ_=>some (.nx ((s3.1,(lapp s3.2.1 [x9.1],(s3.2.2.1,(s3.2.2.2.1,iadd .i64 s3.2.2.2.2 1))))))) λ_=>some (.dn ((1,(s3,()))))) ((s0.1,(s0.2.1,(s0.2.2.1,(s0.2.2.2.1,0)))))) λr10=>br (neq r10.1 0) (λ_=>some (.dn ((0,((r10.2.1.1,(r10.2.1.2.1,(r10.2.1.2.2.1,(r10.2.1.2.2.2.1,s0.2.2.2.2)))),()))))) λ_=>some (.nx ((r10.2.1.1,(r10.2.1.2.1,(r10.2.1.2.2.1,(r10.2.1.2.2.2.1,iadd .i64 s0.2.2.2.2 1))))))) λ_=>some (.dn ((1,(s0,())))))
  [] rfl (by omega) ⟨hT.symm,by simp⟩ (λids h=>by
   refine ⟨_,by simp only;rw [re];rfl,.inl ⟨rfl,?_⟩⟩
   rw [← h.1];rfl) (λi rs m ids hd hx hi h=>by
   obtain ⟨h,hids⟩:=h
   simp only
   obtain ⟨hrs1,hrs2⟩:=hr rs (List.mem_of_getElem? hx)
   rw [rl hi,br_true,nat_cast,ix_val hx,br_gt]
   unfold lvGo at h
   by_cases h3:rs.length>2
   ·rw [if_pos (by omega)]
    rw [if_pos h3] at h
    refine .inr ⟨_,rfl,.inr ⟨rfl,?_,by rw [← h];simp⟩⟩
    rw [← h]
    exact ⟨rfl,rfl,rfl⟩
   rw [if_neg (by omega)]
   rw [if_neg h3] at h
   obtain ⟨U,hU⟩ : ∃ U,U=rnGo (sizeL L.1 i) 0 ids rs:=⟨_,rfl⟩
   rw [← hU] at h
   obtain ⟨r,q1,q2⟩:=loop_q (l:=rs) (σ:=Unit) (s:=((0:Int),(ids,((0:Int),((0:Int),(0:Int)))))) (λk _=>((0:Int),(ids++(rs.take k).map (·.1),((0:Int),((0:Int),(k:Int))))))
    (λm k _=>rnGo (sizeL L.1 i) k (ids++(rs.take k).map (·.1)) m=U) (λ(r:Nat×((Int×(List Int×(Int×(Int×Int))))×Unit))=>(r.1=1∧U=none∧r.2.1=(0,(ids++rs.map (·.1),(0,(0,(rs.length:Int))))))∨(r.1=0 ∧ ∃ k e,U=some (k,e)∧r.2.1.1=(k:Int)∧r.2.1.2.2.1=(i:Int)∧r.2.1.2.2.2.1=e))
    (f:=λ(s3:(Int×((List Int)×(Int×(Int×Int)))))=>br (ilt s3.2.2.2.2 (rs.length:Int)) (λ_=>nat s3.2.2.2.2 λk4=>ix rs k4 λx5=>bd (g_ref15_size (L.1,(i:Int))) λr6=>bd (g_ref15_fits ((x5,(r6,s3.2.1)))) λr7=>br (ine r7 0) (λ_=>some (.dn ((0,((s3.2.2.2.2,(s3.2.1,((i:Int),(r7,s3.2.2.2.2)))),()))))) λ_=>nat s3.2.2.2.2 λk8=>ix rs k8 λx9=>gd (nle (nadd s3.2.1.length [x9.1].length) 1048576) λ_=>some (.nx ((s3.1,(lapp s3.2.1 [x9.1],(s3.2.2.1,(s3.2.2.2.1,iadd .i64 s3.2.2.2.2 1))))))) λ_=>some (.dn ((1,(s3,())))))
    () (by simp) (by omega) (by simp [hU]) (λ_ h=>by
     refine ⟨_,by simp only;rw [re];rfl,.inl ⟨rfl,by rw [← h];rfl,by simp⟩⟩) (λk r m _ hd hx hk h=>by
     simp only
     have hr2:=hrs2 r (List.mem_of_getElem? hx)
     have htk:(rs.take (k+1)).map (·.1)=(rs.take k).map (·.1)++[r.1]:=by rw [List.take_add_one,hx];simp
     have hlen:(ids++(rs.take k).map (·.1)).length≤100:=by simp;omega
     rw [rl hk,br_true,nat_cast,ix_val hx,rsize_ok (by omega) (by omega) (by omega),bd_val,rfits_ok _ _ _ (by omega) (by omega),bd_val,br_ne]
     unfold rnGo at h
     by_cases h0:kR (ids++(rs.take k).map (·.1)) (sizeL L.1 i) r=0
     ·rw [if_neg (λhh:kR (ids++(rs.take k).map (·.1)) (sizeL L.1 i) r≠0=>hh h0)] at h
      rw [if_pos h0,nat_cast,ix_val hx,gd_le (by simp only [nadd,List.length_cons,List.length_nil];omega)]
      refine .inl ⟨(),?_,?_⟩
      ·rw [iadd_rng hx (by omega),htk,← List.append_assoc];rfl
      ·rw [htk,← List.append_assoc];exact h
     ·rw [if_pos h0] at h
      rw [if_neg h0]
      exact .inr ⟨_,rfl,.inr ⟨rfl,_,_,h.symm,rfl,rfl,rfl⟩⟩)
   rw [q1,bd_val,br_neq]
   rcases q2 with ⟨q2,q3,q4⟩ | ⟨q2,k,e,q3,q4,q5,q6⟩
   ·rw [if_neg (show ¬ r.1=0 by omega),q4,iadd_rng hx (by omega)]
    rw [q3] at h
    exact .inl ⟨ids++rs.map (·.1),rfl,h,by simp;omega⟩
   ·rw [if_pos q2]
    rw [q3] at h
    refine .inr ⟨_,rfl,.inr ⟨rfl,?_,by rw [← h];simp⟩⟩
    rw [← h]
    exact ⟨q4,q5,q6⟩)
 refine bd_eq q1 ?_
 rw [br_neq]
 rcases q2 with ⟨q2,q3⟩ | ⟨q2,q3,q4⟩
 ·rw [if_neg (show ¬ r.1=0 by omega),q3]
  exact hlast q3
 ·rw [if_pos q2]
  cases hTc:T with
  | none=>exact absurd hTc q4
  | some t =>
   obtain ⟨i,k,e⟩:=t
   rw [hTc] at q3
   rw [q3.1,q3.2.1,q3.2.2]
def newestL (ls:List (List Run)):List Run:=ls.flatMap List.reverse
theorem VLev.small {L:Levels} (v:VLev L):L.2.length≤1048576 ∧ ∀ rs∈L.2,rs.length≤1048576 ∧ ∀ r∈rs,r.2.length≤1048576:=by
 refine ⟨by have:=v.len;omega,λrs hrs => ?_⟩
 obtain ⟨i,hi⟩:=List.getElem?_of_mem hrs
 obtain ⟨h1,h2⟩:=v.lev i rs hi
 exact ⟨by omega,λr hr=>by have:=(h2 r hr).vl.len;omega⟩
theorem newestL_len : ∀ (ls:List (List Run)),(∀ rs∈ls,rs.length≤2)→(newestL ls).length≤2*ls.length
 | [],_=>by simp [newestL]
 | rs::ls,h=>by
  have h1:=newestL_len ls λr hr=>h r (by simp [hr])
  have h2:=h rs (by simp)
  unfold newestL at h1 ⊢
  rw [List.flatMap_cons,List.length_append,List.length_reverse,List.length_cons]
  omega
theorem VLev.two {L:Levels} (v:VLev L) : ∀ rs∈L.2,rs.length≤2:=λrs hrs=>by
 obtain ⟨i,hi⟩:=List.getElem?_of_mem hrs
 exact (v.lev i rs hi).1
theorem rnewest_ok {L:Levels} (v:VLev L):g_ref15_Newest L=some (newestL L.2,0):=by
 obtain ⟨hb,hr⟩:=v.small
 have hl:=v.len
 unfold g_ref15_Newest
 simp only [nti_eq,llen_eq]
 rw [rlv_ok _ hb hr,lvCheck_zero v,bd_val,br_ne,if_pos rfl]
 rw [loop_run (l:=L.2) (σ:=List Run) (s:=(([]:List Run),(0:Int))) (λi m=>(m,(i:Int))) (λls i m=>(∀ rs∈ls,rs.length≤2)∧m.length≤2*i) (λls _ m=>(0,((m++newestL ls,(L.2.length:Int)),()))) [] rfl (by omega) ⟨v.two,by simp⟩ (λm _=>by
  simp only;rw [re,br_false];simp [newestL]) (λi rs ls m hd hx hi h=>by
   refine ⟨m++rs.reverse,?_,⟨λr hr=>h.1 r (by simp [hr]),by have:=h.1 rs (by simp);simp;omega⟩,by simp [newestL]⟩
   have h2:=h.1 rs (by simp)
   have hm:m.length≤24:=by have:=h.2;omega
   simp only
   rw [rl hi,br_true,nat_cast,ix_val hx]
   have gg : ∀ {β:Type} (z:List Run) (x:Run) (k:Unit→Option β),z.length≤100→gd (nle (nadd z.length [x].length) 1048576) k=k ():=λz x k hz=>gd_le (by simp only [nadd,List.length_cons,List.length_nil];omega) k
   match rs,h2,hx with
   | [],_,hx =>
    refine bd_eq (x:=(0,((m,-1),()))) (loop_of (n:=1) (by omega) (loopN_dn rfl)) ?_
    rw [iadd_rng hx (by omega)];simp
   | [r0],_,hx =>
    refine bd_eq (x:=(0,((m++[r0],-1),()))) (loop_of (n:=2) (by omega) ((loopN_nx (s':=(m++[r0],-1)) ?_).trans (loopN_dn rfl))) ?_
    ·show br (ige (0:Int) 0) _ _=_
     rw [br_ge,if_pos (by omega),nat_cast,ix_val hx]
     refine (ndx 0 rfl (x:=r0) rfl).trans ?_
     rw [gg m _ _ (by omega)];rfl
    ·rw [iadd_rng hx (by omega)];simp
   | [r0,r1],_,hx =>
    refine bd_eq (x:=(0,((m++[r1]++[r0],-1),()))) (loop_of (n:=3) (by omega) ((loopN_nx (s':=(m++[r1],0)) ?_).trans ((loopN_nx (s':=(m++[r1]++[r0],-1)) ?_).trans (loopN_dn rfl)))) ?_
    ·show br (ige (1:Int) 0) _ _=_
     rw [br_ge,if_pos (by omega),nat_cast,ix_val hx]
     refine (ndx 1 rfl (x:=r1) rfl).trans ?_
     rw [gg m _ _ (by omega)];rfl
    ·show br (ige (0:Int) 0) _ _=_
     rw [br_ge,if_pos (by omega),nat_cast,ix_val hx]
     refine (ndx 0 rfl (x:=r0) rfl).trans ?_
     rw [gg (m++[r1]) _ _ (by simp;omega)];rfl
    ·rw [iadd_rng hx (by omega)];simp),bd_val]
 simp
theorem imx_max (a b:Int):imx a b=max a b:=by unfold imx;split<;>omega
theorem foldl_max_app : ∀ (l:List Run) (m:Int),0≤m→l.foldl (λm r=>imx m r.1) m=max m (l.foldl (λm r=>imx m r.1) 0)
 | [],m,h=>by simp;omega
 | r::l,m,h=>by
  have h1:=foldl_max_app l (imx m r.1) (by rw [imx_max];omega)
  have h2:=foldl_max_app l (imx 0 r.1) (by rw [imx_max];omega)
  simp only [List.foldl_cons]
  rw [h1,h2,imx_max,imx_max]
  omega
theorem foldl_max_rev (l:List Run) (m:Int) (h:0≤m):l.reverse.foldl (λm r=>imx m r.1) m=l.foldl (λm r=>imx m r.1) m:=by
 induction l generalizing m with
 | nil=>rfl
 | cons r l ih =>
  rw [List.reverse_cons,List.foldl_append,ih m h,List.foldl_cons]
  simp only [List.foldl_cons,List.foldl_nil]
  rw [foldl_max_app l m h,foldl_max_app l (imx m r.1) (by rw [imx_max];omega),imx_max,imx_max]
  omega
theorem foldl_nonneg (l:List Run) (m:Int) (h:0≤m):0≤l.foldl (λm r=>imx m r.1) m:=by
 rw [foldl_max_app l m h];omega
theorem newest_greatest : ∀ (ls:List (List Run)) (m:Int),0≤m→(newestL ls).foldl (λm r=>imx m r.1) m=ls.foldl (λm rs=>rs.foldl (λm r=>imx m r.1) m) m
 | [],m,_=>rfl
 | rs::ls,m,h=>by
  have h1:=newest_greatest ls (rs.foldl (λm r=>imx m r.1) m) (foldl_nonneg _ _ h)
  unfold newestL at h1 ⊢
  rw [List.flatMap_cons,List.foldl_append,foldl_max_rev rs m h,List.foldl_cons,h1]
theorem rgreatest_ok {L:Levels} (v:VLev L):g_ref16_greatest L=some (greatestL L.2):=by
 have hl:=v.len
 have hn:=newestL_len L.2 v.two
 unfold g_ref16_greatest
 simp only [nti_eq,llen_eq]
 rw [rnewest_ok v,bd_val]
 rw [loop_run (l:=newestL L.2) (σ:=Int) (s:=((0:Int),(0:Int))) (λi m=>(m,(i:Int))) (λ_ _ _=>True) (λl _ m=>(0,((l.foldl (λm r=>imx m r.1) m,((newestL L.2).length:Int)),()))) 0 rfl (by omega) trivial (λm _=>by
  simp only;rw [re,br_false];rfl) (λk r l m hd hx hk _=>⟨imx m r.1,by
   simp only
   rw [rl hk,br_true,nat_cast,ix_val hx,iadd_rng hx (by omega)],trivial,rfl⟩),bd_val]
 rw [newest_greatest _ _ (by omega)];rfl
theorem rdue_ok {L:Levels} (hl:L.2.length≤1000):g_ref16_Due L=some (dueGo 0 L.2):=by
 unfold g_ref16_Due
 simp only [nti_eq,llen_eq]
 rw [loop_run (l:=L.2) (σ:=List Int) (s:=(([]:List Int),(0:Int))) (λi m=>(m,(i:Int))) (λls i m=>m++dueGo i ls=dueGo 0 L.2) (λ_ _ _=>(0,((dueGo 0 L.2,(L.2.length:Int)),()))) [] rfl (by omega) rfl (λm h=>by
  simp only;rw [re,br_false,← h];simp [dueGo]) (λi rs ls m hd hx hi h=>by
   refine ⟨m++(if rs.length=2 then [(i:Int)] else []),?_,?_,rfl⟩
   ·simp only
    rw [rl hi,br_true,nat_cast,ix_val hx,br_eq]
    have hm:m.length≤1000:=by
     have h4:=congrArg List.length h
     have h5:=dueGo_len L.2 0
     rw [List.length_append] at h4
     omega
    by_cases h4:rs.length=2
    ·rw [if_pos (by omega),if_pos h4,gd_le (by simp only [nadd,List.length_cons,List.length_nil];omega),iadd_rng hx (by omega)];rfl
    ·rw [if_neg (by omega),if_neg h4,List.append_nil,iadd_rng hx (by omega)]
   ·rw [List.append_assoc];exact h),bd_val]
theorem rin_ok {L:Levels} (v:VLev L) (k:Int):g_ref15_in (L,k)=some (if k<0∨k≥12 then 7 else 0):=by
 obtain ⟨hb,hr⟩:=v.small
 unfold g_ref15_in
 rw [rlv_ok _ hb hr,lvCheck_zero v,bd_val,br_eq,if_pos rfl,br_lt,br_ge]
 by_cases h1:k<0
 ·rw [if_pos h1,if_pos (.inl h1)]
 ·rw [if_neg h1]
  by_cases h2:k≥12
  ·rw [if_pos h2,if_pos (.inr h2)]
  ·rw [if_neg h2,if_neg (by omega)]
theorem rlowest_ok {L:Levels} (v:VLev L) {n:Nat} (hn:n<L.2.length):g_ref16_lowest (L,(n:Int))=some (decide ((n:Int)=(L.2.length:Int)-1)):=by
 have hl:=v.len
 unfold g_ref16_lowest g_ref15_Above
 simp only [nti_eq,llen_eq]
 rw [rin_ok v,bd_val,if_neg (by omega),br_ne,if_pos rfl,bd_val,iadd_nat (by omega)]
 unfold igt
 rw [bnot_eq]
 by_cases h:(n:Int)=(L.2.length:Int)-1
 ·simp [h]
 ·simp [h];omega
theorem rbegin_two {a b:List Entry} (va:VL a) (vb:VL b) (bt:Bool):g_ref13_Begin ([a,b],bt)=some (SsT a b bt 0,(0,0)):=by
 unfold g_ref13_Begin g_ref11_Begin g_ref12_Begin
 rw [rright_two va vb,bd_val,br_ne,if_pos rfl]
 refine Eq.trans (b:=bd (bd (g_ref11_state ([a,b],[((0:Nat):Int),((0:Nat):Int)])) _) _) rfl ?_
 rw [rstate_two va vb (Nat.zero_le _) (Nat.zero_le _)]
 rfl
theorem rbegun_ok {L:Levels} {n:Nat} {r0 r1:Run} (bt:Bool) (h:L.2[n]? = some [r0,r1]) (v0:VL r0.2) (v1:VL r1.2):g_ref16_begun (L,((n:Int),bt))=some ((n:Int),SsT r1.2 r0.2 bt 0):=by
 have hn:=(List.getElem?_eq_some_iff.1 h).1
 unfold g_ref16_begun
 simp only [nti_eq,llen_eq]
 rw [br_ge,if_neg (by omega),nat_cast,ix_val h,ix_val (x:=r1) rfl,ix_val (x:=r0) rfl,rbegin_two v1 v0]
 rfl
theorem rjob_ok {L:Levels} {n:Nat} {r0 r1:Run} {j:Job} (h:L.2[n]? = some [r0,r1]) (v0:VL r0.2) (v1:VL r1.2) {β:Type} (A B:Option β) :
  (bd (g_ref16_begun (L,((n:Int),j.2.2.1.2.2))) λr16=>bd (g_ref13_Left r16.2) λr17=>br (ilt j.2.2.2.2 0) (λ_=>A) λ_=>br (igt j.2.2.2.2 r17.1) (λ_=>A) λ_=>bd (g_ref13_Step (r16.2,j.2.2.2.2)) λr18=>bd (g_ref13_Same (r18.1,j.2)) λr19=>br (bnot r19) (λ_=>A) λ_=>B)
  = if j.2.2.2.2<0∨j.2.2.2.2>((r1.2.length+r0.2.length:Nat):Int) then A else if SsT r1.2 r0.2 j.2.2.1.2.2 j.2.2.2.2.toNat=j.2 then B else A:=by
 rw [rbegun_ok _ h v0 v1,bd_val,rslLeft_ok v1 v0 _ (Nat.zero_le _),bd_val,br_lt,br_gt,Nat.sub_zero]
 by_cases h1:j.2.2.2.2<0
 ·rw [if_pos h1,if_pos (.inl h1)]
 rw [if_neg h1]
 by_cases h2:j.2.2.2.2>((r1.2.length+r0.2.length:Nat):Int)
 ·rw [if_pos h2,if_pos (.inr h2)]
 rw [if_neg h2,if_neg (show ¬ (j.2.2.2.2<0∨j.2.2.2.2>((r1.2.length+r0.2.length:Nat):Int)) by omega)]
 obtain ⟨k,hk⟩ : ∃ k:Nat,j.2.2.2.2=(k:Int):=⟨j.2.2.2.2.toNat,by omega⟩
 rw [hk,rslStep_ok v1 v0 _ (Nat.zero_le _),bd_val,Nat.sub_zero,Nat.zero_add,Nat.min_eq_left (by omega),Int.toNat_natCast]
 obtain ⟨s1,s2,s3,s4,s5,s6⟩:=SsT_small v1 v0 j.2.2.1.2.2 (n:=k) (by omega)
 rw [refSame_ok _ _ s1 s2 s3 s4 s5 s6,bd_val,bnot_eq,br_dec]
 by_cases he:SsT r1.2 r0.2 j.2.2.1.2.2 k=j.2
 ·rw [if_neg (by simp [he]),if_pos he]
 ·rw [if_pos he,if_neg he]
end Go.Proofs.YthpkjfabdccpdaaGreat.Pl
namespace Go.Proofs.YthpkjfabdccpdaaGreat.Pl
open Go Go.Proofs.YthpkjfabdccpdaaGreat.Sv
theorem rjbCheck_ok (s:JbState) (hb:s.1.2.length≤1048576) (hr : ∀ rs∈s.1.2,rs.length≤1048576 ∧ ∀ r∈rs,r.2.length≤1048576) (hj:s.2.1.length≤1048576):g_ref16_Check s=some (jbCheck s):=by
 unfold g_ref16_Check jbCheck
 simp only [nti_eq,llen_eq]
 rw [rlv_ok _ hb hr,bd_val,br_eq]
 by_cases h0:(lvCheck s.1).2.2=0
 rotate_left
 ·rw [if_neg h0,if_pos h0,br_eq,if_neg h0,br_ne,if_neg h0]
 rw [if_pos h0,if_neg (show ¬ (lvCheck s.1).2.2≠0 by simp [h0]),br_lt,br_gt]
 have v:=lvCheck_iff.1 h0
 by_cases h1:s.2.2<1
 ·rw [if_pos h1,if_pos (.inl h1)]
 rw [if_neg h1]
 by_cases h2:s.2.2>1000001
 ·rw [if_pos h2,if_pos (.inr h2)]
 rw [if_neg h2,if_neg (show ¬ (s.2.2<1∨s.2.2>1000001) by omega),br_eq,if_pos h0,rgreatest_ok v,bd_val,br_le]
 by_cases h3:s.2.2≤greatestL s.1.2
 ·rw [if_pos h3,if_pos h3]
 rw [if_neg h3,if_neg h3,br_ne,if_pos h0,rdue_ok (by have:=v.len;omega),bd_val]
 obtain ⟨due,hdue⟩ : ∃ due,due=dueGo 0 s.1.2:=⟨_,rfl⟩
 have hdl:due.length≤12:=by have:=dueGo_len s.1.2 0;have:=v.len;rw [hdue];omega
 rw [← hdue]
 obtain ⟨T,hT⟩ : ∃ T,T=jobsGo s.1 due 0 s.2.1:=⟨_,rfl⟩
 rw [← hT]
 obtain ⟨r,q1,q2⟩:=loop_q (l:=s.2.1) (σ:=Unit) (λi _=>((0:Int),((0:Int),(i:Int)))) (λjs i _=>jobsGo s.1 due i js=T) (λ(r:Nat×((Int×(Int×Int))×Unit))=>(T=none∧r.1=1)∨(∃ i:Nat,T=some i∧r.1=0∧r.2.1.1=6∧r.2.1.2.1=(i:Int)))
  (f:=λs6=>br (ilt s6.2.2 (s.2.1.length:Int)) (λ_=>nat s6.2.2 λk7=>ix s.2.1 k7 λx8=>br (ige s6.2.2 (due.length:Int)) (λ_=>some (.dn ((0,((6,(s6.2.2,s6.2.2)),()))))) λ_=>nat s6.2.2 λk9=>ix due k9 λx10=>br (ine x8.1 x10) (λ_=>some (.dn ((0,((6,(s6.2.2,s6.2.2)),()))))) λ_=>br x8.2.2.1.2.2 (λ_=>bd (g_ref16_lowest (s.1,x8.1)) λr11=>br (bnot r11) (λ_=>some (.dn ((0,((6,(s6.2.2,s6.2.2)),()))))) λ_=>bd (g_ref16_begun ((s.1,(x8.1,x8.2.2.1.2.2)))) λr12=>bd (g_ref13_Left r12.2) λr13=>br (ilt x8.2.2.2.2 0) (λ_=>some (.dn ((0,((6,(s6.2.2,s6.2.2)),()))))) λ_=>br (igt x8.2.2.2.2 r13.1) (λ_=>some (.dn ((0,((6,(s6.2.2,s6.2.2)),()))))) λ_=>bd (g_ref13_Step (r12.2,x8.2.2.2.2)) λr14=>bd (g_ref13_Same (r14.1,x8.2)) λr15=>br (bnot r15) (λ_=>some (.dn ((0,((6,(s6.2.2,s6.2.2)),()))))) λ_=>some (.nx ((s6.1,(s6.2.1,iadd .i64 s6.2.2 1))))) λ_=>bd (g_ref16_begun ((s.1,(x8.1,x8.2.2.1.2.2)))) λr16=>bd (g_ref13_Left r16.2) λr17=>br (ilt x8.2.2.2.2 0) (λ_=>some (.dn ((0,((6,(s6.2.2,s6.2.2)),()))))) λ_=>br (igt x8.2.2.2.2 r17.1) (λ_=>some (.dn ((0,((6,(s6.2.2,s6.2.2)),()))))) λ_=>bd (g_ref13_Step (r16.2,x8.2.2.2.2)) λr18=>bd (g_ref13_Same (r18.1,x8.2)) λr19=>br (bnot r19) (λ_=>some (.dn ((0,((6,(s6.2.2,s6.2.2)),()))))) λ_=>some (.nx ((s6.1,(s6.2.1,iadd .i64 s6.2.2 1))))) λ_=>some (.dn ((1,(s6,())))))
  (s:=(0,(0,0))) () rfl (by omega) hT.symm (λ_ h=>by
   refine ⟨_,by simp only;rw [re];rfl,.inl ⟨by rw [← h];rfl,rfl⟩⟩) (λi j js _ hd hx hi h=>by
   simp only
   rw [rl hi,br_true,nat_cast,ix_val hx,br_ge]
   unfold jobsGo at h
   have hbad:jobE s.1 due i j=true → ∃ r:Nat×((Int×(Int×Int))×Unit),(some (LR.dn ((0,((6,((i:Int),(i:Int))),()))):LR (Int×(Int×Int)) _))=some (.dn r)∧((T=none∧r.1=1)∨(∃ i:Nat,T=some i∧r.1=0∧r.2.1.1=6∧r.2.1.2.1=(i:Int))):=λhb=>by
    rw [if_pos hb] at h
    exact ⟨_,rfl,.inr ⟨i,h.symm,rfl,rfl,rfl⟩⟩
   have hgood:jobE s.1 due i j=false → ∃ st':Unit,(some (LR.nx ((0:Int),((0:Int),iadd .i64 (i:Int) 1))):Option (LR _ (Nat×((Int×(Int×Int))×Unit))))=some (.nx ((0:Int),((0:Int),((i+1:Nat):Int))))∧jobsGo s.1 due (i+1) js=T:=λhg=>by
    rw [if_neg (by simp [hg])] at h
    exact ⟨(),by rw [iadd_rng hx (by omega)],h⟩
   by_cases h1:(i:Int)≥(due.length:Int)
   ·rw [if_pos h1]
    exact .inr (hbad (by unfold jobE;rw [List.getElem?_eq_none (by omega)]))
   rw [if_neg h1,nat_cast]
   have hd2:due[i]? = some (due[i]'(by omega)):=by simp
   rw [ix_val hd2,br_ne]
   obtain ⟨n,hn,r0,r1,hlv⟩:=dueGo_get (ls:=s.1.2) (i:=0) (k:=i) (d:=due[i]'(by omega)) (by rw [← hdue];exact hd2)
   rw [Nat.zero_add] at hn
   have hE:jobE s.1 due i j=(if j.1≠(due[i]'(by omega)) then true else if j.2.2.1.2.2=true∧j.1≠(s.1.2.length:Int)-1 then true else if j.2.2.2.2<0∨j.2.2.2.2>((r1.2.length+r0.2.length:Nat):Int) then true else decide (SsT r1.2 r0.2 j.2.2.1.2.2 j.2.2.2.2.toNat≠j.2)):=by
    unfold jobE
    rw [hd2]
    simp only
    rw [hn,Int.toNat_natCast,hlv]
   by_cases h2:j.1=(due[i]'(by omega))
   rotate_left
   ·rw [if_neg h2]
    exact .inr (hbad (by rw [hE,if_pos h2]))
   rw [if_pos h2]
   rw [if_neg (by simp [h2])] at hE
   have hjn:j.1=(n:Int):=by rw [h2,hn]
   have hv:=(v.lev n _ hlv).2
   have v0:=(hv r0 (by simp)).vl
   have v1:=(hv r1 (by simp)).vl
   have hnl:=(List.getElem?_eq_some_iff.1 hlv).1
   rw [hjn,rlowest_ok v hnl,bd_val,bnot_eq,br_dec,rjob_ok hlv v0 v1,br_b]
   rw [hjn] at hE
   by_cases h3:j.2.2.1.2.2=true∧(n:Int)≠(s.1.2.length:Int)-1
   ·rw [if_pos h3.1,if_pos h3.2]
    exact .inr (hbad (by rw [hE,if_pos h3]))
   rw [if_neg h3] at hE
   have h4 : ∀ {γ:Type} (A B:γ),(if j.2.2.1.2.2=true then if ¬(n:Int)=(s.1.2.length:Int)-1 then A else B else B)=B:=by
    intro γ A B
    by_cases h5:j.2.2.1.2.2=true
    ·rw [if_pos h5,if_neg (λh6=>h3 ⟨h5,h6⟩)]
    ·rw [if_neg h5]
   rw [h4]
   by_cases h5:j.2.2.2.2<0∨j.2.2.2.2>((r1.2.length+r0.2.length:Nat):Int)
   ·rw [if_pos h5]
    exact .inr (hbad (by rw [hE,if_pos h5]))
   rw [if_neg h5]
   rw [if_neg h5] at hE
   by_cases h6:SsT r1.2 r0.2 j.2.2.1.2.2 j.2.2.2.2.toNat=j.2
   ·rw [if_pos h6]
    exact .inl (hgood (by rw [hE];simp [h6]))
   ·rw [if_neg h6]
    exact .inr (hbad (by rw [hE];simp [h6])))
 refine bd_eq q1 ?_
 rw [br_neq]
 rcases q2 with ⟨q2,q3⟩ | ⟨i,q2,q3,q4,q5⟩
 ·rw [if_neg (show ¬ r.1=0 by omega),q2,br_lt]
  simp only
  by_cases h7:s.2.1.length<due.length
  ·rw [if_pos (by omega),if_pos h7]
  ·rw [if_neg (by omega),if_neg h7]
 ·rw [if_pos q3,q2,q4,q5]
end Go.Proofs.YthpkjfabdccpdaaGreat.Pl
