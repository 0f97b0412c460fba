/- Functions of the program and of the specification as plain functions, and laws about them. No condition. -/
import Derived.Test.YthpkjfabdccpdaaGreatPs3
set_option linter.all false
namespace Go.Proofs.YthpkjfabdccpdaaGreat.Pl
open Go Go.Proofs.YthpkjfabdccpdaaGreat.Sv
set_option linter.all false
abbrev Entry:=((List UInt8)×((List UInt8)×(Bool×Int)))
abbrev Run:=(Int×(List Entry))
abbrev Levels:=(Int×(List (List Run)))
abbrev LsKey:=((List UInt8)×Bool)
abbrev LsTree:=((List LsKey)×((List Int)×Int))
abbrev MgState:=((List (List Entry))×((List Int)×LsTree))
abbrev ShState:=(Bool×((List UInt8)×Bool))
abbrev SlState:=(MgState×(ShState×((List Entry)×Int)))
abbrev Job:=(Int×SlState)
abbrev JbState:=(Levels×((List Job)×Int))
def g_keys_Check (x:(List UInt8)):Option Int :=
 br (igt (nti (slen x)) 32) (λ_=>some 3) λ_=>some 0
def g_entries_Check (x:Entry):Option Int :=
 bd (g_keys_Check x.1) λr0=>br (ine r0 0) (λ_=>some 3) λ_=>br (igt (nti (slen x.2.1)) 64) (λ_=>some 3) λ_=>br x.2.2.1 (λ_=>br (bnot (seq x.2.1 [])) (λ_=>some 6) λ_=>br (ilt x.2.2.2 1) (λ_=>some 7) λ_=>br (igt x.2.2.2 1000000000) (λ_=>some 7) λ_=>some 0) λ_=>br (ilt x.2.2.2 1) (λ_=>some 7) λ_=>br (igt x.2.2.2 1000000000) (λ_=>some 7) λ_=>some 0
def g_entries_CheckList (x:(List Entry)):Option (Int×Int) :=
 br (igt (nti (llen x)) 5000) (λ_=>some (((-1),3))) λ_=>bd (loop (λs0=>br (ilt s0.2.2 (nti (llen x))) (λ_=>nat s0.2.2 λk1=>ix x k1 λx2=>bd (g_entries_Check x2) λr3=>br (ine r3 0) (λ_=>some (.dn ((0,((r3,(s0.2.2,s0.2.2)),()))))) λ_=>br (igt s0.2.2 0) (λ_=>nat (isub .i64 s0.2.2 1) λk4=>ix x k4 λx5=>br (bnot (slt x5.1 x2.1)) (λ_=>some (.dn ((0,((6,(s0.2.2,s0.2.2)),()))))) λ_=>some (.nx ((s0.1,(s0.2.1,iadd .i64 s0.2.2 1))))) λ_=>some (.nx ((s0.1,(s0.2.1,iadd .i64 s0.2.2 1))))) λ_=>some (.dn ((1,(s0,()))))) ((0,(0,0)))) λr6=>br (neq r6.1 0) (λ_=>some (r6.2.1.2.1,r6.2.1.1)) λ_=>some (0,0)
def g_runs_Check (x:Run):Option (Int×Int) :=
 br (ilt x.1 1) (λ_=>some (((-1),7))) λ_=>br (igt x.1 1000000) (λ_=>some (((-1),7))) λ_=>bd (g_entries_CheckList x.2) λr0=>some r0
def g_levels_fits (x:(Run×Int)):Option Int :=
 bd (g_runs_Check x.1) λr0=>br (ine r0.2 0) (λ_=>some r0.2) λ_=>br (ieq (nti (llen x.1.2)) 0) (λ_=>some 4) λ_=>br (igt (nti (llen x.1.2)) x.2) (λ_=>some 3) λ_=>some 0
def g_levels_Check (x:Levels):Option (Int×(Int×Int)) :=
 br (ilt x.1 1) (λ_=>some ((0,(0,7)))) λ_=>br (igt x.1 16) (λ_=>some ((0,(0,7)))) λ_=>br (igt (nti (llen x.2)) 12) (λ_=>some ((0,(0,3)))) λ_=>bd (loop (λs0=>br (ilt s0.2.2.2.1 (nti (llen x.2))) (λ_=>nat s0.2.2.2.1 λk1=>ix x.2 k1 λx2=>br (igt (nti (llen x2)) 2) (λ_=>some (.dn ((0,((0,(s0.2.2.2.1,(3,s0.2.2.2))),()))))) λ_=>bd (loop (λs3=>br (ilt s3.2.1 (nti (llen x2))) (λ_=>nat s3.2.1 λk4=>ix x2 k4 λx5=>gd (ige s0.2.2.2.1 0) λ_=>bd (g_levels_fits (x5,ishl .i64 x.1 s0.2.2.2.1)) λr6=>br (ieq r6 0) (λ_=>br (oget (mget ((λa7=>(λa8=>ieq a7 a8))) s3.2.2.2 x5.1) false) (λ_=>some (.dn ((0,((s3.2.1,(s3.2.1,(8,s3.2.2.2))),()))))) λ_=>br (ine r6 0) (λ_=>some (.dn ((0,((s3.2.1,(s3.2.1,(r6,s3.2.2.2))),()))))) λ_=>some (.nx ((s3.2.1,(iadd .i64 s3.2.1 1,(r6,mput ((λa9=>(λa10=>ieq a9 a10))) s3.2.2.2 x5.1 true)))))) λ_=>br (ine r6 0) (λ_=>some (.dn ((0,((s3.2.1,(s3.2.1,(r6,s3.2.2.2))),()))))) λ_=>some (.nx ((s3.2.1,(iadd .i64 s3.2.1 1,(r6,mput ((λa11=>(λa12=>ieq a11 a12))) s3.2.2.2 x5.1 true)))))) λ_=>some (.dn ((1,(s3,()))))) ((0,(0,(s0.2.2.1,s0.2.2.2.2))))) λr13=>br (neq r13.1 0) (λ_=>some (.dn ((0,((r13.2.1.1,(s0.2.2.2.1,(r13.2.1.2.2.1,(s0.2.2.2.1,r13.2.1.2.2.2)))),()))))) λ_=>some (.nx ((r13.2.1.1,(s0.2.2.2.1,(r13.2.1.2.2.1,(iadd .i64 s0.2.2.2.1 1,r13.2.1.2.2.2))))))) λ_=>some (.dn ((0,(s0,()))))) ((0,(0,(0,(0,[])))))) λr14=>br (ine r14.2.1.2.2.1 0) (λ_=>some ((r14.2.1.2.1,(r14.2.1.1,r14.2.1.2.2.1)))) λ_=>br (igt (nti (llen x.2)) 0) (λ_=>nat (isub .i64 (nti (llen x.2)) 1) λk15=>ix x.2 k15 λx16=>br (ieq (nti (llen x16)) 0) (λ_=>some ((isub .i64 (nti (llen x.2)) 1,(0,6)))) λ_=>some ((0,(0,0)))) λ_=>some ((0,(0,0)))
def g_jobs_greatest (x:Levels):Option Int :=
 bd (loop (λs0=>br (ilt s0.2 (nti (llen x.2))) (λ_=>nat s0.2 λk1=>ix x.2 k1 λx2=>bd (loop (λs3=>br (ilt s3.1 (nti (llen x2))) (λ_=>nat s3.1 λk4=>ix x2 k4 λx5=>some (.nx (iadd .i64 s3.1 1,imx s3.2 x5.1))) λ_=>some (.dn ((0,(s3,()))))) (0,s0.1)) λr6=>some (.nx (r6.2.1.2,iadd .i64 s0.2 1))) λ_=>some (.dn ((0,(s0,()))))) (0,0)) λr7=>some r7.2.1.1
def g_jobs_lowest (x:(Levels×Int)):Option Bool :=
 some (ieq x.2 (isub .i64 (nti (llen x.1.2)) 1))
def g_merge_check (x:(List (List Entry))):Option (Int×Int) :=
 br (ieq (nti (llen x)) 0) (λ_=>some (((-1),6))) λ_=>br (igt (nti (llen x)) 32) (λ_=>some (((-1),3))) λ_=>bd (loop (λs0=>br (ilt s0.2.2 (nti (llen x))) (λ_=>nat s0.2.2 λk1=>ix x k1 λx2=>bd (g_entries_CheckList x2) λr3=>br (ine r3.2 0) (λ_=>some (.dn ((0,((r3.2,(s0.2.2,s0.2.2)),()))))) λ_=>some (.nx ((s0.1,(s0.2.1,iadd .i64 s0.2.2 1))))) λ_=>some (.dn ((1,(s0,()))))) ((0,(0,0)))) λr4=>br (neq r4.1 0) (λ_=>some (r4.2.1.2.1,r4.2.1.1)) λ_=>some (0,0)
def g_shadow_Begin (x:Bool):Option (Bool×LsKey) :=
 some ((false,([],x)))
def g_slices_Clone_Entry_Entry (x:(List (List Entry))):Option (List (List Entry)) :=
 gd (nle (llen x) 1048576) λ_=>some x
def g_merge_next (x:((List Entry)×Int)):Option LsKey :=
 br (ieq x.2 (nti (llen x.1))) (λ_=>some ([],true)) λ_=>nat x.2 λk0=>ix x.1 k0 λx1=>some (x1.1,false)
def g_loser_check_1 (x:LsKey):Option Bool :=
 br x.2 (λ_=>some (bnot (seq x.1 []))) λ_=>some false
def g_loser_check (x:(List LsKey)):Option Int :=
 br (ieq (nti (llen x)) 0) (λ_=>some 6) λ_=>br (igt (nti (llen x)) 32) (λ_=>some 3) λ_=>bd (loop (λs0=>br (ilt s0.2 (nti (llen x))) (λ_=>nat s0.2 λk1=>ix x k1 λx2=>bd (g_loser_check_1 x2) λr3=>br r3 (λ_=>some (.dn ((0,((s0.2,s0.2),()))))) λ_=>some (.nx (s0.1,iadd .i64 s0.2 1))) λ_=>some (.dn ((1,(s0,()))))) (0,0)) λr4=>br (neq r4.1 0) (λ_=>br (ige r4.2.1.1 0) (λ_=>some 2) λ_=>some 0) λ_=>br (ige (-1) 0) (λ_=>some 2) λ_=>some 0
def g_slices_Clone_LsKey_LsKey (x:(List LsKey)):Option (List LsKey) :=
 gd (nle (llen x) 1048576) λ_=>some x
def g_loser_play (x:(List LsKey)):Option LsTree :=
 nat (imul .i64 2 (nti (llen x))) λk0=>nat (imul .i64 2 (nti (llen x))) λk1=>gd (nle k1 1048576) λ_=>bd (g_slices_Clone_LsKey_LsKey x) λr2=>nat (nti (llen x)) λk3=>nat (nti (llen x)) λk4=>gd (nle k4 1048576) λ_=>bd (loop (λs5=>br (igt s5.1 0) (λ_=>br (ige s5.1 (nti (llen x))) (λ_=>nat s5.1 λk6=>gd (nlt k6 (llen s5.2.1)) λ_=>ix s5.2.1 k6 λx7=>some (.nx ((isub .i64 s5.1 1,(lset s5.2.1 k6 (isub .i64 s5.1 (nti (llen x))),s5.2.2))))) λ_=>nat (imul .i64 2 s5.1) λk8=>gd (nlt k8 (llen s5.2.1)) λ_=>ix s5.2.1 k8 λx9=>nat (iadd .i64 (imul .i64 2 s5.1) 1) λk10=>gd (nlt k10 (llen s5.2.1)) λ_=>ix s5.2.1 k10 λx11=>nat x9 λk12=>ix x k12 λx13=>nat x11 λk14=>ix x k14 λx15=>br (bnot (beq x13.2 x15.2)) (λ_=>br (bnot x15.2) (λ_=>nat s5.1 λk16=>gd (nlt k16 (llen s5.2.1)) λ_=>ix s5.2.1 k16 λx17=>nat s5.1 λk18=>gd (nlt k18 (llen s5.2.2.2.1)) λ_=>ix s5.2.2.2.1 k18 λx19=>some (.nx ((isub .i64 s5.1 1,(lset s5.2.1 k16 x11,(s5.2.2.1,(lset s5.2.2.2.1 k18 x9,s5.2.2.2.2))))))) λ_=>nat s5.1 λk20=>gd (nlt k20 (llen s5.2.1)) λ_=>ix s5.2.1 k20 λx21=>nat s5.1 λk22=>gd (nlt k22 (llen s5.2.2.2.1)) λ_=>ix s5.2.2.2.1 k22 λx23=>some (.nx ((isub .i64 s5.1 1,(lset s5.2.1 k20 x9,(s5.2.2.1,(lset s5.2.2.2.1 k22 x11,s5.2.2.2.2))))))) λ_=>br (bnot (seq x13.1 x15.1)) (λ_=>br (bnot (slt x13.1 x15.1)) (λ_=>nat s5.1 λk24=>gd (nlt k24 (llen s5.2.1)) λ_=>ix s5.2.1 k24 λx25=>nat s5.1 λk26=>gd (nlt k26 (llen s5.2.2.2.1)) λ_=>ix s5.2.2.2.1 k26 λx27=>some (.nx ((isub .i64 s5.1 1,(lset s5.2.1 k24 x11,(s5.2.2.1,(lset s5.2.2.2.1 k26 x9,s5.2.2.2.2))))))) λ_=>nat s5.1 λk28=>gd (nlt k28 (llen s5.2.1)) λ_=>ix s5.2.1 k28 λx29=>nat s5.1 λk30=>gd (nlt k30 (llen s5.2.2.2.1)) λ_=>ix s5.2.2.2.1 k30 λx31=>some (.nx ((isub .i64 s5.1 1,(lset s5.2.1 k28 x9,(s5.2.2.1,(lset s5.2.2.2.1 k30 x11,s5.2.2.2.2))))))) λ_=>br (bnot (ilt x9 x11)) (λ_=>nat s5.1 λk32=>gd (nlt k32 (llen s5.2.1)) λ_=>ix s5.2.1 k32 λx33=>nat s5.1 λk34=>gd (nlt k34 (llen s5.2.2.2.1)) λ_=>ix s5.2.2.2.1 k34 λx35=>some (.nx ((isub .i64 s5.1 1,(lset s5.2.1 k32 x11,(s5.2.2.1,(lset s5.2.2.2.1 k34 x9,s5.2.2.2.2))))))) λ_=>nat s5.1 λk36=>gd (nlt k36 (llen s5.2.1)) λ_=>ix s5.2.1 k36 λx37=>nat s5.1 λk38=>gd (nlt k38 (llen s5.2.2.2.1)) λ_=>ix s5.2.2.2.1 k38 λx39=>some (.nx ((isub .i64 s5.1 1,(lset s5.2.1 k36 x9,(s5.2.2.1,(lset s5.2.2.2.1 k38 x11,s5.2.2.2.2))))))) λ_=>some (.dn ((0,(s5,()))))) ((isub .i64 (imul .i64 2 (nti (llen x))) 1,(lrep k1 0,(r2,(lrep k4 0,(0:Int))))))) λr40=>gd (nlt 1 (llen r40.2.1.2.1)) λ_=>ix r40.2.1.2.1 1 λx41=>some ((r40.2.1.2.2.1,(r40.2.1.2.2.2.1,x41)))
def g_loser_Build (x:(List LsKey)):Option (LsTree×Int) :=
 bd (g_loser_check x) λr0=>br (ine r0 0) (λ_=>some ((([],([],0)),r0))) λ_=>bd (g_loser_play x) λr1=>some (r1,0)
def g_slices_Begin (x:((List (List Entry))×Bool)):Option ((MgState×((Bool×LsKey)×((List Entry)×Int)))×(Int×Int)) :=
 bd (g_merge_check x.1) λr0=>br (ine r0.2 0) (λ_=>br (ine r0.2 0) (λ_=>some (((([],([],([],([],0)))),((false,([],false)),([],0))),r0))) λ_=>bd (g_shadow_Begin x.2) λr1=>some (((([],([],([],([],0)))),(r1,([],0))),(0,0)))) λ_=>nat (nti (llen x.1)) λk2=>nat (nti (llen x.1)) λk3=>gd (nle k3 1048576) λ_=>bd (g_slices_Clone_Entry_Entry x.1) λr4=>nat (nti (llen x.1)) λk5=>nat (nti (llen x.1)) λk6=>gd (nle k6 1048576) λ_=>bd (loop (λs7=>br (ilt s7.1 (nti (llen x.1))) (λ_=>nat s7.1 λk8=>ix x.1 k8 λx9=>nat s7.1 λk10=>gd (nlt k10 (llen (lrep k3 (0:Int)))) λ_=>ix (lrep k3 0) k10 λx11=>bd (g_merge_next (x9,x11)) λr12=>nat s7.1 λk13=>gd (nlt k13 (llen s7.2)) λ_=>ix s7.2 k13 λx14=>some (.nx (iadd .i64 s7.1 1,lset s7.2 k13 r12))) λ_=>some (.dn ((0,(s7,()))))) ((0,lrep k6 ([],false)))) λr15=>bd (g_loser_Build r15.2.1.2) λr16=>bd (g_shadow_Begin x.2) λr17=>some ((((r4,(lrep k3 0,r16.1)),(r17,([],0))),(0,0)))
def g_jobs_begun (x:(Levels×(Int×Bool))):Option (Int×(MgState×((Bool×LsKey)×((List Entry)×Int)))) :=
 nat x.2.1 λk0=>ix x.1.2 k0 λx1=>ix x1 1 λx2=>ix x1 0 λx3=>bd (g_slices_Begin ([x2.2,x3.2],x.2.2)) λr4=>some (x.2.1,r4.1)
def g_merge_tree (x:((List (List Entry))×(List Int))):Option LsTree :=
 nat (nti (llen x.1)) λk0=>nat (nti (llen x.1)) λk1=>gd (nle k1 1048576) λ_=>bd (loop (λs2=>br (ilt s2.1 (nti (llen x.1))) (λ_=>nat s2.1 λk3=>ix x.1 k3 λx4=>nat s2.1 λk5=>ix x.2 k5 λx6=>bd (g_merge_next (x4,x6)) λr7=>nat s2.1 λk8=>gd (nlt k8 (llen s2.2)) λ_=>ix s2.2 k8 λx9=>some (.nx (iadd .i64 s2.1 1,lset s2.2 k8 r7))) λ_=>some (.dn ((0,(s2,()))))) ((0,lrep k1 ([],false)))) λr10=>bd (g_loser_Build r10.2.1.2) λr11=>some r11.1
def g_slices_Equal_LsKey_LsKey (x:((List LsKey)×(List LsKey))):Option Bool :=
 br (ine (nti (llen x.1)) (nti (llen x.2))) (λ_=>some false) λ_=>bd (loop (λs0=>br (ilt s0.1 (nti (llen x.1))) (λ_=>nat s0.1 λk1=>ix x.1 k1 λx2=>nat s0.1 λk3=>ix x.2 k3 λx4=>br (bnot (band (seq x2.1 x4.1) (band (beq x2.2 x4.2) true))) (λ_=>some (.dn ((0,((s0.1,false),()))))) λ_=>some (.nx (iadd .i64 s0.1 1,s0.2))) λ_=>some (.dn ((1,(s0,()))))) (0,false)) λr5=>br (neq r5.1 0) (λ_=>some r5.2.1.2) λ_=>some true
def g_slices_Equal_int_int (x:((List Int)×(List Int))):Option Bool :=
 br (ine (nti (llen x.1)) (nti (llen x.2))) (λ_=>some false) λ_=>bd (loop (λs0=>br (ilt s0.1 (nti (llen x.1))) (λ_=>nat s0.1 λk1=>ix x.1 k1 λx2=>nat s0.1 λk3=>ix x.2 k3 λx4=>br (ine x2 x4) (λ_=>some (.dn ((0,((s0.1,false),()))))) λ_=>some (.nx (iadd .i64 s0.1 1,s0.2))) λ_=>some (.dn ((1,(s0,()))))) (0,false)) λr5=>br (neq r5.1 0) (λ_=>some r5.2.1.2) λ_=>some true
def g_merge_alike (x:(LsTree×LsTree)):Option Bool :=
 br (ieq x.1.2.2 x.2.2.2) (λ_=>bd (g_slices_Equal_LsKey_LsKey (x.1.1,x.2.1)) λr0=>br r0 (λ_=>bd (g_slices_Equal_int_int (x.1.2.1,x.2.2.1)) λr1=>some r1) λ_=>some false) λ_=>some false
def g_loser_Check (x:LsTree):Option (Int×Int) :=
 bd (g_loser_check x.1) λr0=>br (ine r0 0) (λ_=>some (0,r0)) λ_=>br (ine (nti (llen x.2.1)) (nti (llen x.1))) (λ_=>some (0,6)) λ_=>bd (g_loser_play x.1) λr1=>bd (loop (λs2=>br (ilt s2.2.1 (nti (llen r1.2.1))) (λ_=>nat s2.2.1 λk3=>ix r1.2.1 k3 λx4=>nat s2.2.1 λk5=>ix x.2.1 k5 λx6=>br (ine x6 x4) (λ_=>some (.dn ((0,((6,(s2.2.1,s2.2.1)),()))))) λ_=>some (.nx ((s2.1,(iadd .i64 s2.2.1 1,s2.2.2))))) λ_=>some (.dn ((1,(s2,()))))) ((0,(0,0)))) λr7=>br (neq r7.1 0) (λ_=>some (r7.2.1.2.2,r7.2.1.1)) λ_=>br (ine x.2.2 r1.2.2) (λ_=>some (0,6)) λ_=>some (0,0)
def g_loser_open (x:LsTree):Option Int :=
 bd (g_loser_Check x) λr0=>br (ine r0.2 0) (λ_=>some r0.2) λ_=>nat x.2.2 λk1=>ix x.1 k1 λx2=>br x2.2 (λ_=>some 12) λ_=>some 0
def g_loser_Winner (x:LsTree):Option (Int×((List UInt8)×Int)) :=
 bd (g_loser_open x) λr0=>br (ine r0 0) (λ_=>some ((0,([],r0)))) λ_=>nat x.2.2 λk1=>ix x.1 k1 λx2=>some ((x.2.2,(x2.1,0)))
def g_cmp_isNaN_string (x:(List UInt8)):Option Bool :=
 some (bnot (seq x x))
def g_cmp_Compare_string (x:((List UInt8)×(List UInt8))):Option Int :=
 bd (g_cmp_isNaN_string x.1) λr0=>bd (g_cmp_isNaN_string x.2) λr1=>br r0 (λ_=>br r1 (λ_=>some 0) λ_=>some (-1)) λ_=>br r1 (λ_=>some 1) λ_=>br (slt x.1 x.2) (λ_=>some (-1)) λ_=>br (slt x.2 x.1) (λ_=>some 1) λ_=>some 0
def g_cmp_isNaN_int (x:Int):Option Bool :=
 some (ine x x)
def g_cmp_Compare_int (x:(Int×Int)):Option Int :=
 bd (g_cmp_isNaN_int x.1) λr0=>bd (g_cmp_isNaN_int x.2) λr1=>br r0 (λ_=>br r1 (λ_=>some 0) λ_=>some (-1)) λ_=>br r1 (λ_=>some 1) λ_=>br (ilt x.1 x.2) (λ_=>some (-1)) λ_=>br (igt x.1 x.2) (λ_=>some 1) λ_=>some 0
def g_cmp_Or_int (x:(List Int)):Option Int :=
 bd (loop (λs0=>br (ilt s0.2 (nti (llen x))) (λ_=>nat s0.2 λk1=>ix x k1 λx2=>br (ine x2 0) (λ_=>some (.dn ((0,((x2,s0.2),()))))) λ_=>some (.nx (s0.1,iadd .i64 s0.2 1))) λ_=>some (.dn ((1,(s0,()))))) (0,0)) λr3=>br (neq r3.1 0) (λ_=>some r3.2.1.1) λ_=>some 0
def g_merge_Check (x:MgState):Option (Int×Int) :=
 bd (g_merge_check x.1) λr0=>br (ine r0.2 0) (λ_=>some r0) λ_=>br (ine (nti (llen x.2.1)) (nti (llen x.1))) (λ_=>some (((-1),6))) λ_=>bd (loop (λs1=>br (ilt s1.2.2 (nti (llen x.2.1))) (λ_=>nat s1.2.2 λk2=>ix x.2.1 k2 λx3=>br (ilt x3 0) (λ_=>some (.dn ((0,((6,(s1.2.2,s1.2.2)),()))))) λ_=>nat s1.2.2 λk4=>ix x.1 k4 λx5=>br (igt x3 (nti (llen x5))) (λ_=>some (.dn ((0,((6,(s1.2.2,s1.2.2)),()))))) λ_=>some (.nx ((s1.1,(s1.2.1,iadd .i64 s1.2.2 1))))) λ_=>some (.dn ((1,(s1,()))))) ((0,(0,0)))) λr6=>br (neq r6.1 0) (λ_=>some (r6.2.1.2.1,r6.2.1.1)) λ_=>bd (g_merge_tree (x.1,x.2.1)) λr7=>bd (g_merge_alike (x.2.2,r7)) λr8=>br (bnot r8) (λ_=>some (((-1),6))) λ_=>bd (g_loser_Winner x.2.2) λr9=>br (ine r9.2.2 0) (λ_=>some (0,0)) λ_=>bd (loop (λs10=>br (ilt s10.2.2 (nti (llen x.2.1))) (λ_=>nat s10.2.2 λk11=>ix x.2.1 k11 λx12=>br (igt x12 0) (λ_=>nat s10.2.2 λk13=>ix x.1 k13 λx14=>nat (isub .i64 x12 1) λk15=>ix x14 k15 λx16=>bd (g_cmp_Compare_string (x16.1,r9.2.1)) λr17=>bd (g_cmp_Compare_int (s10.2.2,r9.1)) λr18=>bd (g_cmp_Or_int ([r17,r18])) λr19=>br (igt r19 0) (λ_=>some (.dn ((0,((6,(r9.1,s10.2.2)),()))))) λ_=>some (.nx ((s10.1,(s10.2.1,iadd .i64 s10.2.2 1))))) λ_=>some (.nx ((s10.1,(s10.2.1,iadd .i64 s10.2.2 1))))) λ_=>some (.dn ((1,(s10,()))))) ((r9.2.2,(r6.2.1.2.1,0)))) λr20=>br (neq r20.1 0) (λ_=>some (r20.2.1.2.1,r20.2.1.1)) λ_=>some (0,0)
def g_slices_Clone_int_int (x:(List Int)):Option (List Int) :=
 gd (nle (llen x) 1048576) λ_=>some x
def g_loser_judge_1 (x:(Int×(Int×((List LsKey)×Unit)))):Option Bool :=
 nat x.1 λk0=>ix x.2.2.1 k0 λx1=>nat x.2.1 λk2=>ix x.2.2.1 k2 λx3=>br (bnot (beq x1.2 x3.2)) (λ_=>some x3.2) λ_=>br (bnot (seq x1.1 x3.1)) (λ_=>some (slt x1.1 x3.1)) λ_=>some (ilt x.1 x.2.1)
def g_loser_Replace (x:(LsTree×LsKey)):Option (LsTree×(Int×Int)) :=
 bd (g_loser_open x.1) λr0=>br (ine r0 0) (λ_=>some ((([],([],0)),(0,r0)))) λ_=>bd (g_loser_check [x.2]) λr1=>br (ine r1 0) (λ_=>some ((([],([],0)),(0,r1)))) λ_=>br (bnot x.2.2) (λ_=>nat x.1.2.2 λk2=>ix x.1.1 k2 λx3=>br (slt x.2.1 x3.1) (λ_=>some ((([],([],0)),(0,6)))) λ_=>bd (g_slices_Clone_LsKey_LsKey x.1.1) λr4=>bd (g_slices_Clone_int_int x.1.2.1) λr5=>nat x.1.2.2 λk6=>gd (nlt k6 (llen r4)) λ_=>ix r4 k6 λx7=>bd (loop (λs8=>br (ieq (iquo .i64 s8.2.1 2) 0) (λ_=>some (.dn ((0,((s8.1,(iquo .i64 s8.2.1 2,((),s8.2.2.2))),()))))) λ_=>nat (iquo .i64 s8.2.1 2) λk9=>gd (nlt k9 (llen s8.2.2.2.1)) λ_=>ix s8.2.2.2.1 k9 λx10=>bd (g_loser_judge_1 ((x10,(s8.2.2.2.2,(lset r4 k6 x.2,()))))) λr11=>br r11 (λ_=>nat (iquo .i64 s8.2.1 2) λk12=>gd (nlt k12 (llen s8.2.2.2.1)) λ_=>ix s8.2.2.2.1 k12 λx13=>nat (iquo .i64 s8.2.1 2) λk14=>gd (nlt k14 (llen s8.2.2.2.1)) λ_=>ix s8.2.2.2.1 k14 λx15=>some (.nx ((iadd .i64 s8.1 1,(iquo .i64 s8.2.1 2,((),(lset s8.2.2.2.1 k14 s8.2.2.2.2,x13))))))) λ_=>some (.nx ((iadd .i64 s8.1 1,(iquo .i64 s8.2.1 2,((),s8.2.2.2)))))) ((0,(iadd .i64 (nti (llen (lset r4 k6 x.2))) x.1.2.2,((),(r5,x.1.2.2)))))) λr16=>some (((lset r4 k6 x.2,r16.2.1.2.2.2),(r16.2.1.1,0)))) λ_=>bd (g_slices_Clone_LsKey_LsKey x.1.1) λr17=>bd (g_slices_Clone_int_int x.1.2.1) λr18=>nat x.1.2.2 λk19=>gd (nlt k19 (llen r17)) λ_=>ix r17 k19 λx20=>bd (loop (λs21=>br (ieq (iquo .i64 s21.2.1 2) 0) (λ_=>some (.dn ((0,((s21.1,(iquo .i64 s21.2.1 2,((),s21.2.2.2))),()))))) λ_=>nat (iquo .i64 s21.2.1 2) λk22=>gd (nlt k22 (llen s21.2.2.2.1)) λ_=>ix s21.2.2.2.1 k22 λx23=>bd (g_loser_judge_1 ((x23,(s21.2.2.2.2,(lset r17 k19 x.2,()))))) λr24=>br r24 (λ_=>nat (iquo .i64 s21.2.1 2) λk25=>gd (nlt k25 (llen s21.2.2.2.1)) λ_=>ix s21.2.2.2.1 k25 λx26=>nat (iquo .i64 s21.2.1 2) λk27=>gd (nlt k27 (llen s21.2.2.2.1)) λ_=>ix s21.2.2.2.1 k27 λx28=>some (.nx ((iadd .i64 s21.1 1,(iquo .i64 s21.2.1 2,((),(lset s21.2.2.2.1 k27 s21.2.2.2.2,x26))))))) λ_=>some (.nx ((iadd .i64 s21.1 1,(iquo .i64 s21.2.1 2,((),s21.2.2.2)))))) ((0,(iadd .i64 (nti (llen (lset r17 k19 x.2))) x.1.2.2,((),(r18,x.1.2.2)))))) λr29=>some (((lset r17 k19 x.2,r29.2.1.2.2.2),(r29.2.1.1,0)))
def g_merge_All (x:(List (List Entry))):Option ((List Entry)×((List Int)×Int)) :=
 bd (g_merge_check x) λr0=>br (ine r0.2 0) (λ_=>br (ine r0.2 0) (λ_=>some (([],([],r0.2)))) λ_=>bd (loop (λs1=>bd (g_loser_Winner (([],([],0)))) λr2=>br (ine r2.2.2 0) (λ_=>br (ine r2.2.2 0) (λ_=>some (.dn ((0,(s1,()))))) λ_=>gd (nle (nadd (llen s1.1) (llen ([(([],([],(false,0))):Entry)]))) 1048576) λ_=>gd (nle (nadd (llen s1.2) (llen [0])) 1048576) λ_=>none) λ_=>nat r2.1 λk3=>none) ([],[])) λr4=>some ((r4.2.1.1,(r4.2.1.2,0)))) λ_=>nat (nti (llen x)) λk5=>nat (nti (llen x)) λk6=>gd (nle k6 1048576) λ_=>bd (g_slices_Clone_Entry_Entry x) λr7=>nat (nti (llen x)) λk8=>nat (nti (llen x)) λk9=>gd (nle k9 1048576) λ_=>bd (loop (λs10=>br (ilt s10.1 (nti (llen x))) (λ_=>nat s10.1 λk11=>ix x k11 λx12=>nat s10.1 λk13=>gd (nlt k13 (llen (lrep k6 (0:Int)))) λ_=>ix (lrep k6 0) k13 λx14=>bd (g_merge_next (x12,x14)) λr15=>nat s10.1 λk16=>gd (nlt k16 (llen s10.2)) λ_=>ix s10.2 k16 λx17=>some (.nx (iadd .i64 s10.1 1,lset s10.2 k16 r15))) λ_=>some (.dn ((0,(s10,()))))) ((0,lrep k9 ([],false)))) λr18=>bd (g_loser_Build r18.2.1.2) λr19=>bd (loop (λs20=>bd (g_loser_Winner s20.2.2.2.2) λr21=>br (ine r21.2.2 0) (λ_=>br (ine r21.2.2 0) (λ_=>some (.dn ((0,((s20.1,(s20.2.1,((),s20.2.2.2))),()))))) λ_=>gd (nle (nadd (llen s20.1) (llen ([(([],([],(false,0))):Entry)]))) 1048576) λ_=>gd (nle (nadd (llen s20.2.1) (llen [0])) 1048576) λ_=>gd (nlt 0 (llen s20.2.2.2.1)) λ_=>ix s20.2.2.2.1 0 λx22=>gd (nlt 0 (llen s20.2.2.2.1)) λ_=>ix s20.2.2.2.1 0 λx23=>gd (nlt 0 (llen r7)) λ_=>ix r7 0 λx24=>gd (nlt 0 (llen (lset s20.2.2.2.1 0 (iadd .i64 x22 1)))) λ_=>ix (lset s20.2.2.2.1 0 (iadd .i64 x22 1)) 0 λx25=>bd (g_merge_next (x24,x25)) λr26=>bd (g_loser_Replace (s20.2.2.2.2,r26)) λr27=>some (.nx ((lapp s20.1 ([(([],([],(false,0))):Entry)]),(lapp s20.2.1 [0],((),(lset s20.2.2.2.1 0 (iadd .i64 x22 1),r27.1))))))) λ_=>nat r21.1 λk28=>gd (nlt k28 (llen r7)) λ_=>ix r7 k28 λx29=>nat r21.1 λk30=>gd (nlt k30 (llen s20.2.2.2.1)) λ_=>ix s20.2.2.2.1 k30 λx31=>nat x31 λk32=>ix x29 k32 λx33=>gd (nle (nadd (llen s20.1) (llen [x33])) 1048576) λ_=>gd (nle (nadd (llen s20.2.1) (llen [r21.1])) 1048576) λ_=>nat r21.1 λk34=>gd (nlt k34 (llen s20.2.2.2.1)) λ_=>ix s20.2.2.2.1 k34 λx35=>nat r21.1 λk36=>gd (nlt k36 (llen s20.2.2.2.1)) λ_=>ix s20.2.2.2.1 k36 λx37=>nat r21.1 λk38=>gd (nlt k38 (llen r7)) λ_=>ix r7 k38 λx39=>nat r21.1 λk40=>gd (nlt k40 (llen (lset s20.2.2.2.1 k36 (iadd .i64 x35 1)))) λ_=>ix (lset s20.2.2.2.1 k36 (iadd .i64 x35 1)) k40 λx41=>bd (g_merge_next (x39,x41)) λr42=>bd (g_loser_Replace (s20.2.2.2.2,r42)) λr43=>some (.nx ((lapp s20.1 [x33],(lapp s20.2.1 [r21.1],((),(lset s20.2.2.2.1 k36 (iadd .i64 x35 1),r43.1))))))) (([],([],((),(lrep k6 0,r19.1)))))) λr44=>some ((r44.2.1.1,(r44.2.1.2.1,0)))
def g_shadow_Check (x:(Bool×LsKey)):Option Int :=
 bd (g_keys_Check x.2.1) λr0=>br (ine r0 0) (λ_=>some r0) λ_=>br (bnot x.1) (λ_=>br (bnot (seq x.2.1 [])) (λ_=>some 6) λ_=>some 0) λ_=>some 0
def g_shadow_kept_entry (x:Entry):Option Entry :=
 some x
def g_shadow_Filter (x:((List Entry)×Bool)):Option ((List Entry)×(Int×Int)) :=
 br (igt (nti (llen x.1)) 20000) (λ_=>some (([],((-1),3)))) λ_=>bd (g_shadow_Begin x.2) λr0=>bd (loop (λs1=>br (ilt s1.2.1 (nti (llen x.1))) (λ_=>nat s1.2.1 λk2=>ix x.1 k2 λx3=>bd (g_shadow_Check s1.2.2.2.1) λr4=>br (ine r4 0) (λ_=>br (ine r4 0) (λ_=>some (.dn ((0,((r4,(s1.2.1,(s1.2.1,s1.2.2.2))),()))))) λ_=>some (.nx ((s1.1,(iadd .i64 s1.2.1 1,(s1.2.2.1,((false,([],false)),s1.2.2.2.2))))))) λ_=>bd (g_entries_Check x3) λr5=>br (ine r5 0) (λ_=>br (ine r5 0) (λ_=>some (.dn ((0,((r5,(s1.2.1,(s1.2.1,s1.2.2.2))),()))))) λ_=>some (.nx ((s1.1,(iadd .i64 s1.2.1 1,(s1.2.2.1,((false,([],false)),s1.2.2.2.2))))))) λ_=>br s1.2.2.2.1.1 (λ_=>br (slt x3.1 s1.2.2.2.1.2.1) (λ_=>some (.dn ((0,((6,(s1.2.1,(s1.2.1,s1.2.2.2))),()))))) λ_=>br s1.2.2.2.1.1 (λ_=>br (seq x3.1 s1.2.2.2.1.2.1) (λ_=>some (.nx ((s1.1,(iadd .i64 s1.2.1 1,(s1.2.2.1,((true,(x3.1,s1.2.2.2.1.2.2)),s1.2.2.2.2))))))) λ_=>br s1.2.2.2.1.2.2 (λ_=>br x3.2.2.1 (λ_=>some (.nx ((s1.1,(iadd .i64 s1.2.1 1,(s1.2.2.1,((true,(x3.1,s1.2.2.2.1.2.2)),s1.2.2.2.2))))))) λ_=>bd (g_shadow_kept_entry x3) λr6=>gd (nle (nadd (llen s1.2.2.2.2) (llen [r6])) 1048576) λ_=>some (.nx ((s1.1,(iadd .i64 s1.2.1 1,(s1.2.2.1,((true,(x3.1,s1.2.2.2.1.2.2)),lapp s1.2.2.2.2 [r6]))))))) λ_=>bd (g_shadow_kept_entry x3) λr7=>gd (nle (nadd (llen s1.2.2.2.2) (llen [r7])) 1048576) λ_=>some (.nx ((s1.1,(iadd .i64 s1.2.1 1,(s1.2.2.1,((true,(x3.1,s1.2.2.2.1.2.2)),lapp s1.2.2.2.2 [r7]))))))) λ_=>br s1.2.2.2.1.2.2 (λ_=>br x3.2.2.1 (λ_=>some (.nx ((s1.1,(iadd .i64 s1.2.1 1,(s1.2.2.1,((true,(x3.1,s1.2.2.2.1.2.2)),s1.2.2.2.2))))))) λ_=>bd (g_shadow_kept_entry x3) λr8=>gd (nle (nadd (llen s1.2.2.2.2) (llen [r8])) 1048576) λ_=>some (.nx ((s1.1,(iadd .i64 s1.2.1 1,(s1.2.2.1,((true,(x3.1,s1.2.2.2.1.2.2)),lapp s1.2.2.2.2 [r8]))))))) λ_=>bd (g_shadow_kept_entry x3) λr9=>gd (nle (nadd (llen s1.2.2.2.2) (llen [r9])) 1048576) λ_=>some (.nx ((s1.1,(iadd .i64 s1.2.1 1,(s1.2.2.1,((true,(x3.1,s1.2.2.2.1.2.2)),lapp s1.2.2.2.2 [r9]))))))) λ_=>br s1.2.2.2.1.1 (λ_=>br (seq x3.1 s1.2.2.2.1.2.1) (λ_=>some (.nx ((s1.1,(iadd .i64 s1.2.1 1,(s1.2.2.1,((true,(x3.1,s1.2.2.2.1.2.2)),s1.2.2.2.2))))))) λ_=>br s1.2.2.2.1.2.2 (λ_=>br x3.2.2.1 (λ_=>some (.nx ((s1.1,(iadd .i64 s1.2.1 1,(s1.2.2.1,((true,(x3.1,s1.2.2.2.1.2.2)),s1.2.2.2.2))))))) λ_=>bd (g_shadow_kept_entry x3) λr10=>gd (nle (nadd (llen s1.2.2.2.2) (llen [r10])) 1048576) λ_=>some (.nx ((s1.1,(iadd .i64 s1.2.1 1,(s1.2.2.1,((true,(x3.1,s1.2.2.2.1.2.2)),lapp s1.2.2.2.2 [r10]))))))) λ_=>bd (g_shadow_kept_entry x3) λr11=>gd (nle (nadd (llen s1.2.2.2.2) (llen [r11])) 1048576) λ_=>some (.nx ((s1.1,(iadd .i64 s1.2.1 1,(s1.2.2.1,((true,(x3.1,s1.2.2.2.1.2.2)),lapp s1.2.2.2.2 [r11]))))))) λ_=>br s1.2.2.2.1.2.2 (λ_=>br x3.2.2.1 (λ_=>some (.nx ((s1.1,(iadd .i64 s1.2.1 1,(s1.2.2.1,((true,(x3.1,s1.2.2.2.1.2.2)),s1.2.2.2.2))))))) λ_=>bd (g_shadow_kept_entry x3) λr12=>gd (nle (nadd (llen s1.2.2.2.2) (llen [r12])) 1048576) λ_=>some (.nx ((s1.1,(iadd .i64 s1.2.1 1,(s1.2.2.1,((true,(x3.1,s1.2.2.2.1.2.2)),lapp s1.2.2.2.2 [r12]))))))) λ_=>bd (g_shadow_kept_entry x3) λr13=>gd (nle (nadd (llen s1.2.2.2.2) (llen [r13])) 1048576) λ_=>some (.nx ((s1.1,(iadd .i64 s1.2.1 1,(s1.2.2.1,((true,(x3.1,s1.2.2.2.1.2.2)),lapp s1.2.2.2.2 [r13]))))))) λ_=>some (.dn ((1,(s1,()))))) ((0,(0,(0,(r0,[])))))) λr14=>br (neq r14.1 0) (λ_=>br (ine r14.2.1.1 0) (λ_=>some (([],(r14.2.1.2.2.1,r14.2.1.1)))) λ_=>some ((r14.2.1.2.2.2.2,(0,0)))) λ_=>some ((r14.2.1.2.2.2.2,(0,0)))
def g_slices_alike (x:((List Entry)×(List Entry))):Option Bool :=
 br (ine (nti (llen x.1)) (nti (llen x.2))) (λ_=>some false) λ_=>bd (loop (λs0=>br (ilt s0.2 (nti (llen x.1))) (λ_=>nat s0.2 λk1=>ix x.1 k1 λx2=>nat s0.2 λk3=>ix x.2 k3 λx4=>br (bnot (band (seq x2.1 x4.1) (band (seq x2.2.1 x4.2.1) (band (beq x2.2.2.1 x4.2.2.1) (band (ieq x2.2.2.2 x4.2.2.2) true))))) (λ_=>some (.dn ((0,((false,s0.2),()))))) λ_=>some (.nx (s0.1,iadd .i64 s0.2 1))) λ_=>some (.dn ((1,(s0,()))))) (false,0)) λr5=>br (neq r5.1 0) (λ_=>some r5.2.1.1) λ_=>some true
def g_slices_Check (x:(MgState×((Bool×LsKey)×((List Entry)×Int)))):Option Int :=
 bd (g_merge_Check x.1) λr0=>br (ine r0.2 0) (λ_=>some r0.2) λ_=>bd (loop (λs1=>br (ilt s1.1 (nti (llen x.1.2.1))) (λ_=>nat s1.1 λk2=>ix x.1.2.1 k2 λx3=>some (.nx (iadd .i64 s1.1 1,iadd .i64 s1.2 x3))) λ_=>some (.dn ((0,(s1,()))))) (0,0)) λr4=>br (igt (nti (llen x.2.2.1)) 20000) (λ_=>some 3) λ_=>br (igt r4.2.1.2 20000) (λ_=>some 3) λ_=>br (ine x.2.2.2 r4.2.1.2) (λ_=>some 7) λ_=>bd (g_merge_All x.1.1) λr5=>br (ine r5.2.2 0) (λ_=>some r5.2.2) λ_=>nat r4.2.1.2 λk6=>gd (nle k6 (llen r5.1)) λ_=>gd (nle 0 k6) λ_=>bd (g_shadow_Filter (lsub r5.1 0 k6,x.2.1.2.2)) λr7=>br (ine r7.2.2 0) (λ_=>some r7.2.2) λ_=>bd (g_shadow_Begin x.2.1.2.2) λr8=>br (igt r4.2.1.2 0) (λ_=>nat (isub .i64 r4.2.1.2 1) λk9=>ix r5.1 k9 λx10=>bd (g_slices_alike (x.2.2.1,r7.1)) λr11=>br (bnot r11) (λ_=>some 6) λ_=>br (bnot (band (beq x.2.1.1 true) (band (seq x.2.1.2.1 x10.1) (band (beq x.2.1.2.2 r8.2.2) true)))) (λ_=>some 6) λ_=>some 0) λ_=>bd (g_slices_alike (x.2.2.1,r7.1)) λr12=>br (bnot r12) (λ_=>some 6) λ_=>br (bnot (band (beq x.2.1.1 r8.1) (band (seq x.2.1.2.1 r8.2.1) (band (beq x.2.1.2.2 r8.2.2) true)))) (λ_=>some 6) λ_=>some 0
def g_merge_Left (x:MgState):Option (Int×Int) :=
 bd (g_merge_Check x) λr0=>br (ine r0.2 0) (λ_=>some (0,r0.2)) λ_=>bd (loop (λs1=>br (ilt s1.1 (nti (llen x.1))) (λ_=>nat s1.1 λk2=>ix x.1 k2 λx3=>nat s1.1 λk4=>ix x.2.1 k4 λx5=>some (.nx ((iadd .i64 s1.1 1,iadd .i64 s1.2 (isub .i64 (nti (llen x3)) x5))))) λ_=>some (.dn ((0,(s1,()))))) (0,0)) λr6=>some (r6.2.1.2,0)
def g_slices_Left (x:(MgState×((Bool×LsKey)×((List Entry)×Int)))):Option (Int×Int) :=
 bd (g_slices_Check x) λr0=>br (ine r0 0) (λ_=>some (0,r0)) λ_=>bd (g_merge_Left x.1) λr1=>some r1
def g_merge_Next (x:MgState):Option (Entry×(Int×(MgState×Int))) :=
 bd (g_merge_Check x) λr0=>br (ine r0.2 0) (λ_=>br (ine r0.2 0) (λ_=>some (((([],([],(false,0))):Entry),(0,(([],([],([],([],0)))),r0.2))))) λ_=>none) λ_=>bd (g_slices_Clone_Entry_Entry x.1) λr1=>bd (g_slices_Clone_int_int x.2.1) λr2=>bd (g_loser_Winner x.2.2) λr3=>br (ine r3.2.2 0) (λ_=>br (ine r3.2.2 0) (λ_=>some (((([],([],(false,0))):Entry),(0,(([],([],([],([],0)))),r3.2.2))))) λ_=>gd (nlt 0 (llen r2)) λ_=>ix r2 0 λx4=>gd (nlt 0 (llen r2)) λ_=>ix r2 0 λx5=>gd (nlt 0 (llen r1)) λ_=>ix r1 0 λx6=>gd (nlt 0 (llen (lset r2 0 (iadd .i64 x4 1)))) λ_=>ix (lset r2 0 (iadd .i64 x4 1)) 0 λx7=>bd (g_merge_next (x6,x7)) λr8=>bd (g_loser_Replace (x.2.2,r8)) λr9=>some (((([],([],(false,0))):Entry),(0,((r1,(lset r2 0 (iadd .i64 x4 1),r9.1)),0))))) λ_=>nat r3.1 λk10=>gd (nlt k10 (llen r1)) λ_=>ix r1 k10 λx11=>nat r3.1 λk12=>gd (nlt k12 (llen r2)) λ_=>ix r2 k12 λx13=>nat x13 λk14=>ix x11 k14 λx15=>nat r3.1 λk16=>gd (nlt k16 (llen r2)) λ_=>ix r2 k16 λx17=>nat r3.1 λk18=>gd (nlt k18 (llen r2)) λ_=>ix r2 k18 λx19=>nat r3.1 λk20=>gd (nlt k20 (llen r1)) λ_=>ix r1 k20 λx21=>nat r3.1 λk22=>gd (nlt k22 (llen (lset r2 k18 (iadd .i64 x17 1)))) λ_=>ix (lset r2 k18 (iadd .i64 x17 1)) k22 λx23=>bd (g_merge_next (x21,x23)) λr24=>bd (g_loser_Replace (x.2.2,r24)) λr25=>some ((x15,(r3.1,((r1,(lset r2 k18 (iadd .i64 x17 1),r25.1)),0))))
def g_shadow_Step (x:((Bool×LsKey)×Entry)):Option (Bool×((Bool×LsKey)×Int)) :=
 bd (g_shadow_Check x.1) λr0=>br (ine r0 0) (λ_=>some ((false,((false,([],false)),r0)))) λ_=>bd (g_entries_Check x.2) λr1=>br (ine r1 0) (λ_=>some ((false,((false,([],false)),r1)))) λ_=>br x.1.1 (λ_=>br (slt x.2.1 x.1.2.1) (λ_=>some ((false,((false,([],false)),6)))) λ_=>br x.1.1 (λ_=>br (seq x.2.1 x.1.2.1) (λ_=>some ((false,((true,(x.2.1,x.1.2.2)),0)))) λ_=>br x.1.2.2 (λ_=>br x.2.2.2.1 (λ_=>some ((false,((true,(x.2.1,x.1.2.2)),0)))) λ_=>some ((true,((true,(x.2.1,x.1.2.2)),0)))) λ_=>some ((true,((true,(x.2.1,x.1.2.2)),0)))) λ_=>br x.1.2.2 (λ_=>br x.2.2.2.1 (λ_=>some ((false,((true,(x.2.1,x.1.2.2)),0)))) λ_=>some ((true,((true,(x.2.1,x.1.2.2)),0)))) λ_=>some ((true,((true,(x.2.1,x.1.2.2)),0)))) λ_=>br x.1.1 (λ_=>br (seq x.2.1 x.1.2.1) (λ_=>some ((false,((true,(x.2.1,x.1.2.2)),0)))) λ_=>br x.1.2.2 (λ_=>br x.2.2.2.1 (λ_=>some ((false,((true,(x.2.1,x.1.2.2)),0)))) λ_=>some ((true,((true,(x.2.1,x.1.2.2)),0)))) λ_=>some ((true,((true,(x.2.1,x.1.2.2)),0)))) λ_=>br x.1.2.2 (λ_=>br x.2.2.2.1 (λ_=>some ((false,((true,(x.2.1,x.1.2.2)),0)))) λ_=>some ((true,((true,(x.2.1,x.1.2.2)),0)))) λ_=>some ((true,((true,(x.2.1,x.1.2.2)),0)))
def g_slices_Step (x:((MgState×((Bool×LsKey)×((List Entry)×Int)))×Int)):Option ((MgState×((Bool×LsKey)×((List Entry)×Int)))×(Int×Int)) :=
 bd (g_slices_Left x.1) λr0=>br (ine r0.2 0) (λ_=>some (((([],([],([],([],0)))),((false,([],false)),([],0))),(0,r0.2)))) λ_=>br (ilt x.2 0) (λ_=>some (((([],([],([],([],0)))),((false,([],false)),([],0))),(0,7)))) λ_=>br (igt (iadd .i64 x.1.2.2.2 (imn x.2 r0.1)) 20000) (λ_=>some (((([],([],([],([],0)))),((false,([],false)),([],0))),(0,3)))) λ_=>gd (nle (llen x.1.2.2.1) 1048576) λ_=>gd (nle (llen x.1.1.2.1) 1048576) λ_=>br (ilt 0 (imn x.2 r0.1)) (λ_=>bd (g_merge_Next x.1.1) λr1=>br (ine r1.2.2.2 0) (λ_=>br (ine r1.2.2.2 0) (λ_=>br (ine r1.2.2.2 0) (λ_=>some (((([],([],([],([],0)))),((false,([],false)),([],0))),(0,r1.2.2.2)))) λ_=>some ((x.1,(imn x.2 r0.1,0)))) λ_=>none) λ_=>bd (g_shadow_Step (x.1.2.1,r1.1)) λr2=>br (ine r2.2.2 0) (λ_=>br (ine r2.2.2 0) (λ_=>br (ine r2.2.2 0) (λ_=>some (((([],([],([],([],0)))),((false,([],false)),([],0))),(0,r2.2.2)))) λ_=>some ((x.1,(imn x.2 r0.1,0)))) λ_=>none) λ_=>br r2.1 (λ_=>gd (nle (nadd (llen x.1.2.2.1) (llen [r1.1])) 1048576) λ_=>bd (loop (λs3=>br (ilt s3.1 (imn x.2 r0.1)) (λ_=>bd (g_merge_Next ((s3.2.2.1,(s3.2.2.2.1,(s3.2.2.2.2.1,(s3.2.2.2.2.2.1,s3.2.2.2.2.2.2.1)))))) λr4=>br (ine r4.2.2.2 0) (λ_=>br (ine r4.2.2.2 0) (λ_=>some (.dn ((0,((s3.1,(r4.2.2.2,s3.2.2)),()))))) λ_=>some (.nx (iadd .i64 s3.1 1,s3.2))) λ_=>bd (g_shadow_Step (((s3.2.2.2.2.2.2.2.1,(s3.2.2.2.2.2.2.2.2.1,s3.2.2.2.2.2.2.2.2.2.1)),r4.1))) λr5=>br (ine r5.2.2 0) (λ_=>br (ine r5.2.2 0) (λ_=>some (.dn ((0,((s3.1,(r5.2.2,s3.2.2)),()))))) λ_=>some (.nx (iadd .i64 s3.1 1,s3.2))) λ_=>br r5.1 (λ_=>gd (nle (nadd (llen s3.2.2.2.2.2.2.2.2.2.2.1) (llen [r4.1])) 1048576) λ_=>some (.nx ((iadd .i64 s3.1 1,(s3.2.1,(r4.2.2.1.1,(r4.2.2.1.2.1,(r4.2.2.1.2.2.1,(r4.2.2.1.2.2.2.1,(r4.2.2.1.2.2.2.2,(r5.2.1.1,(r5.2.1.2.1,(r5.2.1.2.2,(lapp s3.2.2.2.2.2.2.2.2.2.2.1 [r4.1],iadd .i64 s3.2.2.2.2.2.2.2.2.2.2.2 1)))))))))))))) λ_=>some (.nx ((iadd .i64 s3.1 1,(s3.2.1,(r4.2.2.1.1,(r4.2.2.1.2.1,(r4.2.2.1.2.2.1,(r4.2.2.1.2.2.2.1,(r4.2.2.1.2.2.2.2,(r5.2.1.1,(r5.2.1.2.1,(r5.2.1.2.2,(s3.2.2.2.2.2.2.2.2.2.2.1,iadd .i64 s3.2.2.2.2.2.2.2.2.2.2.2 1)))))))))))))) λ_=>some (.dn ((1,(s3,()))))) ((1,(0,(r1.2.2.1.1,(r1.2.2.1.2.1,(r1.2.2.1.2.2.1,(r1.2.2.1.2.2.2.1,(r1.2.2.1.2.2.2.2,(r2.2.1.1,(r2.2.1.2.1,(r2.2.1.2.2,(lapp x.1.2.2.1 [r1.1],iadd .i64 x.1.2.2.2 1))))))))))))) λr6=>br (neq r6.1 0) (λ_=>br (ine r6.2.1.2.1 0) (λ_=>some (((([],([],([],([],0)))),((false,([],false)),([],0))),(0,r6.2.1.2.1)))) λ_=>some ((((r6.2.1.2.2.1,(r6.2.1.2.2.2.1,(r6.2.1.2.2.2.2.1,(r6.2.1.2.2.2.2.2.1,r6.2.1.2.2.2.2.2.2.1)))),((r6.2.1.2.2.2.2.2.2.2.1,(r6.2.1.2.2.2.2.2.2.2.2.1,r6.2.1.2.2.2.2.2.2.2.2.2.1)),r6.2.1.2.2.2.2.2.2.2.2.2.2)),(imn x.2 r0.1,0)))) λ_=>some ((((r6.2.1.2.2.1,(r6.2.1.2.2.2.1,(r6.2.1.2.2.2.2.1,(r6.2.1.2.2.2.2.2.1,r6.2.1.2.2.2.2.2.2.1)))),((r6.2.1.2.2.2.2.2.2.2.1,(r6.2.1.2.2.2.2.2.2.2.2.1,r6.2.1.2.2.2.2.2.2.2.2.2.1)),r6.2.1.2.2.2.2.2.2.2.2.2.2)),(imn x.2 r0.1,0)))) λ_=>bd (loop (λs7=>br (ilt s7.1 (imn x.2 r0.1)) (λ_=>bd (g_merge_Next ((s7.2.2.1,(s7.2.2.2.1,(s7.2.2.2.2.1,(s7.2.2.2.2.2.1,s7.2.2.2.2.2.2.1)))))) λr8=>br (ine r8.2.2.2 0) (λ_=>br (ine r8.2.2.2 0) (λ_=>some (.dn ((0,((s7.1,(r8.2.2.2,s7.2.2)),()))))) λ_=>some (.nx (iadd .i64 s7.1 1,s7.2))) λ_=>bd (g_shadow_Step (((s7.2.2.2.2.2.2.2.1,(s7.2.2.2.2.2.2.2.2.1,s7.2.2.2.2.2.2.2.2.2.1)),r8.1))) λr9=>br (ine r9.2.2 0) (λ_=>br (ine r9.2.2 0) (λ_=>some (.dn ((0,((s7.1,(r9.2.2,s7.2.2)),()))))) λ_=>some (.nx (iadd .i64 s7.1 1,s7.2))) λ_=>br r9.1 (λ_=>gd (nle (nadd (llen s7.2.2.2.2.2.2.2.2.2.2.1) (llen [r8.1])) 1048576) λ_=>some (.nx ((iadd .i64 s7.1 1,(s7.2.1,(r8.2.2.1.1,(r8.2.2.1.2.1,(r8.2.2.1.2.2.1,(r8.2.2.1.2.2.2.1,(r8.2.2.1.2.2.2.2,(r9.2.1.1,(r9.2.1.2.1,(r9.2.1.2.2,(lapp s7.2.2.2.2.2.2.2.2.2.2.1 [r8.1],iadd .i64 s7.2.2.2.2.2.2.2.2.2.2.2 1)))))))))))))) λ_=>some (.nx ((iadd .i64 s7.1 1,(s7.2.1,(r8.2.2.1.1,(r8.2.2.1.2.1,(r8.2.2.1.2.2.1,(r8.2.2.1.2.2.2.1,(r8.2.2.1.2.2.2.2,(r9.2.1.1,(r9.2.1.2.1,(r9.2.1.2.2,(s7.2.2.2.2.2.2.2.2.2.2.1,iadd .i64 s7.2.2.2.2.2.2.2.2.2.2.2 1)))))))))))))) λ_=>some (.dn ((1,(s7,()))))) ((1,(0,(r1.2.2.1.1,(r1.2.2.1.2.1,(r1.2.2.1.2.2.1,(r1.2.2.1.2.2.2.1,(r1.2.2.1.2.2.2.2,(r2.2.1.1,(r2.2.1.2.1,(r2.2.1.2.2,(x.1.2.2.1,iadd .i64 x.1.2.2.2 1))))))))))))) λr10=>br (neq r10.1 0) (λ_=>br (ine r10.2.1.2.1 0) (λ_=>some (((([],([],([],([],0)))),((false,([],false)),([],0))),(0,r10.2.1.2.1)))) λ_=>some ((((r10.2.1.2.2.1,(r10.2.1.2.2.2.1,(r10.2.1.2.2.2.2.1,(r10.2.1.2.2.2.2.2.1,r10.2.1.2.2.2.2.2.2.1)))),((r10.2.1.2.2.2.2.2.2.2.1,(r10.2.1.2.2.2.2.2.2.2.2.1,r10.2.1.2.2.2.2.2.2.2.2.2.1)),r10.2.1.2.2.2.2.2.2.2.2.2.2)),(imn x.2 r0.1,0)))) λ_=>some ((((r10.2.1.2.2.1,(r10.2.1.2.2.2.1,(r10.2.1.2.2.2.2.1,(r10.2.1.2.2.2.2.2.1,r10.2.1.2.2.2.2.2.2.1)))),((r10.2.1.2.2.2.2.2.2.2.1,(r10.2.1.2.2.2.2.2.2.2.2.1,r10.2.1.2.2.2.2.2.2.2.2.2.1)),r10.2.1.2.2.2.2.2.2.2.2.2.2)),(imn x.2 r0.1,0)))) λ_=>some ((x.1,(imn x.2 r0.1,0)))
def g_slices_Equal_Entry_Entry (x:((List Entry)×(List Entry))):Option Bool :=
 br (ine (nti (llen x.1)) (nti (llen x.2))) (λ_=>some false) λ_=>bd (loop (λs0=>br (ilt s0.1 (nti (llen x.1))) (λ_=>nat s0.1 λk1=>ix x.1 k1 λx2=>nat s0.1 λk3=>ix x.2 k3 λx4=>br (bnot (band (seq x2.1 x4.1) (band (seq x2.2.1 x4.2.1) (band (beq x2.2.2.1 x4.2.2.1) (band (ieq x2.2.2.2 x4.2.2.2) true))))) (λ_=>some (.dn ((0,((s0.1,false),()))))) λ_=>some (.nx (iadd .i64 s0.1 1,s0.2))) λ_=>some (.dn ((1,(s0,()))))) (0,false)) λr5=>br (neq r5.1 0) (λ_=>some r5.2.1.2) λ_=>some true
def g_jobs_sameEntries (x:((List Entry)×(List Entry))):Option Bool :=
 bd (g_slices_Equal_Entry_Entry x) λr0=>some r0
def g_jobs_same (x:((MgState×((Bool×LsKey)×((List Entry)×Int)))×(MgState×((Bool×LsKey)×((List Entry)×Int))))):Option Bool :=
 br (ine (nti (llen x.1.1.1)) (nti (llen x.2.1.1))) (λ_=>some false) λ_=>bd (loop (λs0=>br (ilt s0.1 (nti (llen x.1.1.1))) (λ_=>nat s0.1 λk1=>ix x.1.1.1 k1 λx2=>nat s0.1 λk3=>ix x.2.1.1 k3 λx4=>bd (g_jobs_sameEntries (x2,x4)) λr5=>br (bnot r5) (λ_=>some (.dn ((0,((s0.1,false),()))))) λ_=>some (.nx (iadd .i64 s0.1 1,s0.2))) λ_=>some (.dn ((1,(s0,()))))) (0,false)) λr6=>br (neq r6.1 0) (λ_=>br r6.2.1.2 (λ_=>bd (g_slices_Equal_int_int (x.1.1.2.1,x.2.1.2.1)) λr7=>br r7 (λ_=>bd (g_slices_Equal_LsKey_LsKey (x.1.1.2.2.1,x.2.1.2.2.1)) λr8=>br r8 (λ_=>bd (g_slices_Equal_int_int (x.1.1.2.2.2.1,x.2.1.2.2.2.1)) λr9=>br r9 (λ_=>br (ieq x.1.1.2.2.2.2 x.2.1.2.2.2.2) (λ_=>br (band (beq x.1.2.1.1 x.2.2.1.1) (band (seq x.1.2.1.2.1 x.2.2.1.2.1) (band (beq x.1.2.1.2.2 x.2.2.1.2.2) true))) (λ_=>bd (g_jobs_sameEntries (x.1.2.2.1,x.2.2.2.1)) λr10=>br r10 (λ_=>some (ieq x.1.2.2.2 x.2.2.2.2)) λ_=>some false) λ_=>some false) λ_=>some false) λ_=>some false) λ_=>some false) λ_=>some false) λ_=>some false) λ_=>bd (g_slices_Equal_int_int (x.1.1.2.1,x.2.1.2.1)) λr11=>br r11 (λ_=>bd (g_slices_Equal_LsKey_LsKey (x.1.1.2.2.1,x.2.1.2.2.1)) λr12=>br r12 (λ_=>bd (g_slices_Equal_int_int (x.1.1.2.2.2.1,x.2.1.2.2.2.1)) λr13=>br r13 (λ_=>br (ieq x.1.1.2.2.2.2 x.2.1.2.2.2.2) (λ_=>br (band (beq x.1.2.1.1 x.2.2.1.1) (band (seq x.1.2.1.2.1 x.2.2.1.2.1) (band (beq x.1.2.1.2.2 x.2.2.1.2.2) true))) (λ_=>bd (g_jobs_sameEntries (x.1.2.2.1,x.2.2.2.1)) λr14=>br r14 (λ_=>some (ieq x.1.2.2.2 x.2.2.2.2)) λ_=>some false) λ_=>some false) λ_=>some false) λ_=>some false) λ_=>some false) λ_=>some false
def g_jobs_Check (x:(Levels×((List (Int×(MgState×((Bool×LsKey)×((List Entry)×Int)))))×Int))):Option (Int×Int) :=
 bd (g_levels_Check x.1) λr0=>br (ine r0.2.2 0) (λ_=>some (((-1),r0.2.2))) λ_=>br (ilt x.2.2 1) (λ_=>some (((-1),7))) λ_=>br (igt x.2.2 1000001) (λ_=>some (((-1),7))) λ_=>bd (g_jobs_greatest x.1) λr1=>br (ile x.2.2 r1) (λ_=>some (((-1),6))) λ_=>bd (loop (λs2=>br (ilt s2.1 (nti (llen x.1.2))) (λ_=>nat s2.1 λk3=>ix x.1.2 k3 λx4=>br (ieq (nti (llen x4)) 2) (λ_=>gd (nle (nadd (llen s2.2) (llen [s2.1])) 1048576) λ_=>some (.nx (iadd .i64 s2.1 1,lapp s2.2 [s2.1]))) λ_=>some (.nx (iadd .i64 s2.1 1,s2.2))) λ_=>some (.dn ((0,(s2,()))))) (0,[])) λr5=>bd (loop (λs6=>br (ilt s6.2.2 (nti (llen x.2.1))) (λ_=>nat s6.2.2 λk7=>ix x.2.1 k7 λx8=>br (ige s6.2.2 (nti (llen r5.2.1.2))) (λ_=>some (.dn ((0,((6,(s6.2.2,s6.2.2)),()))))) λ_=>nat s6.2.2 λk9=>gd (nlt k9 (llen r5.2.1.2)) λ_=>ix r5.2.1.2 k9 λx10=>br (ine x8.1 x10) (λ_=>some (.dn ((0,((6,(s6.2.2,s6.2.2)),()))))) λ_=>br x8.2.2.1.2.2 (λ_=>bd (g_jobs_lowest (x.1,x8.1)) λr11=>br (bnot r11) (λ_=>some (.dn ((0,((6,(s6.2.2,s6.2.2)),()))))) λ_=>bd (g_jobs_begun ((x.1,(x8.1,x8.2.2.1.2.2)))) λr12=>bd (g_slices_Left r12.2) λr13=>br (ilt x8.2.2.2.2 0) (λ_=>some (.dn ((0,((6,(s6.2.2,s6.2.2)),()))))) λ_=>br (igt x8.2.2.2.2 r13.1) (λ_=>some (.dn ((0,((6,(s6.2.2,s6.2.2)),()))))) λ_=>bd (g_slices_Step (r12.2,x8.2.2.2.2)) λr14=>bd (g_jobs_same (r14.1,x8.2)) λr15=>br (bnot r15) (λ_=>some (.dn ((0,((6,(s6.2.2,s6.2.2)),()))))) λ_=>some (.nx ((s6.1,(s6.2.1,iadd .i64 s6.2.2 1))))) λ_=>bd (g_jobs_begun ((x.1,(x8.1,x8.2.2.1.2.2)))) λr16=>bd (g_slices_Left r16.2) λr17=>br (ilt x8.2.2.2.2 0) (λ_=>some (.dn ((0,((6,(s6.2.2,s6.2.2)),()))))) λ_=>br (igt x8.2.2.2.2 r17.1) (λ_=>some (.dn ((0,((6,(s6.2.2,s6.2.2)),()))))) λ_=>bd (g_slices_Step (r16.2,x8.2.2.2.2)) λr18=>bd (g_jobs_same (r18.1,x8.2)) λr19=>br (bnot r19) (λ_=>some (.dn ((0,((6,(s6.2.2,s6.2.2)),()))))) λ_=>some (.nx ((s6.1,(s6.2.1,iadd .i64 s6.2.2 1))))) λ_=>some (.dn ((1,(s6,()))))) ((r0.2.2,(0,0)))) λr20=>br (neq r20.1 0) (λ_=>some (r20.2.1.2.1,r20.2.1.1)) λ_=>br (ilt (nti (llen x.2.1)) (nti (llen r5.2.1.2))) (λ_=>some (((-1),4))) λ_=>some (0,0)
end Go.Proofs.YthpkjfabdccpdaaGreat.Pl
namespace Go.Proofs.YthpkjfabdccpdaaGreat.Pl
open Go Go.Proofs.YthpkjfabdccpdaaGreat.Sv
abbrev Key:=List UInt8
theorem slt_nil (a:Key):slt a []=false:=by unfold slt;cases a<;>rfl
theorem slt_nil_cons (b:UInt8) (y:Key):slt [] (b::y)=true:=rfl
theorem slt_cons (a b:UInt8) (x y:Key):slt (a::x) (b::y)=(decide (a<b)||(a == b&&slt x y)):=rfl
theorem slt_irrefl : ∀ a:Key,slt a a=false
 | []=>rfl
 | a::x=>by rw [slt_cons,slt_irrefl x];simp
theorem slt_trans : ∀ {a b c:Key},slt a b=true→slt b c=true→slt a c=true
 | [],b,[],h1,h2=>by rw [slt_nil] at h2;cases h2
 | [],b,c::z,_,_=>rfl
 | a::x,[],c,h1,_=>by rw [slt_nil] at h1;cases h1
 | a::x,b::y,[],_,h2=>by rw [slt_nil] at h2;cases h2
 | a::x,b::y,c::z,h1,h2=>by
  rw [slt_cons] at h1 h2 ⊢
  simp only [Bool.or_eq_true,decide_eq_true_eq,Bool.and_eq_true,beq_iff_eq] at h1 h2 ⊢
  rcases h1 with h1 | ⟨rfl,h1⟩
  ·rcases h2 with h2 | ⟨rfl,h2⟩
   ·exact .inl (UInt8.lt_trans h1 h2)
   ·exact .inl h1
  ·rcases h2 with h2 | ⟨rfl,h2⟩
   ·exact .inl h2
   ·exact .inr ⟨rfl,slt_trans h1 h2⟩
theorem slt_tri : ∀ a b:Key,slt a b=true∨a=b∨slt b a=true
 | [],[] => .inr (.inl rfl)
 | [],_::_ => .inl rfl
 | _::_,[] => .inr (.inr rfl)
 | a::x,b::y=>by
  rw [slt_cons,slt_cons]
  simp only [Bool.or_eq_true,decide_eq_true_eq,Bool.and_eq_true,beq_iff_eq,List.cons.injEq]
  rcases UInt8.lt_or_lt_of_ne (a:=a) (b:=b) |> λh=>Classical.em (a=b) |>.imp id h with h | h | h
  ·subst h
   rcases slt_tri x y with h | h | h
   ·exact .inl (.inr ⟨rfl,h⟩)
   ·exact .inr (.inl ⟨rfl,h⟩)
   ·exact .inr (.inr (.inr ⟨rfl,h⟩))
  ·exact .inl (.inl h)
  ·exact .inr (.inr (.inl h))
theorem slt_asymm {a b:Key} (h:slt a b=true):slt b a=false:=by
 cases h2:slt b a with
 | false=>rfl
 | true=>have:=slt_trans h h2;rw [slt_irrefl] at this;cases this
theorem slt_ne {a b:Key} (h:slt a b=true):a≠b:=λe=>by subst e;rw [slt_irrefl] at h;cases h
theorem slt_of {a b:Key} (h:slt a b=false) (hn:a≠b):slt b a=true:=by
 rcases slt_tri a b with h1 | h1 | h1
 ·rw [h] at h1;cases h1
 ·exact absurd h1 hn
 ·exact h1
theorem slt_of_not {a b c:Key} (h:slt b a=false) (h2:slt b c=true):slt a c=true:=by
 rcases slt_tri a b with h1 | h1 | h1
 ·exact slt_trans h1 h2
 ·subst h1;exact h2
 ·rw [h] at h1;cases h1
theorem seq_iff {a b:Key}:seq a b=true↔a=b:=by unfold seq;simp
theorem seq_eq (a b:Key):seq a b=decide (a=b):=by
 cases h:seq a b with
 | true=>rw [seq_iff] at h;simp [h]
 | false =>
  have : ¬ a=b:=λe=>by rw [← seq_iff] at e;rw [h] at e;cases e
  simp [this]
section
variable {α β σ S:Type}
theorem br_seq (a b:Key) (x y:Unit→Option β):br (seq a b) x y=if a=b then x () else y ():=br_p seq_iff x y
theorem br_slt (a b:Key) (x y:Unit→Option β):br (slt a b) x y=if slt a b=true then x () else y ():=br_p Iff.rfl x y
theorem br_dec (p:Prop) [Decidable p] (x y:Unit→Option β):br (decide p) x y=if p then x () else y ():=br_p (by simp) x y
theorem nat_cast (k:Nat) (c:Nat→Option β):nat (k:Int) c=c k:=by rw [nat_pos (by omega)];simp
theorem rng_lt {l:List α} {k:Nat} {x:α} (h:l[k]? = some x):ilt (k:Int) (nti (llen l))=true:=by
 have:=(List.getElem?_eq_some_iff.1 h).1
 unfold ilt nti llen;simp;omega
theorem rng_end (l:List α):ilt (l.length:Int) (nti (llen l))=false:=by unfold ilt nti llen;simp
theorem iadd_nat {k:Nat} (h:k+1≤9223372036854775807):iadd .i64 (k:Int) 1=((k+1:Nat):Int):=by
 rw [iadd_in (by omega)];omega
theorem iadd_rng {l:List α} {k:Nat} {x:α} (h:l[k]? = some x) (hl:l.length≤9223372036854775807):iadd .i64 (k:Int) 1=((k+1:Nat):Int):=by
 have:=(List.getElem?_eq_some_iff.1 h).1
 exact iadd_nat (by omega)
def lfold (step:Nat→α→σ→Option (LR σ β)) (fin:σ→Option β):List α→Nat→σ→Option β
 | [],_,s=>fin s
 | x::l,k,s=>match step k x s with
  | none=>none
  | some (.nx s')=>lfold step fin l (k+1) s'
  | some (.dn b)=>some b
def upS (mk:σ→S):Option (LR σ β)→Option (LR S β)
 | none=>none
 | some (.nx s)=>some (.nx (mk s))
 | some (.dn b)=>some (.dn b)
def dnS:Option β→Option (LR S β)
 | none=>none
 | some b=>some (.dn b)
theorem loopN_list {l:List α} {mk:Nat→σ→S} {f:S→Option (LR S β)} {step:Nat→α→σ→Option (LR σ β)} {fin:σ→Option β}
  (hs : ∀ k x st,l[k]? = some x→f (mk k st)=upS (mk (k+1)) (step k x st)) (he : ∀ st,f (mk l.length st)=dnS (fin st)) :
  ∀ (d n k:Nat) (st:σ),l.length-k=d→k≤l.length→d<n→loopN n f (mk k st)=lfold step fin (l.drop k) k st:=by
 intro d
 induction d with
 | zero =>
  intro n k st h1 h2 h3
  have hk:k=l.length:=by omega
  obtain ⟨m,rfl⟩ : ∃ m,n=m+1:=⟨n-1,by omega⟩
  subst hk
  unfold loopN
  rw [he,List.drop_length]
  unfold dnS lfold
  cases fin st<;>rfl
 | succ d ih =>
  intro n k st h1 h2 h3
  obtain ⟨m,rfl⟩ : ∃ m,n=m+1:=⟨n-1,by omega⟩
  have hk:k<l.length:=by omega
  have hx:l[k]? = some l[k]:=by simp [hk]
  unfold loopN
  rw [hs k _ st hx,List.drop_eq_getElem_cons hk]
  show _=match step k l[k] st with
   | none=>none
   | some (.nx s')=>lfold step fin (l.drop (k+1)) (k+1) s'
   | some (.dn b)=>some b
  cases step k l[k] st with
  | none=>rfl
  | some r=>cases r with
   | nx s'=>exact ih m (k+1) s' (by omega) (by omega) (by omega)
   | dn b=>rfl
theorem loop_list {l:List α} (mk:Nat→σ→S) (step:Nat→α→σ→Option (LR σ β)) (fin:σ→Option β) {f:S→Option (LR S β)} {s:S} (st:σ) (h0:s=mk 0 st) (hl:l.length≤9223372036854775807)
  (hs : ∀ k x st,l[k]? = some x→f (mk k st)=upS (mk (k+1)) (step k x st)) (he : ∀ st,f (mk l.length st)=dnS (fin st)) :
  loop f s=lfold step fin l 0 st:=by
 subst h0
 have:=loopN_list hs he l.length 18446744073709551616 0 st (by omega) (by omega) (by omega)
 rw [List.drop_zero] at this
 exact this
theorem loopN_le {f:α→Option (LR α β)} {x:β} : ∀ {n m:Nat} {s:α},n≤m→loopN n f s=some x→loopN m f s=some x
 | 0,_,_,_,h=>by cases h
 | n+1,0,_,hl,_=>by omega
 | n+1,m+1,s,hl,h=>by
  unfold loopN at h ⊢
  split at h
  ·cases h
  ·rename_i s' e;exact loopN_le (by omega) h
  ·exact h
theorem loop_of {f:α→Option (LR α β)} {x:β} {n:Nat} {s:α} (hn:n≤18446744073709551616) (h:loopN n f s=some x):loop f s=some x:=loopN_le hn h
theorem loopN_nx {f:α→Option (LR α β)} {n:Nat} {s s':α} (h:f s=some (.nx s')):loopN (n+1) f s=loopN n f s':=by
 show (match f s with
  | none=>none
  | some (.nx s)=>loopN n f s
  | some (.dn x)=>some x)=_
 rw [h]
theorem loopN_dn {f:α→Option (LR α β)} {n:Nat} {s:α} {x:β} (h:f s=some (.dn x)):loopN (n+1) f s=some x:=by
 show (match f s with
  | none=>none
  | some (.nx s)=>loopN n f s
  | some (.dn x)=>some x)=_
 rw [h]
theorem loop_for {f : S → Option (LR S β)} {r : β} (mk : Nat → S) (n : Nat) {s : S} (h0 : s = mk 0) (hn : n < 18446744073709551616) (hs : ∀ k, k < n → f (mk k) = some (.nx (mk (k + 1)))) (he : f (mk n) = some (.dn r)) : loop f s = some r := by
  subst h0
  have : ∀ d k, k + d = n → loopN (d + 1) f (mk k) = some r := by
    intro d
    induction d with
    | zero => intro k hk; have : k = n := by omega
              subst this; exact loopN_dn he
    | succ d ih => intro k hk; rw [loopN_nx (hs k (by omega))]; exact ih (k + 1) (by omega)
  exact loop_of (n := n + 1) (by omega) (this n 0 (by omega))
end
end Go.Proofs.YthpkjfabdccpdaaGreat.Pl
namespace Go.Proofs.YthpkjfabdccpdaaGreat.Pl
open Go Go.Proofs.YthpkjfabdccpdaaGreat.Sv
def kE (x:Entry):Int:=if x.1.length>32∨x.2.1.length>64 then 3 else if x.2.2.1=true∧x.2.1≠[] then 6 else if x.2.2.2<1∨x.2.2.2>1000000000 then 7 else 0
def ckGo:Option Key→Nat→List Entry→Int×Int
 | _,_,[]=>(0,0)
 | p,k,x::l=>if kE x≠0 then ((k:Int),kE x) else match p with
  | some q=>if slt q x.1=true then ckGo (some x.1) (k+1) l else ((k:Int),6)
  | none=>ckGo (some x.1) (k+1) l
def ckList (l:List Entry):Int×Int:=if l.length>5000 then (-1,3) else ckGo none 0 l
def Asc:Option Key→List Entry→Prop
 | _,[]=>True
 | p,x::l=>(∀ q,p=some q→slt q x.1=true)∧Asc (some x.1) l
theorem ckGo_ok : ∀ {p k l},(ckGo p k l).2=0↔(∀ x∈l,kE x=0)∧Asc p l
 | p,k,[]=>by simp [ckGo,Asc]
 | p,k,x::l=>by
  unfold ckGo
  by_cases h:kE x=0
  ·rw [if_neg (by simp [h])]
   cases p with
   | none =>
    simp only [ckGo_ok (p:=some x.1) (l:=l),Asc,List.mem_cons,forall_eq_or_imp]
    constructor
    ·rintro ⟨h1,h2⟩;exact ⟨⟨h,h1⟩,(λq hq=>by cases hq),h2⟩
    ·rintro ⟨⟨_,h1⟩,_,h2⟩;exact ⟨h1,h2⟩
   | some q =>
    simp only
    by_cases hq:slt q x.1=true
    ·rw [if_pos hq]
     simp only [ckGo_ok (p:=some x.1) (l:=l),Asc,List.mem_cons,forall_eq_or_imp]
     constructor
     ·rintro ⟨h1,h2⟩;exact ⟨⟨h,h1⟩,(λq' hq'=>by cases hq';exact hq),h2⟩
     ·rintro ⟨⟨_,h1⟩,_,h2⟩;exact ⟨h1,h2⟩
    ·rw [if_neg hq]
     constructor
     ·intro h;cases h
     ·rintro ⟨_,h2⟩;exact absurd (h2.1 q rfl) hq
  ·rw [if_pos h]
   constructor
   ·intro h';exact absurd h' h
   ·rintro ⟨h1,_⟩;exact absurd (h1 x (by simp)) h
theorem ckGo_zero : ∀ {p k l},(ckGo p k l).2=0→ckGo p k l=(0,0)
 | p,k,[],_=>rfl
 | p,k,x::l,h=>by
  unfold ckGo at h ⊢
  by_cases hx:kE x=0
  ·rw [if_neg (by simp [hx])] at h ⊢
   cases p with
   | none=>exact ckGo_zero h
   | some q =>
    simp only at h ⊢
    by_cases hq:slt q x.1=true
    ·rw [if_pos hq] at h ⊢;exact ckGo_zero h
    ·rw [if_neg hq] at h;cases h
  ·rw [if_pos hx] at h;exact absurd h hx
structure VL (l:List Entry):Prop where
 len:l.length≤5000
 ok : ∀ x∈l,kE x=0
 asc:Asc none l
theorem ckList_ok {l:List Entry}:(ckList l).2=0↔VL l:=by
 unfold ckList
 by_cases h:l.length>5000
 ·rw [if_pos h]
  constructor
  ·intro h;cases h
  ·intro h';have:=h'.len;omega
 ·rw [if_neg h]
  rw [ckGo_ok]
  exact ⟨λ⟨a,b⟩=>⟨by omega,a,b⟩,λh=>⟨h.ok,h.asc⟩⟩
theorem ckList_zero {l:List Entry} (h:VL l):ckList l=(0,0):=by
 have h2:=ckList_ok.2 h
 unfold ckList at h2 ⊢
 rw [if_neg (by have:=h.len;omega)] at h2 ⊢
 exact ckGo_zero h2
theorem Asc.lt : ∀ {p:Option Key} {l:List Entry},Asc p l → ∀ {i:Nat} {x y:Entry},l[i]? = some x→l[i+1]? = some y→slt x.1 y.1=true
 | p,x::[],_,0,_,_,_,h2=>by simp at h2
 | p,a::b::l,h,0,x,y,h1,h2=>by
  simp at h1 h2;subst h1;subst h2
  exact h.2.1 _ rfl
 | p,a::l,h,i+1,x,y,h1,h2=>by
  simp at h1 h2
  exact Asc.lt h.2 h1 h2
theorem VL.lt {l:List Entry} (h:VL l) {i:Nat} {x y:Entry} (h1:l[i]? = some x) (h2:l[i+1]? = some y):slt x.1 y.1=true:=h.asc.lt h1 h2
def kx (l:List Entry) (i:Nat):LsKey:=match l[i]? with
 | some x=>(x.1,false)
 | none=>([],true)
def w0 (p q:LsKey):Bool:=if p.2≠q.2 then q.2 else if p.1≠q.1 then slt p.1 q.1 else true
def goA (a b:List Entry) (i j:Nat):Bool:=w0 (kx a i) (kx b j)
def pos (a b:List Entry):Nat→Nat×Nat
 | 0=>(0,0)
 | n+1=>if goA a b (pos a b n).1 (pos a b n).2=true then ((pos a b n).1+1,(pos a b n).2) else ((pos a b n).1,(pos a b n).2+1)
def nxt (a b:List Entry) (n:Nat):Option Entry:=if goA a b (pos a b n).1 (pos a b n).2=true then a[(pos a b n).1]? else b[(pos a b n).2]?
structure Inv (a b:List Entry) (i j:Nat):Prop where
 ia:i≤a.length
 jb:j≤b.length
 pa : ∀ i',i=i'+1 → ∀ x y,a[i']? = some x→b[j]? = some y→slt y.1 x.1=false
 pb : ∀ j',j=j'+1 → ∀ x y,b[j']? = some x→a[i]? = some y→slt x.1 y.1=true
theorem goA_some {a b:List Entry} {i j:Nat} {x y:Entry} (h1:a[i]? = some x) (h2:b[j]? = some y):goA a b i j = !slt y.1 x.1:=by
 unfold goA w0 kx
 rw [h1,h2]
 simp only [ne_eq,not_true,if_false]
 by_cases h:x.1=y.1
 ·rw [if_neg (by simp [h]),h,slt_irrefl];rfl
 ·rw [if_pos h]
  cases hs:slt x.1 y.1 with
  | true=>rw [slt_asymm hs];rfl
  | false=>rw [slt_of hs h];rfl
theorem goA_a {a b:List Entry} {i j:Nat} {x:Entry} (h1:a[i]? = some x) (h2:b[j]? = none):goA a b i j=true:=by
 unfold goA w0 kx;rw [h1,h2];rfl
theorem goA_b {a b:List Entry} {i j:Nat} {y:Entry} (h1:a[i]? = none) (h2:b[j]? = some y):goA a b i j=false:=by
 unfold goA w0 kx;rw [h1,h2];rfl
theorem goA_none {a b:List Entry} {i j:Nat} (h1:a[i]? = none) (h2:b[j]? = none):goA a b i j=true:=by
 unfold goA w0 kx;rw [h1,h2];rfl
theorem Inv.zero (a b:List Entry):Inv a b 0 0:=⟨by omega,by omega,λ_ h=>by omega,λ_ h=>by omega⟩
theorem Inv.stepA {a b:List Entry} (va:VL a) {i j:Nat} (h:Inv a b i j) {x:Entry} (hx:a[i]? = some x) (g:goA a b i j=true):Inv a b (i+1) j:=by
 have hi:=(List.getElem?_eq_some_iff.1 hx).1
 refine ⟨by omega,h.jb,λi' e x' y h1 h2 => ?_,λj' e x' y h1 h2 => ?_⟩
 ·have:i'=i:=by omega
  subst this
  rw [hx] at h1;cases h1
  rw [goA_some hx h2] at g
  simpa using g
 ·exact slt_trans (h.pb j' e x' x h1 hx) (va.lt hx h2)
theorem Inv.stepB {a b:List Entry} (vb:VL b) {i j:Nat} (h:Inv a b i j) {y:Entry} (hy:b[j]? = some y) (g:goA a b i j=false):Inv a b i (j+1):=by
 have hj:=(List.getElem?_eq_some_iff.1 hy).1
 refine ⟨h.ia,by omega,λi' e x' y' h1 h2 => ?_,λj' e x' y' h1 h2 => ?_⟩
 ·have h3:=h.pa i' e x' y h1 hy
  exact slt_asymm (slt_of_not h3 (vb.lt hy h2))
 ·have:j'=j:=by omega
  subst this
  rw [hy] at h1;cases h1
  rw [goA_some h2 hy] at g
  simpa using g
theorem pos_ok {a b:List Entry} (va:VL a) (vb:VL b) : ∀ {n:Nat},n≤a.length+b.length→Inv a b (pos a b n).1 (pos a b n).2∧(pos a b n).1+(pos a b n).2=n
 | 0,_=>⟨Inv.zero a b,rfl⟩
 | n+1,h=>by
  obtain ⟨hI,hs⟩:=pos_ok va vb (n:=n) (by omega)
  rw [show pos a b (n+1)=if goA a b (pos a b n).1 (pos a b n).2=true then ((pos a b n).1+1,(pos a b n).2) else ((pos a b n).1,(pos a b n).2+1) from rfl]
  revert hI hs
  generalize (pos a b n).1=i
  generalize (pos a b n).2=j
  intro hI hs
  cases g:goA a b i j with
  | true =>
   have hi:i<a.length:=by
    refine Nat.lt_of_not_le λh' => ?_
    have h1:a[i]? = none:=List.getElem?_eq_none h'
    have h2:j<b.length:=by have:=hI.ia;omega
    rw [goA_b h1 (by simp [h2]:b[j]? = some b[j])] at g;cases g
   have:=hI.stepA va (by simp [hi]:a[i]? = some a[i]) g
   rw [if_pos rfl]
   exact ⟨this,by omega⟩
  | false =>
   have hj:j<b.length:=by
    refine Nat.lt_of_not_le λh' => ?_
    have h1:b[j]? = none:=List.getElem?_eq_none h'
    cases h2:a[i]? with
    | none=>rw [goA_none h2 h1] at g;cases g
    | some x=>rw [goA_a h2 h1] at g;cases g
   have:=hI.stepB vb (by simp [hj]:b[j]? = some b[j]) g
   rw [if_neg (by simp)]
   exact ⟨this,by omega⟩
end Go.Proofs.YthpkjfabdccpdaaGreat.Pl
namespace Go.Proofs.YthpkjfabdccpdaaGreat.Pl
open Go Go.Proofs.YthpkjfabdccpdaaGreat.Sv
def Tt (p q:LsKey):LsTree:=([p,q],([0,if w0 p q=true then 1 else 0],if w0 p q=true then 0 else 1))
def Mst (a b:List Entry) (i j:Nat):MgState:=([a,b],([(i:Int),(j:Int)],Tt (kx a i) (kx b j)))
def keyAt (a b:List Entry) (n:Nat):Key:=match nxt a b n with
 | some x=>x.1
 | none=>[]
def fresh (a b:List Entry) (n:Nat) (x:Entry):Bool:=decide (n=0)||decide (keyAt a b (n-1)≠x.1)
def outN (a b:List Entry) (bt:Bool):Nat→List Entry
 | 0=>[]
 | n+1=>match nxt a b n with
  | some x=>if (fresh a b n x && !(bt&&x.2.2.1))=true then outN a b bt n++[x] else outN a b bt n
  | none=>outN a b bt n
def shN (a b:List Entry) (bt:Bool) (n:Nat):ShState:=(decide (n≠0),(if n=0 then [] else keyAt a b (n-1),bt))
def Sst (a b:List Entry) (bt:Bool) (n:Nat):SlState:=(Mst a b (pos a b n).1 (pos a b n).2,(shN a b bt n,(outN a b bt n,(n:Int))))
def mlist (a b:List Entry):Nat→List Entry
 | 0=>[]
 | n+1=>match nxt a b n with
  | some x=>mlist a b n++[x]
  | none=>mlist a b n
section
variable {a b:List Entry} (va:VL a) (vb:VL b)
include va vb
theorem nxt_some {n:Nat} (h:n<a.length+b.length) : ∃ x,nxt a b n=some x∧(x∈a∨x∈b):=by
 obtain ⟨hI,hs⟩:=pos_ok va vb (n:=n) (by omega)
 unfold nxt
 revert hI hs
 generalize (pos a b n).1=i
 generalize (pos a b n).2=j
 intro hI hs
 cases g:goA a b i j with
 | true =>
  have hi:i<a.length:=by
   refine Nat.lt_of_not_le λh' => ?_
   have h1:a[i]? = none:=List.getElem?_eq_none h'
   have h2:j<b.length:=by have:=hI.ia;omega
   rw [goA_b h1 (by simp [h2]:b[j]? = some b[j])] at g;cases g
  exact ⟨a[i],by simp [hi],.inl (List.getElem_mem hi)⟩
 | false =>
  have hj:j<b.length:=by
   refine Nat.lt_of_not_le λh' => ?_
   have h1:b[j]? = none:=List.getElem?_eq_none h'
   cases h2:a[i]? with
   | none=>rw [goA_none h2 h1] at g;cases g
   | some x=>rw [goA_a h2 h1] at g;cases g
  exact ⟨b[j],by simp [hj],.inr (List.getElem_mem hj)⟩
theorem nxt_kE {n:Nat} {x:Entry} (h:nxt a b n=some x):kE x=0:=by
 have:x∈a∨x∈b:=by
  unfold nxt at h
  split at h
  ·exact .inl (List.mem_of_getElem? h)
  ·exact .inr (List.mem_of_getElem? h)
 rcases this with h | h
 ·exact va.ok x h
 ·exact vb.ok x h
theorem nxt_asc {n:Nat} (hn:n+1<a.length+b.length) {x y:Entry} (h1:nxt a b n=some x) (h2:nxt a b (n+1)=some y):slt y.1 x.1=false:=by
 obtain ⟨hI,hs⟩:=pos_ok va vb (n:=n) (by omega)
 unfold nxt at h1 h2
 rw [show pos a b (n+1)=if goA a b (pos a b n).1 (pos a b n).2=true then ((pos a b n).1+1,(pos a b n).2) else ((pos a b n).1,(pos a b n).2+1) from rfl] at h2
 revert hI hs h1 h2
 generalize (pos a b n).1=i
 generalize (pos a b n).2=j
 intro h1 h2 hI hs
 cases g:goA a b i j with
 | true =>
  rw [if_pos g] at h1
  simp only [g,if_true] at h2
  have hI':=hI.stepA va h1 g
  cases g2:goA a b (i+1) j with
  | true=>rw [if_pos g2] at h2;exact slt_asymm (va.lt h1 h2)
  | false=>rw [if_neg (by simp [g2])] at h2;exact hI'.pa i rfl x y h1 h2
 | false =>
  rw [if_neg (by simp [g])] at h1
  simp only [g,if_false,Bool.false_eq_true] at h2
  have hI':=hI.stepB vb h1 g
  cases g2:goA a b i (j+1) with
  | true=>rw [if_pos g2] at h2;exact slt_asymm (hI'.pb j rfl x y h1 h2)
  | false=>rw [if_neg (by simp [g2])] at h2;exact slt_asymm (vb.lt h1 h2)
theorem mlist_len : ∀ {n:Nat},n≤a.length+b.length→(mlist a b n).length=n
 | 0,_=>rfl
 | n+1,h=>by
  obtain ⟨x,hx,_⟩:=nxt_some va vb (n:=n) (by omega)
  unfold mlist
  rw [hx]
  simp [mlist_len (n:=n) (by omega)]
theorem mlist_get : ∀ {n k:Nat},n≤a.length+b.length→k<n→(mlist a b n)[k]? = nxt a b k
 | n+1,k,h,hk=>by
  obtain ⟨x,hx,_⟩:=nxt_some va vb (n:=n) (by omega)
  unfold mlist
  rw [hx]
  show (mlist a b n++[x])[k]? = _
  have hl:=mlist_len va vb (n:=n) (by omega)
  by_cases hkn:k<n
  ·rw [List.getElem?_append_left (by omega)];exact mlist_get (by omega) hkn
  ·have:k=n:=by omega
   subst this
   rw [List.getElem?_append_right (by omega),hl];simp [hx]
theorem mlist_take {n m:Nat} (hm:m≤a.length+b.length) (h:n≤m):(mlist a b m).take n=mlist a b n:=by
 apply List.ext_getElem?
 intro k
 rw [List.getElem?_take]
 by_cases hk:k<n
 ·rw [if_pos hk,mlist_get va vb hm (by omega),mlist_get va vb (by omega) hk]
 ·rw [if_neg hk,List.getElem?_eq_none];rw [mlist_len va vb (by omega)];omega
end
end Go.Proofs.YthpkjfabdccpdaaGreat.Pl
namespace Go.Proofs.YthpkjfabdccpdaaGreat.Pl
open Go Go.Proofs.YthpkjfabdccpdaaGreat.Sv
theorem nti_eq (n:Nat):nti n=(n:Int):=rfl
theorem llen_eq {α:Type} (l:List α):llen l=l.length:=rfl
theorem slen_eq (l:List UInt8):slen l=l.length:=rfl
theorem bnot_t:bnot true=false:=rfl
theorem br_bnot {β:Type} (c:Bool) (x y:Unit→Option β):br (bnot c) x y=br c y x:=br_not c x y
theorem gd_le {β:Type} {a b:Nat} (h:a≤b) (k:Unit→Option β):gd (nle a b) k=k ():=by rw [gd_nle,if_pos h]
theorem keys_Check_ok (k:Key):g_keys_Check k=some (if k.length>32 then 3 else 0):=by
 unfold g_keys_Check
 rw [br_gt,nti_eq,slen_eq]
 by_cases h:k.length>32
 ·rw [if_pos (by omega),if_pos h]
 ·rw [if_neg (by omega),if_neg h]
theorem entries_Check_ok (x:Entry):g_entries_Check x=some (kE x):=by
 unfold g_entries_Check kE
 rw [keys_Check_ok,bd_val,br_ne]
 by_cases h1:x.1.length>32
 ·simp [h1]
 rw [if_neg h1,if_pos rfl,br_gt,nti_eq,slen_eq]
 by_cases h2:x.2.1.length>64
 ·rw [if_pos (by omega),if_pos (.inr h2)]
 rw [if_neg (by omega : ¬ (x.2.1.length:Int)>64),if_neg (by omega),br_b]
 by_cases h3:x.2.2.1=true
 ·rw [if_pos h3,br_bnot,br_seq]
  by_cases h4:x.2.1=[]
  ·rw [if_pos h4,if_neg (by simp [h4]),br_lt,br_gt]
   by_cases h5:x.2.2.2<1
   ·simp [h5]
   ·by_cases h6:x.2.2.2>1000000000<;>simp [h5,h6]
  ·rw [if_neg h4,if_pos ⟨h3,h4⟩]
 ·rw [if_neg h3,if_neg (by simp [h3]),br_lt,br_gt]
  by_cases h5:x.2.2.2<1
  ·simp [h5]
  ·by_cases h6:x.2.2.2>1000000000<;>simp [h5,h6]
theorem entries_CheckList_ok (l:List Entry) (hl:l.length≤9223372036854775807):g_entries_CheckList l=some (ckList l):=by
 unfold g_entries_CheckList ckList
 rw [br_gt,nti_eq,llen_eq]
 by_cases h:l.length>5000
 ·rw [if_pos (by omega),if_pos h]
 rw [if_neg (by omega),if_neg h]
 have key:=loop_list (β:=Nat×(Int×Int×Int)×Unit) (l:=l) (λk (_:Int)=>((0:Int),((0:Int),(k:Int))))
  (λk x _=>if kE x≠0 then some (.dn (0,((kE x,((k:Int),(k:Int))),()))) else if k>0 then
    (match l[k-1]? with
    | some y=>if slt y.1 x.1=true then some (.nx 0) else some (.dn (0,(((6:Int),((k:Int),(k:Int))),())))
    | none=>none) else some (.nx 0))
  (λ_=>some (1,((0,(0,(l.length:Int))),()))) (s:=(0,(0,0))) (0:Int) rfl hl (f:=(λs0=>br (ilt s0.2.2 (nti (llen l))) (λ_=>nat s0.2.2 λk1=>ix l k1 λx2=>bd (g_entries_Check x2) λr3=>br (ine r3 0) (λ_=>some (.dn ((0,((r3,(s0.2.2,s0.2.2)),()))))) λ_=>br (igt s0.2.2 0) (λ_=>nat (isub .i64 s0.2.2 1) λk4=>ix l k4 λx5=>br (bnot (slt x5.1 x2.1)) (λ_=>some (.dn ((0,((6,(s0.2.2,s0.2.2)),()))))) λ_=>some (.nx ((s0.1,(s0.2.1,iadd .i64 s0.2.2 1))))) λ_=>some (.nx ((s0.1,(s0.2.1,iadd .i64 s0.2.2 1))))) λ_=>some (.dn ((1,(s0,()))))))
  (λk x st hx=>by
   simp only
   rw [rng_lt hx,br_true,nat_cast,ix_val hx,entries_Check_ok,bd_val,br_ne]
   by_cases h1:kE x=0
   ·have hk:k<l.length:=(List.getElem?_eq_some_iff.1 hx).1
    simp only [h1,if_true,ne_eq,not_true,if_false]
    rw [br_gt]
    by_cases h2:k>0
    ·rw [if_pos (by omega:(k:Int)>0),if_pos h2,isub_in (by omega),show ((k:Int)-1)=((k-1:Nat):Int) by omega,nat_cast]
     have hy:l[k-1]? = some l[k-1]:=by rw [List.getElem?_eq_getElem (by omega)]
     rw [ix_val hy,hy,br_bnot,br_slt]
     simp only
     by_cases h3:slt l[k-1].1 x.1=true
     ·rw [if_pos h3,if_pos h3,iadd_rng hx hl];rfl
     ·rw [if_neg h3,if_neg h3];rfl
    ·rw [if_neg (by omega : ¬ (k:Int)>0),if_neg h2,iadd_rng hx hl];rfl
   ·simp only [h1,if_false,ne_eq,not_false_iff,if_true];rfl)
  (λst=>by
   simp only
   rw [rng_end,br_false];rfl)
 simp only [nti_eq,llen_eq] at key
 rw [key]
 have main : ∀ (m:List Entry) (k:Nat) (p:Option Key),l.drop k=m→(p=if k=0 then none else (l[k-1]?).map (·.1)) → ∀ st,bd (lfold (β:=Nat×(Int×Int×Int)×Unit) (λk x (_:Int)=>if kE x≠0 then some (.dn (0,((kE x,((k:Int),(k:Int))),()))) else if k>0 then
    (match l[k-1]? with
    | some y=>if slt y.1 x.1=true then some (.nx 0) else some (.dn (0,(((6:Int),((k:Int),(k:Int))),())))
    | none=>none) else some (.nx (0:Int))) (λ_=>some (1,((0,(0,(l.length:Int))),()))) m k st) (λr6=>br (neq r6.1 0) (λ_=>some (r6.2.1.2.1,r6.2.1.1)) λ_=>some ((0:Int),(0:Int)))=some (ckGo p k m):=by
  intro m
  induction m with
  | nil=>intro k p _ _ st;rfl
  | cons x m ih =>
   intro k p hm hp st
   have hx:l[k]? = some x:=by
    have:=congrArg List.head? hm
    rw [List.head?_drop] at this;simpa using this
   have hk:k<l.length:=(List.getElem?_eq_some_iff.1 hx).1
   have hm2:l.drop (k+1)=m:=by
    have:=congrArg List.tail hm
    rw [List.tail_drop] at this;simpa using this
   unfold lfold ckGo
   by_cases h1:kE x=0
   ·simp only [h1,ne_eq,not_true,if_false]
    by_cases h2:k>0
    ·have hy:l[k-1]? = some l[k-1]:=by rw [List.getElem?_eq_getElem (by omega)]
     rw [if_pos h2,hy]
     rw [if_neg (by omega : ¬ k=0),hy] at hp
     subst hp
     simp only [Option.map_some]
     by_cases h3:slt l[k-1].1 x.1=true
     ·rw [if_pos h3,if_pos h3]
      exact ih (k+1) (some x.1) hm2 (by rw [if_neg (by omega)];simp [hx]) 0
     ·rw [if_neg h3,if_neg h3];rfl
    ·have hk0:k=0:=by omega
     subst hk0
     rw [if_neg h2]
     simp only [if_true] at hp
     subst hp
     exact ih 1 (some x.1) hm2 (by simp [hx]) 0
   ·simp only [h1,ne_eq,not_false_iff,if_true];rfl
 exact main l 0 none (by simp) (by simp) 0
theorem loop_go {α β σ S:Type} {l:List α} (mk:Nat→σ→S) (F:List α→Nat→σ→Option β) {f:S→Option (LR S β)} {s:S} (st:σ) (h0:s=mk 0 st) (hl:l.length≤9223372036854775807)
  (hn : ∀ st,f (mk l.length st)=dnS (F [] l.length st))
  (hc : ∀ k x m st,l.drop k=x::m→l[k]? = some x→k<l.length→(∃ st',f (mk k st)=some (.nx (mk (k+1) st'))∧F (x::m) k st=F m (k+1) st')∨f (mk k st)=dnS (F (x::m) k st)):loop f s=F l 0 st:=by
 subst h0
 have main : ∀ (m:List α) (k n:Nat) (st:σ),l.drop k=m→k≤l.length→m.length<n→loopN n f (mk k st)=F m k st:=by
  intro m
  induction m with
  | nil =>
   intro k n st hm hk hn'
   obtain ⟨n,rfl⟩ : ∃ j,n=j+1:=⟨n-1,by omega⟩
   have hkl:k=l.length:=by
    have:=congrArg List.length hm
    simp at this;omega
   subst hkl
   unfold loopN
   rw [hn]
   cases F [] l.length st<;>rfl
  | cons x m ih =>
   intro k n st hm hk hn'
   obtain ⟨n,rfl⟩ : ∃ j,n=j+1:=⟨n-1,by omega⟩
   have hx:l[k]? = some x:=by
    have:=congrArg List.head? hm
    rw [List.head?_drop] at this;simpa using this
   have hk':k<l.length:=(List.getElem?_eq_some_iff.1 hx).1
   have hm2:l.drop (k+1)=m:=by
    have:=congrArg List.tail hm
    rw [List.tail_drop] at this;simpa using this
   rcases hc k x m st hm hx hk' with ⟨st',h1,h2⟩ | h1
   ·rw [loopN_nx h1,h2]
    exact ih (k+1) n st' hm2 (by omega) (by simp at hn';omega)
   ·unfold loopN
    rw [h1]
    cases F (x::m) k st<;>rfl
 exact main l 0 _ st (by simp) (by omega) (by omega)
theorem rl {α:Type} {l:List α} {k:Nat} (h:k<l.length):ilt (k:Int) (l.length:Int)=true:=by unfold ilt;simp;omega
theorem re {α:Type} (l:List α):ilt (l.length:Int) (l.length:Int)=false:=by unfold ilt;simp
theorem bd_eq {α β:Type} {m:Option α} {x:α} {k:α→Option β} {r:Option β} (h:m=some x) (e:k x=r):bd m k=r:=by subst h;exact e
theorem loser_check_1_ok (k:LsKey):g_loser_check_1 k=some (k.2&&decide (k.1≠[])):=by
 unfold g_loser_check_1
 rw [br_b]
 cases h:k.2 with
 | true=>rw [if_pos rfl,seq_eq];simp [bnot]
 | false=>rw [if_neg (by simp)];rfl
def kfine (k:LsKey):Prop:=k.2=true→k.1=[]
theorem kfine_1 {k:LsKey} (h:kfine k):g_loser_check_1 k=some false:=by
 rw [loser_check_1_ok]
 cases h2:k.2 with
 | true=>simp [h h2]
 | false=>rfl
theorem kx_fine (l:List Entry) (i:Nat):kfine (kx l i):=by
 unfold kx kfine
 split<;>simp
theorem loser_check_fine {l:List LsKey} (h : ∀ k∈l,kfine k) (h0:l≠[]) (hl:l.length≤32):g_loser_check l=some 0:=by
 unfold g_loser_check
 simp only [nti_eq,llen_eq]
 rw [br_eq,br_gt,if_neg (by have:=List.length_pos_iff.2 h0;omega),if_neg (by omega)]
 rw [loop_go (l:=l) (σ:=Unit) (s:=(0,0)) (λk _=>((0:Int),(k:Int))) (λ_ _ _=>some (1,((0,(l.length:Int)),()))) () rfl (by omega) (λst=>by
  simp only;rw [re];rfl) (λk x m st _ hx hk => .inl ⟨(),by
   simp only;rw [rl hk,br_true,nat_cast,ix_val hx,kfine_1 (h x (List.mem_of_getElem? hx)),bd_val,br_false,iadd_rng hx (by omega)],rfl⟩),bd_val]
 rfl
theorem clone_ok {α:Type} {l:List α} (h:l.length≤1048576):(gd (nle (llen l) 1048576) λ_=>some l)=some l:=gd_le h _
theorem play_two (p q:LsKey):g_loser_play [p,q]=some (Tt p q):=by
 have hw:w0 p q=(if p.2≠q.2 then q.2 else if p.1≠q.1 then slt p.1 q.1 else true):=rfl
 unfold g_loser_play
 simp only [nti_eq,llen_eq,List.length_cons,List.length_nil]
 rw [show imul .i64 2 ((0+1+1:Nat):Int)=4 from rfl,show isub .i64 4 1=3 from rfl]
 unfold g_slices_Clone_LsKey_LsKey
 rw [show nat 4=λk=>k 4 from rfl]
 simp only [gd_le (show 4≤1048576 by omega),clone_ok (show [p,q].length≤1048576 by simp),bd_val]
 rw [show nat ((0+1+1:Nat):Int)=λk=>k 2 from rfl]
 simp only [gd_le (show 2≤1048576 by omega)]
 have fin : ∀ {w l:Int} {x:Nat×((Int×(List Int×(List LsKey×(List Int×Int))))×Unit)},x=(0,((0,([0,w,0,1],([p,q],([0,l],0)))),()))→(gd (nlt 1 (llen x.2.1.2.1)) λ_=>ix x.2.1.2.1 1 λx41=>some ((x.2.1.2.2.1,(x.2.1.2.2.2.1,x41))))=some ([p,q],([0,l],w)):=λe=>by subst e;rfl
 have go : ∀ {f:(Int×(List Int×(List LsKey×(List Int×Int))))→Option (LR (Int×(List Int×(List LsKey×(List Int×Int)))) (Nat×((Int×(List Int×(List LsKey×(List Int×Int))))×Unit)))} {w l:Int},f (3,([0,0,0,0],([p,q],([0,0],0))))=some (.nx (2,([0,0,0,1],([p,q],([0,0],0)))))→f (2,([0,0,0,1],([p,q],([0,0],0))))=some (.nx (1,([0,0,0,1],([p,q],([0,0],0))))) →
   f (1,([0,0,0,1],([p,q],([0,0],0))))=some (.nx (0,([0,w,0,1],([p,q],([0,l],0)))))→f (0,([0,w,0,1],([p,q],([0,l],0))))=some (.dn (0,((0,([0,w,0,1],([p,q],([0,l],0)))),()))) →
   loop f (3,([0,0,0,0],([p,q],([0,0],0))))=some (0,((0,([0,w,0,1],([p,q],([0,l],0)))),())):=λh1 h2 h3 h4 =>
  loop_of (n:=4) (by omega) ((loopN_nx h1).trans ((loopN_nx h2).trans ((loopN_nx h3).trans (loopN_dn h4))))
 have st : ∀ {β:Type} (A B:Option β),w0 p q=true→br (bnot (beq p.2 q.2)) (λ_=>br (bnot q.2) (λ_=>B) λ_=>A) (λ_=>br (bnot (seq p.1 q.1)) (λ_=>br (bnot (slt p.1 q.1)) (λ_=>B) λ_=>A) λ_=>A)=A:=fun {β} A B h=>by
  rw [hw] at h
  rw [br_bnot (beq p.2 q.2),br_b (beq p.2 q.2),br_bnot q.2,br_b q.2,br_bnot (seq p.1 q.1),br_seq,br_bnot (slt p.1 q.1),br_slt]
  by_cases h1:p.2=q.2
  ·rw [if_neg (by simp [h1])] at h
   rw [if_pos (by simp [Sv.beq,h1])]
   by_cases h2:p.1=q.1
   ·rw [if_pos h2]
   ·rw [if_neg h2];rw [if_pos h2] at h;rw [if_pos h]
  ·rw [if_pos h1] at h
   rw [if_neg (by simp [Sv.beq,h1]),if_pos h]
 have st2 : ∀ {β:Type} (A B:Option β),w0 p q≠true→br (bnot (beq p.2 q.2)) (λ_=>br (bnot q.2) (λ_=>B) λ_=>A) (λ_=>br (bnot (seq p.1 q.1)) (λ_=>br (bnot (slt p.1 q.1)) (λ_=>B) λ_=>A) λ_=>A)=B:=fun {β} A B h=>by
  rw [hw] at h
  rw [br_bnot (beq p.2 q.2),br_b (beq p.2 q.2),br_bnot q.2,br_b q.2,br_bnot (seq p.1 q.1),br_seq,br_bnot (slt p.1 q.1),br_slt]
  by_cases h1:p.2=q.2
  ·rw [if_neg (by simp [h1])] at h
   rw [if_pos (by simp [Sv.beq,h1])]
   by_cases h2:p.1=q.1
   ·rw [if_neg (by simp [h2])] at h;exact absurd rfl h
   ·rw [if_neg h2];rw [if_pos h2] at h;rw [if_neg h]
  ·rw [if_pos h1] at h
   rw [if_neg (by simp [Sv.beq,h1]),if_neg h]
 rw [show lrep 4 (0:Int)=[0,0,0,0] from rfl,show lrep 2 (0:Int)=[0,0] from rfl]
 by_cases h:w0 p q=true
 ·refine bd_eq (x:=(0,((0,([0,0,0,1],([p,q],([0,1],0)))),()))) ?_ ?_
  refine loop_of (n:=4) (by omega) ?_
  refine (loopN_nx (s':=(2,([0,0,0,1],([p,q],([0,0],0))))) ?_).trans ((loopN_nx (s':=(1,([0,0,0,1],([p,q],([0,0],0))))) ?_).trans ((loopN_nx (s':=(0,([0,0,0,1],([p,q],([0,1],0))))) ?_).trans (loopN_dn ?_)))
  ·rfl
  ·rfl
  ·exact st _ _ h
  ·rfl
  ·show some ([p,q],([0,1],0))=_
   unfold Tt
   simp [h]
 ·refine bd_eq (x:=(0,((0,([0,1,0,1],([p,q],([0,0],0)))),()))) ?_ ?_
  refine loop_of (n:=4) (by omega) ?_
  refine (loopN_nx (s':=(2,([0,0,0,1],([p,q],([0,0],0))))) ?_).trans ((loopN_nx (s':=(1,([0,0,0,1],([p,q],([0,0],0))))) ?_).trans ((loopN_nx (s':=(0,([0,1,0,1],([p,q],([0,0],0))))) ?_).trans (loopN_dn ?_)))
  ·rfl
  ·rfl
  ·exact st2 _ _ h
  ·rfl
  ·show some ([p,q],([0,0],1))=_
   unfold Tt
   simp [h]
theorem build_two {p q:LsKey} (hp:kfine p) (hq:kfine q):g_loser_Build [p,q]=some (Tt p q,0):=by
 unfold g_loser_Build
 rw [loser_check_fine (by simp [hp,hq]) (by simp) (by simp),bd_val,br_ne,if_pos rfl,play_two,bd_val]
theorem lcheck_two {p q:LsKey} (hp:kfine p) (hq:kfine q):g_loser_Check (Tt p q)=some (0,0):=by
 unfold g_loser_Check
 rw [show (Tt p q).1=[p,q] from rfl,loser_check_fine (by simp [hp,hq]) (by simp) (by simp),bd_val,br_ne,if_pos rfl,br_ne,if_pos (show nti (llen (Tt p q).2.1)=nti (llen [p,q]) from rfl),play_two,bd_val]
 simp only [nti_eq,llen_eq]
 rw [loop_go (l:=(Tt p q).2.1) (σ:=Unit) (s:=(0,(0,0))) (λk _=>((0:Int),((k:Int),(0:Int)))) (λ_ _ _=>some (1,((0,(((Tt p q).2.1.length:Int),0)),()))) () rfl (show 2≤9223372036854775807 by omega) (λst=>by
  simp only;rw [re];rfl) (λk x m st _ hx hk => .inl ⟨(),by
   simp only;rw [rl hk,br_true,nat_cast,ix_val hx,nat_cast,ix_val hx,br_ne,if_pos rfl,iadd_rng hx (show 2≤9223372036854775807 by omega)],rfl⟩),bd_val]
 rw [show neq 1 0=false from rfl,br_false,br_ne,if_pos rfl]
def wn (p q:LsKey):Nat:=if w0 p q=true then 0 else 1
def wk (p q:LsKey):LsKey:=if w0 p q=true then p else q
theorem Tt_win (p q:LsKey):(Tt p q).2.2=(wn p q:Int):=by unfold Tt wn;split<;>rfl
theorem Tt_key (p q:LsKey):(Tt p q).1[wn p q]? = some (wk p q):=by unfold Tt wn wk;split<;>rfl
theorem open_two {p q:LsKey} (hp:kfine p) (hq:kfine q):g_loser_open (Tt p q)=some (if (wk p q).2=true then 12 else 0):=by
 unfold g_loser_open
 rw [lcheck_two hp hq,bd_val,br_ne,if_pos rfl,Tt_win,nat_cast,ix_val (Tt_key p q),br_b]
 split<;>rfl
theorem winner_two {p q:LsKey} (hp:kfine p) (hq:kfine q):g_loser_Winner (Tt p q)=some (if (wk p q).2=true then (0,([],12)) else ((wn p q:Int),((wk p q).1,0))):=by
 unfold g_loser_Winner
 rw [open_two hp hq,bd_val,br_ne,Tt_win,nat_cast,ix_val (Tt_key p q)]
 by_cases h:(wk p q).2=true<;>simp [h]
def rk (p q k:LsKey):LsKey×LsKey:=if w0 p q=true then (k,q) else (p,k)
theorem judge_01 (p q:LsKey):g_loser_judge_1 (0,(1,([p,q],())))=some (w0 p q):=by
 unfold g_loser_judge_1 w0
 show br (bnot (beq p.2 q.2)) (λ_=>some q.2) (λ_=>br (bnot (seq p.1 q.1)) (λ_=>some (slt p.1 q.1)) λ_=>some (ilt 0 1))=_
 rw [br_bnot (beq p.2 q.2),br_b (beq p.2 q.2),br_bnot (seq p.1 q.1),br_seq]
 by_cases h1:p.2=q.2
 ·rw [if_pos (show Sv.beq p.2 q.2=true by simp [Sv.beq,h1]),if_neg (show ¬ p.2≠q.2 by simp [h1])]
  by_cases h2:p.1=q.1
  ·rw [if_pos h2,if_neg (show ¬ p.1≠q.1 by simp [h2])];rfl
  ·rw [if_neg h2,if_pos h2]
 ·rw [if_neg (show ¬ Sv.beq p.2 q.2=true by simp [Sv.beq,h1]),if_pos h1]
theorem judge_10 (p q:LsKey):g_loser_judge_1 (1,(0,([p,q],())))=some (!w0 p q):=by
 unfold g_loser_judge_1 w0
 show br (bnot (beq q.2 p.2)) (λ_=>some p.2) (λ_=>br (bnot (seq q.1 p.1)) (λ_=>some (slt q.1 p.1)) λ_=>some (ilt 1 0))=_
 rw [br_bnot (beq q.2 p.2),br_b (beq q.2 p.2),br_bnot (seq q.1 p.1),br_seq]
 by_cases h1:p.2=q.2
 ·rw [if_pos (show Sv.beq q.2 p.2=true by simp [Sv.beq,h1]),if_neg (show ¬ p.2≠q.2 by simp [h1])]
  by_cases h2:p.1=q.1
  ·rw [if_pos h2.symm,if_neg (show ¬ p.1≠q.1 by simp [h2])];rfl
  ·rw [if_neg (show ¬ q.1=p.1 from λe=>h2 e.symm),if_pos h2]
   cases hs:slt p.1 q.1 with
   | true=>rw [slt_asymm hs];rfl
   | false=>rw [slt_of hs h2];rfl
 ·rw [if_neg (show ¬ Sv.beq q.2 p.2=true by simp [Sv.beq,Ne.symm h1]),if_pos h1]
  cases hp:p.2<;>cases hq:q.2<;>simp_all
theorem replace_two {p q k:LsKey} (hp:kfine p) (hq:kfine q) (hk:kfine k) (hw:(wk p q).2=false) (hle:k.2=true∨slt k.1 (wk p q).1=false) :
  ∃ n,g_loser_Replace (Tt p q,k)=some (Tt (rk p q k).1 (rk p q k).2,(n,0)):=by
 have hlen:(Tt p q).1.length≤1048576:=by show 2≤_;omega
 have hlen2:(Tt p q).2.1.length≤1048576:=by show 2≤_;omega
 have hset:lset (Tt p q).1 (wn p q) k=[(rk p q k).1,(rk p q k).2]:=by unfold Tt wn rk;split<;>rfl
 have hlose:(Tt p q).2.1=[0,(1-(wn p q:Int))]:=by unfold Tt wn;split<;>rfl
 have hwn:wn p q=0∨wn p q=1:=by unfold wn;split<;>simp
 have up : ∀ {f:(Int×(Int×(Unit×(List Int×Int))))→Option (LR (Int×(Int×(Unit×(List Int×Int)))) (Nat×((Int×(Int×(Unit×(List Int×Int))))×Unit)))},
   (f=λs8=>br (ieq (iquo .i64 s8.2.1 2) 0) (λ_=>some (.dn ((0,((s8.1,(iquo .i64 s8.2.1 2,((),s8.2.2.2))),()))))) λ_=>nat (iquo .i64 s8.2.1 2) λk9=>gd (nlt k9 (llen s8.2.2.2.1)) λ_=>ix s8.2.2.2.1 k9 λx10=>bd (g_loser_judge_1 ((x10,(s8.2.2.2.2,([(rk p q k).1,(rk p q k).2],()))))) λr11=>br r11 (λ_=>nat (iquo .i64 s8.2.1 2) λk12=>gd (nlt k12 (llen s8.2.2.2.1)) λ_=>ix s8.2.2.2.1 k12 λx13=>nat (iquo .i64 s8.2.1 2) λk14=>gd (nlt k14 (llen s8.2.2.2.1)) λ_=>ix s8.2.2.2.1 k14 λx15=>some (.nx ((iadd .i64 s8.1 1,(iquo .i64 s8.2.1 2,((),(lset s8.2.2.2.1 k14 s8.2.2.2.2,x13))))))) λ_=>some (.nx ((iadd .i64 s8.1 1,(iquo .i64 s8.2.1 2,((),s8.2.2.2))))))
   → loop f (0,((2:Int)+wn p q,((),([0,(1-(wn p q:Int))],(wn p q:Int)))))=some (0,((1,(0,((),(Tt (rk p q k).1 (rk p q k).2).2))),())):=by
  intro f hf
  subst hf
  refine loop_of (n:=2) (by omega) ((loopN_nx (s':=(1,(1,((),(Tt (rk p q k).1 (rk p q k).2).2)))) ?_).trans (loopN_dn rfl))
  rcases hwn with h | h
  ·rw [h]
   have hw0:w0 p q=true:=by
    unfold wn at h
    by_cases hh:w0 p q=true
    ·exact hh
    ·rw [if_neg hh] at h;cases h
   show bd (g_loser_judge_1 (1,(0,([(rk p q k).1,(rk p q k).2],())))) _=_
   rw [judge_10,bd_val]
   unfold Tt
   cases hz:w0 (rk p q k).1 (rk p q k).2<;>rfl
  ·rw [h]
   show bd (g_loser_judge_1 (0,(1,([(rk p q k).1,(rk p q k).2],())))) _=_
   rw [judge_01,bd_val]
   unfold Tt
   cases hz:w0 (rk p q k).1 (rk p q k).2<;>rfl
 unfold g_loser_Replace
 simp only [open_two hp hq,hw,bd_val,br_ne,if_true,if_false,Bool.false_eq_true]
 rw [loser_check_fine (by simp [hk]) (by simp) (by simp),bd_val]
 simp only [if_true,br_bnot]
 rw [br_b]
 unfold g_slices_Clone_LsKey_LsKey g_slices_Clone_int_int
 simp only [Tt_win,nat_cast,ix_val (Tt_key p q),gd_le hlen,gd_le hlen2,bd_val,br_slt,gd_nlt,llen_eq,nti_eq,hset]
 have hlt:wn p q<(Tt p q).1.length:=by show wn p q<2;omega
 have hi:iadd .i64 (([(rk p q k).1,(rk p q k).2].length:Nat):Int) (wn p q:Int)=(2:Int)+wn p q:=by
  rw [iadd_in (by simp;omega)];rfl
 rw [hi,hlose]
 simp only [llen_eq,gd_nlt] at up
 have key:=up rfl
 rw [if_pos hlt]
 by_cases hk2:k.2=true
 ·rw [if_pos hk2,key,bd_val]
  exact ⟨_,rfl⟩
 ·rw [if_neg hk2,if_neg (by rcases hle with h | h;exact absurd h hk2;rw [h];simp),key,bd_val]
  exact ⟨_,rfl⟩
end Go.Proofs.YthpkjfabdccpdaaGreat.Pl
namespace Go.Proofs.YthpkjfabdccpdaaGreat.Pl
open Go Go.Proofs.YthpkjfabdccpdaaGreat.Sv
theorem loop_two {S β:Type} {f:S→Option (LR S β)} {s0 s1 s2:S} {r:β} (h0:f s0=some (.nx s1)) (h1:f s1=some (.nx s2)) (h2:f s2=some (.dn r)):loop f s0=some r :=
 loop_of (n:=3) (by omega) ((loopN_nx h0).trans ((loopN_nx h1).trans (loopN_dn h2)))
theorem rdx {α β:Type} {c:Bool} {n:Int} {l:List α} {K:Nat→α→Option β} {E:Unit→Option β} (k:Nat) {x:α} (hc:c=true) (hn:n=(k:Int)) (hx:l[k]? = some x):br c (λ_=>nat n λk1=>ix l k1 λx2=>K k1 x2) E=K k x:=by
 subst hc;subst hn;rw [br_true,nat_cast,ix_val hx]
theorem ndx {α β:Type} {n:Int} {l:List α} {K:Nat→α→Option β} (k:Nat) {x:α} (hn:n=(k:Int)) (hx:l[k]? = some x):nat n (λk1=>ix l k1 λx2=>K k1 x2)=K k x:=by
 subst hn;rw [nat_cast,ix_val hx]
theorem next_ok {l:List Entry} {i:Nat} (h:i≤l.length):g_merge_next (l,(i:Int))=some (kx l i):=by
 unfold g_merge_next kx
 simp only [nti_eq,llen_eq]
 rw [br_eq]
 by_cases hi:i=l.length
 ·rw [if_pos (by omega),List.getElem?_eq_none (by omega)]
 ·have hx:l[i]? = some l[i]:=by rw [List.getElem?_eq_getElem (by omega)]
  rw [if_neg (by omega),nat_cast,ix_val hx,hx]
section
variable {a b:List Entry} (va:VL a) (vb:VL b)
theorem tree_two {i j:Nat} (hi:i≤a.length) (hj:j≤b.length):g_merge_tree ([a,b],[(i:Int),(j:Int)])=some (Tt (kx a i) (kx b j)):=by
 unfold g_merge_tree
 refine bd_eq (x:=(0,((2,[kx a i,kx b j]),()))) (loop_two (s1:=(1,[kx a i,([],false)])) (s2:=(2,[kx a i,kx b j])) ?_ ?_ rfl) ?_
 ·show bd (g_merge_next (a,(i:Int))) _=_
  rw [next_ok hi];rfl
 ·show bd (g_merge_next (b,(j:Int))) _=_
  rw [next_ok hj];rfl
 ·show bd (g_loser_Build [kx a i,kx b j]) _=_
  rw [build_two (kx_fine _ _) (kx_fine _ _)];rfl
include va vb
theorem checkList_VL:g_entries_CheckList a=some (0,0):=by
 rw [entries_CheckList_ok _ (by have:=va.len;omega),ckList_zero va]
theorem mcheck_two:g_merge_check [a,b]=some (0,0):=by
 unfold g_merge_check
 refine bd_eq (x:=(1,((0,(0,2)),()))) (loop_two (s1:=(0,(0,1))) (s2:=(0,(0,2))) ?_ ?_ rfl) rfl
 ·show bd (g_entries_CheckList a) _=_
  rw [checkList_VL va va];rfl
 ·show bd (g_entries_CheckList b) _=_
  rw [checkList_VL vb vb];rfl
theorem begin_two (bt:Bool):g_slices_Begin ([a,b],bt)=some (Sst a b bt 0,(0,0)):=by
 unfold g_slices_Begin
 rw [mcheck_two va vb,bd_val,br_ne,if_pos rfl]
 refine bd_eq (x:=(0,((2,[kx a 0,kx b 0]),()))) (loop_two (s1:=(1,[kx a 0,([],false)])) (s2:=(2,[kx a 0,kx b 0])) ?_ ?_ rfl) ?_
 ·show bd (g_merge_next (a,((0:Nat):Int))) _=_
  rw [next_ok (by omega)];rfl
 ·show bd (g_merge_next (b,((0:Nat):Int))) _=_
  rw [next_ok (by omega)];rfl
 ·show bd (g_loser_Build [kx a 0,kx b 0]) _=_
  rw [build_two (kx_fine _ _) (kx_fine _ _)];rfl
end
theorem beq_rfl (x:Bool):Sv.beq x x=true:=by cases x<;>rfl
theorem seq_rfl (x:Key):seq x x=true:=by rw [seq_iff]
theorem eqKeys_rfl (l:List LsKey) (h:l.length≤1000):g_slices_Equal_LsKey_LsKey (l,l)=some true:=by
 unfold g_slices_Equal_LsKey_LsKey
 simp only [nti_eq,llen_eq]
 rw [br_ne,if_pos rfl,loop_go (l:=l) (σ:=Unit) (s:=(0,false)) (λk _=>((k:Int),false)) (λ_ _ _=>some (1,(((l.length:Int),false),()))) () rfl (by omega) (λst=>by
  simp only;rw [re];rfl) (λk x m st _ hx hk => .inl ⟨(),by
   simp only;rw [rl hk,br_true,nat_cast,ix_val hx,nat_cast,ix_val hx,seq_rfl,beq_rfl,show bnot (band true (band true true))=false from rfl,br_false,iadd_rng hx (by omega)],rfl⟩),bd_val]
 rfl
theorem eqInts_rfl (l:List Int) (h:l.length≤1000):g_slices_Equal_int_int (l,l)=some true:=by
 unfold g_slices_Equal_int_int
 simp only [nti_eq,llen_eq]
 rw [br_ne,if_pos rfl,loop_go (l:=l) (σ:=Unit) (s:=(0,false)) (λk _=>((k:Int),false)) (λ_ _ _=>some (1,(((l.length:Int),false),()))) () rfl (by omega) (λst=>by
  simp only;rw [re];rfl) (λk x m st _ hx hk => .inl ⟨(),by
   simp only;rw [rl hk,br_true,nat_cast,ix_val hx,nat_cast,ix_val hx,br_ne,if_pos rfl,iadd_rng hx (by omega)],rfl⟩),bd_val]
 rfl
theorem alike_rfl (t:LsTree) (h1:t.1.length≤1000) (h2:t.2.1.length≤1000):g_merge_alike (t,t)=some true:=by
 unfold g_merge_alike
 rw [br_eq,if_pos rfl,eqKeys_rfl _ h1,bd_val,br_true,eqInts_rfl _ h2]
 rfl
theorem alike_two (p q:LsKey):g_merge_alike (Tt p q,Tt p q)=some true:=alike_rfl _ (show 2≤1000 by omega) (show 2≤1000 by omega)
theorem wk_a {a b:List Entry} {i j:Nat} (h:goA a b i j=true):wk (kx a i) (kx b j)=kx a i∧wn (kx a i) (kx b j)=0:=by
 unfold goA at h;unfold wk wn;rw [if_pos h,if_pos h];exact ⟨rfl,rfl⟩
theorem wk_b {a b:List Entry} {i j:Nat} (h:goA a b i j=false):wk (kx a i) (kx b j)=kx b j∧wn (kx a i) (kx b j)=1:=by
 unfold goA at h;unfold wk wn;rw [if_neg (by simp [h]),if_neg (by simp [h])];exact ⟨rfl,rfl⟩
theorem cmpS_ok (x y:Key):g_cmp_Compare_string (x,y)=some (if slt x y=true then -1 else if slt y x=true then 1 else 0):=by
 unfold g_cmp_Compare_string g_cmp_isNaN_string
 simp only [seq_rfl,bnot_t,bd_val,br_false]
 rw [br_slt,br_slt]
 split
 ·rfl
 ·split<;>rfl
theorem cmpI_ok (x y:Int):g_cmp_Compare_int (x,y)=some (if x<y then -1 else if x>y then 1 else 0):=by
 unfold g_cmp_Compare_int g_cmp_isNaN_int
 simp only [bd_val,br_ne,if_true,br_lt,br_gt]
 split
 ·rfl
 ·split<;>rfl
theorem or2_ok (x y:Int):g_cmp_Or_int [x,y]=some (if x≠0 then x else y):=by
 unfold g_cmp_Or_int
 by_cases h:x=0
 ·rw [if_neg (by simp [h])]
  by_cases h2:y=0
  ·refine bd_eq (x:=(1,((0,2),()))) (loop_two (s1:=(0,1)) (s2:=(0,2)) ?_ ?_ rfl) (by rw [h2];rfl)
   ·refine (rdx 0 rfl rfl rfl).trans ?_
    rw [br_ne,if_pos h];rfl
   ·refine (rdx 1 rfl rfl rfl).trans ?_
    rw [br_ne,if_pos h2];rfl
  ·refine bd_eq (x:=(0,((y,1),()))) (loop_of (n:=2) (by omega) ((loopN_nx (s':=(0,1)) ?_).trans (loopN_dn ?_))) rfl
   ·refine (rdx 0 rfl rfl rfl).trans ?_
    rw [br_ne,if_pos h];rfl
   ·refine (rdx 1 rfl rfl rfl).trans ?_
    rw [br_ne,if_neg h2]
 ·rw [if_pos h]
  refine bd_eq (x:=(0,((x,0),()))) (loop_of (n:=1) (by omega) (loopN_dn ?_)) rfl
  refine (rdx 0 rfl rfl rfl).trans ?_
  rw [br_ne,if_neg h]
section
variable {a b:List Entry} (va:VL a) (vb:VL b)
include va vb
theorem mCheck_ok {i j:Nat} (I:Inv a b i j):g_merge_Check (Mst a b i j)=some (0,0):=by
 unfold g_merge_Check
 rw [show (Mst a b i j).1=[a,b] from rfl,mcheck_two va vb,bd_val,br_ne,if_pos rfl]
 rw [show (Mst a b i j).2.1=[(i:Int),(j:Int)] from rfl,br_ne,if_pos (show nti (llen [(i:Int),(j:Int)])=nti (llen [a,b]) from rfl)]
 refine bd_eq (x:=(1,((0,(0,2)),()))) (loop_two (s1:=(0,(0,1))) (s2:=(0,(0,2))) ?_ ?_ rfl) ?_
 ·refine (rdx 0 rfl rfl rfl).trans ?_
  rw [br_lt,if_neg (by omega),show nat (((0:Int),((0:Int),(0:Int))).2.2)=λ(k:Nat→Option (LR (Int×(Int×Int)) (Nat×((Int×(Int×Int))×Unit))))=>k 0 from rfl]
  simp only
  rw [ix_val (x:=a) rfl,br_gt,if_neg (by have:=I.ia;simp only [nti_eq,llen_eq];omega)];rfl
 ·refine (rdx 1 rfl rfl rfl).trans ?_
  rw [br_lt,if_neg (by omega),show nat (((0:Int),((0:Int),(1:Int))).2.2)=λ(k:Nat→Option (LR (Int×(Int×Int)) (Nat×((Int×(Int×Int))×Unit))))=>k 1 from rfl]
  simp only
  rw [ix_val (x:=b) rfl,br_gt,if_neg (by have:=I.jb;simp only [nti_eq,llen_eq];omega)];rfl
 rw [show neq ((1:Nat),(((0:Int),((0:Int),(2:Int))),())).1 0=false from rfl,br_false,tree_two I.ia I.jb,bd_val,show (Mst a b i j).2.2=Tt (kx a i) (kx b j) from rfl,alike_two,bd_val,show bnot true=false from rfl,br_false,winner_two (kx_fine _ _) (kx_fine _ _),bd_val]
 by_cases hd:(wk (kx a i) (kx b j)).2=true
 ·rw [if_pos hd];rfl
 rw [if_neg hd,br_ne,if_pos rfl]
 have la : ∀ {x:Entry} {i':Nat},i=i'+1→a[i']? = some x → ¬ (if (if slt x.1 (wk (kx a i) (kx b j)).1=true then (-1:Int) else if slt (wk (kx a i) (kx b j)).1 x.1=true then 1 else 0)≠0 then (if slt x.1 (wk (kx a i) (kx b j)).1=true then (-1:Int) else if slt (wk (kx a i) (kx b j)).1 x.1=true then 1 else 0) else (if (0:Int)<(wn (kx a i) (kx b j):Int) then -1 else if (0:Int)>(wn (kx a i) (kx b j):Int) then 1 else 0))>0:=by
  intro x i' hi hx
  have hle:slt (wk (kx a i) (kx b j)).1 x.1=false:=by
   cases g:goA a b i j with
   | true =>
    rw [(wk_a g).1] at hd ⊢
    unfold kx at hd ⊢
    cases hy:a[i]? with
    | none=>rw [hy] at hd;exact absurd rfl hd
    | some y=>rw [hi] at hy;exact slt_asymm (va.lt hx hy)
   | false =>
    rw [(wk_b g).1] at hd ⊢
    unfold kx at hd ⊢
    cases hy:b[j]? with
    | none=>rw [hy] at hd;exact absurd rfl hd
    | some y=>exact I.pa i' hi x y hx hy
  rw [hle]
  have : ¬ (0:Int)>(wn (kx a i) (kx b j):Int):=by omega
  by_cases hs:slt x.1 (wk (kx a i) (kx b j)).1=true
  ·simp [hs]
  ·simp only [hs,Bool.false_eq_true,if_false,ne_eq,not_true,this]
   split<;>omega
 have lb : ∀ {y:Entry} {j':Nat},j=j'+1→b[j']? = some y → ¬ (if (if slt y.1 (wk (kx a i) (kx b j)).1=true then (-1:Int) else if slt (wk (kx a i) (kx b j)).1 y.1=true then 1 else 0)≠0 then (if slt y.1 (wk (kx a i) (kx b j)).1=true then (-1:Int) else if slt (wk (kx a i) (kx b j)).1 y.1=true then 1 else 0) else (if (1:Int)<(wn (kx a i) (kx b j):Int) then -1 else if (1:Int)>(wn (kx a i) (kx b j):Int) then 1 else 0))>0:=by
  intro y j' hj hy
  have hlt:slt y.1 (wk (kx a i) (kx b j)).1=true:=by
   cases g:goA a b i j with
   | true =>
    rw [(wk_a g).1] at hd ⊢
    unfold kx at hd ⊢
    cases hx:a[i]? with
    | none=>rw [hx] at hd;exact absurd rfl hd
    | some x=>exact I.pb j' hj y x hy hx
   | false =>
    rw [(wk_b g).1] at hd ⊢
    unfold kx at hd ⊢
    cases hx:b[j]? with
    | none=>rw [hx] at hd;exact absurd rfl hd
    | some x=>rw [hj] at hx;exact vb.lt hy hx
  rw [hlt]
  simp
 refine bd_eq (x:=(1,((0,(0,2)),()))) (loop_two (s1:=(0,(0,1))) (s2:=(0,(0,2))) ?_ ?_ rfl) rfl
 ·refine (rdx 0 rfl rfl rfl).trans ?_
  rw [br_gt]
  by_cases h0:(i:Int)>0
  ·rw [if_pos h0]
   obtain ⟨i',hi'⟩ : ∃ i',i=i'+1:=⟨i-1,by omega⟩
   have hi2:i'<a.length:=by have:=I.ia;omega
   have hx:a[i']? = some a[i']:=by simp [hi2]
   refine (ndx 0 rfl (x:=a) rfl).trans ((ndx i' ?_ hx).trans ?_)
   ·rw [isub_in (by have:=va.len;have:=I.ia;omega)];omega
   rw [cmpS_ok,bd_val]
   show bd (g_cmp_Compare_int (0,(wn (kx a i) (kx b j):Int))) _=_
   rw [cmpI_ok,bd_val,or2_ok,bd_val,br_gt,if_neg (la hi' hx)];rfl
  ·rw [if_neg h0];rfl
 ·refine (rdx 1 rfl rfl rfl).trans ?_
  rw [br_gt]
  by_cases h0:(j:Int)>0
  ·rw [if_pos h0]
   obtain ⟨j',hj'⟩ : ∃ j',j=j'+1:=⟨j-1,by omega⟩
   have hj2:j'<b.length:=by have:=I.jb;omega
   have hy:b[j']? = some b[j']:=by simp [hj2]
   refine (ndx 1 rfl (x:=b) rfl).trans ((ndx j' ?_ hy).trans ?_)
   ·rw [isub_in (by have:=vb.len;have:=I.jb;omega)];omega
   rw [cmpS_ok,bd_val]
   show bd (g_cmp_Compare_int (1,(wn (kx a i) (kx b j):Int))) _=_
   rw [cmpI_ok,bd_val,or2_ok,bd_val,br_gt,if_neg (lb hj' hy)];rfl
  ·rw [if_neg h0];rfl
end
end Go.Proofs.YthpkjfabdccpdaaGreat.Pl
namespace Go.Proofs.YthpkjfabdccpdaaGreat.Pl
open Go Go.Proofs.YthpkjfabdccpdaaGreat.Sv
theorem kx_some {l:List Entry} {i:Nat} {x:Entry} (h:l[i]? = some x):kx l i=(x.1,false):=by unfold kx;rw [h]
theorem kx_none {l:List Entry} {i:Nat} (h:l[i]? = none):kx l i=([],true):=by unfold kx;rw [h]
theorem kx_next {l:List Entry} (v:VL l) {i:Nat} {x:Entry} (h:l[i]? = some x):(kx l (i+1)).2=true∨slt (kx l (i+1)).1 x.1=false:=by
 cases hy:l[i+1]? with
 | none=>rw [kx_none hy];exact .inl rfl
 | some y=>rw [kx_some hy];exact .inr (slt_asymm (v.lt h hy))
theorem ngx {α β:Type} {n:Int} {l:List α} {K:Nat→α→Option β} (k:Nat) {x:α} (hn:n=(k:Int)) (hx:l[k]? = some x):nat n (λk1=>gd (nlt k1 (llen l)) λ_=>ix l k1 λx2=>K k1 x2)=K k x:=by
 subst hn;rw [nat_cast,gd_nlt,if_pos (show k<llen l from (List.getElem?_eq_some_iff.1 hx).1),ix_val hx]
section
variable {a b:List Entry} (va:VL a) (vb:VL b)
include va vb
theorem mNext_a {i j:Nat} (I:Inv a b i j) {x:Entry} (hx:a[i]? = some x) (g:goA a b i j=true):g_merge_Next (Mst a b i j)=some (x,(0,(Mst a b (i+1) j,0))):=by
 obtain ⟨hk,hn⟩:=wk_a g
 have hi:=(List.getElem?_eq_some_iff.1 hx).1
 have hl:=va.len
 have hd:(wk (kx a i) (kx b j)).2=false:=by rw [hk,kx_some hx]
 obtain ⟨m,hr⟩:=replace_two (p:=kx a i) (q:=kx b j) (k:=kx a (i+1)) (kx_fine _ _) (kx_fine _ _) (kx_fine _ _) hd (by rw [hk,kx_some hx];exact kx_next va hx)
 have hrk:rk (kx a i) (kx b j) (kx a (i+1))=(kx a (i+1),kx b j):=by
  unfold rk;unfold goA at g;rw [if_pos g]
 rw [hrk] at hr
 unfold g_merge_Next
 rw [mCheck_ok va vb I,bd_val,br_ne,if_pos rfl]
 unfold g_slices_Clone_Entry_Entry g_slices_Clone_int_int
 refine bd_eq (clone_ok (show 2≤1048576 by omega)) (bd_eq (clone_ok (show 2≤1048576 by omega)) ?_)
 rw [show (Mst a b i j).2.2=Tt (kx a i) (kx b j) from rfl,winner_two (kx_fine _ _) (kx_fine _ _),if_neg (by simp [hd]),bd_val,br_ne,if_pos rfl,hn]
 refine (ngx 0 rfl (x:=a) rfl).trans ((ngx 0 rfl (x:=(i:Int)) rfl).trans ((ndx i rfl hx).trans ((ngx 0 rfl (x:=(i:Int)) rfl).trans ((ngx 0 rfl (x:=(i:Int)) rfl).trans ((ngx 0 rfl (x:=a) rfl).trans ((ngx 0 rfl (x:=iadd .i64 (i:Int) 1) rfl).trans ?_))))))
 rw [iadd_nat (by omega),next_ok (show i+1≤a.length by omega),bd_val,hr,bd_val]
 rfl
theorem mNext_b {i j:Nat} (I:Inv a b i j) {y:Entry} (hy:b[j]? = some y) (g:goA a b i j=false):g_merge_Next (Mst a b i j)=some (y,(1,(Mst a b i (j+1),0))):=by
 obtain ⟨hk,hn⟩:=wk_b g
 have hi:=(List.getElem?_eq_some_iff.1 hy).1
 have hl:=vb.len
 have hd:(wk (kx a i) (kx b j)).2=false:=by rw [hk,kx_some hy]
 obtain ⟨m,hr⟩:=replace_two (p:=kx a i) (q:=kx b j) (k:=kx b (j+1)) (kx_fine _ _) (kx_fine _ _) (kx_fine _ _) hd (by rw [hk,kx_some hy];exact kx_next vb hy)
 have hrk:rk (kx a i) (kx b j) (kx b (j+1))=(kx a i,kx b (j+1)):=by
  unfold rk;unfold goA at g;rw [if_neg (by simp [g])]
 rw [hrk] at hr
 unfold g_merge_Next
 rw [mCheck_ok va vb I,bd_val,br_ne,if_pos rfl]
 unfold g_slices_Clone_Entry_Entry g_slices_Clone_int_int
 refine bd_eq (clone_ok (show 2≤1048576 by omega)) (bd_eq (clone_ok (show 2≤1048576 by omega)) ?_)
 rw [show (Mst a b i j).2.2=Tt (kx a i) (kx b j) from rfl,winner_two (kx_fine _ _) (kx_fine _ _),if_neg (by simp [hd]),bd_val,br_ne,if_pos rfl,hn]
 refine (ngx 1 rfl (x:=b) rfl).trans ((ngx 1 rfl (x:=(j:Int)) rfl).trans ((ndx j rfl hy).trans ((ngx 1 rfl (x:=(j:Int)) rfl).trans ((ngx 1 rfl (x:=(j:Int)) rfl).trans ((ngx 1 rfl (x:=b) rfl).trans ((ngx 1 rfl (x:=iadd .i64 (j:Int) 1) rfl).trans ?_))))))
 rw [iadd_nat (by omega),next_ok (show j+1≤b.length by omega),bd_val,hr,bd_val]
 rfl
def MsN (a b:List Entry) (n:Nat):MgState:=Mst a b (pos a b n).1 (pos a b n).2
def runN (a b:List Entry) (n:Nat):Nat:=if goA a b (pos a b n).1 (pos a b n).2=true then 0 else 1
theorem mNext_ok {n:Nat} {x:Entry} (h:n<a.length+b.length) (hx:nxt a b n=some x):g_merge_Next (MsN a b n)=some (x,((runN a b n:Int),(MsN a b (n+1),0))):=by
 obtain ⟨hI,hs⟩:=pos_ok va vb (n:=n) (by omega)
 unfold MsN runN
 rw [show pos a b (n+1)=if goA a b (pos a b n).1 (pos a b n).2=true then ((pos a b n).1+1,(pos a b n).2) else ((pos a b n).1,(pos a b n).2+1) from rfl]
 unfold nxt at hx
 cases g:goA a b (pos a b n).1 (pos a b n).2 with
 | true=>rw [if_pos g] at hx;rw [mNext_a va vb hI hx g];simp
 | false=>rw [if_neg (by simp [g])] at hx;rw [mNext_b va vb hI hx g];simp
end
theorem shCheck_ok {s:ShState} (h1:s.2.1.length≤32) (h2:s.1=false→s.2.1=[]):g_shadow_Check s=some 0:=by
 unfold g_shadow_Check
 rw [keys_Check_ok,bd_val,if_neg (by omega),br_ne,if_pos rfl,br_bnot,br_b]
 cases h:s.1 with
 | true=>rfl
 | false=>rw [if_neg (by simp),br_bnot,br_seq,if_pos (h2 h)]
def keep (s:ShState) (x:Entry):Bool := !(s.1&&decide (x.1=s.2.1)) && !(s.2.2&&x.2.2.1)
theorem shStep_ok {s:ShState} {x:Entry} (h1:s.2.1.length≤32) (h2:s.1=false→s.2.1=[]) (h3:kE x=0) (h4:s.1=true→slt x.1 s.2.1=false):g_shadow_Step (s,x)=some (keep s x,((true,(x.1,s.2.2)),0)):=by
 unfold g_shadow_Step keep
 rw [shCheck_ok h1 h2,bd_val,br_ne,if_pos rfl,entries_Check_ok,h3,bd_val,br_ne,if_pos rfl]
 obtain ⟨s1,s2,s3⟩:=s
 obtain ⟨x1,x2,x3,x4⟩:=x
 simp only at h4 ⊢
 cases s1 with
 | true =>
  have:=h4 rfl
  simp only [br_true,br_false,br_slt,br_seq,this,Bool.false_eq_true,if_false]
  by_cases he:x1=s2
  ·simp [he]
  ·simp only [he,if_false,decide_false]
   cases s3<;>cases x3<;>rfl
 | false =>
  simp only [br_true,br_false]
  cases s3<;>cases x3<;>rfl
def filt:ShState→List Entry→List Entry
 | _,[]=>[]
 | s,x::l=>(if keep s x=true then [x] else [])++filt (true,(x.1,s.2.2)) l
theorem filt_len : ∀ (s:ShState) (l:List Entry),(filt s l).length≤l.length
 | _,[]=>Nat.le_refl _
 | s,x::l=>by
  have:=filt_len (true,(x.1,s.2.2)) l
  unfold filt
  by_cases h:keep s x=true
  ·rw [if_pos h];simp;omega
  ·rw [if_neg h];simp;omega
def Rise:ShState→List Entry→Prop
 | _,[]=>True
 | s,x::l=>kE x=0∧(s.1=true→slt x.1 s.2.1=false)∧Rise (true,(x.1,s.2.2)) l
theorem kE_key {x:Entry} (h:kE x=0):x.1.length≤32:=by
 unfold kE at h
 by_cases hh:x.1.length>32∨x.2.1.length>64
 ·rw [if_pos hh] at h;cases h
 ·omega
theorem loop_run {α β σ S:Type} {l:List α} (mk:Nat→σ→S) (Inv:List α→Nat→σ→Prop) (F:List α→Nat→σ→β) {f:S→Option (LR S β)} {s:S} (st:σ) (h0:s=mk 0 st) (hl:l.length≤9223372036854775807) (hi:Inv l 0 st)
  (hn : ∀ st,Inv [] l.length st→f (mk l.length st)=some (.dn (F [] l.length st)))
  (hc : ∀ k x m st,l.drop k=x::m→l[k]? = some x→k<l.length→Inv (x::m) k st → ∃ st',f (mk k st)=some (.nx (mk (k+1) st'))∧Inv m (k+1) st'∧F (x::m) k st=F m (k+1) st'):loop f s=some (F l 0 st):=by
 subst h0
 have main : ∀ (m:List α) (k n:Nat) (st:σ),l.drop k=m→k≤l.length→m.length<n→Inv m k st→loopN n f (mk k st)=some (F m k st):=by
  intro m
  induction m with
  | nil =>
   intro k n st hm hk hn' hi
   obtain ⟨n,rfl⟩ : ∃ j,n=j+1:=⟨n-1,by omega⟩
   have hkl:k=l.length:=by
    have:=congrArg List.length hm
    simp at this;omega
   subst hkl
   exact loopN_dn (hn st hi)
  | cons x m ih =>
   intro k n st hm hk hn' hi
   obtain ⟨n,rfl⟩ : ∃ j,n=j+1:=⟨n-1,by omega⟩
   have hx:l[k]? = some x:=by
    have:=congrArg List.head? hm
    rw [List.head?_drop] at this;simpa using this
   have hk':k<l.length:=(List.getElem?_eq_some_iff.1 hx).1
   have hm2:l.drop (k+1)=m:=by
    have:=congrArg List.tail hm
    rw [List.tail_drop] at this;simpa using this
   obtain ⟨st',h1,h2,h3⟩:=hc k x m st hm hx hk' hi
   rw [loopN_nx h1,h3]
   exact ih (k+1) n st' hm2 (by omega) (by simp at hn';omega) h2
 exact main l 0 _ st (by simp) (by omega) (by omega) hi
def lastS:ShState→List Entry→ShState
 | s,[]=>s
 | s,x::l=>lastS (true,(x.1,s.2.2)) l
theorem gd_app {β:Type} {out:List Entry} {n:Nat} (h:out.length≤n) (hn:n≤20000) (x:Entry) (k:Unit→Option β):gd (nle (nadd (llen out) (llen [x])) 1048576) k=k ():=gd_le (by simp only [nadd,llen,List.length_cons,List.length_nil];omega) k
theorem Filter_ok {l:List Entry} {bt:Bool} (hl:l.length≤20000) (hr:Rise (false,([],bt)) l):g_shadow_Filter (l,bt)=some (filt (false,([],bt)) l,(0,0)):=by
 unfold g_shadow_Filter g_shadow_Begin
 simp only [nti_eq,llen_eq]
 rw [br_gt,if_neg (by omega),bd_val]
 rw [loop_run (l:=l) (σ:=ShState×List Entry) (s:=(0,(0,(0,((false,([],bt)),[]))))) (λk st=>((0:Int),((k:Int),((0:Int),st))))
  (λm k st=>Rise st.1 m∧st.1.2.1.length≤32∧(st.1.1=false→st.1.2.1=[])∧st.2.length≤k∧k+m.length=l.length)
  (λm k st=>(1,((0,((l.length:Int),(0,(lastS st.1 m,st.2++filt st.1 m)))),()))) ((false,([],bt)),[]) rfl (by omega) ⟨hr,by simp,λ_=>rfl,by simp,by simp⟩ ?_ ?_,bd_val]
 ·simp
  rfl
 ·intro st _
  simp only
  rw [re,br_false]
  simp [lastS,filt]
 ·rintro k x m ⟨s,out⟩ hm hx hk ⟨⟨h1,h2,h3⟩,h4,h5,h6,h7⟩
  simp only at h1 h2 h3 h4 h5 h6 ⊢
  refine ⟨((true,(x.1,s.2.2)),out++if keep s x=true then [x] else []),?_,⟨h3,kE_key h1,(λh=>by cases h),?_,by simp at h7;omega⟩,?_⟩
  ·rw [rl hk,br_true,nat_cast,ix_val hx,shCheck_ok h4 h5,bd_val,br_ne,if_pos rfl,entries_Check_ok,h1,bd_val,br_ne,if_pos rfl]
   unfold keep g_shadow_kept_entry
   obtain ⟨s1,s2,s3⟩:=s
   obtain ⟨x1,x2,x3,x4⟩:=x
   simp only [bd_val,iadd_rng hx (show l.length≤9223372036854775807 by omega)] at h2 ⊢
   have hg : ∀ {β:Type} (k:Unit→Option β),gd (nle (nadd out.length [(x1,(x2,(x3,x4)))].length) 1048576) k=k ():=λk=>gd_app h6 (by simp at h7;omega) (x1,(x2,(x3,x4))) k
   cases s1 with
   | true =>
    have h8:=h2 rfl
    simp only [br_true,br_false,br_seq,h8,hg]
    by_cases he:x1=s2
    ·simp [he]
    ·simp only [he,if_false,decide_false]
     cases s3<;>cases x3<;>simp [br_true,br_false,lapp]
   | false =>
    simp only [br_true,br_false,hg]
    cases s3<;>cases x3<;>simp [br_true,br_false,lapp]
  ·split<;>simp<;>omega
  ·simp only [lastS,filt,List.append_assoc]
end Go.Proofs.YthpkjfabdccpdaaGreat.Pl
namespace Go.Proofs.YthpkjfabdccpdaaGreat.Pl
open Go Go.Proofs.YthpkjfabdccpdaaGreat.Sv
theorem filt_app : ∀ (l:List Entry) (s:ShState) (x:Entry),filt s (l++[x])=filt s l++(if keep (lastS s l) x=true then [x] else [])
 | [],s,x=>by
  show (if keep s x=true then [x] else [])++[]=[]++(if keep s x=true then [x] else [])
  rw [List.append_nil,List.nil_append]
 | y::l,s,x=>by
  show (if keep s y=true then [y] else [])++filt _ (l++[x])=((if keep s y=true then [y] else [])++filt _ l)++_
  rw [filt_app l,List.append_assoc]
  rfl
theorem lastS_app : ∀ (l:List Entry) (s:ShState) (x:Entry),lastS s (l++[x])=(true,(x.1,(lastS s l).2.2))
 | [],s,x=>rfl
 | y::l,s,x=>by simp only [List.cons_append,lastS,lastS_app l]
theorem lastS_bt : ∀ (l:List Entry) (s:ShState),(lastS s l).2.2=s.2.2
 | [],s=>rfl
 | y::l,s=>by rw [lastS,lastS_bt l]
theorem rise_app : ∀ (l:List Entry) (s:ShState) (x:Entry),Rise s l→kE x=0→((lastS s l).1=true→slt x.1 (lastS s l).2.1=false)→Rise s (l++[x])
 | [],s,x,_,h1,h2=>⟨h1,h2,trivial⟩
 | y::l,s,x,⟨h1,h2,h3⟩,h4,h5=>⟨h1,h2,rise_app l _ x h3 h4 h5⟩
theorem last_fine : ∀ (l:List Entry) (s:ShState),Rise s l→s.2.1.length≤32→(s.1=false→s.2.1=[])→(lastS s l).2.1.length≤32∧((lastS s l).1=false→(lastS s l).2.1=[])
 | [],s,_,h1,h2=>⟨h1,h2⟩
 | y::l,s,⟨h3,_,h4⟩,_,_=>last_fine l _ h4 (kE_key h3) (λh=>by cases h)
abbrev s0 (bt:Bool):ShState:=(false,([],bt))
def SsT (a b:List Entry) (bt:Bool) (n:Nat):SlState:=(MsN a b n,(lastS (s0 bt) (mlist a b n),(filt (s0 bt) (mlist a b n),(n:Int))))
def fromL (a b:List Entry):Nat→List Int
 | 0=>[]
 | n+1=>fromL a b n++[(runN a b n:Int)]
theorem fromL_len (a b:List Entry) : ∀ n,(fromL a b n).length=n
 | 0=>rfl
 | n+1=>by simp [fromL,fromL_len a b n]
theorem loop_from {S β:Type} {f:S→Option (LR S β)} {r:β} (mk:Nat→S) (k0 n:Nat) {s:S} (h0:s=mk k0) (hk:k0≤n) (hn:n<18446744073709551616) (hs : ∀ k,k0≤k→k<n→f (mk k)=some (.nx (mk (k+1)))) (he:f (mk n)=some (.dn r)):loop f s=some r:=by
 have h:=loop_for (f:=f) (r:=r) (λk=>mk (k0+k)) (n-k0) (s:=s) h0 (by omega) (λk hk=>hs (k0+k) (by omega) (by omega)) (by show f (mk (k0+(n-k0)))=_;rw [show k0+(n-k0)=n by omega];exact he)
 exact h
theorem alikeE_rfl (l:List Entry) (h:l.length≤100000):g_slices_alike (l,l)=some true:=by
 unfold g_slices_alike
 simp only [nti_eq,llen_eq]
 rw [br_ne,if_pos rfl,loop_go (l:=l) (σ:=Unit) (s:=(false,0)) (λk _=>(false,(k:Int))) (λ_ _ _=>some (1,((false,(l.length:Int)),()))) () rfl (by omega) (λst=>by
  simp only;rw [re];rfl) (λk x m st _ hx hk => .inl ⟨(),by
   simp only;rw [rl hk,br_true,nat_cast,ix_val hx,nat_cast,ix_val hx,seq_rfl,seq_rfl,beq_rfl,show ieq x.2.2.2 x.2.2.2=true by unfold ieq;simp,show bnot (band true (band true (band true (band true true))))=false from rfl,br_false,iadd_rng hx (by omega)],rfl⟩),bd_val]
 rfl
section
variable {a b:List Entry} (va:VL a) (vb:VL b)
include va vb
theorem mlist_succ {n:Nat} {x:Entry} (hx:nxt a b n=some x):mlist a b (n+1)=mlist a b n++[x]:=by
 show (match nxt a b n with
  | some x=>mlist a b n++[x]
  | none=>mlist a b n)=_
 rw [hx]
theorem rise_mlist (bt:Bool) : ∀ {n:Nat},n≤a.length+b.length→Rise (s0 bt) (mlist a b n)
 | 0,_=>trivial
 | n+1,h=>by
  obtain ⟨x,hx,_⟩:=nxt_some va vb (n:=n) (by omega)
  rw [mlist_succ va vb hx]
  refine rise_app _ _ _ (rise_mlist bt (by omega)) (nxt_kE va vb hx) λ_ => ?_
  cases n with
  | zero=>rename_i h1;cases h1
  | succ m =>
   obtain ⟨y,hy,_⟩:=nxt_some va vb (n:=m) (by omega)
   rw [mlist_succ va vb hy,lastS_app]
   exact nxt_asc va vb (by omega) hy hx
theorem last_mlist (bt:Bool) {n:Nat} (h:n≤a.length+b.length):(lastS (s0 bt) (mlist a b n)).2.1.length≤32∧((lastS (s0 bt) (mlist a b n)).1=false→(lastS (s0 bt) (mlist a b n)).2.1=[]) :=
 last_fine _ _ (rise_mlist va vb bt h) (by simp) (λ_=>rfl)
theorem wk_done {n:Nat} (h:n=a.length+b.length):(wk (kx a (pos a b n).1) (kx b (pos a b n).2)).2=true:=by
 obtain ⟨hI,hs⟩:=pos_ok va vb (n:=n) (by omega)
 have h1:=hI.ia
 have h2:=hI.jb
 rw [kx_none (List.getElem?_eq_none (by omega)),kx_none (List.getElem?_eq_none (by omega))]
 rfl
theorem wk_live {n:Nat} {x:Entry} (hx:nxt a b n=some x):(wk (kx a (pos a b n).1) (kx b (pos a b n).2)).2=false∧wn (kx a (pos a b n).1) (kx b (pos a b n).2)=runN a b n:=by
 unfold nxt at hx
 unfold runN
 cases g:goA a b (pos a b n).1 (pos a b n).2 with
 | true=>rw [if_pos g] at hx;rw [(wk_a g).1,(wk_a g).2,kx_some hx];exact ⟨rfl,rfl⟩
 | false=>rw [if_neg (by simp [g])] at hx;rw [(wk_b g).1,(wk_b g).2,kx_some hx];exact ⟨rfl,rfl⟩
theorem mAll_ok:g_merge_All [a,b]=some (mlist a b (a.length+b.length),(fromL a b (a.length+b.length),0)):=by
 have la:=va.len
 have lb:=vb.len
 unfold g_merge_All
 rw [mcheck_two va vb,bd_val,br_ne,if_pos rfl]
 refine Eq.trans (b:=bd (loop _ (0,[([],false),([],false)])) _) rfl ?_
 refine bd_eq (x:=(0,((2,[kx a 0,kx b 0]),()))) (loop_two (s1:=(1,[kx a 0,([],false)])) (s2:=(2,[kx a 0,kx b 0])) ?_ ?_ rfl) ?_
 ·show bd (g_merge_next (a,((0:Nat):Int))) _=_
  rw [next_ok (by omega)];rfl
 ·show bd (g_merge_next (b,((0:Nat):Int))) _=_
  rw [next_ok (by omega)];rfl
 rw [show ((0:Nat),(((2:Int),[kx a 0,kx b 0]),())).2.1.2=[kx a 0,kx b 0] from rfl,build_two (kx_fine _ _) (kx_fine _ _),bd_val]
 refine bd_eq (x:=(0,((mlist a b (a.length+b.length),(fromL a b (a.length+b.length),((),([((pos a b (a.length+b.length)).1:Int),((pos a b (a.length+b.length)).2:Int)],Tt (kx a (pos a b (a.length+b.length)).1) (kx b (pos a b (a.length+b.length)).2))))),())))
  (loop_from (λk=>(mlist a b k,(fromL a b k,((),([((pos a b k).1:Int),((pos a b k).2:Int)],Tt (kx a (pos a b k).1) (kx b (pos a b k).2)))))) 0 (a.length+b.length) rfl (by omega) (by omega) (λk _ hk => ?_) ?_) rfl
 ·obtain ⟨x,hx,_⟩:=nxt_some va vb (n:=k) hk
  obtain ⟨w1,w2⟩:=wk_live va vb hx
  obtain ⟨hI,hs⟩:=pos_ok va vb (n:=k) (by omega)
  have hl1:(mlist a b k).length=k:=mlist_len va vb (by omega)
  have hl2:=fromL_len a b k
  simp only
  rw [winner_two (kx_fine _ _) (kx_fine _ _),if_neg (by simp [w1]),bd_val,br_ne,if_pos rfl,w2]
  rw [mlist_succ va vb hx]
  unfold nxt at hx
  rw [show fromL a b (k+1)=fromL a b k++[(runN a b k:Int)] from rfl]
  unfold runN
  rw [show pos a b (k+1)=if goA a b (pos a b k).1 (pos a b k).2=true then ((pos a b k).1+1,(pos a b k).2) else ((pos a b k).1,(pos a b k).2+1) from rfl]
  have g1 : ∀ {β:Type} (y:Entry) (q:Unit→Option β),gd (nle (nadd (llen (mlist a b k)) (llen [y])) 1048576) q=q ():=λy q=>gd_le (by simp only [nadd,llen,hl1,List.length_cons,List.length_nil];omega) q
  have g2 : ∀ {β:Type} (y:Int) (q:Unit→Option β),gd (nle (nadd (llen (fromL a b k)) (llen [y])) 1048576) q=q ():=λy q=>gd_le (by simp only [nadd,llen,hl2,List.length_cons,List.length_nil];omega) q
  cases g:goA a b (pos a b k).1 (pos a b k).2 with
  | true =>
   rw [if_pos g] at hx
   obtain ⟨hkk,_⟩:=wk_a g
   obtain ⟨m,hr⟩:=replace_two (p:=kx a (pos a b k).1) (q:=kx b (pos a b k).2) (k:=kx a ((pos a b k).1+1)) (kx_fine _ _) (kx_fine _ _) (kx_fine _ _) w1 (by rw [hkk,kx_some hx];exact kx_next va hx)
   have hrk:rk (kx a (pos a b k).1) (kx b (pos a b k).2) (kx a ((pos a b k).1+1))=(kx a ((pos a b k).1+1),kx b (pos a b k).2):=by
    unfold rk;unfold goA at g;rw [if_pos g]
   rw [hrk] at hr
   have hi:=(List.getElem?_eq_some_iff.1 hx).1
   simp only [if_true]
   refine (ngx 0 rfl (x:=a) rfl).trans ((ngx 0 rfl (x:=((pos a b k).1:Int)) rfl).trans ((ndx _ rfl hx).trans ?_))
   rw [g1,g2]
   refine (ngx 0 rfl (x:=((pos a b k).1:Int)) rfl).trans ((ngx 0 rfl (x:=((pos a b k).1:Int)) rfl).trans ((ngx 0 rfl (x:=a) rfl).trans ((ngx 0 rfl (x:=iadd .i64 ((pos a b k).1:Int) 1) rfl).trans ?_)))
   rw [iadd_nat (by omega),next_ok (by omega),bd_val,hr,bd_val]
   rfl
  | false =>
   rw [if_neg (by simp [g])] at hx
   obtain ⟨hkk,_⟩:=wk_b g
   obtain ⟨m,hr⟩:=replace_two (p:=kx a (pos a b k).1) (q:=kx b (pos a b k).2) (k:=kx b ((pos a b k).2+1)) (kx_fine _ _) (kx_fine _ _) (kx_fine _ _) w1 (by rw [hkk,kx_some hx];exact kx_next vb hx)
   have hrk:rk (kx a (pos a b k).1) (kx b (pos a b k).2) (kx b ((pos a b k).2+1))=(kx a (pos a b k).1,kx b ((pos a b k).2+1)):=by
    unfold rk;unfold goA at g;rw [if_neg (by simp [g])]
   rw [hrk] at hr
   have hi:=(List.getElem?_eq_some_iff.1 hx).1
   simp only [Bool.false_eq_true,if_false]
   refine (ngx 1 rfl (x:=b) rfl).trans ((ngx 1 rfl (x:=((pos a b k).2:Int)) rfl).trans ((ndx _ rfl hx).trans ?_))
   rw [g1,g2]
   refine (ngx 1 rfl (x:=((pos a b k).2:Int)) rfl).trans ((ngx 1 rfl (x:=((pos a b k).2:Int)) rfl).trans ((ngx 1 rfl (x:=b) rfl).trans ((ngx 1 rfl (x:=iadd .i64 ((pos a b k).2:Int) 1) rfl).trans ?_)))
   rw [iadd_nat (by omega),next_ok (by omega),bd_val,hr,bd_val]
   rfl
 ·simp only
  rw [winner_two (kx_fine _ _) (kx_fine _ _),if_pos (wk_done va vb rfl),bd_val,br_ne,if_neg (by decide),br_ne,if_neg (by decide)]
end
end Go.Proofs.YthpkjfabdccpdaaGreat.Pl
namespace Go.Proofs.YthpkjfabdccpdaaGreat.Pl
open Go Go.Proofs.YthpkjfabdccpdaaGreat.Sv
theorem gd_app' {β:Type} {out:List Entry} {n:Nat} (h:out.length≤n) (hn:n≤20000) (x:Entry) (k:Unit→Option β):gd (nle (nadd out.length [x].length) 1048576) k=k ():=gd_app h hn x k
section
variable {a b:List Entry} (va:VL a) (vb:VL b)
include va vb
theorem mlist_full_take {n:Nat} (h:n≤a.length+b.length):(mlist a b (a.length+b.length)).take n=mlist a b n:=mlist_take va vb (Nat.le_refl _) h
theorem lastS_mlist {n:Nat} {x:Entry} (bt:Bool) (hx:nxt a b n=some x):lastS (s0 bt) (mlist a b (n+1))=(true,(x.1,bt)):=by
 rw [mlist_succ va vb hx,lastS_app,lastS_bt]
theorem slCheck_ok (bt:Bool) {n:Nat} (h:n≤a.length+b.length):g_slices_Check (SsT a b bt n)=some 0:=by
 obtain ⟨hI,hs⟩:=pos_ok va vb (n:=n) h
 have la:=va.len
 have lb:=vb.len
 have hfl:=filt_len (s0 bt) (mlist a b n)
 have hml:(mlist a b n).length=n:=mlist_len va vb h
 unfold g_slices_Check
 rw [show (SsT a b bt n).1=Mst a b (pos a b n).1 (pos a b n).2 from rfl,mCheck_ok va vb hI,bd_val,br_ne,if_pos rfl]
 refine bd_eq (x:=(0,((2,(n:Int)),()))) (loop_two (s1:=(1,((pos a b n).1:Int))) (s2:=(2,(n:Int))) ?_ ?_ rfl) ?_
 ·refine (rdx 0 rfl rfl (x:=((pos a b n).1:Int)) rfl).trans ?_
  show some (LR.nx ((1:Int),iadd .i64 0 ((pos a b n).1:Int)))=_
  rw [iadd_in (by omega),Int.zero_add]
 ·refine (rdx 1 rfl rfl (x:=((pos a b n).2:Int)) rfl).trans ?_
  show some (LR.nx ((2:Int),iadd .i64 ((pos a b n).1:Int) ((pos a b n).2:Int)))=_
  rw [iadd_in (by omega),show ((pos a b n).1:Int)+((pos a b n).2:Int)=(n:Int) by omega]
 simp only [nti_eq,llen_eq]
 rw [show (SsT a b bt n).2.2.1=filt (s0 bt) (mlist a b n) from rfl,show (SsT a b bt n).2.2.2=(n:Int) from rfl,show (SsT a b bt n).2.1=lastS (s0 bt) (mlist a b n) from rfl,br_gt,if_neg (by omega),br_gt,if_neg (by omega),br_ne,if_pos rfl]
 rw [show (Mst a b (pos a b n).1 (pos a b n).2).1=[a,b] from rfl,mAll_ok va vb,bd_val,br_ne,if_pos rfl,nat_cast]
 rw [gd_le (by rw [mlist_len va vb (Nat.le_refl _)];exact h),gd_le (Nat.zero_le _)]
 rw [show lsub (mlist a b (a.length+b.length)) 0 n=mlist a b n from by unfold lsub;rw [List.drop_zero,Nat.sub_zero];exact mlist_full_take va vb h,lastS_bt]
 rw [show (s0 bt).2.2=bt from rfl,Filter_ok (by omega) (rise_mlist va vb bt h),bd_val,br_ne,if_pos rfl]
 unfold g_shadow_Begin
 rw [bd_val,br_gt]
 cases n with
 | zero =>
  rw [if_neg (by omega),alikeE_rfl _ (by omega),bd_val,bnot_t,br_false]
  show br (bnot (band (Sv.beq false false) (band (seq [] []) (band (Sv.beq bt bt) true)))) _ _=_
  rw [beq_rfl,beq_rfl,seq_rfl];rfl
 | succ m =>
  obtain ⟨x,hx,_⟩:=nxt_some va vb (n:=m) (by omega)
  rw [if_pos (by omega),show isub .i64 ((m+1:Nat):Int) 1=(m:Int) by rw [isub_in (by omega)];omega,nat_cast]
  rw [ix_val (x:=x) (by rw [mlist_get va vb (Nat.le_refl _) (by omega)];exact hx),alikeE_rfl _ (by omega),bd_val,bnot_t,br_false,lastS_mlist va vb bt hx]
  rw [beq_rfl,beq_rfl,seq_rfl];rfl
theorem mLeft_ok {n:Nat} (h:n≤a.length+b.length):g_merge_Left (MsN a b n)=some (((a.length+b.length-n:Nat):Int),0):=by
 obtain ⟨hI,hs⟩:=pos_ok va vb (n:=n) h
 have la:=va.len
 have lb:=vb.len
 have ha:=hI.ia
 have hb:=hI.jb
 unfold g_merge_Left
 rw [show MsN a b n=Mst a b (pos a b n).1 (pos a b n).2 from rfl,mCheck_ok va vb hI,bd_val,br_ne,if_pos rfl]
 refine bd_eq (x:=(0,((2,((a.length+b.length-n:Nat):Int)),()))) (loop_two (s1:=(1,(a.length:Int)-((pos a b n).1:Int))) (s2:=(2,((a.length+b.length-n:Nat):Int))) ?_ ?_ rfl) rfl
 ·refine (rdx 0 rfl rfl (x:=a) rfl).trans ((ndx 0 rfl (x:=((pos a b n).1:Int)) rfl).trans ?_)
  simp only [nti_eq,llen_eq]
  rw [isub_in (by omega)]
  show some (LR.nx ((1:Int),iadd .i64 0 ((a.length:Int)-((pos a b n).1:Int))))=_
  rw [iadd_in (by omega),Int.zero_add]
 ·refine (rdx 1 rfl rfl (x:=b) rfl).trans ((ndx 1 rfl (x:=((pos a b n).2:Int)) rfl).trans ?_)
  simp only [nti_eq,llen_eq]
  rw [isub_in (by omega)]
  show some (LR.nx ((2:Int),iadd .i64 ((a.length:Int)-((pos a b n).1:Int)) ((b.length:Int)-((pos a b n).2:Int))))=_
  rw [iadd_in (by omega),show (a.length:Int)-((pos a b n).1:Int)+((b.length:Int)-((pos a b n).2:Int))=((a.length+b.length-n:Nat):Int) by omega]
theorem slLeft_ok (bt:Bool) {n:Nat} (h:n≤a.length+b.length):g_slices_Left (SsT a b bt n)=some (((a.length+b.length-n:Nat):Int),0):=by
 unfold g_slices_Left
 rw [slCheck_ok va vb bt h,bd_val,br_ne,if_pos rfl,show (SsT a b bt n).1=MsN a b n from rfl,mLeft_ok va vb h];rfl
theorem SsT_succ (bt:Bool) {n:Nat} {x:Entry} (hx:nxt a b n=some x):SsT a b bt (n+1)=(MsN a b (n+1),((true,(x.1,bt)),(filt (s0 bt) (mlist a b n)++(if keep (lastS (s0 bt) (mlist a b n)) x=true then [x] else []),((n+1:Nat):Int)))):=by
 unfold SsT
 rw [mlist_succ va vb hx,lastS_app,lastS_bt,filt_app]
theorem shStep_mlist (bt:Bool) {n:Nat} {x:Entry} (hn:n<a.length+b.length) (hx:nxt a b n=some x):g_shadow_Step (lastS (s0 bt) (mlist a b n),x)=some (keep (lastS (s0 bt) (mlist a b n)) x,((true,(x.1,bt)),0)):=by
 have hlm:=last_mlist va vb bt (n:=n) (by omega)
 rw [shStep_ok hlm.1 hlm.2 (nxt_kE va vb hx),lastS_bt]
 intro h1
 cases n with
 | zero=>cases h1
 | succ m =>
  obtain ⟨y,hy,_⟩:=nxt_some va vb (n:=m) (by omega)
  rw [lastS_mlist va vb bt hy]
  exact nxt_asc va vb (by omega) hy hx
def stF (k:Int) (s:SlState):Int×(Int×(List (List Entry)×(List Int×(List LsKey×(List Int×(Int×(Bool×(Key×(Bool×(List Entry×Int)))))))))) :=
 (k,(0,(s.1.1,(s.1.2.1,(s.1.2.2.1,(s.1.2.2.2.1,(s.1.2.2.2.2,(s.2.1.1,(s.2.1.2.1,(s.2.1.2.2,(s.2.2.1,s.2.2.2)))))))))))
theorem slStep_ok (bt:Bool) {n:Nat} (h:n≤a.length+b.length) {k:Nat}:g_slices_Step (SsT a b bt n,(k:Int))=some (SsT a b bt (n+min k (a.length+b.length-n)),(((min k (a.length+b.length-n):Nat):Int),0)):=by
 have la:=va.len
 have lb:=vb.len
 have hml : ∀ m,m≤a.length+b.length→(filt (s0 bt) (mlist a b m)).length≤m:=λm hm=>by have:=filt_len (s0 bt) (mlist a b m);have:=mlist_len va vb hm;omega
 obtain ⟨u,hu⟩ : ∃ u,u=min k (a.length+b.length-n):=⟨_,rfl⟩
 have him:imn (k:Int) ((a.length+b.length-n:Nat):Int)=(u:Int):=by
  unfold imn;split<;>omega
 rw [← hu]
 unfold g_slices_Step
 rw [slLeft_ok va vb bt h,bd_val,br_ne,if_pos rfl]
 simp only [him,nti_eq,llen_eq]
 rw [br_lt,if_neg (by omega),show (SsT a b bt n).2.2.2=(n:Int) from rfl,iadd_in (by omega),br_gt,if_neg (by omega)]
 rw [show (SsT a b bt n).2.2.1=filt (s0 bt) (mlist a b n) from rfl,show (SsT a b bt n).1=MsN a b n from rfl,gd_le (by have:=hml n h;omega),gd_le (show (MsN a b n).2.1.length≤1048576 from (show 2≤1048576 by omega)),br_lt]
 by_cases h0:u=0
 ·rw [h0,if_neg (by omega)];rfl
 rw [if_pos (by omega)]
 obtain ⟨x,hx,_⟩:=nxt_some va vb (n:=n) (by omega)
 rw [mNext_ok va vb (by omega) hx,bd_val,br_ne,if_pos rfl,show (SsT a b bt n).2.1=lastS (s0 bt) (mlist a b n) from rfl,shStep_mlist va vb bt (by omega) hx,bd_val,br_ne,if_pos rfl]
 have hl : ∀ j,1≤j→j<u → ∃ y,nxt a b (n+j)=some y:=λj h1 h2=>by
  obtain ⟨y,hy,_⟩:=nxt_some va vb (n:=n+j) (by omega)
  exact ⟨y,hy⟩
 rw [br_b]
 have hS:=SsT_succ va vb bt hx
 cases hk:keep (lastS (s0 bt) (mlist a b n)) x with
 | true =>
  rw [hk] at hS
  rw [if_pos rfl,gd_app' (hml n h) (by omega)]
  refine bd_eq (x:=(1,(stF u (SsT a b bt (n+u)),()))) (loop_from (λj=>stF j (SsT a b bt (n+j))) 1 u ?_ (by omega) (by omega) (λj h1 h2 => ?_) ?_) ?_
  ·rw [hS,show iadd .i64 (n:Int) 1=((n+1:Nat):Int) from iadd_nat (by omega)];rfl
  ·obtain ⟨y,hy⟩:=hl j h1 h2
   show br (ilt (j:Int) (u:Int)) _ _=_
   rw [br_lt,if_pos (by omega)]
   show bd (g_merge_Next (MsN a b (n+j))) _=_
   rw [mNext_ok va vb (by omega) hy,bd_val,br_ne,if_pos rfl]
   show bd (g_shadow_Step (lastS (s0 bt) (mlist a b (n+j)),y)) _=_
   rw [shStep_mlist va vb bt (by omega) hy,bd_val,br_ne,if_pos rfl,br_b,show n+(j+1)=n+j+1 by omega,SsT_succ va vb bt hy]
   cases hk2:keep (lastS (s0 bt) (mlist a b (n+j))) y with
   | true =>
    rw [if_pos rfl,if_pos rfl]
    show gd (nle (nadd (llen (filt (s0 bt) (mlist a b (n+j)))) (llen [y])) 1048576) _=_
    rw [gd_app (hml _ (by omega)) (by omega)]
    show some (LR.nx (iadd .i64 (j:Int) 1,_))=_
    unfold stF
    simp only [iadd_nat (show j+1≤9223372036854775807 by omega),lapp]
    rw [show iadd .i64 (SsT a b bt (n+j)).2.2.2 1=((n+j+1:Nat):Int) from iadd_nat (by omega)]
    rfl
   | false =>
    rw [if_neg (by simp),if_neg (by simp)]
    show some (LR.nx (iadd .i64 (j:Int) 1,_))=_
    unfold stF
    simp only [iadd_nat (show j+1≤9223372036854775807 by omega)]
    rw [show iadd .i64 (SsT a b bt (n+j)).2.2.2 1=((n+j+1:Nat):Int) from iadd_nat (by omega),List.append_nil]
    rfl
  ·show br (ilt (u:Int) (u:Int)) _ _=_
   rw [br_lt,if_neg (by omega)]
  ·rfl
 | false =>
  rw [hk] at hS
  rw [if_neg (by simp)]
  refine bd_eq (x:=(1,(stF u (SsT a b bt (n+u)),()))) (loop_from (λj=>stF j (SsT a b bt (n+j))) 1 u ?_ (by omega) (by omega) (λj h1 h2 => ?_) ?_) ?_
  ·rw [hS,show iadd .i64 (n:Int) 1=((n+1:Nat):Int) from iadd_nat (by omega),if_neg (by simp),List.append_nil];rfl
  ·obtain ⟨y,hy⟩:=hl j h1 h2
   show br (ilt (j:Int) (u:Int)) _ _=_
   rw [br_lt,if_pos (by omega)]
   show bd (g_merge_Next (MsN a b (n+j))) _=_
   rw [mNext_ok va vb (by omega) hy,bd_val,br_ne,if_pos rfl]
   show bd (g_shadow_Step (lastS (s0 bt) (mlist a b (n+j)),y)) _=_
   rw [shStep_mlist va vb bt (by omega) hy,bd_val,br_ne,if_pos rfl,br_b,show n+(j+1)=n+j+1 by omega,SsT_succ va vb bt hy]
   cases hk2:keep (lastS (s0 bt) (mlist a b (n+j))) y with
   | true =>
    rw [if_pos rfl,if_pos rfl]
    show gd (nle (nadd (llen (filt (s0 bt) (mlist a b (n+j)))) (llen [y])) 1048576) _=_
    rw [gd_app (hml _ (by omega)) (by omega)]
    show some (LR.nx (iadd .i64 (j:Int) 1,_))=_
    unfold stF
    simp only [iadd_nat (show j+1≤9223372036854775807 by omega),lapp]
    rw [show iadd .i64 (SsT a b bt (n+j)).2.2.2 1=((n+j+1:Nat):Int) from iadd_nat (by omega)]
    rfl
   | false =>
    rw [if_neg (by simp),if_neg (by simp)]
    show some (LR.nx (iadd .i64 (j:Int) 1,_))=_
    unfold stF
    simp only [iadd_nat (show j+1≤9223372036854775807 by omega)]
    rw [show iadd .i64 (SsT a b bt (n+j)).2.2.2 1=((n+j+1:Nat):Int) from iadd_nat (by omega),List.append_nil]
    rfl
  ·show br (ilt (u:Int) (u:Int)) _ _=_
   rw [br_lt,if_neg (by omega)]
  ·rfl
end
end Go.Proofs.YthpkjfabdccpdaaGreat.Pl
namespace Go.Proofs.YthpkjfabdccpdaaGreat.Pl
open Go Go.Proofs.YthpkjfabdccpdaaGreat.Sv
theorem loop_q {α β σ S:Type} {l:List α} (mk:Nat→σ→S) (I:List α→Nat→σ→Prop) (Q:β→Prop) {f:S→Option (LR S β)} {s:S} (st:σ) (h0:s=mk 0 st) (hl:l.length≤9223372036854775807) (hi:I l 0 st)
  (hn : ∀ st,I [] l.length st → ∃ r,f (mk l.length st)=some (.dn r)∧Q r)
  (hc : ∀ k x m st,l.drop k=x::m→l[k]? = some x→k<l.length→I (x::m) k st→(∃ st',f (mk k st)=some (.nx (mk (k+1) st'))∧I m (k+1) st') ∨ ∃ r,f (mk k st)=some (.dn r)∧Q r) : ∃ r,loop f s=some r∧Q r:=by
 subst h0
 have main : ∀ (m:List α) (k n:Nat) (st:σ),l.drop k=m→k≤l.length→m.length<n→I m k st → ∃ r,loopN n f (mk k st)=some r∧Q r:=by
  intro m
  induction m with
  | nil =>
   intro k n st hm hk hn' hi
   obtain ⟨n,rfl⟩ : ∃ j,n=j+1:=⟨n-1,by omega⟩
   have hkl:k=l.length:=by
    have:=congrArg List.length hm
    simp at this;omega
   subst hkl
   obtain ⟨r,h1,h2⟩:=hn st hi
   exact ⟨r,loopN_dn h1,h2⟩
  | cons x m ih =>
   intro k n st hm hk hn' hi
   obtain ⟨n,rfl⟩ : ∃ j,n=j+1:=⟨n-1,by omega⟩
   have hx:l[k]? = some x:=by
    have:=congrArg List.head? hm
    rw [List.head?_drop] at this;simpa using this
   have hk':k<l.length:=(List.getElem?_eq_some_iff.1 hx).1
   have hm2:l.drop (k+1)=m:=by
    have:=congrArg List.tail hm
    rw [List.tail_drop] at this;simpa using this
   rcases hc k x m st hm hx hk' hi with ⟨st',h1,h2⟩ | ⟨r,h1,h2⟩
   ·rw [loopN_nx h1]
    exact ih (k+1) n st' hm2 (by omega) (by simp at hn';omega) h2
   ·exact ⟨r,loopN_dn h1,h2⟩
 exact main l 0 _ st (by simp) (by omega) (by omega) hi
theorem loop_eqs {α:Type} (l m:List α) (hl:l.length=m.length) (hb:l.length≤9223372036854775806) {f:(Int×Bool)→Option (LR (Int×Bool) (Nat×((Int×Bool)×Unit)))}
  (hs : ∀ (k:Nat) x y,l[k]? = some x→m[k]? = some y→(x=y→f ((k:Int),false)=some (.nx (((k+1:Nat):Int),false)))∧(x≠y→f ((k:Int),false)=some (.dn (0,(((k:Int),false),())))))
  (he:f ((l.length:Int),false)=some (.dn (1,(((l.length:Int),false),())))) :
  ∃ r,loop f (0,false)=some r∧((l=m∧r.1=1)∨(l≠m∧r.1=0∧r.2.1.2=false)):=by
 refine loop_q (l:=l) (σ:=Unit) (λk _=>((k:Int),false)) (λt k _=>t=l.drop k∧l.take k=m.take k) _ () rfl (by omega) ⟨by simp,by simp⟩ (λst h => ?_) (λk x t st hd hx hk h => ?_)
 ·refine ⟨_,he,.inl ⟨?_,rfl⟩⟩
  have:=h.2
  rw [List.take_length,hl,List.take_length] at this
  exact this
 ·have hk2:k<m.length:=by omega
  have hy:m[k]? = some m[k]:=by simp [hk2]
  by_cases e:x=m[k]
  ·refine .inl ⟨(),(hs k x m[k] hx hy).1 e,?_,?_⟩
   ·have:=congrArg List.tail hd
    rw [List.tail_drop] at this;simp at this;exact this.symm
   ·rw [List.take_add_one,List.take_add_one,h.2,hx,hy,e]
  ·refine .inr ⟨_,(hs k x m[k] hx hy).2 e,.inr ⟨?_,rfl,rfl⟩⟩
   intro e2
   subst e2
   rw [hx] at hy
   exact e (Option.some.inj hy)
theorem beq_eq (a b:Bool):Sv.beq a b=decide (a=b):=by cases a<;>cases b<;>rfl
theorem ieq_eq (a b:Int):ieq a b=decide (a=b):=by
 unfold ieq
 by_cases h:a=b<;>simp [h]
theorem band_eq (p q:Prop) [Decidable p] [Decidable q]:band (decide p) (decide q)=decide (p∧q):=by unfold band;simp
theorem bnot_eq (p:Prop) [Decidable p]:bnot (decide p)=decide (¬ p):=by unfold bnot;simp
theorem band_tr (a:Bool):band a true=a:=by cases a<;>rfl
theorem eqKeys_ok (l m:List LsKey) (hb:l.length≤9223372036854775806):g_slices_Equal_LsKey_LsKey (l,m)=some (decide (l=m)):=by
 unfold g_slices_Equal_LsKey_LsKey
 simp only [nti_eq,llen_eq]
 rw [br_ne]
 by_cases hl:(l.length:Int)=(m.length:Int)
 ·rw [if_pos hl]
  have hl2:l.length=m.length:=by omega
  obtain ⟨r,h1,h2⟩:=loop_eqs l m hl2 hb (f:=λs0=>br (ilt s0.1 (l.length:Int)) (λ_=>nat s0.1 λk1=>ix l k1 λx2=>nat s0.1 λk3=>ix m k3 λx4=>br (bnot (band (seq x2.1 x4.1) (band (Sv.beq x2.2 x4.2) true))) (λ_=>some (.dn ((0,((s0.1,false),()))))) λ_=>some (.nx (iadd .i64 s0.1 1,s0.2))) λ_=>some (.dn ((1,(s0,()))))) (λk x y hx hy=>by
    have hk:=(List.getElem?_eq_some_iff.1 hx).1
    have he : ∀ {β:Type} (u v:Unit→Option β),br (bnot (band (seq x.1 y.1) (band (Sv.beq x.2 y.2) true))) u v=if x=y then v () else u ():=by
     intro β u v
     rw [band_tr,seq_eq,beq_eq,band_eq,bnot_eq,br_dec]
     by_cases e:x=y
     ·subst e;simp
     ·rw [if_pos (λh=>e (Prod.ext h.1 h.2)),if_neg e]
    constructor
    ·intro e
     simp only
     rw [rl hk,br_true,nat_cast,ix_val hx,nat_cast,ix_val hy,he,if_pos e,iadd_nat (by omega)]
    ·intro e
     simp only
     rw [rl hk,br_true,nat_cast,ix_val hx,nat_cast,ix_val hy,he,if_neg e]) (by simp only;rw [re];rfl)
  refine bd_eq h1 ?_
  rcases h2 with ⟨e,h2⟩ | ⟨e,h2,h3⟩
  ·rw [br_neq,h2];simp [e]
  ·rw [br_neq,h2];simp [e,h3]
 ·rw [if_neg hl]
  have : ¬ l=m:=λe=>hl (by rw [e])
  simp [this]
theorem eqInts_ok (l m:List Int) (hb:l.length≤9223372036854775806):g_slices_Equal_int_int (l,m)=some (decide (l=m)):=by
 unfold g_slices_Equal_int_int
 simp only [nti_eq,llen_eq]
 rw [br_ne]
 by_cases hl:(l.length:Int)=(m.length:Int)
 ·rw [if_pos hl]
  have hl2:l.length=m.length:=by omega
  obtain ⟨r,h1,h2⟩:=loop_eqs l m hl2 hb (f:=λs0=>br (ilt s0.1 (l.length:Int)) (λ_=>nat s0.1 λk1=>ix l k1 λx2=>nat s0.1 λk3=>ix m k3 λx4=>br (ine x2 x4) (λ_=>some (.dn ((0,((s0.1,false),()))))) λ_=>some (.nx (iadd .i64 s0.1 1,s0.2))) λ_=>some (.dn ((1,(s0,()))))) (λk x y hx hy=>by
    have hk:=(List.getElem?_eq_some_iff.1 hx).1
    constructor
    ·intro e
     simp only
     rw [rl hk,br_true,nat_cast,ix_val hx,nat_cast,ix_val hy,br_ne,if_pos e,iadd_nat (by omega)]
    ·intro e
     simp only
     rw [rl hk,br_true,nat_cast,ix_val hx,nat_cast,ix_val hy,br_ne,if_neg e]) (by simp only;rw [re];rfl)
  refine bd_eq h1 ?_
  rcases h2 with ⟨e,h2⟩ | ⟨e,h2,h3⟩
  ·rw [br_neq,h2];simp [e]
  ·rw [br_neq,h2];simp [e,h3]
 ·rw [if_neg hl]
  have : ¬ l=m:=λe=>hl (by rw [e])
  simp [this]
theorem br_entry {β:Type} (x y:Entry) (u v:Unit→Option β):br (bnot (band (seq x.1 y.1) (band (seq x.2.1 y.2.1) (band (Sv.beq x.2.2.1 y.2.2.1) (band (ieq x.2.2.2 y.2.2.2) true))))) u v=if x=y then v () else u ():=by
 rw [band_tr,seq_eq,seq_eq,beq_eq,ieq_eq,band_eq,band_eq,band_eq,bnot_eq,br_dec]
 by_cases e:x=y
 ·subst e;simp
 ·rw [if_pos (λh=>e (Prod.ext h.1 (Prod.ext h.2.1 (Prod.ext h.2.2.1 h.2.2.2)))),if_neg e]
theorem eqEntries_ok (l m:List Entry) (hb:l.length≤9223372036854775806):g_slices_Equal_Entry_Entry (l,m)=some (decide (l=m)):=by
 unfold g_slices_Equal_Entry_Entry
 simp only [nti_eq,llen_eq]
 rw [br_ne]
 by_cases hl:(l.length:Int)=(m.length:Int)
 ·rw [if_pos hl]
  have hl2:l.length=m.length:=by omega
  obtain ⟨r,h1,h2⟩:=loop_eqs l m hl2 hb (f:=λs0=>br (ilt s0.1 (l.length:Int)) (λ_=>nat s0.1 λk1=>ix l k1 λx2=>nat s0.1 λk3=>ix m k3 λx4=>br (bnot (band (seq x2.1 x4.1) (band (seq x2.2.1 x4.2.1) (band (Sv.beq x2.2.2.1 x4.2.2.1) (band (ieq x2.2.2.2 x4.2.2.2) true))))) (λ_=>some (.dn ((0,((s0.1,false),()))))) λ_=>some (.nx (iadd .i64 s0.1 1,s0.2))) λ_=>some (.dn ((1,(s0,()))))) (λk x y hx hy=>by
    have hk:=(List.getElem?_eq_some_iff.1 hx).1
    constructor
    ·intro e
     simp only
     rw [rl hk,br_true,nat_cast,ix_val hx,nat_cast,ix_val hy,br_entry,if_pos e,iadd_nat (by omega)]
    ·intro e
     simp only
     rw [rl hk,br_true,nat_cast,ix_val hx,nat_cast,ix_val hy,br_entry,if_neg e]) (by simp only;rw [re];rfl)
  refine bd_eq h1 ?_
  rcases h2 with ⟨e,h2⟩ | ⟨e,h2,h3⟩
  ·rw [br_neq,h2];simp [e]
  ·rw [br_neq,h2];simp [e,h3]
 ·rw [if_neg hl]
  have : ¬ l=m:=λe=>hl (by rw [e])
  simp [this]
theorem sameEntries_ok (l m:List Entry) (hb:l.length≤9223372036854775806):g_jobs_sameEntries (l,m)=some (decide (l=m)):=by
 unfold g_jobs_sameEntries
 rw [eqEntries_ok l m hb];rfl
instance:DecidableEq Entry:=inferInstance
instance:DecidableEq (List Entry):=inferInstance
instance:DecidableEq (List (List Entry)):=inferInstance
instance:DecidableEq LsKey:=inferInstance
instance:DecidableEq LsTree:=inferInstance
instance:DecidableEq MgState:=inferInstance
instance:DecidableEq ShState:=inferInstance
instance:DecidableEq SlState:=inferInstance
theorem jobsSame_ok (x y:SlState) (h1:x.1.1.length≤1000) (h2 : ∀ l∈x.1.1,l.length≤1000000) (h3:x.1.2.1.length≤1000) (h4:x.1.2.2.1.length≤1000) (h5:x.1.2.2.2.1.length≤1000) (h6:x.2.2.1.length≤1000000):g_jobs_same (x,y)=some (decide (x=y)):=by
 obtain ⟨⟨xr,xa,xk,xl,xw⟩,⟨xs,xt,xb⟩,xo,xn⟩:=x
 obtain ⟨⟨yr,ya,yk,yl,yw⟩,⟨ys,yt,yb⟩,yo,yn⟩:=y
 simp only at h1 h2 h3 h4 h5 h6
 unfold g_jobs_same
 simp only [nti_eq,llen_eq]
 rw [br_ne]
 by_cases hl:(xr.length:Int)=(yr.length:Int)
 ·rw [if_pos hl]
  have hl2:xr.length=yr.length:=by omega
  obtain ⟨r,q1,q2⟩:=loop_eqs xr yr hl2 (by omega) (f:=λs0=>br (ilt s0.1 (xr.length:Int)) (λ_=>nat s0.1 λk1=>ix xr k1 λx2=>nat s0.1 λk3=>ix yr k3 λx4=>bd (g_jobs_sameEntries (x2,x4)) λr5=>br (bnot r5) (λ_=>some (.dn ((0,((s0.1,false),()))))) λ_=>some (.nx (iadd .i64 s0.1 1,s0.2))) λ_=>some (.dn ((1,(s0,()))))) (λk x y hx hy=>by
    have hk:=(List.getElem?_eq_some_iff.1 hx).1
    have hx1:=h2 x (List.mem_of_getElem? hx)
    constructor
    ·intro e
     simp only
     rw [rl hk,br_true,nat_cast,ix_val hx,nat_cast,ix_val hy,sameEntries_ok _ _ (by omega),bd_val,bnot_eq,br_dec,if_neg (by simp [e]),iadd_nat (by omega)]
    ·intro e
     simp only
     rw [rl hk,br_true,nat_cast,ix_val hx,nat_cast,ix_val hy,sameEntries_ok _ _ (by omega),bd_val,bnot_eq,br_dec,if_pos e]) (by simp only;rw [re];rfl)
  refine bd_eq q1 ?_
  simp only [eqInts_ok _ _ (show xa.length≤9223372036854775806 by omega),eqInts_ok _ _ (show xl.length≤9223372036854775806 by omega),eqKeys_ok _ _ (show xk.length≤9223372036854775806 by omega),sameEntries_ok _ _ (show xo.length≤9223372036854775806 by omega),bd_val,br_dec,ieq_eq,seq_eq,beq_eq,band_tr,band_eq,br_neq]
  rw [br_b]
  rcases q2 with ⟨e,q2⟩ | ⟨e,q2,q3⟩
  ·rw [if_neg (show ¬ r.1=0 by omega)]
   repeat' split
   all_goals simp_all
  ·rw [if_pos q2,if_neg (show ¬ r.2.1.2=true by simp [q3])]
   simp [e]
 ·rw [if_neg hl]
  have : ¬ xr=yr:=λe=>hl (by rw [e])
  simp [this]
end Go.Proofs.YthpkjfabdccpdaaGreat.Pl
namespace Go.Proofs.YthpkjfabdccpdaaGreat.Pl
open Go Go.Proofs.YthpkjfabdccpdaaGreat.Sv
def kR (ids:List Int) (most:Int) (r:Run):Int :=
 if r.1<1∨r.1>1000000 then 7 else if (ckList r.2).2≠0 then (ckList r.2).2 else if r.2.length=0 then 4 else if (r.2.length:Int)>most then 3 else if r.1∈ids then 8 else 0
def rnGo (most:Int):Nat→List Int→List Run→Option (Nat×Int)
 | _,_,[]=>none
 | k,ids,r::rs=>if kR ids most r≠0 then some (k,kR ids most r) else rnGo most (k+1) (ids++[r.1]) rs
def sizeL (B:Int) (i:Nat):Int:=B*2 ^ i
def lvGo (B:Int):Nat→List Int→List (List Run)→Option (Nat×(Nat×Int))
 | _,_,[]=>none
 | i,ids,rs::ls=>if rs.length>2 then some (i,(0,3)) else match rnGo (sizeL B i) 0 ids rs with
  | some (k,e)=>some (i,(k,e))
  | none=>lvGo B (i+1) (ids++rs.map (·.1)) ls
def lvCheck (L:Levels):Int×(Int×Int) :=
 if L.1<1∨L.1>16 then (0,(0,7)) else if L.2.length>12 then (0,(0,3)) else match lvGo L.1 0 [] L.2 with
  | some (i,(k,e))=>((i:Int),((k:Int),e))
  | none=>if L.2.getLast? = some [] then (((L.2.length-1:Nat):Int),(0,6)) else (0,(0,0))
theorem rnGo_ne {most:Int} : ∀ {rs:List Run} {k:Nat} {ids:List Int} {k':Nat} {e:Int},rnGo most k ids rs=some (k',e)→e≠0
 | [],_,_,_,_,h=>by cases h
 | r::rs,k,ids,k',e,h=>by
  unfold rnGo at h
  by_cases hk:kR ids most r≠0
  ·rw [if_pos hk] at h;cases h;exact hk
  ·rw [if_neg hk] at h;exact rnGo_ne h
theorem lvGo_ne {B:Int} : ∀ {ls:List (List Run)} {i:Nat} {ids:List Int} {i' k':Nat} {e:Int},lvGo B i ids ls=some (i',(k',e))→e≠0
 | [],_,_,_,_,_,h=>by cases h
 | rs::ls,i,ids,i',k',e,h=>by
  unfold lvGo at h
  by_cases hk:rs.length>2
  ·rw [if_pos hk] at h;cases h;decide
  ·rw [if_neg hk] at h
   cases hr:rnGo (sizeL B i) 0 ids rs with
   | none=>rw [hr] at h;exact lvGo_ne h
   | some x=>rw [hr] at h;cases h;exact rnGo_ne hr
def mids (ids:List Int):List (Int×Bool):=ids.map λi=>(i,true)
theorem mget_ids (ids:List Int) (i:Int):oget (mget (λa b=>ieq a b) (mids ids) i) false=decide (i∈ids):=by
 induction ids with
 | nil=>rfl
 | cons j ids ih =>
  show oget (bif ieq i j then some true else mget (λa b=>ieq a b) (mids ids) i) false=_
  rw [ieq_eq]
  by_cases h:i=j
  ·simp [h,oget]
  ·simp only [h,decide_false,cond_false,List.mem_cons,false_or]
   exact ih
theorem mput_ids {ids:List Int} {i:Int} (h:i ∉ ids):mput (λa b=>ieq a b) (mids ids) i true=mids (ids++[i]):=by
 induction ids with
 | nil=>rfl
 | cons j ids ih =>
  show (bif ieq i j then (i,true)::mids ids else (j,true)::mput (λa b=>ieq a b) (mids ids) i true)=_
  rw [ieq_eq]
  have h1 : ¬ i=j:=λe=>h (by simp [e])
  rw [ih (λe=>h (by simp [e]))]
  simp only [h1,decide_false,cond_false]
  rfl
theorem runsCheck_ok (r:Run) (hl:r.2.length≤9223372036854775807):g_runs_Check r=some (if r.1<1∨r.1>1000000 then (-1,7) else ckList r.2):=by
 unfold g_runs_Check
 rw [br_lt,br_gt,entries_CheckList_ok _ hl,bd_val]
 by_cases h:r.1<1
 ·rw [if_pos h,if_pos (.inl h)]
 ·rw [if_neg h]
  by_cases h2:r.1>1000000
  ·rw [if_pos h2,if_pos (.inr h2)]
  ·rw [if_neg h2,if_neg (by omega)]
theorem lvFits_ok (r:Run) (most:Int) (hl:r.2.length≤9223372036854775807):g_levels_fits (r,most)=some (kR [] most r):=by
 unfold g_levels_fits kR
 rw [runsCheck_ok r hl,bd_val]
 simp only [nti_eq,llen_eq]
 by_cases h:r.1<1∨r.1>1000000
 ·rw [if_pos h,if_pos h];rfl
 ·rw [if_neg h,if_neg h,br_ne]
  by_cases h2:(ckList r.2).2=0
  ·rw [if_pos h2,if_neg (by simp [h2]),br_eq,br_gt]
   repeat' split
   all_goals first | rfl | (exfalso;omega) | simp_all
  ·rw [if_neg h2,if_pos h2]
theorem kR_ids (ids:List Int) (most:Int) (r:Run):kR ids most r=if kR [] most r=0 then (if r.1∈ids then 8 else 0) else kR [] most r:=by
 unfold kR
 repeat' split
 all_goals simp_all
theorem pow_le (i:Nat) (h:i≤12):(2:Int) ^ i≤4096∧1≤(2:Int) ^ i:=by
 have h1:(2:Nat) ^ i≤2 ^ 12:=Nat.pow_le_pow_right (by omega) h
 have h2:1≤(2:Nat) ^ i:=Nat.one_le_two_pow
 have h3:((2 ^ i:Nat):Int)=(2:Int) ^ i:=by simp
 omega
theorem sizeL_in {B:Int} {i:Nat} (h1:1≤B) (h2:B≤16) (hi:i≤12):1≤sizeL B i∧sizeL B i≤65536:=by
 obtain ⟨h3,h4⟩:=pow_le i hi
 unfold sizeL
 constructor
 ·have:=Int.mul_le_mul h1 h4 (by omega) (by omega);omega
 ·have:=Int.mul_le_mul h2 h3 (by omega) (by omega);omega
theorem ishl_size {B:Int} {i:Nat} (h1:1≤B) (h2:B≤16) (hi:i≤12):ishl .i64 B (i:Int)=sizeL B i:=by
 have h3:=sizeL_in h1 h2 hi
 unfold ishl
 rw [show min ((i:Int).toNat) IntKind.i64.bits=i by rw [Int.toNat_natCast];exact Nat.min_eq_left (Nat.le_trans hi (by decide))]
 unfold sizeL at h3 ⊢
 exact IntWalk.i64_in _ (by omega)
def Q1:Option (Nat×(Nat×Int))→Int→Int→Int→Prop
 | some (i,(k,e)),a,b,c=>a=(k:Int)∧b=(i:Int)∧c=e
 | none,_,_,c=>c=0
def Q2 (m:List (Int×Bool)):Option (Nat×Int)→Nat→Int→Int→List (Int×Bool)→Prop
 | some (k,e),r,a,c,_=>r=0∧a=(k:Int)∧c=e
 | none,r,_,c,m'=>r=1∧c=0∧m'=m
theorem lvCheck_ok (L:Levels) (hb:L.2.length≤1048576) (hr : ∀ rs∈L.2,rs.length≤1048576 ∧ ∀ r∈rs,r.2.length≤1048576):g_levels_Check L=some (lvCheck L):=by
 unfold g_levels_Check lvCheck
 simp only [nti_eq,llen_eq]
 rw [br_lt,br_gt,br_gt]
 by_cases hB1:L.1<1
 ·rw [if_pos hB1,if_pos (.inl hB1)]
 rw [if_neg hB1]
 by_cases hB2:L.1>16
 ·rw [if_pos hB2,if_pos (.inr hB2)]
 rw [if_neg hB2,if_neg (show ¬ (L.1<1∨L.1>16) by omega)]
 by_cases hl:(L.2.length:Int)>12
 ·rw [if_pos hl,if_pos (by omega)]
 rw [if_neg hl,if_neg (by omega)]
 have hl2:L.2.length≤12:=by omega
 obtain ⟨T,hT⟩ : ∃ T,T=lvGo L.1 0 [] L.2:=⟨_,rfl⟩
 rw [← hT]
 have hlast : ∀ r2:Int,r2=0→T=none→(br (ine r2 0) (λ_=>(none:Option (Int×(Int×Int)))) λ_=>br (igt (L.2.length:Int) 0) (λ_=>nat (isub .i64 (L.2.length:Int) 1) λk15=>ix L.2 k15 λx16=>br (ieq (x16.length:Int) 0) (λ_=>some ((isub .i64 (L.2.length:Int) 1,(0,6)))) λ_=>some ((0,(0,0)))) λ_=>some ((0,(0,0))))=some (if L.2.getLast? = some [] then (((L.2.length-1:Nat):Int),(0,6)) else (0,(0,0))):=by
  intro r2 h0 _
  rw [br_ne,if_pos h0,br_gt]
  by_cases hn:L.2=[]
  ·rw [hn];rfl
  ·have hp:=List.length_pos_iff.2 hn
   rw [if_pos (by omega),show isub .i64 (L.2.length:Int) 1=((L.2.length-1:Nat):Int) by rw [isub_in (by omega)];omega,nat_cast,List.getLast?_eq_getElem?]
   have hx:L.2[L.2.length-1]? = some (L.2[L.2.length-1]'(by omega)):=by simp
   rw [ix_val hx,hx,br_eq]
   by_cases he:L.2[L.2.length-1]'(by omega)=[]
   ·rw [he];simp
   ·rw [if_neg (by have:=List.length_pos_iff.2 he;omega),if_neg (by simp [he])]
 obtain ⟨r,q1,q2⟩:=loop_q (l:=L.2) (σ:=Int×(Int×List Int)) (λi st=>(st.1,(st.2.1,((0:Int),((i:Int),mids st.2.2)))))
  (λm i st=>lvGo L.1 i st.2.2 m=T) (λ(r:Nat×((Int×(Int×(Int×(Int×List (Int×Bool)))))×Unit))=>Q1 T r.2.1.1 r.2.1.2.1 r.2.1.2.2.1)
  (f:=λs0=>br (ilt s0.2.2.2.1 (L.2.length:Int)) (λ_=>nat s0.2.2.2.1 λk1=>ix L.2 k1 λx2=>br (igt (x2.length:Int) 2) (λ_=>some (.dn ((0,((0,(s0.2.2.2.1,(3,s0.2.2.2))),()))))) λ_=>bd (loop (λs3=>br (ilt s3.2.1 (x2.length:Int)) (λ_=>nat s3.2.1 λk4=>ix x2 k4 λx5=>gd (ige s0.2.2.2.1 0) λ_=>bd (g_levels_fits (x5,ishl .i64 L.1 s0.2.2.2.1)) λr6=>br (ieq r6 0) (λ_=>br (oget (mget ((λa7=>(λa8=>ieq a7 a8))) s3.2.2.2 x5.1) false) (λ_=>some (.dn ((0,((s3.2.1,(s3.2.1,(8,s3.2.2.2))),()))))) λ_=>br (ine r6 0) (λ_=>some (.dn ((0,((s3.2.1,(s3.2.1,(r6,s3.2.2.2))),()))))) λ_=>some (.nx ((s3.2.1,(iadd .i64 s3.2.1 1,(r6,mput ((λa9=>(λa10=>ieq a9 a10))) s3.2.2.2 x5.1 true)))))) λ_=>br (ine r6 0) (λ_=>some (.dn ((0,((s3.2.1,(s3.2.1,(r6,s3.2.2.2))),()))))) λ_=>some (.nx ((s3.2.1,(iadd .i64 s3.2.1 1,(r6,mput ((λa11=>(λa12=>ieq a11 a12))) s3.2.2.2 x5.1 true)))))) λ_=>some (.dn ((1,(s3,()))))) ((0,(0,(s0.2.2.1,s0.2.2.2.2))))) λr13=>br (neq r13.1 0) (λ_=>some (.dn ((0,((r13.2.1.1,(s0.2.2.2.1,(r13.2.1.2.2.1,(s0.2.2.2.1,r13.2.1.2.2.2)))),()))))) λ_=>some (.nx ((r13.2.1.1,(s0.2.2.2.1,(r13.2.1.2.2.1,(iadd .i64 s0.2.2.2.1 1,r13.2.1.2.2.2))))))) λ_=>some (.dn ((0,(s0,())))))
  (s:=(0,(0,(0,(0,[]))))) (0,(0,[])) rfl (by omega) hT.symm (λst h=>by
   refine ⟨_,by simp only;rw [re];rfl,?_⟩
   simp only at h ⊢
   rw [← h]
   exact rfl) (λi rs m st hd hx hi h=>by
   obtain ⟨s1,s2,ids⟩:=st
   simp only at h ⊢
   obtain ⟨hrs1,hrs2⟩:=hr rs (List.mem_of_getElem? hx)
   rw [rl hi,br_true,nat_cast,ix_val hx,br_gt]
   unfold lvGo at h
   by_cases h3:rs.length>2
   ·rw [if_pos (by omega)]
    rw [if_pos h3] at h
    refine .inr ⟨_,rfl,?_⟩
    rw [← h]
    exact ⟨rfl,rfl,rfl⟩
   rw [if_neg (by omega)]
   rw [if_neg h3] at h
   obtain ⟨U,hU⟩ : ∃ U,U=rnGo (sizeL L.1 i) 0 ids rs:=⟨_,rfl⟩
   rw [← hU] at h
   obtain ⟨r,q1,q2⟩:=loop_q (l:=rs) (σ:=Int) (λk st=>(st,((k:Int),((0:Int),mids (ids++(rs.take k).map (·.1))))))
    (λm k _=>rnGo (sizeL L.1 i) k (ids++(rs.take k).map (·.1)) m=U) (λ(r:Nat×((Int×(Int×(Int×List (Int×Bool))))×Unit))=>Q2 (mids (ids++rs.map (·.1))) U r.1 r.2.1.1 r.2.1.2.2.1 r.2.1.2.2.2)
    (f:=λs3=>br (ilt s3.2.1 (rs.length:Int)) (λ_=>nat s3.2.1 λk4=>ix rs k4 λx5=>gd (ige (i:Int) 0) λ_=>bd (g_levels_fits (x5,ishl .i64 L.1 (i:Int))) λr6=>br (ieq r6 0) (λ_=>br (oget (mget ((λa7=>(λa8=>ieq a7 a8))) s3.2.2.2 x5.1) false) (λ_=>some (.dn ((0,((s3.2.1,(s3.2.1,(8,s3.2.2.2))),()))))) λ_=>br (ine r6 0) (λ_=>some (.dn ((0,((s3.2.1,(s3.2.1,(r6,s3.2.2.2))),()))))) λ_=>some (.nx ((s3.2.1,(iadd .i64 s3.2.1 1,(r6,mput ((λa9=>(λa10=>ieq a9 a10))) s3.2.2.2 x5.1 true)))))) λ_=>br (ine r6 0) (λ_=>some (.dn ((0,((s3.2.1,(s3.2.1,(r6,s3.2.2.2))),()))))) λ_=>some (.nx ((s3.2.1,(iadd .i64 s3.2.1 1,(r6,mput ((λa11=>(λa12=>ieq a11 a12))) s3.2.2.2 x5.1 true)))))) λ_=>some (.dn ((1,(s3,())))))
    (s:=(0,(0,(0,mids ids)))) 0 (by simp) (by omega) (by simp [hU]) (λst h=>by
     refine ⟨_,by simp only;rw [re];rfl,?_⟩
     rw [← h]
     exact ⟨rfl,rfl,by simp⟩) (λk r m st hd hx hk h=>by
     simp only at h ⊢
     have hr2:=hrs2 r (List.mem_of_getElem? hx)
     have htk:(rs.take (k+1)).map (·.1)=(rs.take k).map (·.1)++[r.1]:=by rw [List.take_add_one,hx];simp
     rw [rl hk,br_true,nat_cast,ix_val hx,show gd (ige (i:Int) 0)=λ(q:Unit→Option (LR (Int×(Int×(Int×List (Int×Bool)))) (Nat×((Int×(Int×(Int×List (Int×Bool))))×Unit))))=>q () from by unfold ige;simp [gd];rfl,ishl_size (by omega) (by omega) (by omega)]
     simp only
     rw [lvFits_ok _ _ (by omega),bd_val,br_eq,mget_ids,br_ne]
     unfold rnGo at h
     rw [kR_ids] at h
     by_cases h0:kR [] (sizeL L.1 i) r=0
     ·rw [if_pos h0] at h
      rw [if_pos h0,if_pos h0,br_dec]
      by_cases hm:r.1∈ids++(rs.take k).map (·.1)
      ·rw [if_pos hm]
       rw [if_pos hm,if_pos (by decide)] at h
       refine .inr ⟨_,rfl,?_⟩
       rw [← h]
       exact ⟨rfl,rfl,rfl⟩
      ·rw [if_neg hm]
       rw [if_neg hm,if_neg (by decide)] at h
       refine .inl ⟨(k:Int),?_,?_⟩
       ·rw [mput_ids hm,h0,iadd_rng hx (by omega),htk,List.append_assoc]
       ·rw [htk,← List.append_assoc];exact h
     ·rw [if_neg h0,if_pos h0] at h
      rw [if_neg h0,if_neg h0]
      refine .inr ⟨_,rfl,?_⟩
      rw [← h]
      exact ⟨rfl,rfl,rfl⟩)
   rw [q1,bd_val,br_neq]
   cases hUc:U with
   | some u =>
    obtain ⟨k,e⟩:=u
    rw [hUc] at q2 h
    rw [if_pos q2.1]
    refine .inr ⟨_,rfl,?_⟩
    rw [← h]
    exact ⟨q2.2.1,rfl,q2.2.2⟩
   | none =>
    rw [hUc] at q2 h
    rw [if_neg (show ¬ r.1=0 by have:=q2.1;omega)]
    refine .inl ⟨(r.2.1.1,((i:Int),ids++rs.map (·.1))),?_,h⟩
    rw [q2.2.1,q2.2.2,iadd_rng hx (by omega)])
 refine bd_eq q1 ?_
 cases hTc:T with
 | some t =>
  obtain ⟨i,k,e⟩:=t
  rw [hTc] at q2 hT
  rw [br_ne,if_neg (by rw [q2.2.2];exact lvGo_ne hT.symm),q2.1,q2.2.1,q2.2.2]
 | none =>
  rw [hTc] at q2
  have h:=hlast _ q2 hTc
  have q3:r.2.1.2.2.1=0:=q2
  rw [br_ne,if_pos q3] at h ⊢
  exact h
end Go.Proofs.YthpkjfabdccpdaaGreat.Pl
namespace Go.Proofs.YthpkjfabdccpdaaGreat.Pl
open Go Go.Proofs.YthpkjfabdccpdaaGreat.Sv
structure VR (most:Int) (r:Run):Prop where
 id1:1≤r.1
 id2:r.1≤1000000
 vl:VL r.2
 ne:r.2≠[]
 le:(r.2.length:Int)≤most
theorem kR_ok {ids:List Int} {most:Int} {r:Run}:kR ids most r=0↔VR most r∧r.1 ∉ ids:=by
 unfold kR
 constructor
 ·intro h
  by_cases h1:r.1<1∨r.1>1000000
  ·rw [if_pos h1] at h;cases h
  rw [if_neg h1] at h
  by_cases h2:(ckList r.2).2≠0
  ·rw [if_pos h2] at h;exact absurd h h2
  rw [if_neg h2] at h
  by_cases h3:r.2.length=0
  ·rw [if_pos h3] at h;cases h
  rw [if_neg h3] at h
  by_cases h4:(r.2.length:Int)>most
  ·rw [if_pos h4] at h;cases h
  rw [if_neg h4] at h
  by_cases h5:r.1∈ids
  ·rw [if_pos h5] at h;cases h
  exact ⟨⟨by omega,by omega,ckList_ok.1 (by simpa using h2),by intro e;rw [e] at h3;exact h3 rfl,by omega⟩,h5⟩
 ·rintro ⟨h,h5⟩
  rw [if_neg (by have:=h.id1;have:=h.id2;omega),if_neg (by simp [ckList_ok.2 h.vl]),if_neg (by have:=List.length_pos_iff.2 h.ne;omega),if_neg (by have:=h.le;omega),if_neg h5]
def rid (r:Run):Int:=r.1
theorem rnGo_none {most:Int} : ∀ {rs:List Run} {k:Nat} {ids:List Int},rnGo most k ids rs=none↔(∀ r∈rs,VR most r∧r.1 ∉ ids)∧(rs.map rid).Nodup
 | [],k,ids=>by simp [rnGo]
 | r::rs,k,ids=>by
  unfold rnGo
  by_cases h:kR ids most r=0
  ·rw [if_neg (by simp [h]),rnGo_none (rs:=rs)]
   have h1:=kR_ok.1 h
   simp only [List.mem_cons,forall_eq_or_imp,List.map_cons,List.nodup_cons,List.mem_append,List.not_mem_nil,or_false,List.mem_map,not_exists,not_and,not_or]
   constructor
   ·rintro ⟨h2,h3⟩
    exact ⟨⟨h1,λx hx=>⟨(h2 x hx).1,(h2 x hx).2.1⟩⟩,λx hx e=>(h2 x hx).2.2 e,h3⟩
   ·rintro ⟨⟨_,h2⟩,h3,h4⟩
    exact ⟨λx hx=>⟨(h2 x hx).1,(h2 x hx).2,h3 x hx⟩,h4⟩
  ·rw [if_pos h]
   simp only [reduceCtorEq,false_iff,not_and]
   intro h2
   exact absurd (kR_ok.2 (h2 r (by simp))) h
theorem lvGo_none {B:Int} : ∀ {ls:List (List Run)} {i:Nat} {ids:List Int},lvGo B i ids ls=none↔(∀ k rs,ls[k]? = some rs→rs.length≤2 ∧ ∀ r∈rs,VR (sizeL B (i+k)) r∧r.1 ∉ ids)∧(ls.flatten.map rid).Nodup
 | [],i,ids=>by simp [lvGo]
 | rs::ls,i,ids=>by
  unfold lvGo
  by_cases h:rs.length>2
  ·rw [if_pos h]
   simp only [reduceCtorEq,false_iff,not_and]
   intro h2
   have:=(h2 0 rs rfl).1
   omega
  ·rw [if_neg h]
   cases hr:rnGo (sizeL B i) 0 ids rs with
   | some x =>
    simp only [reduceCtorEq,false_iff,not_and]
    intro h2 h3
    have h4:rnGo (sizeL B i) 0 ids rs=none:=rnGo_none.2 ⟨(h2 0 rs rfl).2,by
     simp only [List.flatten_cons,List.map_append] at h3
     exact (List.nodup_append.1 h3).1⟩
    rw [hr] at h4;cases h4
   | none =>
    have h1:=rnGo_none.1 hr
    simp only
    rw [lvGo_none (ls:=ls)]
    simp only [List.flatten_cons,List.map_append,List.mem_append,not_or,List.mem_map]
    constructor
    ·rintro ⟨h2,h3⟩
     refine ⟨λk rs' hk => ?_,?_⟩
     ·cases k with
      | zero=>cases hk;exact ⟨by omega,h1.1⟩
      | succ k =>
       have h4:=h2 k rs' hk
       exact ⟨h4.1,λr hr=>by
        have:=h4.2 r hr
        rw [show i+(k+1)=i+1+k by omega]
        exact ⟨this.1,this.2.1⟩⟩
     ·rw [List.nodup_append]
      refine ⟨h1.2,h3,?_⟩
      intro a ha b hb e
      subst e
      obtain ⟨r,hr,e1⟩:=List.mem_map.1 ha
      obtain ⟨r',hr',e2⟩:=List.mem_map.1 hb
      obtain ⟨rs',hrs,hr'⟩:=List.mem_flatten.1 hr'
      obtain ⟨k,hk⟩:=List.getElem?_of_mem hrs
      exact ((h2 k rs' hk).2 r' hr').2.2 ⟨r,hr,by unfold rid at e1 e2;omega⟩
    ·rintro ⟨h2,h3⟩
     rw [List.nodup_append] at h3
     refine ⟨λk rs' hk => ?_,h3.2.1⟩
     have h4:=h2 (k+1) rs' hk
     refine ⟨h4.1,λr hr => ?_⟩
     have:=h4.2 r hr
     rw [show i+(k+1)=i+1+k by omega] at this
     refine ⟨this.1,this.2,?_⟩
     rintro ⟨r',hr',e⟩
     exact h3.2.2 (rid r') (List.mem_map_of_mem hr') (rid r) (List.mem_map_of_mem (List.mem_flatten.2 ⟨rs',List.mem_of_getElem? hk,hr⟩)) e
structure VLev (L:Levels):Prop where
 B1:1≤L.1
 B2:L.1≤16
 len:L.2.length≤12
 lev : ∀ i rs,L.2[i]? = some rs→rs.length≤2 ∧ ∀ r∈rs,VR (sizeL L.1 i) r
 ids:(L.2.flatten.map rid).Nodup
 last:L.2.getLast? ≠ some []
theorem lvCheck_iff {L:Levels}:(lvCheck L).2.2=0↔VLev L:=by
 unfold lvCheck
 constructor
 ·intro h
  by_cases h1:L.1<1∨L.1>16
  ·rw [if_pos h1] at h;cases h
  rw [if_neg h1] at h
  by_cases h2:L.2.length>12
  ·rw [if_pos h2] at h;cases h
  rw [if_neg h2] at h
  cases hg:lvGo L.1 0 [] L.2 with
  | some x =>
   obtain ⟨i,k,e⟩:=x
   rw [hg] at h
   exact absurd h (lvGo_ne hg)
  | none =>
   rw [hg] at h
   simp only at h
   by_cases h3:L.2.getLast? = some []
   ·rw [if_pos h3] at h;cases h
   ·have h4:=lvGo_none.1 hg
    exact ⟨by omega,by omega,by omega,λi rs hi=>by
     have:=h4.1 i rs hi
     rw [Nat.zero_add] at this
     exact ⟨this.1,λr hr=>(this.2 r hr).1⟩,h4.2,h3⟩
 ·intro h
  have hg:lvGo L.1 0 [] L.2=none:=lvGo_none.2 ⟨λk rs hk=>by
   have:=h.lev k rs hk
   rw [Nat.zero_add]
   exact ⟨this.1,λr hr=>⟨this.2 r hr,by simp⟩⟩,h.ids⟩
  rw [if_neg (by have:=h.B1;have:=h.B2;omega),if_neg (by have:=h.len;omega),hg]
  simp only
  rw [if_neg h.last]
theorem lvCheck_zero {L:Levels} (h:VLev L):lvCheck L=(0,(0,0)):=by
 have hg:lvGo L.1 0 [] L.2=none:=lvGo_none.2 ⟨λk rs hk=>by
  have:=h.lev k rs hk
  rw [Nat.zero_add]
  exact ⟨this.1,λr hr=>⟨this.2 r hr,by simp⟩⟩,h.ids⟩
 unfold lvCheck
 rw [if_neg (by have:=h.B1;have:=h.B2;omega),if_neg (by have:=h.len;omega),hg]
 simp only
 rw [if_neg h.last]
def greatestL (l:List (List Run)):Int:=l.foldl (λm rs=>rs.foldl (λm r=>imx m r.1) m) 0
def dueGo:Nat→List (List Run)→List Int
 | _,[]=>[]
 | i,rs::ls=>(if rs.length=2 then [(i:Int)] else [])++dueGo (i+1) ls
theorem greatest_ok (L:Levels) (hb:L.2.length≤1048576) (hr : ∀ rs∈L.2,rs.length≤1048576):g_jobs_greatest L=some (greatestL L.2):=by
 unfold g_jobs_greatest
 simp only [nti_eq,llen_eq]
 rw [loop_run (l:=L.2) (σ:=Int) (s:=((0:Int),(0:Int))) (λi m=>(m,(i:Int))) (λ_ _ _=>True) (λls _ m=>(0,((ls.foldl (λm rs=>rs.foldl (λm r=>imx m r.1) m) m,(L.2.length:Int)),()))) 0 rfl (by omega) trivial (λm _=>by
  simp only;rw [re];rfl) (λi rs ls m hd hx hi _=>by
   refine ⟨rs.foldl (λm r=>imx m r.1) m,?_,trivial,rfl⟩
   have h1:=hr rs (List.mem_of_getElem? hx)
   simp only
   rw [rl hi,br_true,nat_cast,ix_val hx,loop_run (l:=rs) (σ:=Int) (s:=((0:Int),m)) (λi m=>((i:Int),m)) (λ_ _ _=>True) (λl _ m=>(0,(((rs.length:Int),l.foldl (λm r=>imx m r.1) m),()))) m rfl (by omega) trivial (λm _=>by
    simp only;rw [re];rfl) (λk r l m hd hx hk _=>by
     refine ⟨imx m r.1,?_,trivial,rfl⟩
     simp only
     rw [rl hk,br_true,nat_cast,ix_val hx,iadd_rng hx (by omega)]),bd_val,iadd_rng hx (by omega)]),bd_val]
 rfl
def jobE (L:Levels) (due:List Int) (i:Nat) (j:Job):Bool:=match due[i]? with
 | none=>true
 | some d=>if j.1≠d then true else if j.2.2.1.2.2=true∧j.1≠(L.2.length:Int)-1 then true else match L.2[d.toNat]? with
  | some [r0,r1]=>if j.2.2.2.2<0∨j.2.2.2.2>((r1.2.length+r0.2.length:Nat):Int) then true else decide (SsT r1.2 r0.2 j.2.2.1.2.2 j.2.2.2.2.toNat≠j.2)
  | _=>true
def jobsGo (L:Levels) (due:List Int):Nat→List Job→Option Nat
 | _,[]=>none
 | i,j::js=>if jobE L due i j=true then some i else jobsGo L due (i+1) js
def jbCheck (s:JbState):Int×Int :=
 if (lvCheck s.1).2.2≠0 then (-1,(lvCheck s.1).2.2) else if s.2.2<1∨s.2.2>1000001 then (-1,7) else if s.2.2≤greatestL s.1.2 then (-1,6) else match jobsGo s.1 (dueGo 0 s.1.2) 0 s.2.1 with
  | some i=>((i:Int),6)
  | none=>if s.2.1.length<(dueGo 0 s.1.2).length then (-1,4) else (0,0)
theorem dueGo_get : ∀ {ls:List (List Run)} {i k:Nat} {d:Int},(dueGo i ls)[k]? = some d → ∃ n:Nat,d=((i+n:Nat):Int) ∧ ∃ r0 r1,ls[n]? = some [r0,r1]
 | [],i,k,d,h=>by cases h
 | rs::ls,i,k,d,h=>by
  unfold dueGo at h
  by_cases h2:rs.length=2
  ·rw [if_pos h2] at h
   cases k with
   | zero =>
    simp at h
    refine ⟨0,by simp [← h],?_⟩
    match rs,h2 with
    | [r0,r1],_=>exact ⟨r0,r1,rfl⟩
   | succ k =>
    simp at h
    obtain ⟨n,h3,h4⟩:=dueGo_get h
    exact ⟨n+1,by rw [h3];congr 1;omega,h4⟩
  ·rw [if_neg h2] at h
   simp at h
   obtain ⟨n,h3,h4⟩:=dueGo_get h
   exact ⟨n+1,by rw [h3];congr 1;omega,h4⟩
theorem dueGo_len : ∀ (ls:List (List Run)) (i:Nat),(dueGo i ls).length≤ls.length
 | [],i=>Nat.le_refl _
 | rs::ls,i=>by
  have:=dueGo_len ls (i+1)
  unfold dueGo
  split<;>simp<;>omega
theorem begun_ok {L:Levels} {n:Nat} {r0 r1:Run} (bt:Bool) (h:L.2[n]? = some [r0,r1]) (v0:VL r0.2) (v1:VL r1.2):g_jobs_begun (L,((n:Int),bt))=some ((n:Int),SsT r1.2 r0.2 bt 0):=by
 unfold g_jobs_begun
 simp only
 rw [nat_cast,ix_val h,ix_val (x:=r1) rfl,ix_val (x:=r0) rfl,begin_two v1 v0]
 rfl
theorem SsT_small {a b:List Entry} (va:VL a) (vb:VL b) (bt:Bool) {n:Nat} (h:n≤a.length+b.length):(SsT a b bt n).1.1.length≤1000∧(∀ l∈(SsT a b bt n).1.1,l.length≤1000000)∧(SsT a b bt n).1.2.1.length≤1000∧(SsT a b bt n).1.2.2.1.length≤1000∧(SsT a b bt n).1.2.2.2.1.length≤1000∧(SsT a b bt n).2.2.1.length≤1000000:=by
 have la:=va.len
 have lb:=vb.len
 refine ⟨show 2≤1000 by omega,λl hl => ?_,show 2≤1000 by omega,show 2≤1000 by omega,show 2≤1000 by omega,?_⟩
 ·have:l=a∨l=b:=by simpa [SsT,MsN,Mst] using hl
  rcases this with e | e<;>subst e<;>omega
 ·have h1:=filt_len (s0 bt) (mlist a b n)
  have h2:=mlist_len va vb h
  show (filt (s0 bt) (mlist a b n)).length≤_
  omega
theorem job_ok {L:Levels} {n:Nat} {r0 r1:Run} {j:Job} (h:L.2[n]? = some [r0,r1]) (v0:VL r0.2) (v1:VL r1.2) {β:Type} (A B:Option β) :
  (bd (g_jobs_begun (L,((n:Int),j.2.2.1.2.2))) λr16=>bd (g_slices_Left r16.2) λr17=>br (ilt j.2.2.2.2 0) (λ_=>A) λ_=>br (igt j.2.2.2.2 r17.1) (λ_=>A) λ_=>bd (g_slices_Step (r16.2,j.2.2.2.2)) λr18=>bd (g_jobs_same (r18.1,j.2)) λr19=>br (bnot r19) (λ_=>A) λ_=>B)
  = if j.2.2.2.2<0∨j.2.2.2.2>((r1.2.length+r0.2.length:Nat):Int) then A else if SsT r1.2 r0.2 j.2.2.1.2.2 j.2.2.2.2.toNat=j.2 then B else A:=by
 rw [begun_ok _ h v0 v1,bd_val,slLeft_ok v1 v0 _ (Nat.zero_le _),bd_val,br_lt,br_gt,Nat.sub_zero]
 by_cases h1:j.2.2.2.2<0
 ·rw [if_pos h1,if_pos (.inl h1)]
 rw [if_neg h1]
 by_cases h2:j.2.2.2.2>((r1.2.length+r0.2.length:Nat):Int)
 ·rw [if_pos h2,if_pos (.inr h2)]
 rw [if_neg h2,if_neg (show ¬ (j.2.2.2.2<0∨j.2.2.2.2>((r1.2.length+r0.2.length:Nat):Int)) by omega)]
 obtain ⟨k,hk⟩ : ∃ k:Nat,j.2.2.2.2=(k:Int):=⟨j.2.2.2.2.toNat,by omega⟩
 rw [hk,slStep_ok v1 v0 _ (Nat.zero_le _),bd_val,Nat.sub_zero,Nat.zero_add,Nat.min_eq_left (by omega),Int.toNat_natCast]
 obtain ⟨s1,s2,s3,s4,s5,s6⟩:=SsT_small v1 v0 j.2.2.1.2.2 (n:=k) (by omega)
 rw [jobsSame_ok _ _ s1 s2 s3 s4 s5 s6,bd_val,bnot_eq,br_dec]
 by_cases he:SsT r1.2 r0.2 j.2.2.1.2.2 k=j.2
 ·rw [if_neg (by simp [he]),if_pos he]
 ·rw [if_pos he,if_neg he]
theorem jbCheck_ok (s:JbState) (hb:s.1.2.length≤1048576) (hr : ∀ rs∈s.1.2,rs.length≤1048576 ∧ ∀ r∈rs,r.2.length≤1048576) (hj:s.2.1.length≤1048576):g_jobs_Check s=some (jbCheck s):=by
 unfold g_jobs_Check jbCheck
 simp only [nti_eq,llen_eq]
 rw [lvCheck_ok _ hb hr,bd_val,br_ne]
 by_cases h0:(lvCheck s.1).2.2=0
 rotate_left
 ·rw [if_neg h0,if_pos h0]
 rw [if_pos h0,if_neg (by simp [h0]),br_lt,br_gt,greatest_ok _ hb (λrs h=>(hr rs h).1),bd_val]
 have v:=lvCheck_iff.1 h0
 by_cases h1:s.2.2<1
 ·rw [if_pos h1,if_pos (.inl h1)]
 rw [if_neg h1]
 by_cases h2:s.2.2>1000001
 ·rw [if_pos h2,if_pos (.inr h2)]
 rw [if_neg h2,if_neg (show ¬ (s.2.2<1∨s.2.2>1000001) by omega),br_le]
 by_cases h3:s.2.2≤greatestL s.1.2
 ·rw [if_pos h3,if_pos h3]
 rw [if_neg h3,if_neg h3]
 rw [loop_run (l:=s.1.2) (σ:=List Int) (s:=((0:Int),([]:List Int))) (λi m=>((i:Int),m)) (λls i m=>m++dueGo i ls=dueGo 0 s.1.2) (λ_ _ _=>(0,(((s.1.2.length:Int),dueGo 0 s.1.2),()))) [] rfl (by omega) rfl (λm h=>by
  simp only;rw [re,br_false,← h];simp [dueGo]) (λi rs ls m hd hx hi h=>by
   refine ⟨m++(if rs.length=2 then [(i:Int)] else []),?_,?_,rfl⟩
   ·simp only
    rw [rl hi,br_true,nat_cast,ix_val hx,br_eq]
    have hm:m.length≤1048575:=by
     have h4:=congrArg List.length h
     have h5:=dueGo_len s.1.2 0
     have h6:=v.len
     rw [List.length_append] at h4
     omega
    by_cases h4:rs.length=2
    ·rw [if_pos (by omega),if_pos h4,gd_le (by simp only [nadd,llen,List.length_cons,List.length_nil];omega),iadd_rng hx (by omega)];rfl
    ·rw [if_neg (by omega),if_neg h4,List.append_nil,iadd_rng hx (by omega)]
   ·rw [List.append_assoc];exact h),bd_val]
 simp only
 obtain ⟨due,hdue⟩ : ∃ due,due=dueGo 0 s.1.2:=⟨_,rfl⟩
 have hdl:due.length≤12:=by have:=dueGo_len s.1.2 0;have:=v.len;rw [hdue];omega
 rw [← hdue]
 obtain ⟨T,hT⟩ : ∃ T,T=jobsGo s.1 due 0 s.2.1:=⟨_,rfl⟩
 rw [← hT]
 obtain ⟨r,q1,q2⟩:=loop_q (l:=s.2.1) (σ:=Unit) (λi _=>((0:Int),((0:Int),(i:Int)))) (λjs i _=>jobsGo s.1 due i js=T) (λ(r:Nat×((Int×(Int×Int))×Unit))=>(T=none∧r.1=1)∨(∃ i:Nat,T=some i∧r.1=0∧r.2.1.1=6∧r.2.1.2.1=(i:Int)))
  (f:=λs6=>br (ilt s6.2.2 (s.2.1.length:Int)) (λ_=>nat s6.2.2 λk7=>ix s.2.1 k7 λx8=>br (ige s6.2.2 (due.length:Int)) (λ_=>some (.dn ((0,((6,(s6.2.2,s6.2.2)),()))))) λ_=>nat s6.2.2 λk9=>gd (nlt k9 due.length) λ_=>ix due k9 λx10=>br (ine x8.1 x10) (λ_=>some (.dn ((0,((6,(s6.2.2,s6.2.2)),()))))) λ_=>br x8.2.2.1.2.2 (λ_=>bd (g_jobs_lowest (s.1,x8.1)) λr11=>br (bnot r11) (λ_=>some (.dn ((0,((6,(s6.2.2,s6.2.2)),()))))) λ_=>bd (g_jobs_begun ((s.1,(x8.1,x8.2.2.1.2.2)))) λr12=>bd (g_slices_Left r12.2) λr13=>br (ilt x8.2.2.2.2 0) (λ_=>some (.dn ((0,((6,(s6.2.2,s6.2.2)),()))))) λ_=>br (igt x8.2.2.2.2 r13.1) (λ_=>some (.dn ((0,((6,(s6.2.2,s6.2.2)),()))))) λ_=>bd (g_slices_Step (r12.2,x8.2.2.2.2)) λr14=>bd (g_jobs_same (r14.1,x8.2)) λr15=>br (bnot r15) (λ_=>some (.dn ((0,((6,(s6.2.2,s6.2.2)),()))))) λ_=>some (.nx ((s6.1,(s6.2.1,iadd .i64 s6.2.2 1))))) λ_=>bd (g_jobs_begun ((s.1,(x8.1,x8.2.2.1.2.2)))) λr16=>bd (g_slices_Left r16.2) λr17=>br (ilt x8.2.2.2.2 0) (λ_=>some (.dn ((0,((6,(s6.2.2,s6.2.2)),()))))) λ_=>br (igt x8.2.2.2.2 r17.1) (λ_=>some (.dn ((0,((6,(s6.2.2,s6.2.2)),()))))) λ_=>bd (g_slices_Step (r16.2,x8.2.2.2.2)) λr18=>bd (g_jobs_same (r18.1,x8.2)) λr19=>br (bnot r19) (λ_=>some (.dn ((0,((6,(s6.2.2,s6.2.2)),()))))) λ_=>some (.nx ((s6.1,(s6.2.1,iadd .i64 s6.2.2 1))))) λ_=>some (.dn ((1,(s6,())))))
  (s:=(0,(0,0))) () rfl (by omega) hT.symm (λ_ h=>by
   refine ⟨_,by simp only;rw [re];rfl,.inl ⟨by rw [← h];rfl,rfl⟩⟩) (λi j js _ hd hx hi h=>by
   simp only
   rw [rl hi,br_true,nat_cast,ix_val hx,br_ge]
   unfold jobsGo at h
   have hbad:jobE s.1 due i j=true → ∃ r:Nat×((Int×(Int×Int))×Unit),(some (LR.dn ((0,((6,((i:Int),(i:Int))),()))):LR (Int×(Int×Int)) _))=some (.dn r)∧((T=none∧r.1=1)∨(∃ i:Nat,T=some i∧r.1=0∧r.2.1.1=6∧r.2.1.2.1=(i:Int))):=λhb=>by
    rw [if_pos hb] at h
    exact ⟨_,rfl,.inr ⟨i,h.symm,rfl,rfl,rfl⟩⟩
   have hgood:jobE s.1 due i j=false → ∃ st':Unit,(some (LR.nx ((0:Int),((0:Int),iadd .i64 (i:Int) 1))):Option (LR _ (Nat×((Int×(Int×Int))×Unit))))=some (.nx ((0:Int),((0:Int),((i+1:Nat):Int))))∧jobsGo s.1 due (i+1) js=T:=λhg=>by
    rw [if_neg (by simp [hg])] at h
    exact ⟨(),by rw [iadd_rng hx (by omega)],h⟩
   by_cases h1:(i:Int)≥(due.length:Int)
   ·rw [if_pos h1]
    exact .inr (hbad (by unfold jobE;rw [List.getElem?_eq_none (by omega)]))
   rw [if_neg h1,nat_cast,gd_nlt,if_pos (by omega)]
   have hd2:due[i]? = some (due[i]'(by omega)):=by simp
   rw [ix_val hd2,br_ne]
   obtain ⟨n,hn,r0,r1,hlv⟩:=dueGo_get (ls:=s.1.2) (i:=0) (k:=i) (d:=due[i]'(by omega)) (by rw [← hdue];exact hd2)
   rw [Nat.zero_add] at hn
   have hE:jobE s.1 due i j=(if j.1≠(due[i]'(by omega)) then true else if j.2.2.1.2.2=true∧j.1≠(s.1.2.length:Int)-1 then true else if j.2.2.2.2<0∨j.2.2.2.2>((r1.2.length+r0.2.length:Nat):Int) then true else decide (SsT r1.2 r0.2 j.2.2.1.2.2 j.2.2.2.2.toNat≠j.2)):=by
    unfold jobE
    rw [hd2]
    simp only
    rw [hn,Int.toNat_natCast,hlv]
   by_cases h2:j.1=(due[i]'(by omega))
   rotate_left
   ·rw [if_neg h2]
    exact .inr (hbad (by rw [hE,if_pos h2]))
   rw [if_pos h2]
   rw [if_neg (by simp [h2])] at hE
   have hjn:j.1=(n:Int):=by rw [h2,hn]
   have hv:=(v.lev n _ hlv).2
   have v0:=(hv r0 (by simp)).vl
   have v1:=(hv r1 (by simp)).vl
   have hlow:isub .i64 (s.1.2.length:Int) 1=(s.1.2.length:Int)-1:=isub_in (by omega)
   unfold g_jobs_lowest
   simp only [nti_eq,llen_eq]
   rw [bd_val,hlow,ieq_eq,bnot_eq,br_dec,hjn,job_ok hlv v0 v1,br_b]
   rw [hjn] at hE
   by_cases h3:j.2.2.1.2.2=true∧(n:Int)≠(s.1.2.length:Int)-1
   ·rw [if_pos h3.1,if_pos h3.2]
    exact .inr (hbad (by rw [hE,if_pos h3]))
   rw [if_neg h3] at hE
   have h4 : ∀ {γ:Type} (A B:γ),(if j.2.2.1.2.2=true then if ¬(n:Int)=(s.1.2.length:Int)-1 then A else B else B)=B:=by
    intro γ A B
    by_cases h5:j.2.2.1.2.2=true
    ·rw [if_pos h5,if_neg (λh6=>h3 ⟨h5,h6⟩)]
    ·rw [if_neg h5]
   rw [h4]
   by_cases h5:j.2.2.2.2<0∨j.2.2.2.2>((r1.2.length+r0.2.length:Nat):Int)
   ·rw [if_pos h5]
    exact .inr (hbad (by rw [hE,if_pos h5]))
   rw [if_neg h5]
   rw [if_neg h5] at hE
   by_cases h6:SsT r1.2 r0.2 j.2.2.1.2.2 j.2.2.2.2.toNat=j.2
   ·rw [if_pos h6]
    exact .inl (hgood (by rw [hE];simp [h6]))
   ·rw [if_neg h6]
    exact .inr (hbad (by rw [hE];simp [h6])))
 rw [h0]
 refine bd_eq q1 ?_
 rw [br_neq]
 rcases q2 with ⟨q2,q3⟩ | ⟨i,q2,q3,q4,q5⟩
 ·rw [if_neg (show ¬ r.1=0 by omega),q2,br_lt]
  simp only
  by_cases h7:s.2.1.length<due.length
  ·rw [if_pos (by omega),if_pos h7]
  ·rw [if_neg (by omega),if_neg h7]
 ·rw [if_pos q3,q2,q4,q5]
end Go.Proofs.YthpkjfabdccpdaaGreat.Pl
