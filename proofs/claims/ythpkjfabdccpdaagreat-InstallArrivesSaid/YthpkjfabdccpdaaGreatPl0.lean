/- Functions of the program and of the specification as plain functions, and laws about them. No condition. -/
import Derived.Test.YthpkjfabdccpdaaGreatPs3
set_option linter.all false
namespace Go.Proofs.YthpkjfabdccpdaaGreat.Pl
open Go Go.Proofs.YthpkjfabdccpdaaGreat.Sv
set_option linter.unusedVariables false
abbrev AD:=((List UInt8)×((List UInt8)×(Bool×Int)))
abbrev BE:=(Int×(List AD))
abbrev AJ:=(Int×(List (List BE)))
abbrev AM:=((List UInt8)×Bool)
abbrev Dv:=((List AM)×((List Int)×Int))
abbrev AN:=((List (List AD))×((List Int)×Dv))
abbrev Bs:=(Bool×((List UInt8)×Bool))
abbrev Iq:=(AN×(Bs×((List AD)×Int)))
abbrev G5:=(Int×Iq)
abbrev A3:=(AJ×((List G5)×Int))
def Et (x:(List UInt8)):Option Int :=
 br (CE (AX (E7 x)) 32) (λ_=>some 3) λ_=>some 0
def CB (x:AD):Option Int :=
 bd (Et x.1) λr0=>br (A7 r0 0) (λ_=>some 3) λ_=>br (CE (AX (E7 x.2.1)) 64) (λ_=>some 3) λ_=>br x.2.2.1 (λ_=>br (AY (seq x.2.1 [])) (λ_=>some 6) λ_=>br (Am x.2.2.2 1) (λ_=>some 7) λ_=>br (CE x.2.2.2 1000000000) (λ_=>some 7) λ_=>some 0) λ_=>br (Am x.2.2.2 1) (λ_=>some 7) λ_=>br (CE x.2.2.2 1000000000) (λ_=>some 7) λ_=>some 0
def BH (x:(List AD)):Option (Int×Int) :=
 br (CE (AX (AA x)) 5000) (λ_=>some (((-1),3))) λ_=>bd (loop (λs0=>br (Am s0.2.2 (AX (AA x))) (λ_=>AT s0.2.2 λk1=>ix x k1 λx2=>bd (CB x2) λr3=>br (A7 r3 0) (λ_=>some (.dn ((0,((r3,(s0.2.2,s0.2.2)),()))))) λ_=>br (CE s0.2.2 0) (λ_=>AT (B7 .i64 s0.2.2 1) λk4=>ix x k4 λx5=>br (AY (C1 x5.1 x2.1)) (λ_=>some (.dn ((0,((6,(s0.2.2,s0.2.2)),()))))) λ_=>some (.nx ((s0.1,(s0.2.1,AI .i64 s0.2.2 1))))) λ_=>some (.nx ((s0.1,(s0.2.1,AI .i64 s0.2.2 1))))) λ_=>some (.dn ((1,(s0,()))))) ((0,(0,0)))) λr6=>br (neq r6.1 0) (λ_=>some (r6.2.1.2.1,r6.2.1.1)) λ_=>some (0,0)
def Eu (x:BE):Option (Int×Int) :=
 br (Am x.1 1) (λ_=>some (((-1),7))) λ_=>br (CE x.1 1000000) (λ_=>some (((-1),7))) λ_=>bd (BH x.2) λr0=>some r0
def Ci (x:(BE×Int)):Option Int :=
 bd (Eu x.1) λr0=>br (A7 r0.2 0) (λ_=>some r0.2) λ_=>br (BN (AX (AA x.1.2)) 0) (λ_=>some 4) λ_=>br (CE (AX (AA x.1.2)) x.2) (λ_=>some 3) λ_=>some 0
def Cq (x:AJ):Option (Int×(Int×Int)) :=
 br (Am x.1 1) (λ_=>some ((0,(0,7)))) λ_=>br (CE x.1 16) (λ_=>some ((0,(0,7)))) λ_=>br (CE (AX (AA x.2)) 12) (λ_=>some ((0,(0,3)))) λ_=>bd (loop (λs0=>br (Am s0.2.2.2.1 (AX (AA x.2))) (λ_=>AT s0.2.2.2.1 λk1=>ix x.2 k1 λx2=>br (CE (AX (AA x2)) 2) (λ_=>some (.dn ((0,((0,(s0.2.2.2.1,(3,s0.2.2.2))),()))))) λ_=>bd (loop (λs3=>br (Am s3.2.1 (AX (AA x2))) (λ_=>AT s3.2.1 λk4=>ix x2 k4 λx5=>gd (G1 s0.2.2.2.1 0) λ_=>bd (Ci (x5,Rx .i64 x.1 s0.2.2.2.1)) λr6=>br (BN r6 0) (λ_=>br (O2 (ID ((λa7=>(λa8=>BN a7 a8))) s3.2.2.2 x5.1) false) (λ_=>some (.dn ((0,((s3.2.1,(s3.2.1,(8,s3.2.2.2))),()))))) λ_=>br (A7 r6 0) (λ_=>some (.dn ((0,((s3.2.1,(s3.2.1,(r6,s3.2.2.2))),()))))) λ_=>some (.nx ((s3.2.1,(AI .i64 s3.2.1 1,(r6,HW ((λa9=>(λa10=>BN a9 a10))) s3.2.2.2 x5.1 true)))))) λ_=>br (A7 r6 0) (λ_=>some (.dn ((0,((s3.2.1,(s3.2.1,(r6,s3.2.2.2))),()))))) λ_=>some (.nx ((s3.2.1,(AI .i64 s3.2.1 1,(r6,HW ((λa11=>(λa12=>BN a11 a12))) s3.2.2.2 x5.1 true)))))) λ_=>some (.dn ((1,(s3,()))))) ((0,(0,(s0.2.2.1,s0.2.2.2.2))))) λr13=>br (neq r13.1 0) (λ_=>some (.dn ((0,((r13.2.1.1,(s0.2.2.2.1,(r13.2.1.2.2.1,(s0.2.2.2.1,r13.2.1.2.2.2)))),()))))) λ_=>some (.nx ((r13.2.1.1,(s0.2.2.2.1,(r13.2.1.2.2.1,(AI .i64 s0.2.2.2.1 1,r13.2.1.2.2.2))))))) λ_=>some (.dn ((0,(s0,()))))) ((0,(0,(0,(0,[])))))) λr14=>br (A7 r14.2.1.2.2.1 0) (λ_=>some ((r14.2.1.2.1,(r14.2.1.1,r14.2.1.2.2.1)))) λ_=>br (CE (AX (AA x.2)) 0) (λ_=>AT (B7 .i64 (AX (AA x.2)) 1) λk15=>ix x.2 k15 λx16=>br (BN (AX (AA x16)) 0) (λ_=>some ((B7 .i64 (AX (AA x.2)) 1,(0,6)))) λ_=>some ((0,(0,0)))) λ_=>some ((0,(0,0)))
def D5 (x:AJ):Option Int :=
 bd (loop (λs0=>br (Am s0.2 (AX (AA x.2))) (λ_=>AT s0.2 λk1=>ix x.2 k1 λx2=>bd (loop (λs3=>br (Am s3.1 (AX (AA x2))) (λ_=>AT s3.1 λk4=>ix x2 k4 λx5=>some (.nx (AI .i64 s3.1 1,J5 s3.2 x5.1))) λ_=>some (.dn ((0,(s3,()))))) (0,s0.1)) λr6=>some (.nx (r6.2.1.2,AI .i64 s0.2 1))) λ_=>some (.dn ((0,(s0,()))))) (0,0)) λr7=>some r7.2.1.1
def Cj (x:(AJ×Int)):Option Bool :=
 some (BN x.2 (B7 .i64 (AX (AA x.1.2)) 1))
def DE (x:(List (List AD))):Option (Int×Int) :=
 br (BN (AX (AA x)) 0) (λ_=>some (((-1),6))) λ_=>br (CE (AX (AA x)) 32) (λ_=>some (((-1),3))) λ_=>bd (loop (λs0=>br (Am s0.2.2 (AX (AA x))) (λ_=>AT s0.2.2 λk1=>ix x k1 λx2=>bd (BH x2) λr3=>br (A7 r3.2 0) (λ_=>some (.dn ((0,((r3.2,(s0.2.2,s0.2.2)),()))))) λ_=>some (.nx ((s0.1,(s0.2.1,AI .i64 s0.2.2 1))))) λ_=>some (.dn ((1,(s0,()))))) ((0,(0,0)))) λr4=>br (neq r4.1 0) (λ_=>some (r4.2.1.2.1,r4.2.1.1)) λ_=>some (0,0)
def CN (x:Bool):Option (Bool×AM) :=
 some ((false,([],x)))
def Af (x:(List (List AD))):Option (List (List AD)) :=
 gd (BJ (AA x) 1048576) λ_=>some x
def A9 (x:((List AD)×Int)):Option AM :=
 br (BN x.2 (AX (AA x.1))) (λ_=>some ([],true)) λ_=>AT x.2 λk0=>ix x.1 k0 λx1=>some (x1.1,false)
def C4 (x:AM):Option Bool :=
 br x.2 (λ_=>some (AY (seq x.1 []))) λ_=>some false
def DG (x:(List AM)):Option Int :=
 br (BN (AX (AA x)) 0) (λ_=>some 6) λ_=>br (CE (AX (AA x)) 32) (λ_=>some 3) λ_=>bd (loop (λs0=>br (Am s0.2 (AX (AA x))) (λ_=>AT s0.2 λk1=>ix x k1 λx2=>bd (C4 x2) λr3=>br r3 (λ_=>some (.dn ((0,((s0.2,s0.2),()))))) λ_=>some (.nx (s0.1,AI .i64 s0.2 1))) λ_=>some (.dn ((1,(s0,()))))) (0,0)) λr4=>br (neq r4.1 0) (λ_=>br (G1 r4.2.1.1 0) (λ_=>some 2) λ_=>some 0) λ_=>br (G1 (-1) 0) (λ_=>some 2) λ_=>some 0
def Ag (x:(List AM)):Option (List AM) :=
 gd (BJ (AA x) 1048576) λ_=>some x
def Ev (x:(List AM)):Option Dv :=
 AT (MQ .i64 2 (AX (AA x))) λk0=>AT (MQ .i64 2 (AX (AA x))) λk1=>gd (BJ k1 1048576) λ_=>bd (Ag x) λr2=>AT (AX (AA x)) λk3=>AT (AX (AA x)) λk4=>gd (BJ k4 1048576) λ_=>bd (loop (λs5=>br (CE s5.1 0) (λ_=>br (G1 s5.1 (AX (AA x))) (λ_=>AT s5.1 λk6=>gd (Dk k6 (AA s5.2.1)) λ_=>ix s5.2.1 k6 λx7=>some (.nx ((B7 .i64 s5.1 1,(lset s5.2.1 k6 (B7 .i64 s5.1 (AX (AA x))),s5.2.2))))) λ_=>AT (MQ .i64 2 s5.1) λk8=>gd (Dk k8 (AA s5.2.1)) λ_=>ix s5.2.1 k8 λx9=>AT (AI .i64 (MQ .i64 2 s5.1) 1) λk10=>gd (Dk k10 (AA s5.2.1)) λ_=>ix s5.2.1 k10 λx11=>AT x9 λk12=>ix x k12 λx13=>AT x11 λk14=>ix x k14 λx15=>br (AY (beq x13.2 x15.2)) (λ_=>br (AY x15.2) (λ_=>AT s5.1 λk16=>gd (Dk k16 (AA s5.2.1)) λ_=>ix s5.2.1 k16 λx17=>AT s5.1 λk18=>gd (Dk k18 (AA s5.2.2.2.1)) λ_=>ix s5.2.2.2.1 k18 λx19=>some (.nx ((B7 .i64 s5.1 1,(lset s5.2.1 k16 x11,(s5.2.2.1,(lset s5.2.2.2.1 k18 x9,s5.2.2.2.2))))))) λ_=>AT s5.1 λk20=>gd (Dk k20 (AA s5.2.1)) λ_=>ix s5.2.1 k20 λx21=>AT s5.1 λk22=>gd (Dk k22 (AA s5.2.2.2.1)) λ_=>ix s5.2.2.2.1 k22 λx23=>some (.nx ((B7 .i64 s5.1 1,(lset s5.2.1 k20 x9,(s5.2.2.1,(lset s5.2.2.2.1 k22 x11,s5.2.2.2.2))))))) λ_=>br (AY (seq x13.1 x15.1)) (λ_=>br (AY (C1 x13.1 x15.1)) (λ_=>AT s5.1 λk24=>gd (Dk k24 (AA s5.2.1)) λ_=>ix s5.2.1 k24 λx25=>AT s5.1 λk26=>gd (Dk k26 (AA s5.2.2.2.1)) λ_=>ix s5.2.2.2.1 k26 λx27=>some (.nx ((B7 .i64 s5.1 1,(lset s5.2.1 k24 x11,(s5.2.2.1,(lset s5.2.2.2.1 k26 x9,s5.2.2.2.2))))))) λ_=>AT s5.1 λk28=>gd (Dk k28 (AA s5.2.1)) λ_=>ix s5.2.1 k28 λx29=>AT s5.1 λk30=>gd (Dk k30 (AA s5.2.2.2.1)) λ_=>ix s5.2.2.2.1 k30 λx31=>some (.nx ((B7 .i64 s5.1 1,(lset s5.2.1 k28 x9,(s5.2.2.1,(lset s5.2.2.2.1 k30 x11,s5.2.2.2.2))))))) λ_=>br (AY (Am x9 x11)) (λ_=>AT s5.1 λk32=>gd (Dk k32 (AA s5.2.1)) λ_=>ix s5.2.1 k32 λx33=>AT s5.1 λk34=>gd (Dk k34 (AA s5.2.2.2.1)) λ_=>ix s5.2.2.2.1 k34 λx35=>some (.nx ((B7 .i64 s5.1 1,(lset s5.2.1 k32 x11,(s5.2.2.1,(lset s5.2.2.2.1 k34 x9,s5.2.2.2.2))))))) λ_=>AT s5.1 λk36=>gd (Dk k36 (AA s5.2.1)) λ_=>ix s5.2.1 k36 λx37=>AT s5.1 λk38=>gd (Dk k38 (AA s5.2.2.2.1)) λ_=>ix s5.2.2.2.1 k38 λx39=>some (.nx ((B7 .i64 s5.1 1,(lset s5.2.1 k36 x9,(s5.2.2.1,(lset s5.2.2.2.1 k38 x11,s5.2.2.2.2))))))) λ_=>some (.dn ((0,(s5,()))))) ((B7 .i64 (MQ .i64 2 (AX (AA x))) 1,(DT k1 0,(r2,(DT k4 0,(0:Int))))))) λr40=>gd (Dk 1 (AA r40.2.1.2.1)) λ_=>ix r40.2.1.2.1 1 λx41=>some ((r40.2.1.2.2.1,(r40.2.1.2.2.2.1,x41)))
def CK (x:(List AM)):Option (Dv×Int) :=
 bd (DG x) λr0=>br (A7 r0 0) (λ_=>some ((([],([],0)),r0))) λ_=>bd (Ev x) λr1=>some (r1,0)
def EY (x:((List (List AD))×Bool)):Option ((AN×((Bool×AM)×((List AD)×Int)))×(Int×Int)) :=
 bd (DE x.1) λr0=>br (A7 r0.2 0) (λ_=>br (A7 r0.2 0) (λ_=>some (((([],([],([],([],0)))),((false,([],false)),([],0))),r0))) λ_=>bd (CN x.2) λr1=>some (((([],([],([],([],0)))),(r1,([],0))),(0,0)))) λ_=>AT (AX (AA x.1)) λk2=>AT (AX (AA x.1)) λk3=>gd (BJ k3 1048576) λ_=>bd (Af x.1) λr4=>AT (AX (AA x.1)) λk5=>AT (AX (AA x.1)) λk6=>gd (BJ k6 1048576) λ_=>bd (loop (λs7=>br (Am s7.1 (AX (AA x.1))) (λ_=>AT s7.1 λk8=>ix x.1 k8 λx9=>AT s7.1 λk10=>gd (Dk k10 (AA (DT k3 (0:Int)))) λ_=>ix (DT k3 0) k10 λx11=>bd (A9 (x9,x11)) λr12=>AT s7.1 λk13=>gd (Dk k13 (AA s7.2)) λ_=>ix s7.2 k13 λx14=>some (.nx (AI .i64 s7.1 1,lset s7.2 k13 r12))) λ_=>some (.dn ((0,(s7,()))))) ((0,DT k6 ([],false)))) λr15=>bd (CK r15.2.1.2) λr16=>bd (CN x.2) λr17=>some ((((r4,(DT k3 0,r16.1)),(r17,([],0))),(0,0)))
def CL (x:(AJ×(Int×Bool))):Option (Int×(AN×((Bool×AM)×((List AD)×Int)))) :=
 AT x.2.1 λk0=>ix x.1.2 k0 λx1=>ix x1 1 λx2=>ix x1 0 λx3=>bd (EY ([x2.2,x3.2],x.2.2)) λr4=>some (x.2.1,r4.1)
def Fq (x:((List (List AD))×(List Int))):Option Dv :=
 AT (AX (AA x.1)) λk0=>AT (AX (AA x.1)) λk1=>gd (BJ k1 1048576) λ_=>bd (loop (λs2=>br (Am s2.1 (AX (AA x.1))) (λ_=>AT s2.1 λk3=>ix x.1 k3 λx4=>AT s2.1 λk5=>ix x.2 k5 λx6=>bd (A9 (x4,x6)) λr7=>AT s2.1 λk8=>gd (Dk k8 (AA s2.2)) λ_=>ix s2.2 k8 λx9=>some (.nx (AI .i64 s2.1 1,lset s2.2 k8 r7))) λ_=>some (.dn ((0,(s2,()))))) ((0,DT k1 ([],false)))) λr10=>bd (CK r10.2.1.2) λr11=>some r11.1
def Ah (x:((List AM)×(List AM))):Option Bool :=
 br (A7 (AX (AA x.1)) (AX (AA x.2))) (λ_=>some false) λ_=>bd (loop (λs0=>br (Am s0.1 (AX (AA x.1))) (λ_=>AT s0.1 λk1=>ix x.1 k1 λx2=>AT s0.1 λk3=>ix x.2 k3 λx4=>br (AY (Bd (seq x2.1 x4.1) (Bd (beq x2.2 x4.2) true))) (λ_=>some (.dn ((0,((s0.1,false),()))))) λ_=>some (.nx (AI .i64 s0.1 1,s0.2))) λ_=>some (.dn ((1,(s0,()))))) (0,false)) λr5=>br (neq r5.1 0) (λ_=>some r5.2.1.2) λ_=>some true
def Ac (x:((List Int)×(List Int))):Option Bool :=
 br (A7 (AX (AA x.1)) (AX (AA x.2))) (λ_=>some false) λ_=>bd (loop (λs0=>br (Am s0.1 (AX (AA x.1))) (λ_=>AT s0.1 λk1=>ix x.1 k1 λx2=>AT s0.1 λk3=>ix x.2 k3 λx4=>br (A7 x2 x4) (λ_=>some (.dn ((0,((s0.1,false),()))))) λ_=>some (.nx (AI .i64 s0.1 1,s0.2))) λ_=>some (.dn ((1,(s0,()))))) (0,false)) λr5=>br (neq r5.1 0) (λ_=>some r5.2.1.2) λ_=>some true
def ED (x:(Dv×Dv)):Option Bool :=
 br (BN x.1.2.2 x.2.2.2) (λ_=>bd (Ah (x.1.1,x.2.1)) λr0=>br r0 (λ_=>bd (Ac (x.1.2.1,x.2.2.1)) λr1=>some r1) λ_=>some false) λ_=>some false
def FC (x:Dv):Option (Int×Int) :=
 bd (DG x.1) λr0=>br (A7 r0 0) (λ_=>some (0,r0)) λ_=>br (A7 (AX (AA x.2.1)) (AX (AA x.1))) (λ_=>some (0,6)) λ_=>bd (Ev x.1) λr1=>bd (loop (λs2=>br (Am s2.2.1 (AX (AA r1.2.1))) (λ_=>AT s2.2.1 λk3=>ix r1.2.1 k3 λx4=>AT s2.2.1 λk5=>ix x.2.1 k5 λx6=>br (A7 x6 x4) (λ_=>some (.dn ((0,((6,(s2.2.1,s2.2.1)),()))))) λ_=>some (.nx ((s2.1,(AI .i64 s2.2.1 1,s2.2.2))))) λ_=>some (.dn ((1,(s2,()))))) ((0,(0,0)))) λr7=>br (neq r7.1 0) (λ_=>some (r7.2.1.2.2,r7.2.1.1)) λ_=>br (A7 x.2.2 r1.2.2) (λ_=>some (0,6)) λ_=>some (0,0)
def Ew (x:Dv):Option Int :=
 bd (FC x) λr0=>br (A7 r0.2 0) (λ_=>some r0.2) λ_=>AT x.2.2 λk1=>ix x.1 k1 λx2=>br x2.2 (λ_=>some 12) λ_=>some 0
def CO (x:Dv):Option (Int×((List UInt8)×Int)) :=
 bd (Ew x) λr0=>br (A7 r0 0) (λ_=>some ((0,([],r0)))) λ_=>AT x.2.2 λk1=>ix x.1 k1 λx2=>some ((x.2.2,(x2.1,0)))
def Cr (x:(List UInt8)):Option Bool :=
 some (AY (seq x x))
def CP (x:((List UInt8)×(List UInt8))):Option Int :=
 bd (Cr x.1) λr0=>bd (Cr x.2) λr1=>br r0 (λ_=>br r1 (λ_=>some 0) λ_=>some (-1)) λ_=>br r1 (λ_=>some 1) λ_=>br (C1 x.1 x.2) (λ_=>some (-1)) λ_=>br (C1 x.2 x.1) (λ_=>some 1) λ_=>some 0
def D6 (x:Int):Option Bool :=
 some (A7 x x)
def B9 (x:(Int×Int)):Option Int :=
 bd (D6 x.1) λr0=>bd (D6 x.2) λr1=>br r0 (λ_=>br r1 (λ_=>some 0) λ_=>some (-1)) λ_=>br r1 (λ_=>some 1) λ_=>br (Am x.1 x.2) (λ_=>some (-1)) λ_=>br (CE x.1 x.2) (λ_=>some 1) λ_=>some 0
def Fs (x:(List Int)):Option Int :=
 bd (loop (λs0=>br (Am s0.2 (AX (AA x))) (λ_=>AT s0.2 λk1=>ix x k1 λx2=>br (A7 x2 0) (λ_=>some (.dn ((0,((x2,s0.2),()))))) λ_=>some (.nx (s0.1,AI .i64 s0.2 1))) λ_=>some (.dn ((1,(s0,()))))) (0,0)) λr3=>br (neq r3.1 0) (λ_=>some r3.2.1.1) λ_=>some 0
def DH (x:AN):Option (Int×Int) :=
 bd (DE x.1) λr0=>br (A7 r0.2 0) (λ_=>some r0) λ_=>br (A7 (AX (AA x.2.1)) (AX (AA x.1))) (λ_=>some (((-1),6))) λ_=>bd (loop (λs1=>br (Am s1.2.2 (AX (AA x.2.1))) (λ_=>AT s1.2.2 λk2=>ix x.2.1 k2 λx3=>br (Am x3 0) (λ_=>some (.dn ((0,((6,(s1.2.2,s1.2.2)),()))))) λ_=>AT s1.2.2 λk4=>ix x.1 k4 λx5=>br (CE x3 (AX (AA x5))) (λ_=>some (.dn ((0,((6,(s1.2.2,s1.2.2)),()))))) λ_=>some (.nx ((s1.1,(s1.2.1,AI .i64 s1.2.2 1))))) λ_=>some (.dn ((1,(s1,()))))) ((0,(0,0)))) λr6=>br (neq r6.1 0) (λ_=>some (r6.2.1.2.1,r6.2.1.1)) λ_=>bd (Fq (x.1,x.2.1)) λr7=>bd (ED (x.2.2,r7)) λr8=>br (AY r8) (λ_=>some (((-1),6))) λ_=>bd (CO x.2.2) λr9=>br (A7 r9.2.2 0) (λ_=>some (0,0)) λ_=>bd (loop (λs10=>br (Am s10.2.2 (AX (AA x.2.1))) (λ_=>AT s10.2.2 λk11=>ix x.2.1 k11 λx12=>br (CE x12 0) (λ_=>AT s10.2.2 λk13=>ix x.1 k13 λx14=>AT (B7 .i64 x12 1) λk15=>ix x14 k15 λx16=>bd (CP (x16.1,r9.2.1)) λr17=>bd (B9 (s10.2.2,r9.1)) λr18=>bd (Fs ([r17,r18])) λr19=>br (CE r19 0) (λ_=>some (.dn ((0,((6,(r9.1,s10.2.2)),()))))) λ_=>some (.nx ((s10.1,(s10.2.1,AI .i64 s10.2.2 1))))) λ_=>some (.nx ((s10.1,(s10.2.1,AI .i64 s10.2.2 1))))) λ_=>some (.dn ((1,(s10,()))))) ((r9.2.2,(r6.2.1.2.1,0)))) λr20=>br (neq r20.1 0) (λ_=>some (r20.2.1.2.1,r20.2.1.1)) λ_=>some (0,0)
def Au (x:(List Int)):Option (List Int) :=
 gd (BJ (AA x) 1048576) λ_=>some x
def BU (x:(Int×(Int×((List AM)×Unit)))):Option Bool :=
 AT x.1 λk0=>ix x.2.2.1 k0 λx1=>AT x.2.1 λk2=>ix x.2.2.1 k2 λx3=>br (AY (beq x1.2 x3.2)) (λ_=>some x3.2) λ_=>br (AY (seq x1.1 x3.1)) (λ_=>some (C1 x1.1 x3.1)) λ_=>some (Am x.1 x.2.1)
def CC (x:(Dv×AM)):Option (Dv×(Int×Int)) :=
 bd (Ew x.1) λr0=>br (A7 r0 0) (λ_=>some ((([],([],0)),(0,r0)))) λ_=>bd (DG [x.2]) λr1=>br (A7 r1 0) (λ_=>some ((([],([],0)),(0,r1)))) λ_=>br (AY x.2.2) (λ_=>AT x.1.2.2 λk2=>ix x.1.1 k2 λx3=>br (C1 x.2.1 x3.1) (λ_=>some ((([],([],0)),(0,6)))) λ_=>bd (Ag x.1.1) λr4=>bd (Au x.1.2.1) λr5=>AT x.1.2.2 λk6=>gd (Dk k6 (AA r4)) λ_=>ix r4 k6 λx7=>bd (loop (λs8=>br (BN (HY .i64 s8.2.1 2) 0) (λ_=>some (.dn ((0,((s8.1,(HY .i64 s8.2.1 2,((),s8.2.2.2))),()))))) λ_=>AT (HY .i64 s8.2.1 2) λk9=>gd (Dk k9 (AA s8.2.2.2.1)) λ_=>ix s8.2.2.2.1 k9 λx10=>bd (BU ((x10,(s8.2.2.2.2,(lset r4 k6 x.2,()))))) λr11=>br r11 (λ_=>AT (HY .i64 s8.2.1 2) λk12=>gd (Dk k12 (AA s8.2.2.2.1)) λ_=>ix s8.2.2.2.1 k12 λx13=>AT (HY .i64 s8.2.1 2) λk14=>gd (Dk k14 (AA s8.2.2.2.1)) λ_=>ix s8.2.2.2.1 k14 λx15=>some (.nx ((AI .i64 s8.1 1,(HY .i64 s8.2.1 2,((),(lset s8.2.2.2.1 k14 s8.2.2.2.2,x13))))))) λ_=>some (.nx ((AI .i64 s8.1 1,(HY .i64 s8.2.1 2,((),s8.2.2.2)))))) ((0,(AI .i64 (AX (AA (lset r4 k6 x.2))) x.1.2.2,((),(r5,x.1.2.2)))))) λr16=>some (((lset r4 k6 x.2,r16.2.1.2.2.2),(r16.2.1.1,0)))) λ_=>bd (Ag x.1.1) λr17=>bd (Au x.1.2.1) λr18=>AT x.1.2.2 λk19=>gd (Dk k19 (AA r17)) λ_=>ix r17 k19 λx20=>bd (loop (λs21=>br (BN (HY .i64 s21.2.1 2) 0) (λ_=>some (.dn ((0,((s21.1,(HY .i64 s21.2.1 2,((),s21.2.2.2))),()))))) λ_=>AT (HY .i64 s21.2.1 2) λk22=>gd (Dk k22 (AA s21.2.2.2.1)) λ_=>ix s21.2.2.2.1 k22 λx23=>bd (BU ((x23,(s21.2.2.2.2,(lset r17 k19 x.2,()))))) λr24=>br r24 (λ_=>AT (HY .i64 s21.2.1 2) λk25=>gd (Dk k25 (AA s21.2.2.2.1)) λ_=>ix s21.2.2.2.1 k25 λx26=>AT (HY .i64 s21.2.1 2) λk27=>gd (Dk k27 (AA s21.2.2.2.1)) λ_=>ix s21.2.2.2.1 k27 λx28=>some (.nx ((AI .i64 s21.1 1,(HY .i64 s21.2.1 2,((),(lset s21.2.2.2.1 k27 s21.2.2.2.2,x26))))))) λ_=>some (.nx ((AI .i64 s21.1 1,(HY .i64 s21.2.1 2,((),s21.2.2.2)))))) ((0,(AI .i64 (AX (AA (lset r17 k19 x.2))) x.1.2.2,((),(r18,x.1.2.2)))))) λr29=>some (((lset r17 k19 x.2,r29.2.1.2.2.2),(r29.2.1.1,0)))
def Gm (x:(List (List AD))):Option ((List AD)×((List Int)×Int)) :=
 bd (DE x) λr0=>br (A7 r0.2 0) (λ_=>br (A7 r0.2 0) (λ_=>some (([],([],r0.2)))) λ_=>bd (loop (λs1=>bd (CO (([],([],0)))) λr2=>br (A7 r2.2.2 0) (λ_=>br (A7 r2.2.2 0) (λ_=>some (.dn ((0,(s1,()))))) λ_=>gd (BJ (Ao (AA s1.1) (AA ([(([],([],(false,0))):AD)]))) 1048576) λ_=>gd (BJ (Ao (AA s1.2) (AA [0])) 1048576) λ_=>none) λ_=>AT r2.1 λk3=>none) ([],[])) λr4=>some ((r4.2.1.1,(r4.2.1.2,0)))) λ_=>AT (AX (AA x)) λk5=>AT (AX (AA x)) λk6=>gd (BJ k6 1048576) λ_=>bd (Af x) λr7=>AT (AX (AA x)) λk8=>AT (AX (AA x)) λk9=>gd (BJ k9 1048576) λ_=>bd (loop (λs10=>br (Am s10.1 (AX (AA x))) (λ_=>AT s10.1 λk11=>ix x k11 λx12=>AT s10.1 λk13=>gd (Dk k13 (AA (DT k6 (0:Int)))) λ_=>ix (DT k6 0) k13 λx14=>bd (A9 (x12,x14)) λr15=>AT s10.1 λk16=>gd (Dk k16 (AA s10.2)) λ_=>ix s10.2 k16 λx17=>some (.nx (AI .i64 s10.1 1,lset s10.2 k16 r15))) λ_=>some (.dn ((0,(s10,()))))) ((0,DT k9 ([],false)))) λr18=>bd (CK r18.2.1.2) λr19=>bd (loop (λs20=>bd (CO s20.2.2.2.2) λr21=>br (A7 r21.2.2 0) (λ_=>br (A7 r21.2.2 0) (λ_=>some (.dn ((0,((s20.1,(s20.2.1,((),s20.2.2.2))),()))))) λ_=>gd (BJ (Ao (AA s20.1) (AA ([(([],([],(false,0))):AD)]))) 1048576) λ_=>gd (BJ (Ao (AA s20.2.1) (AA [0])) 1048576) λ_=>gd (Dk 0 (AA s20.2.2.2.1)) λ_=>ix s20.2.2.2.1 0 λx22=>gd (Dk 0 (AA s20.2.2.2.1)) λ_=>ix s20.2.2.2.1 0 λx23=>gd (Dk 0 (AA r7)) λ_=>ix r7 0 λx24=>gd (Dk 0 (AA (lset s20.2.2.2.1 0 (AI .i64 x22 1)))) λ_=>ix (lset s20.2.2.2.1 0 (AI .i64 x22 1)) 0 λx25=>bd (A9 (x24,x25)) λr26=>bd (CC (s20.2.2.2.2,r26)) λr27=>some (.nx ((By s20.1 ([(([],([],(false,0))):AD)]),(By s20.2.1 [0],((),(lset s20.2.2.2.1 0 (AI .i64 x22 1),r27.1))))))) λ_=>AT r21.1 λk28=>gd (Dk k28 (AA r7)) λ_=>ix r7 k28 λx29=>AT r21.1 λk30=>gd (Dk k30 (AA s20.2.2.2.1)) λ_=>ix s20.2.2.2.1 k30 λx31=>AT x31 λk32=>ix x29 k32 λx33=>gd (BJ (Ao (AA s20.1) (AA [x33])) 1048576) λ_=>gd (BJ (Ao (AA s20.2.1) (AA [r21.1])) 1048576) λ_=>AT r21.1 λk34=>gd (Dk k34 (AA s20.2.2.2.1)) λ_=>ix s20.2.2.2.1 k34 λx35=>AT r21.1 λk36=>gd (Dk k36 (AA s20.2.2.2.1)) λ_=>ix s20.2.2.2.1 k36 λx37=>AT r21.1 λk38=>gd (Dk k38 (AA r7)) λ_=>ix r7 k38 λx39=>AT r21.1 λk40=>gd (Dk k40 (AA (lset s20.2.2.2.1 k36 (AI .i64 x35 1)))) λ_=>ix (lset s20.2.2.2.1 k36 (AI .i64 x35 1)) k40 λx41=>bd (A9 (x39,x41)) λr42=>bd (CC (s20.2.2.2.2,r42)) λr43=>some (.nx ((By s20.1 [x33],(By s20.2.1 [r21.1],((),(lset s20.2.2.2.1 k36 (AI .i64 x35 1),r43.1))))))) (([],([],((),(DT k6 0,r19.1)))))) λr44=>some ((r44.2.1.1,(r44.2.1.2.1,0)))
def Dd (x:(Bool×AM)):Option Int :=
 bd (Et x.2.1) λr0=>br (A7 r0 0) (λ_=>some r0) λ_=>br (AY x.1) (λ_=>br (AY (seq x.2.1 [])) (λ_=>some 6) λ_=>some 0) λ_=>some 0
def A1 (x:AD):Option AD :=
 some x
def D7 (x:((List AD)×Bool)):Option ((List AD)×(Int×Int)) :=
 br (CE (AX (AA x.1)) 20000) (λ_=>some (([],((-1),3)))) λ_=>bd (CN x.2) λr0=>bd (loop (λs1=>br (Am s1.2.1 (AX (AA x.1))) (λ_=>AT s1.2.1 λk2=>ix x.1 k2 λx3=>bd (Dd s1.2.2.2.1) λr4=>br (A7 r4 0) (λ_=>br (A7 r4 0) (λ_=>some (.dn ((0,((r4,(s1.2.1,(s1.2.1,s1.2.2.2))),()))))) λ_=>some (.nx ((s1.1,(AI .i64 s1.2.1 1,(s1.2.2.1,((false,([],false)),s1.2.2.2.2))))))) λ_=>bd (CB x3) λr5=>br (A7 r5 0) (λ_=>br (A7 r5 0) (λ_=>some (.dn ((0,((r5,(s1.2.1,(s1.2.1,s1.2.2.2))),()))))) λ_=>some (.nx ((s1.1,(AI .i64 s1.2.1 1,(s1.2.2.1,((false,([],false)),s1.2.2.2.2))))))) λ_=>br s1.2.2.2.1.1 (λ_=>br (C1 x3.1 s1.2.2.2.1.2.1) (λ_=>some (.dn ((0,((6,(s1.2.1,(s1.2.1,s1.2.2.2))),()))))) λ_=>br s1.2.2.2.1.1 (λ_=>br (seq x3.1 s1.2.2.2.1.2.1) (λ_=>some (.nx ((s1.1,(AI .i64 s1.2.1 1,(s1.2.2.1,((true,(x3.1,s1.2.2.2.1.2.2)),s1.2.2.2.2))))))) λ_=>br s1.2.2.2.1.2.2 (λ_=>br x3.2.2.1 (λ_=>some (.nx ((s1.1,(AI .i64 s1.2.1 1,(s1.2.2.1,((true,(x3.1,s1.2.2.2.1.2.2)),s1.2.2.2.2))))))) λ_=>bd (A1 x3) λr6=>gd (BJ (Ao (AA s1.2.2.2.2) (AA [r6])) 1048576) λ_=>some (.nx ((s1.1,(AI .i64 s1.2.1 1,(s1.2.2.1,((true,(x3.1,s1.2.2.2.1.2.2)),By s1.2.2.2.2 [r6]))))))) λ_=>bd (A1 x3) λr7=>gd (BJ (Ao (AA s1.2.2.2.2) (AA [r7])) 1048576) λ_=>some (.nx ((s1.1,(AI .i64 s1.2.1 1,(s1.2.2.1,((true,(x3.1,s1.2.2.2.1.2.2)),By s1.2.2.2.2 [r7]))))))) λ_=>br s1.2.2.2.1.2.2 (λ_=>br x3.2.2.1 (λ_=>some (.nx ((s1.1,(AI .i64 s1.2.1 1,(s1.2.2.1,((true,(x3.1,s1.2.2.2.1.2.2)),s1.2.2.2.2))))))) λ_=>bd (A1 x3) λr8=>gd (BJ (Ao (AA s1.2.2.2.2) (AA [r8])) 1048576) λ_=>some (.nx ((s1.1,(AI .i64 s1.2.1 1,(s1.2.2.1,((true,(x3.1,s1.2.2.2.1.2.2)),By s1.2.2.2.2 [r8]))))))) λ_=>bd (A1 x3) λr9=>gd (BJ (Ao (AA s1.2.2.2.2) (AA [r9])) 1048576) λ_=>some (.nx ((s1.1,(AI .i64 s1.2.1 1,(s1.2.2.1,((true,(x3.1,s1.2.2.2.1.2.2)),By s1.2.2.2.2 [r9]))))))) λ_=>br s1.2.2.2.1.1 (λ_=>br (seq x3.1 s1.2.2.2.1.2.1) (λ_=>some (.nx ((s1.1,(AI .i64 s1.2.1 1,(s1.2.2.1,((true,(x3.1,s1.2.2.2.1.2.2)),s1.2.2.2.2))))))) λ_=>br s1.2.2.2.1.2.2 (λ_=>br x3.2.2.1 (λ_=>some (.nx ((s1.1,(AI .i64 s1.2.1 1,(s1.2.2.1,((true,(x3.1,s1.2.2.2.1.2.2)),s1.2.2.2.2))))))) λ_=>bd (A1 x3) λr10=>gd (BJ (Ao (AA s1.2.2.2.2) (AA [r10])) 1048576) λ_=>some (.nx ((s1.1,(AI .i64 s1.2.1 1,(s1.2.2.1,((true,(x3.1,s1.2.2.2.1.2.2)),By s1.2.2.2.2 [r10]))))))) λ_=>bd (A1 x3) λr11=>gd (BJ (Ao (AA s1.2.2.2.2) (AA [r11])) 1048576) λ_=>some (.nx ((s1.1,(AI .i64 s1.2.1 1,(s1.2.2.1,((true,(x3.1,s1.2.2.2.1.2.2)),By s1.2.2.2.2 [r11]))))))) λ_=>br s1.2.2.2.1.2.2 (λ_=>br x3.2.2.1 (λ_=>some (.nx ((s1.1,(AI .i64 s1.2.1 1,(s1.2.2.1,((true,(x3.1,s1.2.2.2.1.2.2)),s1.2.2.2.2))))))) λ_=>bd (A1 x3) λr12=>gd (BJ (Ao (AA s1.2.2.2.2) (AA [r12])) 1048576) λ_=>some (.nx ((s1.1,(AI .i64 s1.2.1 1,(s1.2.2.1,((true,(x3.1,s1.2.2.2.1.2.2)),By s1.2.2.2.2 [r12]))))))) λ_=>bd (A1 x3) λr13=>gd (BJ (Ao (AA s1.2.2.2.2) (AA [r13])) 1048576) λ_=>some (.nx ((s1.1,(AI .i64 s1.2.1 1,(s1.2.2.1,((true,(x3.1,s1.2.2.2.1.2.2)),By s1.2.2.2.2 [r13]))))))) λ_=>some (.dn ((1,(s1,()))))) ((0,(0,(0,(r0,[])))))) λr14=>br (neq r14.1 0) (λ_=>br (A7 r14.2.1.1 0) (λ_=>some (([],(r14.2.1.2.2.1,r14.2.1.1)))) λ_=>some ((r14.2.1.2.2.2.2,(0,0)))) λ_=>some ((r14.2.1.2.2.2.2,(0,0)))
def De (x:((List AD)×(List AD))):Option Bool :=
 br (A7 (AX (AA x.1)) (AX (AA x.2))) (λ_=>some false) λ_=>bd (loop (λs0=>br (Am s0.2 (AX (AA x.1))) (λ_=>AT s0.2 λk1=>ix x.1 k1 λx2=>AT s0.2 λk3=>ix x.2 k3 λx4=>br (AY (Bd (seq x2.1 x4.1) (Bd (seq x2.2.1 x4.2.1) (Bd (beq x2.2.2.1 x4.2.2.1) (Bd (BN x2.2.2.2 x4.2.2.2) true))))) (λ_=>some (.dn ((0,((false,s0.2),()))))) λ_=>some (.nx (s0.1,AI .i64 s0.2 1))) λ_=>some (.dn ((1,(s0,()))))) (false,0)) λr5=>br (neq r5.1 0) (λ_=>some r5.2.1.1) λ_=>some true
def EZ (x:(AN×((Bool×AM)×((List AD)×Int)))):Option Int :=
 bd (DH x.1) λr0=>br (A7 r0.2 0) (λ_=>some r0.2) λ_=>bd (loop (λs1=>br (Am s1.1 (AX (AA x.1.2.1))) (λ_=>AT s1.1 λk2=>ix x.1.2.1 k2 λx3=>some (.nx (AI .i64 s1.1 1,AI .i64 s1.2 x3))) λ_=>some (.dn ((0,(s1,()))))) (0,0)) λr4=>br (CE (AX (AA x.2.2.1)) 20000) (λ_=>some 3) λ_=>br (CE r4.2.1.2 20000) (λ_=>some 3) λ_=>br (A7 x.2.2.2 r4.2.1.2) (λ_=>some 7) λ_=>bd (Gm x.1.1) λr5=>br (A7 r5.2.2 0) (λ_=>some r5.2.2) λ_=>AT r4.2.1.2 λk6=>gd (BJ k6 (AA r5.1)) λ_=>gd (BJ 0 k6) λ_=>bd (D7 (EJ r5.1 0 k6,x.2.1.2.2)) λr7=>br (A7 r7.2.2 0) (λ_=>some r7.2.2) λ_=>bd (CN x.2.1.2.2) λr8=>br (CE r4.2.1.2 0) (λ_=>AT (B7 .i64 r4.2.1.2 1) λk9=>ix r5.1 k9 λx10=>bd (De (x.2.2.1,r7.1)) λr11=>br (AY r11) (λ_=>some 6) λ_=>br (AY (Bd (beq x.2.1.1 true) (Bd (seq x.2.1.2.1 x10.1) (Bd (beq x.2.1.2.2 r8.2.2) true)))) (λ_=>some 6) λ_=>some 0) λ_=>bd (De (x.2.2.1,r7.1)) λr12=>br (AY r12) (λ_=>some 6) λ_=>br (AY (Bd (beq x.2.1.1 r8.1) (Bd (seq x.2.1.2.1 r8.2.1) (Bd (beq x.2.1.2.2 r8.2.2) true)))) (λ_=>some 6) λ_=>some 0
def Ft (x:AN):Option (Int×Int) :=
 bd (DH x) λr0=>br (A7 r0.2 0) (λ_=>some (0,r0.2)) λ_=>bd (loop (λs1=>br (Am s1.1 (AX (AA x.1))) (λ_=>AT s1.1 λk2=>ix x.1 k2 λx3=>AT s1.1 λk4=>ix x.2.1 k4 λx5=>some (.nx ((AI .i64 s1.1 1,AI .i64 s1.2 (B7 .i64 (AX (AA x3)) x5))))) λ_=>some (.dn ((0,(s1,()))))) (0,0)) λr6=>some (r6.2.1.2,0)
def BY (x:(AN×((Bool×AM)×((List AD)×Int)))):Option (Int×Int) :=
 bd (EZ x) λr0=>br (A7 r0 0) (λ_=>some (0,r0)) λ_=>bd (Ft x.1) λr1=>some r1
def Bt (x:AN):Option (AD×(Int×(AN×Int))) :=
 bd (DH x) λr0=>br (A7 r0.2 0) (λ_=>br (A7 r0.2 0) (λ_=>some (((([],([],(false,0))):AD),(0,(([],([],([],([],0)))),r0.2))))) λ_=>none) λ_=>bd (Af x.1) λr1=>bd (Au x.2.1) λr2=>bd (CO x.2.2) λr3=>br (A7 r3.2.2 0) (λ_=>br (A7 r3.2.2 0) (λ_=>some (((([],([],(false,0))):AD),(0,(([],([],([],([],0)))),r3.2.2))))) λ_=>gd (Dk 0 (AA r2)) λ_=>ix r2 0 λx4=>gd (Dk 0 (AA r2)) λ_=>ix r2 0 λx5=>gd (Dk 0 (AA r1)) λ_=>ix r1 0 λx6=>gd (Dk 0 (AA (lset r2 0 (AI .i64 x4 1)))) λ_=>ix (lset r2 0 (AI .i64 x4 1)) 0 λx7=>bd (A9 (x6,x7)) λr8=>bd (CC (x.2.2,r8)) λr9=>some (((([],([],(false,0))):AD),(0,((r1,(lset r2 0 (AI .i64 x4 1),r9.1)),0))))) λ_=>AT r3.1 λk10=>gd (Dk k10 (AA r1)) λ_=>ix r1 k10 λx11=>AT r3.1 λk12=>gd (Dk k12 (AA r2)) λ_=>ix r2 k12 λx13=>AT x13 λk14=>ix x11 k14 λx15=>AT r3.1 λk16=>gd (Dk k16 (AA r2)) λ_=>ix r2 k16 λx17=>AT r3.1 λk18=>gd (Dk k18 (AA r2)) λ_=>ix r2 k18 λx19=>AT r3.1 λk20=>gd (Dk k20 (AA r1)) λ_=>ix r1 k20 λx21=>AT r3.1 λk22=>gd (Dk k22 (AA (lset r2 k18 (AI .i64 x17 1)))) λ_=>ix (lset r2 k18 (AI .i64 x17 1)) k22 λx23=>bd (A9 (x21,x23)) λr24=>bd (CC (x.2.2,r24)) λr25=>some ((x15,(r3.1,((r1,(lset r2 k18 (AI .i64 x17 1),r25.1)),0))))
def B0 (x:((Bool×AM)×AD)):Option (Bool×((Bool×AM)×Int)) :=
 bd (Dd x.1) λr0=>br (A7 r0 0) (λ_=>some ((false,((false,([],false)),r0)))) λ_=>bd (CB x.2) λr1=>br (A7 r1 0) (λ_=>some ((false,((false,([],false)),r1)))) λ_=>br x.1.1 (λ_=>br (C1 x.2.1 x.1.2.1) (λ_=>some ((false,((false,([],false)),6)))) λ_=>br x.1.1 (λ_=>br (seq x.2.1 x.1.2.1) (λ_=>some ((false,((true,(x.2.1,x.1.2.2)),0)))) λ_=>br x.1.2.2 (λ_=>br x.2.2.2.1 (λ_=>some ((false,((true,(x.2.1,x.1.2.2)),0)))) λ_=>some ((true,((true,(x.2.1,x.1.2.2)),0)))) λ_=>some ((true,((true,(x.2.1,x.1.2.2)),0)))) λ_=>br x.1.2.2 (λ_=>br x.2.2.2.1 (λ_=>some ((false,((true,(x.2.1,x.1.2.2)),0)))) λ_=>some ((true,((true,(x.2.1,x.1.2.2)),0)))) λ_=>some ((true,((true,(x.2.1,x.1.2.2)),0)))) λ_=>br x.1.1 (λ_=>br (seq x.2.1 x.1.2.1) (λ_=>some ((false,((true,(x.2.1,x.1.2.2)),0)))) λ_=>br x.1.2.2 (λ_=>br x.2.2.2.1 (λ_=>some ((false,((true,(x.2.1,x.1.2.2)),0)))) λ_=>some ((true,((true,(x.2.1,x.1.2.2)),0)))) λ_=>some ((true,((true,(x.2.1,x.1.2.2)),0)))) λ_=>br x.1.2.2 (λ_=>br x.2.2.2.1 (λ_=>some ((false,((true,(x.2.1,x.1.2.2)),0)))) λ_=>some ((true,((true,(x.2.1,x.1.2.2)),0)))) λ_=>some ((true,((true,(x.2.1,x.1.2.2)),0)))
def B3 (x:((AN×((Bool×AM)×((List AD)×Int)))×Int)):Option ((AN×((Bool×AM)×((List AD)×Int)))×(Int×Int)) :=
 bd (BY x.1) λr0=>br (A7 r0.2 0) (λ_=>some (((([],([],([],([],0)))),((false,([],false)),([],0))),(0,r0.2)))) λ_=>br (Am x.2 0) (λ_=>some (((([],([],([],([],0)))),((false,([],false)),([],0))),(0,7)))) λ_=>br (CE (AI .i64 x.1.2.2.2 (NC x.2 r0.1)) 20000) (λ_=>some (((([],([],([],([],0)))),((false,([],false)),([],0))),(0,3)))) λ_=>gd (BJ (AA x.1.2.2.1) 1048576) λ_=>gd (BJ (AA x.1.1.2.1) 1048576) λ_=>br (Am 0 (NC x.2 r0.1)) (λ_=>bd (Bt x.1.1) λr1=>br (A7 r1.2.2.2 0) (λ_=>br (A7 r1.2.2.2 0) (λ_=>br (A7 r1.2.2.2 0) (λ_=>some (((([],([],([],([],0)))),((false,([],false)),([],0))),(0,r1.2.2.2)))) λ_=>some ((x.1,(NC x.2 r0.1,0)))) λ_=>none) λ_=>bd (B0 (x.1.2.1,r1.1)) λr2=>br (A7 r2.2.2 0) (λ_=>br (A7 r2.2.2 0) (λ_=>br (A7 r2.2.2 0) (λ_=>some (((([],([],([],([],0)))),((false,([],false)),([],0))),(0,r2.2.2)))) λ_=>some ((x.1,(NC x.2 r0.1,0)))) λ_=>none) λ_=>br r2.1 (λ_=>gd (BJ (Ao (AA x.1.2.2.1) (AA [r1.1])) 1048576) λ_=>bd (loop (λs3=>br (Am s3.1 (NC x.2 r0.1)) (λ_=>bd (Bt ((s3.2.2.1,(s3.2.2.2.1,(s3.2.2.2.2.1,(s3.2.2.2.2.2.1,s3.2.2.2.2.2.2.1)))))) λr4=>br (A7 r4.2.2.2 0) (λ_=>br (A7 r4.2.2.2 0) (λ_=>some (.dn ((0,((s3.1,(r4.2.2.2,s3.2.2)),()))))) λ_=>some (.nx (AI .i64 s3.1 1,s3.2))) λ_=>bd (B0 (((s3.2.2.2.2.2.2.2.1,(s3.2.2.2.2.2.2.2.2.1,s3.2.2.2.2.2.2.2.2.2.1)),r4.1))) λr5=>br (A7 r5.2.2 0) (λ_=>br (A7 r5.2.2 0) (λ_=>some (.dn ((0,((s3.1,(r5.2.2,s3.2.2)),()))))) λ_=>some (.nx (AI .i64 s3.1 1,s3.2))) λ_=>br r5.1 (λ_=>gd (BJ (Ao (AA s3.2.2.2.2.2.2.2.2.2.2.1) (AA [r4.1])) 1048576) λ_=>some (.nx ((AI .i64 s3.1 1,(s3.2.1,(r4.2.2.1.1,(r4.2.2.1.2.1,(r4.2.2.1.2.2.1,(r4.2.2.1.2.2.2.1,(r4.2.2.1.2.2.2.2,(r5.2.1.1,(r5.2.1.2.1,(r5.2.1.2.2,(By s3.2.2.2.2.2.2.2.2.2.2.1 [r4.1],AI .i64 s3.2.2.2.2.2.2.2.2.2.2.2 1)))))))))))))) λ_=>some (.nx ((AI .i64 s3.1 1,(s3.2.1,(r4.2.2.1.1,(r4.2.2.1.2.1,(r4.2.2.1.2.2.1,(r4.2.2.1.2.2.2.1,(r4.2.2.1.2.2.2.2,(r5.2.1.1,(r5.2.1.2.1,(r5.2.1.2.2,(s3.2.2.2.2.2.2.2.2.2.2.1,AI .i64 s3.2.2.2.2.2.2.2.2.2.2.2 1)))))))))))))) λ_=>some (.dn ((1,(s3,()))))) ((1,(0,(r1.2.2.1.1,(r1.2.2.1.2.1,(r1.2.2.1.2.2.1,(r1.2.2.1.2.2.2.1,(r1.2.2.1.2.2.2.2,(r2.2.1.1,(r2.2.1.2.1,(r2.2.1.2.2,(By x.1.2.2.1 [r1.1],AI .i64 x.1.2.2.2 1))))))))))))) λr6=>br (neq r6.1 0) (λ_=>br (A7 r6.2.1.2.1 0) (λ_=>some (((([],([],([],([],0)))),((false,([],false)),([],0))),(0,r6.2.1.2.1)))) λ_=>some ((((r6.2.1.2.2.1,(r6.2.1.2.2.2.1,(r6.2.1.2.2.2.2.1,(r6.2.1.2.2.2.2.2.1,r6.2.1.2.2.2.2.2.2.1)))),((r6.2.1.2.2.2.2.2.2.2.1,(r6.2.1.2.2.2.2.2.2.2.2.1,r6.2.1.2.2.2.2.2.2.2.2.2.1)),r6.2.1.2.2.2.2.2.2.2.2.2.2)),(NC x.2 r0.1,0)))) λ_=>some ((((r6.2.1.2.2.1,(r6.2.1.2.2.2.1,(r6.2.1.2.2.2.2.1,(r6.2.1.2.2.2.2.2.1,r6.2.1.2.2.2.2.2.2.1)))),((r6.2.1.2.2.2.2.2.2.2.1,(r6.2.1.2.2.2.2.2.2.2.2.1,r6.2.1.2.2.2.2.2.2.2.2.2.1)),r6.2.1.2.2.2.2.2.2.2.2.2.2)),(NC x.2 r0.1,0)))) λ_=>bd (loop (λs7=>br (Am s7.1 (NC x.2 r0.1)) (λ_=>bd (Bt ((s7.2.2.1,(s7.2.2.2.1,(s7.2.2.2.2.1,(s7.2.2.2.2.2.1,s7.2.2.2.2.2.2.1)))))) λr8=>br (A7 r8.2.2.2 0) (λ_=>br (A7 r8.2.2.2 0) (λ_=>some (.dn ((0,((s7.1,(r8.2.2.2,s7.2.2)),()))))) λ_=>some (.nx (AI .i64 s7.1 1,s7.2))) λ_=>bd (B0 (((s7.2.2.2.2.2.2.2.1,(s7.2.2.2.2.2.2.2.2.1,s7.2.2.2.2.2.2.2.2.2.1)),r8.1))) λr9=>br (A7 r9.2.2 0) (λ_=>br (A7 r9.2.2 0) (λ_=>some (.dn ((0,((s7.1,(r9.2.2,s7.2.2)),()))))) λ_=>some (.nx (AI .i64 s7.1 1,s7.2))) λ_=>br r9.1 (λ_=>gd (BJ (Ao (AA s7.2.2.2.2.2.2.2.2.2.2.1) (AA [r8.1])) 1048576) λ_=>some (.nx ((AI .i64 s7.1 1,(s7.2.1,(r8.2.2.1.1,(r8.2.2.1.2.1,(r8.2.2.1.2.2.1,(r8.2.2.1.2.2.2.1,(r8.2.2.1.2.2.2.2,(r9.2.1.1,(r9.2.1.2.1,(r9.2.1.2.2,(By s7.2.2.2.2.2.2.2.2.2.2.1 [r8.1],AI .i64 s7.2.2.2.2.2.2.2.2.2.2.2 1)))))))))))))) λ_=>some (.nx ((AI .i64 s7.1 1,(s7.2.1,(r8.2.2.1.1,(r8.2.2.1.2.1,(r8.2.2.1.2.2.1,(r8.2.2.1.2.2.2.1,(r8.2.2.1.2.2.2.2,(r9.2.1.1,(r9.2.1.2.1,(r9.2.1.2.2,(s7.2.2.2.2.2.2.2.2.2.2.1,AI .i64 s7.2.2.2.2.2.2.2.2.2.2.2 1)))))))))))))) λ_=>some (.dn ((1,(s7,()))))) ((1,(0,(r1.2.2.1.1,(r1.2.2.1.2.1,(r1.2.2.1.2.2.1,(r1.2.2.1.2.2.2.1,(r1.2.2.1.2.2.2.2,(r2.2.1.1,(r2.2.1.2.1,(r2.2.1.2.2,(x.1.2.2.1,AI .i64 x.1.2.2.2 1))))))))))))) λr10=>br (neq r10.1 0) (λ_=>br (A7 r10.2.1.2.1 0) (λ_=>some (((([],([],([],([],0)))),((false,([],false)),([],0))),(0,r10.2.1.2.1)))) λ_=>some ((((r10.2.1.2.2.1,(r10.2.1.2.2.2.1,(r10.2.1.2.2.2.2.1,(r10.2.1.2.2.2.2.2.1,r10.2.1.2.2.2.2.2.2.1)))),((r10.2.1.2.2.2.2.2.2.2.1,(r10.2.1.2.2.2.2.2.2.2.2.1,r10.2.1.2.2.2.2.2.2.2.2.2.1)),r10.2.1.2.2.2.2.2.2.2.2.2.2)),(NC x.2 r0.1,0)))) λ_=>some ((((r10.2.1.2.2.1,(r10.2.1.2.2.2.1,(r10.2.1.2.2.2.2.1,(r10.2.1.2.2.2.2.2.1,r10.2.1.2.2.2.2.2.2.1)))),((r10.2.1.2.2.2.2.2.2.2.1,(r10.2.1.2.2.2.2.2.2.2.2.1,r10.2.1.2.2.2.2.2.2.2.2.2.1)),r10.2.1.2.2.2.2.2.2.2.2.2.2)),(NC x.2 r0.1,0)))) λ_=>some ((x.1,(NC x.2 r0.1,0)))
def BK (x:((List AD)×(List AD))):Option Bool :=
 br (A7 (AX (AA x.1)) (AX (AA x.2))) (λ_=>some false) λ_=>bd (loop (λs0=>br (Am s0.1 (AX (AA x.1))) (λ_=>AT s0.1 λk1=>ix x.1 k1 λx2=>AT s0.1 λk3=>ix x.2 k3 λx4=>br (AY (Bd (seq x2.1 x4.1) (Bd (seq x2.2.1 x4.2.1) (Bd (beq x2.2.2.1 x4.2.2.1) (Bd (BN x2.2.2.2 x4.2.2.2) true))))) (λ_=>some (.dn ((0,((s0.1,false),()))))) λ_=>some (.nx (AI .i64 s0.1 1,s0.2))) λ_=>some (.dn ((1,(s0,()))))) (0,false)) λr5=>br (neq r5.1 0) (λ_=>some r5.2.1.2) λ_=>some true
def Bg (x:((List AD)×(List AD))):Option Bool :=
 bd (BK x) λr0=>some r0
def C7 (x:((AN×((Bool×AM)×((List AD)×Int)))×(AN×((Bool×AM)×((List AD)×Int))))):Option Bool :=
 br (A7 (AX (AA x.1.1.1)) (AX (AA x.2.1.1))) (λ_=>some false) λ_=>bd (loop (λs0=>br (Am s0.1 (AX (AA x.1.1.1))) (λ_=>AT s0.1 λk1=>ix x.1.1.1 k1 λx2=>AT s0.1 λk3=>ix x.2.1.1 k3 λx4=>bd (Bg (x2,x4)) λr5=>br (AY r5) (λ_=>some (.dn ((0,((s0.1,false),()))))) λ_=>some (.nx (AI .i64 s0.1 1,s0.2))) λ_=>some (.dn ((1,(s0,()))))) (0,false)) λr6=>br (neq r6.1 0) (λ_=>br r6.2.1.2 (λ_=>bd (Ac (x.1.1.2.1,x.2.1.2.1)) λr7=>br r7 (λ_=>bd (Ah (x.1.1.2.2.1,x.2.1.2.2.1)) λr8=>br r8 (λ_=>bd (Ac (x.1.1.2.2.2.1,x.2.1.2.2.2.1)) λr9=>br r9 (λ_=>br (BN x.1.1.2.2.2.2 x.2.1.2.2.2.2) (λ_=>br (Bd (beq x.1.2.1.1 x.2.2.1.1) (Bd (seq x.1.2.1.2.1 x.2.2.1.2.1) (Bd (beq x.1.2.1.2.2 x.2.2.1.2.2) true))) (λ_=>bd (Bg (x.1.2.2.1,x.2.2.2.1)) λr10=>br r10 (λ_=>some (BN x.1.2.2.2 x.2.2.2.2)) λ_=>some false) λ_=>some false) λ_=>some false) λ_=>some false) λ_=>some false) λ_=>some false) λ_=>some false) λ_=>bd (Ac (x.1.1.2.1,x.2.1.2.1)) λr11=>br r11 (λ_=>bd (Ah (x.1.1.2.2.1,x.2.1.2.2.1)) λr12=>br r12 (λ_=>bd (Ac (x.1.1.2.2.2.1,x.2.1.2.2.2.1)) λr13=>br r13 (λ_=>br (BN x.1.1.2.2.2.2 x.2.1.2.2.2.2) (λ_=>br (Bd (beq x.1.2.1.1 x.2.2.1.1) (Bd (seq x.1.2.1.2.1 x.2.2.1.2.1) (Bd (beq x.1.2.1.2.2 x.2.2.1.2.2) true))) (λ_=>bd (Bg (x.1.2.2.1,x.2.2.2.1)) λr14=>br r14 (λ_=>some (BN x.1.2.2.2 x.2.2.2.2)) λ_=>some false) λ_=>some false) λ_=>some false) λ_=>some false) λ_=>some false) λ_=>some false
def Ce (x:(AJ×((List (Int×(AN×((Bool×AM)×((List AD)×Int)))))×Int))):Option (Int×Int) :=
 bd (Cq x.1) λr0=>br (A7 r0.2.2 0) (λ_=>some (((-1),r0.2.2))) λ_=>br (Am x.2.2 1) (λ_=>some (((-1),7))) λ_=>br (CE x.2.2 1000001) (λ_=>some (((-1),7))) λ_=>bd (D5 x.1) λr1=>br (fq x.2.2 r1) (λ_=>some (((-1),6))) λ_=>bd (loop (λs2=>br (Am s2.1 (AX (AA x.1.2))) (λ_=>AT s2.1 λk3=>ix x.1.2 k3 λx4=>br (BN (AX (AA x4)) 2) (λ_=>gd (BJ (Ao (AA s2.2) (AA [s2.1])) 1048576) λ_=>some (.nx (AI .i64 s2.1 1,By s2.2 [s2.1]))) λ_=>some (.nx (AI .i64 s2.1 1,s2.2))) λ_=>some (.dn ((0,(s2,()))))) (0,[])) λr5=>bd (loop (λs6=>br (Am s6.2.2 (AX (AA x.2.1))) (λ_=>AT s6.2.2 λk7=>ix x.2.1 k7 λx8=>br (G1 s6.2.2 (AX (AA r5.2.1.2))) (λ_=>some (.dn ((0,((6,(s6.2.2,s6.2.2)),()))))) λ_=>AT s6.2.2 λk9=>gd (Dk k9 (AA r5.2.1.2)) λ_=>ix r5.2.1.2 k9 λx10=>br (A7 x8.1 x10) (λ_=>some (.dn ((0,((6,(s6.2.2,s6.2.2)),()))))) λ_=>br x8.2.2.1.2.2 (λ_=>bd (Cj (x.1,x8.1)) λr11=>br (AY r11) (λ_=>some (.dn ((0,((6,(s6.2.2,s6.2.2)),()))))) λ_=>bd (CL ((x.1,(x8.1,x8.2.2.1.2.2)))) λr12=>bd (BY r12.2) λr13=>br (Am x8.2.2.2.2 0) (λ_=>some (.dn ((0,((6,(s6.2.2,s6.2.2)),()))))) λ_=>br (CE x8.2.2.2.2 r13.1) (λ_=>some (.dn ((0,((6,(s6.2.2,s6.2.2)),()))))) λ_=>bd (B3 (r12.2,x8.2.2.2.2)) λr14=>bd (C7 (r14.1,x8.2)) λr15=>br (AY r15) (λ_=>some (.dn ((0,((6,(s6.2.2,s6.2.2)),()))))) λ_=>some (.nx ((s6.1,(s6.2.1,AI .i64 s6.2.2 1))))) λ_=>bd (CL ((x.1,(x8.1,x8.2.2.1.2.2)))) λr16=>bd (BY r16.2) λr17=>br (Am x8.2.2.2.2 0) (λ_=>some (.dn ((0,((6,(s6.2.2,s6.2.2)),()))))) λ_=>br (CE x8.2.2.2.2 r17.1) (λ_=>some (.dn ((0,((6,(s6.2.2,s6.2.2)),()))))) λ_=>bd (B3 (r16.2,x8.2.2.2.2)) λr18=>bd (C7 (r18.1,x8.2)) λr19=>br (AY r19) (λ_=>some (.dn ((0,((6,(s6.2.2,s6.2.2)),()))))) λ_=>some (.nx ((s6.1,(s6.2.1,AI .i64 s6.2.2 1))))) λ_=>some (.dn ((1,(s6,()))))) ((r0.2.2,(0,0)))) λr20=>br (neq r20.1 0) (λ_=>some (r20.2.1.2.1,r20.2.1.1)) λ_=>br (Am (AX (AA x.2.1)) (AX (AA r5.2.1.2))) (λ_=>some (((-1),4))) λ_=>some (0,0)
end Go.Proofs.YthpkjfabdccpdaaGreat.Pl
namespace Go.Proofs.YthpkjfabdccpdaaGreat.Pl
open Go Go.Proofs.YthpkjfabdccpdaaGreat.Sv
abbrev L0:=List UInt8
theorem L1 (a:L0):C1 a []=false:=by unfold C1;cases a<;>rfl
theorem Q9 (b:UInt8) (y:L0):C1 [] (b::y)=true:=rfl
theorem IM (a b:UInt8) (x y:L0):C1 (a::x) (b::y)=(decide (a<b)||(a == b&&C1 x y)):=rfl
theorem Ir : ∀ a:L0,C1 a a=false
 | []=>rfl
 | a::x=>by rw [IM,Ir x];simp
theorem IN : ∀ {a b c:L0},C1 a b=true->C1 b c=true->C1 a c=true
 | [],b,[],h1,h2=>by rw [L1] at h2;cases h2
 | [],b,c::z,_,_=>rfl
 | a::x,[],c,h1,_=>by rw [L1] at h1;cases h1
 | a::x,b::y,[],_,h2=>by rw [L1] at h2;cases h2
 | a::x,b::y,c::z,h1,h2=>by
  rw [IM] at h1 h2 ⊢;simp only [Bool.or_eq_true,decide_eq_true_eq,Bool.and_eq_true,beq_iff_eq] at h1 h2 ⊢;rcases h1 with h1 | ⟨rfl,h1⟩
  ·rcases h2 with h2 | ⟨rfl,h2⟩
   ·exact .inl (UInt8.lt_trans h1 h2)
   ·exact .inl h1
  ·rcases h2 with h2 | ⟨rfl,h2⟩
   ·exact .inl h2
   ·exact .inr ⟨rfl,IN h1 h2⟩
theorem RB : ∀ a b:L0,C1 a b=true\/a=b\/C1 b a=true
 | [],[] => .inr (.inl rfl)
 | [],_::_ => .inl rfl
 | _::_,[] => .inr (.inr rfl)
 | a::x,b::y=>by
  rw [IM,IM];simp only [Bool.or_eq_true,decide_eq_true_eq,Bool.and_eq_true,beq_iff_eq,List.cons.injEq];rcases UInt8.lt_or_lt_of_ne (a:=a) (b:=b) |> λh=>Classical.em (a=b) |>.imp id h with h | h | h
  ·subst h;rcases RB x y with h | h | h
   ·exact .inl (.inr ⟨rfl,h⟩)
   ·exact .inr (.inl ⟨rfl,h⟩)
   ·exact .inr (.inr (.inr ⟨rfl,h⟩))
  ·exact .inl (.inl h)
  ·exact .inr (.inr (.inl h))
theorem Df {a b:L0} (h:C1 a b=true):C1 b a=false:=by
 cases h2:C1 b a with
 | false=>rfl
 | true=>have:=IN h h2;rw [Ir] at this;cases this
theorem UB {a b:L0} (h:C1 a b=true):a≠b:=λe=>by subst e;rw [Ir] at h;cases h
theorem RC {a b:L0} (h:C1 a b=false) (hn:a≠b):C1 b a=true:=by
 rcases RB a b with h1 | h1 | h1
 ·rw [h] at h1;cases h1
 ·exact absurd h1 hn
 ·exact h1
theorem UC {a b c:L0} (h:C1 b a=false) (h2:C1 b c=true):C1 a c=true:=by
 rcases RB a b with h1 | h1 | h1
 ·exact IN h1 h2
 ·subst h1;exact h2
 ·rw [h] at h1;cases h1
theorem NZ {a b:L0}:seq a b=true<->a=b:=by unfold seq;simp
theorem K6 (a b:L0):seq a b=decide (a=b):=by
 cases h:seq a b with
 | true=>rw [NZ] at h;simp [h]
 | false =>
  have : ¬ a=b:=λe=>by rw [<- NZ] at e;rw [h] at e;cases e
  simp [this]
section
variable {α β σ S:Type}
theorem Ea (a b:L0) (x y:Unit->Option β):br (seq a b) x y=if a=b then x () else y ():=NM NZ x y
theorem GQ (a b:L0) (x y:Unit->Option β):br (C1 a b) x y=if C1 a b=true then x () else y ():=NM Iff.rfl x y
theorem CZ (p:Prop) [Decidable p] (x y:Unit->Option β):br (decide p) x y=if p then x () else y ():=NM (by simp) x y
theorem AF (k:Nat) (c:Nat->Option β):AT (k:Int) c=c k:=by rw [fF (by omega)];simp
theorem gk {l:List α} {k:Nat} {x:α} (h:l[k]? = some x):Am (k:Int) (AX (AA l))=true:=by
 have:=(List.getElem?_eq_some_iff.1 h).1;unfold Am AX AA;simp;omega
theorem fH (l:List α):Am (l.length:Int) (AX (AA l))=false:=by unfold Am AX AA;simp
theorem Ab {k:Nat} (h:k+1<=9223372036854775807):AI .i64 (k:Int) 1=((k+1:Nat):Int):=by
 rw [Du (by omega)];omega
theorem Az {l:List α} {k:Nat} {x:α} (h:l[k]? = some x) (hl:l.length<=9223372036854775807):AI .i64 (k:Int) 1=((k+1:Nat):Int):=by
 have:=(List.getElem?_eq_some_iff.1 h).1;exact Ab (by omega)
def OQ (step:Nat->α->σ->Option (LR σ β)) (fin:σ->Option β):List α->Nat->σ->Option β
 | [],_,s=>fin s
 | x::l,k,s=>match step k x s with
  | none=>none
  | some (.nx s')=>OQ step fin l (k+1) s'
  | some (.dn b)=>some b
def nK (mk:σ->S):Option (LR σ β)->Option (LR S β)
 | none=>none
 | some (.nx s)=>some (.nx (mk s))
 | some (.dn b)=>some (.dn b)
def iZ:Option β->Option (LR S β)
 | none=>none
 | some b=>some (.dn b)
theorem UD {l:List α} {mk:Nat->σ->S} {f:S->Option (LR S β)} {step:Nat->α->σ->Option (LR σ β)} {fin:σ->Option β}
  (hs : ∀ k x st,l[k]? = some x->f (mk k st)=nK (mk (k+1)) (step k x st)) (he : ∀ st,f (mk l.length st)=iZ (fin st)) :
  ∀ (d n k:Nat) (st:σ),l.length-k=d->k<=l.length->d<n->DW n f (mk k st)=OQ step fin (l.drop k) k st:=by
 intro d
 induction d with
 | zero =>
  intro n k st h1 h2 h3;have hk:k=l.length:=by omega
  obtain ⟨m,rfl⟩ : ∃ m,n=m+1:=⟨n-1,by omega⟩;subst hk;unfold DW;rw [he,List.drop_length];unfold iZ OQ;cases fin st<;>rfl
 | succ d ih =>
  intro n k st h1 h2 h3;obtain ⟨m,rfl⟩ : ∃ m,n=m+1:=⟨n-1,by omega⟩;have hk:k<l.length:=by omega
  have hx:l[k]? = some l[k]:=by simp [hk]
  unfold DW;rw [hs k _ st hx,List.drop_eq_getElem_cons hk]
  show _=match step k l[k] st with
   | none=>none
   | some (.nx s')=>OQ step fin (l.drop (k+1)) (k+1) s'
   | some (.dn b)=>some b
  cases step k l[k] st with
  | none=>rfl
  | some r=>cases r with
   | nx s'=>exact ih m (k+1) s' (by omega) (by omega) (by omega)
   | dn b=>rfl
theorem Wu {l:List α} (mk:Nat->σ->S) (step:Nat->α->σ->Option (LR σ β)) (fin:σ->Option β) {f:S->Option (LR S β)} {s:S} (st:σ) (h0:s=mk 0 st) (hl:l.length<=9223372036854775807)
  (hs : ∀ k x st,l[k]? = some x->f (mk k st)=nK (mk (k+1)) (step k x st)) (he : ∀ st,f (mk l.length st)=iZ (fin st)) :
  loop f s=OQ step fin l 0 st:=by
 subst h0;have:=UD hs he l.length 18446744073709551616 0 st (by omega) (by omega) (by omega);rw [List.drop_zero] at this;exact this
theorem ST {f:α->Option (LR α β)} {x:β} : ∀ {n m:Nat} {s:α},n<=m->DW n f s=some x->DW m f s=some x
 | 0,_,_,_,h=>by cases h
 | n+1,0,_,hl,_=>by omega
 | n+1,m+1,s,hl,h=>by
  unfold DW at h ⊢;split at h
  ·cases h
  ·rename_i s' e;exact ST (by omega) h
  ·exact h
theorem C8 {f:α->Option (LR α β)} {x:β} {n:Nat} {s:α} (hn:n<=18446744073709551616) (h:DW n f s=some x):loop f s=some x:=ST hn h
theorem BV {f:α->Option (LR α β)} {n:Nat} {s s':α} (h:f s=some (.nx s')):DW (n+1) f s=DW n f s':=by
 show (match f s with
  | none=>none
  | some (.nx s)=>DW n f s
  | some (.dn x)=>some x)=_
 rw [h]
theorem BZ {f:α->Option (LR α β)} {n:Nat} {s:α} {x:β} (h:f s=some (.dn x)):DW (n+1) f s=some x:=by
 show (match f s with
  | none=>none
  | some (.nx s)=>DW n f s
  | some (.dn x)=>some x)=_
 rw [h]
theorem HN {f : S -> Option (LR S β)} {r : β} (mk : Nat -> S) (n : Nat) {s : S} (h0 : s = mk 0) (hn : n < 18446744073709551616) (hs : ∀ k, k < n -> f (mk k) = some (.nx (mk (k + 1)))) (he : f (mk n) = some (.dn r)) : loop f s = some r := by
  subst h0
  have : ∀ d k, k + d = n -> DW (d + 1) f (mk k) = some r := by
    intro d
    induction d with
    | zero => intro k hk; have : k = n := by omega
              subst this; exact BZ he
    | succ d ih => intro k hk; rw [BV (hs k (by omega))]; exact ih (k + 1) (by omega)
  exact C8 (n := n + 1) (by omega) (this n 0 (by omega))
end
end Go.Proofs.YthpkjfabdccpdaaGreat.Pl
namespace Go.Proofs.YthpkjfabdccpdaaGreat.Pl
open Go Go.Proofs.YthpkjfabdccpdaaGreat.Sv
def kE (x:AD):Int:=if x.1.length>32\/x.2.1.length>64 then 3 else if x.2.2.1=true/\x.2.1≠[] then 6 else if x.2.2.2<1\/x.2.2.2>1000000000 then 7 else 0
def Jf:Option L0->Nat->List AD->Int×Int
 | _,_,[]=>(0,0)
 | p,k,x::l=>if kE x≠0 then ((k:Int),kE x) else match p with
  | some q=>if C1 q x.1=true then Jf (some x.1) (k+1) l else ((k:Int),6)
  | none=>Jf (some x.1) (k+1) l
def Ca (l:List AD):Int×Int:=if l.length>5000 then (-1,3) else Jf none 0 l
def Asc:Option L0->List AD->Prop
 | _,[]=>True
 | p,x::l=>(∀ q,p=some q->C1 q x.1=true)/\Asc (some x.1) l
theorem RD : ∀ {p k l},(Jf p k l).2=0<->(∀ x∈l,kE x=0)/\Asc p l
 | p,k,[]=>by simp [Jf,Asc]
 | p,k,x::l=>by
  unfold Jf;by_cases h:kE x=0
  ·rw [if_neg (by simp [h])];cases p with
   | none =>
    simp only [RD (p:=some x.1) (l:=l),Asc,List.mem_cons,forall_eq_or_imp];constructor
    ·rintro ⟨h1,h2⟩;exact ⟨⟨h,h1⟩,(λq hq=>by cases hq),h2⟩
    ·rintro ⟨⟨_,h1⟩,_,h2⟩;exact ⟨h1,h2⟩
   | some q =>
    simp only;by_cases hq:C1 q x.1=true
    ·rw [if_pos hq];simp only [RD (p:=some x.1) (l:=l),Asc,List.mem_cons,forall_eq_or_imp];constructor
     ·rintro ⟨h1,h2⟩;exact ⟨⟨h,h1⟩,(λq' hq'=>by cases hq';exact hq),h2⟩
     ·rintro ⟨⟨_,h1⟩,_,h2⟩;exact ⟨h1,h2⟩
    ·rw [if_neg hq];constructor
     ·intro h;cases h
     ·rintro ⟨_,h2⟩;exact absurd (h2.1 q rfl) hq
  ·rw [if_pos h];constructor
   ·intro h';exact absurd h' h
   ·rintro ⟨h1,_⟩;exact absurd (h1 x (by simp)) h
theorem Mm : ∀ {p k l},(Jf p k l).2=0->Jf p k l=(0,0)
 | p,k,[],_=>rfl
 | p,k,x::l,h=>by
  unfold Jf at h ⊢;by_cases hx:kE x=0
  ·rw [if_neg (by simp [hx])] at h ⊢;cases p with
   | none=>exact Mm h
   | some q =>
    simp only at h ⊢;by_cases hq:C1 q x.1=true
    ·rw [if_pos hq] at h ⊢;exact Mm h
    ·rw [if_neg hq] at h;cases h
  ·rw [if_pos hx] at h;exact absurd h hx
structure VL (l:List AD):Prop where
 len:l.length<=5000
 ok : ∀ x∈l,kE x=0
 asc:Asc none l
theorem Mn {l:List AD}:(Ca l).2=0<->VL l:=by
 unfold Ca;by_cases h:l.length>5000
 ·rw [if_pos h];constructor
  ·intro h;cases h
  ·intro h';have:=h'.len;omega
 ·rw [if_neg h];rw [RD];exact ⟨λ⟨a,b⟩=>⟨by omega,a,b⟩,λh=>⟨h.ok,h.asc⟩⟩
theorem Jg {l:List AD} (h:VL l):Ca l=(0,0):=by
 have h2:=Mn.2 h;unfold Ca at h2 ⊢;rw [if_neg (by have:=h.len;omega)] at h2 ⊢;exact Mm h2
theorem Asc.lt : ∀ {p:Option L0} {l:List AD},Asc p l -> ∀ {i:Nat} {x y:AD},l[i]? = some x->l[i+1]? = some y->C1 x.1 y.1=true
 | p,x::[],_,0,_,_,_,h2=>by simp at h2
 | p,a::b::l,h,0,x,y,h1,h2=>by
  simp at h1 h2;subst h1;subst h2;exact h.2.1 _ rfl
 | p,a::l,h,i+1,x,y,h1,h2=>by
  simp at h1 h2;exact Asc.lt h.2 h1 h2
theorem VL.lt {l:List AD} (h:VL l) {i:Nat} {x y:AD} (h1:l[i]? = some x) (h2:l[i+1]? = some y):C1 x.1 y.1=true:=h.asc.lt h1 h2
def kx (l:List AD) (i:Nat):AM:=match l[i]? with
 | some x=>(x.1,false)
 | none=>([],true)
def w0 (p q:AM):Bool:=if p.2≠q.2 then q.2 else if p.1≠q.1 then C1 p.1 q.1 else true
def Ha (a b:List AD) (i j:Nat):Bool:=w0 (kx a i) (kx b j)
def Aj (a b:List AD):Nat->Nat×Nat
 | 0=>(0,0)
 | n+1=>if Ha a b (Aj a b n).1 (Aj a b n).2=true then ((Aj a b n).1+1,(Aj a b n).2) else ((Aj a b n).1,(Aj a b n).2+1)
def NN (a b:List AD) (n:Nat):Option AD:=if Ha a b (Aj a b n).1 (Aj a b n).2=true then a[(Aj a b n).1]? else b[(Aj a b n).2]?
structure Inv (a b:List AD) (i j:Nat):Prop where
 ia:i<=a.length
 jb:j<=b.length
 pa : ∀ i',i=i'+1 -> ∀ x y,a[i']? = some x->b[j]? = some y->C1 y.1 x.1=false
 pb : ∀ j',j=j'+1 -> ∀ x y,b[j']? = some x->a[i]? = some y->C1 x.1 y.1=true
theorem OS {a b:List AD} {i j:Nat} {x y:AD} (h1:a[i]? = some x) (h2:b[j]? = some y):Ha a b i j = !C1 y.1 x.1:=by
 unfold Ha w0 kx;rw [h1,h2];simp only [ne_eq,not_true,if_false];by_cases h:x.1=y.1
 ·rw [if_neg (by simp [h]),h,Ir];rfl
 ·rw [if_pos h];cases hs:C1 x.1 y.1 with
  | true=>rw [Df hs];rfl
  | false=>rw [RC hs h];rfl
theorem Vs {a b:List AD} {i j:Nat} {x:AD} (h1:a[i]? = some x) (h2:b[j]? = none):Ha a b i j=true:=by
 unfold Ha w0 kx;rw [h1,h2];rfl
theorem Vt {a b:List AD} {i j:Nat} {y:AD} (h1:a[i]? = none) (h2:b[j]? = some y):Ha a b i j=false:=by
 unfold Ha w0 kx;rw [h1,h2];rfl
theorem SU {a b:List AD} {i j:Nat} (h1:a[i]? = none) (h2:b[j]? = none):Ha a b i j=true:=by
 unfold Ha w0 kx;rw [h1,h2];rfl
theorem Inv.zero (a b:List AD):Inv a b 0 0:=⟨by omega,by omega,λ_ h=>by omega,λ_ h=>by omega⟩
theorem Inv.stepA {a b:List AD} (va:VL a) {i j:Nat} (h:Inv a b i j) {x:AD} (hx:a[i]? = some x) (g:Ha a b i j=true):Inv a b (i+1) j:=by
 have hi:=(List.getElem?_eq_some_iff.1 hx).1;refine ⟨by omega,h.jb,λi' e x' y h1 h2 => ?_,λj' e x' y h1 h2 => ?_⟩
 ·have:i'=i:=by omega
  subst this;rw [hx] at h1;cases h1;rw [OS hx h2] at g;simpa using g
 ·exact IN (h.pb j' e x' x h1 hx) (va.lt hx h2)
theorem Inv.stepB {a b:List AD} (vb:VL b) {i j:Nat} (h:Inv a b i j) {y:AD} (hy:b[j]? = some y) (g:Ha a b i j=false):Inv a b i (j+1):=by
 have hj:=(List.getElem?_eq_some_iff.1 hy).1;refine ⟨h.ia,by omega,λi' e x' y' h1 h2 => ?_,λj' e x' y' h1 h2 => ?_⟩
 ·have h3:=h.pa i' e x' y h1 hy;exact Df (UC h3 (vb.lt hy h2))
 ·have:j'=j:=by omega
  subst this;rw [hy] at h1;cases h1;rw [OS h2 hy] at g;simpa using g
theorem FT {a b:List AD} (va:VL a) (vb:VL b) : ∀ {n:Nat},n<=a.length+b.length->Inv a b (Aj a b n).1 (Aj a b n).2/\(Aj a b n).1+(Aj a b n).2=n
 | 0,_=>⟨Inv.zero a b,rfl⟩
 | n+1,h=>by
  obtain ⟨hI,hs⟩:=FT va vb (n:=n) (by omega);rw [show Aj a b (n+1)=if Ha a b (Aj a b n).1 (Aj a b n).2=true then ((Aj a b n).1+1,(Aj a b n).2) else ((Aj a b n).1,(Aj a b n).2+1) from rfl]
  revert hI hs;generalize (Aj a b n).1=i;generalize (Aj a b n).2=j;intro hI hs;cases g:Ha a b i j with
  | true =>
   have hi:i<a.length:=by
    refine Nat.lt_of_not_le λh' => ?_;have h1:a[i]? = none:=List.getElem?_eq_none h';have h2:j<b.length:=by have:=hI.ia;omega
    rw [Vt h1 (by simp [h2]:b[j]? = some b[j])] at g;cases g
   have:=hI.stepA va (by simp [hi]:a[i]? = some a[i]) g;rw [if_pos rfl];exact ⟨this,by omega⟩
  | false =>
   have hj:j<b.length:=by
    refine Nat.lt_of_not_le λh' => ?_;have h1:b[j]? = none:=List.getElem?_eq_none h';cases h2:a[i]? with
    | none=>rw [SU h2 h1] at g;cases g
    | some x=>rw [Vs h2 h1] at g;cases g
   have:=hI.stepB vb (by simp [hj]:b[j]? = some b[j]) g;rw [if_neg (by simp)];exact ⟨this,by omega⟩
end Go.Proofs.YthpkjfabdccpdaaGreat.Pl
namespace Go.Proofs.YthpkjfabdccpdaaGreat.Pl
open Go Go.Proofs.YthpkjfabdccpdaaGreat.Sv
def Tt (p q:AM):Dv:=([p,q],([0,if w0 p q=true then 1 else 0],if w0 p q=true then 0 else 1))
def LG (a b:List AD) (i j:Nat):AN:=([a,b],([(i:Int),(j:Int)],Tt (kx a i) (kx b j)))
def gB (a b:List AD) (n:Nat):L0:=match NN a b n with
 | some x=>x.1
 | none=>[]
def fresh (a b:List AD) (n:Nat) (x:AD):Bool:=decide (n=0)||decide (gB a b (n-1)≠x.1)
def fI (a b:List AD) (bt:Bool):Nat->List AD
 | 0=>[]
 | n+1=>match NN a b n with
  | some x=>if (fresh a b n x && !(bt&&x.2.2.1))=true then fI a b bt n++[x] else fI a b bt n
  | none=>fI a b bt n
def nN (a b:List AD) (bt:Bool) (n:Nat):Bs:=(decide (n≠0),(if n=0 then [] else gB a b (n-1),bt))
def nO (a b:List AD) (bt:Bool) (n:Nat):Iq:=(LG a b (Aj a b n).1 (Aj a b n).2,(nN a b bt n,(fI a b bt n,(n:Int))))
def Aw (a b:List AD):Nat->List AD
 | 0=>[]
 | n+1=>match NN a b n with
  | some x=>Aw a b n++[x]
  | none=>Aw a b n
section
variable {a b:List AD} (va:VL a) (vb:VL b)
include va vb
theorem D8 {n:Nat} (h:n<a.length+b.length) : ∃ x,NN a b n=some x/\(x∈a\/x∈b):=by
 obtain ⟨hI,hs⟩:=FT va vb (n:=n) (by omega);unfold NN;revert hI hs;generalize (Aj a b n).1=i;generalize (Aj a b n).2=j;intro hI hs;cases g:Ha a b i j with
 | true =>
  have hi:i<a.length:=by
   refine Nat.lt_of_not_le λh' => ?_;have h1:a[i]? = none:=List.getElem?_eq_none h';have h2:j<b.length:=by have:=hI.ia;omega
   rw [Vt h1 (by simp [h2]:b[j]? = some b[j])] at g;cases g
  exact ⟨a[i],by simp [hi],.inl (List.getElem_mem hi)⟩
 | false =>
  have hj:j<b.length:=by
   refine Nat.lt_of_not_le λh' => ?_;have h1:b[j]? = none:=List.getElem?_eq_none h';cases h2:a[i]? with
   | none=>rw [SU h2 h1] at g;cases g
   | some x=>rw [Vs h2 h1] at g;cases g
  exact ⟨b[j],by simp [hj],.inr (List.getElem_mem hj)⟩
theorem ZI {n:Nat} {x:AD} (h:NN a b n=some x):kE x=0:=by
 have:x∈a\/x∈b:=by
  unfold NN at h;split at h
  ·exact .inl (List.mem_of_getElem? h)
  ·exact .inr (List.mem_of_getElem? h)
 rcases this with h | h
 ·exact va.ok x h
 ·exact vb.ok x h
theorem Vu {n:Nat} (hn:n+1<a.length+b.length) {x y:AD} (h1:NN a b n=some x) (h2:NN a b (n+1)=some y):C1 y.1 x.1=false:=by
 obtain ⟨hI,hs⟩:=FT va vb (n:=n) (by omega);unfold NN at h1 h2;rw [show Aj a b (n+1)=if Ha a b (Aj a b n).1 (Aj a b n).2=true then ((Aj a b n).1+1,(Aj a b n).2) else ((Aj a b n).1,(Aj a b n).2+1) from rfl] at h2
 revert hI hs h1 h2;generalize (Aj a b n).1=i;generalize (Aj a b n).2=j;intro h1 h2 hI hs;cases g:Ha a b i j with
 | true =>
  rw [if_pos g] at h1;simp only [g,if_true] at h2;have hI':=hI.stepA va h1 g;cases g2:Ha a b (i+1) j with
  | true=>rw [if_pos g2] at h2;exact Df (va.lt h1 h2)
  | false=>rw [if_neg (by simp [g2])] at h2;exact hI'.pa i rfl x y h1 h2
 | false =>
  rw [if_neg (by simp [g])] at h1;simp only [g,if_false,Bool.false_eq_true] at h2;have hI':=hI.stepB vb h1 g;cases g2:Ha a b i (j+1) with
  | true=>rw [if_pos g2] at h2;exact Df (hI'.pb j rfl x y h1 h2)
  | false=>rw [if_neg (by simp [g2])] at h2;exact Df (vb.lt h1 h2)
theorem CV : ∀ {n:Nat},n<=a.length+b.length->(Aw a b n).length=n
 | 0,_=>rfl
 | n+1,h=>by
  obtain ⟨x,hx,_⟩:=D8 va vb (n:=n) (by omega);unfold Aw;rw [hx];simp [CV (n:=n) (by omega)]
theorem IP : ∀ {n k:Nat},n<=a.length+b.length->k<n->(Aw a b n)[k]? = NN a b k
 | n+1,k,h,hk=>by
  obtain ⟨x,hx,_⟩:=D8 va vb (n:=n) (by omega);unfold Aw;rw [hx];show (Aw a b n++[x])[k]? = _;have hl:=CV va vb (n:=n) (by omega);by_cases hkn:k<n
  ·rw [List.getElem?_append_left (by omega)];exact IP (by omega) hkn
  ·have:k=n:=by omega
   subst this;rw [List.getElem?_append_right (by omega),hl];simp [hx]
theorem UE {n m:Nat} (hm:m<=a.length+b.length) (h:n<=m):(Aw a b m).take n=Aw a b n:=by
 apply List.ext_getElem?;intro k;rw [List.getElem?_take];by_cases hk:k<n
 ·rw [if_pos hk,IP va vb hm (by omega),IP va vb (by omega) hk]
 ·rw [if_neg hk,List.getElem?_eq_none];rw [CV va vb (by omega)];omega
end
end Go.Proofs.YthpkjfabdccpdaaGreat.Pl
namespace Go.Proofs.YthpkjfabdccpdaaGreat.Pl
open Go Go.Proofs.YthpkjfabdccpdaaGreat.Sv
theorem AV (n:Nat):AX n=(n:Int):=rfl
theorem AR {α:Type} (l:List α):AA l=l.length:=rfl
theorem Is (l:List UInt8):E7 l=l.length:=rfl
theorem K7:AY true=false:=rfl
theorem Be {β:Type} (c:Bool) (x y:Unit->Option β):br (AY c) x y=br c y x:=gh c x y
theorem Bb {β:Type} {a b:Nat} (h:a<=b) (k:Unit->Option β):gd (BJ a b) k=k ():=by rw [UA,if_pos h]
theorem KZ (k:L0):Et k=some (if k.length>32 then 3 else 0):=by
 unfold Et;rw [A5,AV,Is];by_cases h:k.length>32
 ·rw [if_pos (by omega),if_pos h]
 ·rw [if_neg (by omega),if_neg h]
theorem GR (x:AD):CB x=some (kE x):=by
 unfold CB kE;rw [KZ,AC,AS];by_cases h1:x.1.length>32
 ·simp [h1]
 rw [if_neg h1,if_pos rfl,A5,AV,Is];by_cases h2:x.2.1.length>64
 ·rw [if_pos (by omega),if_pos (.inr h2)]
 rw [if_neg (by omega : ¬ (x.2.1.length:Int)>64),if_neg (by omega),Gl];by_cases h3:x.2.2.1=true
 ·rw [if_pos h3,Be,Ea];by_cases h4:x.2.1=[]
  ·rw [if_pos h4,if_neg (by simp [h4]),BG,A5];by_cases h5:x.2.2.2<1
   ·simp [h5]
   ·by_cases h6:x.2.2.2>1000000000<;>simp [h5,h6]
  ·rw [if_neg h4,if_pos ⟨h3,h4⟩]
 ·rw [if_neg h3,if_neg (by simp [h3]),BG,A5];by_cases h5:x.2.2.2<1
  ·simp [h5]
  ·by_cases h6:x.2.2.2>1000000000<;>simp [h5,h6]
theorem Gn (l:List AD) (hl:l.length<=9223372036854775807):BH l=some (Ca l):=by
 unfold BH Ca;rw [A5,AV,AR];by_cases h:l.length>5000
 ·rw [if_pos (by omega),if_pos h]
 rw [if_neg (by omega),if_neg h]
 have key:=Wu (β:=Nat×(Int×Int×Int)×Unit) (l:=l) (λk (_:Int)=>((0:Int),((0:Int),(k:Int))))
  (λk x _=>if kE x≠0 then some (.dn (0,((kE x,((k:Int),(k:Int))),()))) else if k>0 then
    (match l[k-1]? with
    | some y=>if C1 y.1 x.1=true then some (.nx 0) else some (.dn (0,(((6:Int),((k:Int),(k:Int))),())))
    | none=>none) else some (.nx 0))
  (λ_=>some (1,((0,(0,(l.length:Int))),()))) (s:=(0,(0,0))) (0:Int) rfl hl (f:=(λs0=>br (Am s0.2.2 (AX (AA l))) (λ_=>AT s0.2.2 λk1=>ix l k1 λx2=>bd (CB x2) λr3=>br (A7 r3 0) (λ_=>some (.dn ((0,((r3,(s0.2.2,s0.2.2)),()))))) λ_=>br (CE s0.2.2 0) (λ_=>AT (B7 .i64 s0.2.2 1) λk4=>ix l k4 λx5=>br (AY (C1 x5.1 x2.1)) (λ_=>some (.dn ((0,((6,(s0.2.2,s0.2.2)),()))))) λ_=>some (.nx ((s0.1,(s0.2.1,AI .i64 s0.2.2 1))))) λ_=>some (.nx ((s0.1,(s0.2.1,AI .i64 s0.2.2 1))))) λ_=>some (.dn ((1,(s0,()))))))
  (λk x st hx=>by
   simp only;rw [gk hx,AP,AF,AK hx,GR,AC,AS];by_cases h1:kE x=0
   ·have hk:k<l.length:=(List.getElem?_eq_some_iff.1 hx).1;simp only [h1,if_true,ne_eq,not_true,if_false];rw [A5];by_cases h2:k>0
    ·rw [if_pos (by omega:(k:Int)>0),if_pos h2,B8 (by omega),show ((k:Int)-1)=((k-1:Nat):Int) by omega,AF];have hy:l[k-1]? = some l[k-1]:=by rw [List.getElem?_eq_getElem (by omega)]
     rw [AK hy,hy,Be,GQ];simp only;by_cases h3:C1 l[k-1].1 x.1=true
     ·rw [if_pos h3,if_pos h3,Az hx hl];rfl
     ·rw [if_neg h3,if_neg h3];rfl
    ·rw [if_neg (by omega : ¬ (k:Int)>0),if_neg h2,Az hx hl];rfl
   ·simp only [h1,if_false,ne_eq,not_false_iff,if_true];rfl)
  (λst=>by
   simp only
   rw [fH,Ai];rfl)
 simp only [AV,AR] at key;rw [key]
 have main : ∀ (m:List AD) (k:Nat) (p:Option L0),l.drop k=m->(p=if k=0 then none else (l[k-1]?).map (·.1)) -> ∀ st,bd (OQ (β:=Nat×(Int×Int×Int)×Unit) (λk x (_:Int)=>if kE x≠0 then some (.dn (0,((kE x,((k:Int),(k:Int))),()))) else if k>0 then
    (match l[k-1]? with
    | some y=>if C1 y.1 x.1=true then some (.nx 0) else some (.dn (0,(((6:Int),((k:Int),(k:Int))),())))
    | none=>none) else some (.nx (0:Int))) (λ_=>some (1,((0,(0,(l.length:Int))),()))) m k st) (λr6=>br (neq r6.1 0) (λ_=>some (r6.2.1.2.1,r6.2.1.1)) λ_=>some ((0:Int),(0:Int)))=some (Jf p k m):=by
  intro m
  induction m with
  | nil=>intro k p _ _ st;rfl
  | cons x m ih =>
   intro k p hm hp st
   have hx:l[k]? = some x:=by
    have:=congrArg List.head? hm;rw [List.head?_drop] at this;simpa using this
   have hk:k<l.length:=(List.getElem?_eq_some_iff.1 hx).1
   have hm2:l.drop (k+1)=m:=by
    have:=congrArg List.tail hm;rw [List.tail_drop] at this;simpa using this
   unfold OQ Jf;by_cases h1:kE x=0
   ·simp only [h1,ne_eq,not_true,if_false];by_cases h2:k>0
    ·have hy:l[k-1]? = some l[k-1]:=by rw [List.getElem?_eq_getElem (by omega)]
     rw [if_pos h2,hy];rw [if_neg (by omega : ¬ k=0),hy] at hp;subst hp;simp only [Option.map_some];by_cases h3:C1 l[k-1].1 x.1=true
     ·rw [if_pos h3,if_pos h3];exact ih (k+1) (some x.1) hm2 (by rw [if_neg (by omega)];simp [hx]) 0
     ·rw [if_neg h3,if_neg h3];rfl
    ·have hk0:k=0:=by omega
     subst hk0;rw [if_neg h2];simp only [if_true] at hp;subst hp;exact ih 1 (some x.1) hm2 (by simp [hx]) 0
   ·simp only [h1,ne_eq,not_false_iff,if_true];rfl
 exact main l 0 none (by simp) (by simp) 0
theorem L3 {α β σ S:Type} {l:List α} (mk:Nat->σ->S) (F:List α->Nat->σ->Option β) {f:S->Option (LR S β)} {s:S} (st:σ) (h0:s=mk 0 st) (hl:l.length<=9223372036854775807)
  (hn : ∀ st,f (mk l.length st)=iZ (F [] l.length st))
  (hc : ∀ k x m st,l.drop k=x::m->l[k]? = some x->k<l.length->(∃ st',f (mk k st)=some (.nx (mk (k+1) st'))/\F (x::m) k st=F m (k+1) st')\/f (mk k st)=iZ (F (x::m) k st)):loop f s=F l 0 st:=by
 subst h0
 have main : ∀ (m:List α) (k n:Nat) (st:σ),l.drop k=m->k<=l.length->m.length<n->DW n f (mk k st)=F m k st:=by
  intro m
  induction m with
  | nil =>
   intro k n st hm hk hn';obtain ⟨n,rfl⟩ : ∃ j,n=j+1:=⟨n-1,by omega⟩
   have hkl:k=l.length:=by
    have:=congrArg List.length hm;simp at this;omega
   subst hkl;unfold DW;rw [hn];cases F [] l.length st<;>rfl
  | cons x m ih =>
   intro k n st hm hk hn';obtain ⟨n,rfl⟩ : ∃ j,n=j+1:=⟨n-1,by omega⟩
   have hx:l[k]? = some x:=by
    have:=congrArg List.head? hm;rw [List.head?_drop] at this;simpa using this
   have hk':k<l.length:=(List.getElem?_eq_some_iff.1 hx).1
   have hm2:l.drop (k+1)=m:=by
    have:=congrArg List.tail hm;rw [List.tail_drop] at this;simpa using this
   rcases hc k x m st hm hx hk' with ⟨st',h1,h2⟩ | h1
   ·rw [BV h1,h2];exact ih (k+1) n st' hm2 (by omega) (by simp at hn';omega)
   ·unfold DW;rw [h1];cases F (x::m) k st<;>rfl
 exact main l 0 _ st (by simp) (by omega) (by omega)
theorem rl {α:Type} {l:List α} {k:Nat} (h:k<l.length):Am (k:Int) (l.length:Int)=true:=by unfold Am;simp;omega
theorem re {α:Type} (l:List α):Am (l.length:Int) (l.length:Int)=false:=by unfold Am;simp
theorem A8 {α β:Type} {m:Option α} {x:α} {k:α->Option β} {r:Option β} (h:m=some x) (e:k x=r):bd m k=r:=by subst h;exact e
theorem Mo (k:AM):C4 k=some (k.2&&decide (k.1≠[])):=by
 unfold C4;rw [Gl];cases h:k.2 with
 | true=>rw [if_pos rfl,K6];simp [AY]
 | false=>rw [if_neg (by simp)];rfl
def EO (k:AM):Prop:=k.2=true->k.1=[]
theorem fJ {k:AM} (h:EO k):C4 k=some false:=by
 rw [Mo];cases h2:k.2 with
 | true=>simp [h h2]
 | false=>rfl
theorem BX (l:List AD) (i:Nat):EO (kx l i):=by
 unfold kx EO;split<;>simp
theorem GS {l:List AM} (h : ∀ k∈l,EO k) (h0:l≠[]) (hl:l.length<=32):DG l=some 0:=by
 unfold DG;simp only [AV,AR];rw [Bj,A5,if_neg (by have:=List.length_pos_iff.2 h0;omega),if_neg (by omega)]
 rw [L3 (l:=l) (σ:=Unit) (s:=(0,0)) (λk _=>((0:Int),(k:Int))) (λ_ _ _=>some (1,((0,(l.length:Int)),()))) () rfl (by omega) (λst=>by
  simp only;rw [re];rfl) (λk x m st _ hx hk => .inl ⟨(),by
   simp only;rw [rl hk,AP,AF,AK hx,fJ (h x (List.mem_of_getElem? hx)),AC,Ai,Az hx (by omega)],rfl⟩),AC]
 rfl
theorem Jh {α:Type} {l:List α} (h:l.length<=1048576):(gd (BJ (AA l) 1048576) λ_=>some l)=some l:=Bb h _
theorem SV (p q:AM):Ev [p,q]=some (Tt p q):=by
 have hw:w0 p q=(if p.2≠q.2 then q.2 else if p.1≠q.1 then C1 p.1 q.1 else true):=rfl
 unfold Ev;simp only [AV,AR,List.length_cons,List.length_nil];rw [show MQ .i64 2 ((0+1+1:Nat):Int)=4 from rfl,show B7 .i64 4 1=3 from rfl];unfold Ag;rw [show AT 4=λk=>k 4 from rfl];simp only [Bb (show 4<=1048576 by omega),Jh (show [p,q].length<=1048576 by simp),AC];rw [show AT ((0+1+1:Nat):Int)=λk=>k 2 from rfl];simp only [Bb (show 2<=1048576 by omega)];have fin : ∀ {w l:Int} {x:Nat×((Int×(List Int×(List AM×(List Int×Int))))×Unit)},x=(0,((0,([0,w,0,1],([p,q],([0,l],0)))),()))->(gd (Dk 1 (AA x.2.1.2.1)) λ_=>ix x.2.1.2.1 1 λx41=>some ((x.2.1.2.2.1,(x.2.1.2.2.2.1,x41))))=some ([p,q],([0,l],w)):=λe=>by subst e;rfl
 have go : ∀ {f:(Int×(List Int×(List AM×(List Int×Int))))->Option (LR (Int×(List Int×(List AM×(List Int×Int)))) (Nat×((Int×(List Int×(List AM×(List Int×Int))))×Unit)))} {w l:Int},f (3,([0,0,0,0],([p,q],([0,0],0))))=some (.nx (2,([0,0,0,1],([p,q],([0,0],0)))))->f (2,([0,0,0,1],([p,q],([0,0],0))))=some (.nx (1,([0,0,0,1],([p,q],([0,0],0))))) ->
   f (1,([0,0,0,1],([p,q],([0,0],0))))=some (.nx (0,([0,w,0,1],([p,q],([0,l],0)))))->f (0,([0,w,0,1],([p,q],([0,l],0))))=some (.dn (0,((0,([0,w,0,1],([p,q],([0,l],0)))),()))) ->
   loop f (3,([0,0,0,0],([p,q],([0,0],0))))=some (0,((0,([0,w,0,1],([p,q],([0,l],0)))),())):=λh1 h2 h3 h4 =>
  C8 (n:=4) (by omega) ((BV h1).trans ((BV h2).trans ((BV h3).trans (BZ h4))))
 have st : ∀ {β:Type} (A B:Option β),w0 p q=true->br (AY (beq p.2 q.2)) (λ_=>br (AY q.2) (λ_=>B) λ_=>A) (λ_=>br (AY (seq p.1 q.1)) (λ_=>br (AY (C1 p.1 q.1)) (λ_=>B) λ_=>A) λ_=>A)=A:=fun {β} A B h=>by
  rw [hw] at h;rw [Be (beq p.2 q.2),Gl (beq p.2 q.2),Be q.2,Gl q.2,Be (seq p.1 q.1),Ea,Be (C1 p.1 q.1),GQ];by_cases h1:p.2=q.2
  ·rw [if_neg (by simp [h1])] at h;rw [if_pos (by simp [Sv.beq,h1])];by_cases h2:p.1=q.1
   ·rw [if_pos h2]
   ·rw [if_neg h2];rw [if_pos h2] at h;rw [if_pos h]
  ·rw [if_pos h1] at h;rw [if_neg (by simp [Sv.beq,h1]),if_pos h]
 have st2 : ∀ {β:Type} (A B:Option β),w0 p q≠true->br (AY (beq p.2 q.2)) (λ_=>br (AY q.2) (λ_=>B) λ_=>A) (λ_=>br (AY (seq p.1 q.1)) (λ_=>br (AY (C1 p.1 q.1)) (λ_=>B) λ_=>A) λ_=>A)=B:=fun {β} A B h=>by
  rw [hw] at h;rw [Be (beq p.2 q.2),Gl (beq p.2 q.2),Be q.2,Gl q.2,Be (seq p.1 q.1),Ea,Be (C1 p.1 q.1),GQ];by_cases h1:p.2=q.2
  ·rw [if_neg (by simp [h1])] at h;rw [if_pos (by simp [Sv.beq,h1])];by_cases h2:p.1=q.1
   ·rw [if_neg (by simp [h2])] at h;exact absurd rfl h
   ·rw [if_neg h2];rw [if_pos h2] at h;rw [if_neg h]
  ·rw [if_pos h1] at h;rw [if_neg (by simp [Sv.beq,h1]),if_neg h]
 rw [show DT 4 (0:Int)=[0,0,0,0] from rfl,show DT 2 (0:Int)=[0,0] from rfl];by_cases h:w0 p q=true
 ·refine A8 (x:=(0,((0,([0,0,0,1],([p,q],([0,1],0)))),()))) ?_ ?_;refine C8 (n:=4) (by omega) ?_;refine (BV (s':=(2,([0,0,0,1],([p,q],([0,0],0))))) ?_).trans ((BV (s':=(1,([0,0,0,1],([p,q],([0,0],0))))) ?_).trans ((BV (s':=(0,([0,0,0,1],([p,q],([0,1],0))))) ?_).trans (BZ ?_)))
  ·rfl
  ·rfl
  ·exact st _ _ h
  ·rfl
  ·show some ([p,q],([0,1],0))=_;unfold Tt;simp [h]
 ·refine A8 (x:=(0,((0,([0,1,0,1],([p,q],([0,0],0)))),()))) ?_ ?_;refine C8 (n:=4) (by omega) ?_;refine (BV (s':=(2,([0,0,0,1],([p,q],([0,0],0))))) ?_).trans ((BV (s':=(1,([0,0,0,1],([p,q],([0,0],0))))) ?_).trans ((BV (s':=(0,([0,1,0,1],([p,q],([0,0],0))))) ?_).trans (BZ ?_)))
  ·rfl
  ·rfl
  ·exact st2 _ _ h
  ·rfl
  ·show some ([p,q],([0,0],1))=_;unfold Tt;simp [h]
theorem Mq {p q:AM} (hp:EO p) (hq:EO q):CK [p,q]=some (Tt p q,0):=by
 unfold CK;rw [GS (by simp [hp,hq]) (by simp) (by simp),AC,AS,if_pos rfl,SV,AC]
theorem UF {p q:AM} (hp:EO p) (hq:EO q):FC (Tt p q)=some (0,0):=by
 unfold FC;rw [show (Tt p q).1=[p,q] from rfl,GS (by simp [hp,hq]) (by simp) (by simp),AC,AS,if_pos rfl,AS,if_pos (show AX (AA (Tt p q).2.1)=AX (AA [p,q]) from rfl),SV,AC];simp only [AV,AR]
 rw [L3 (l:=(Tt p q).2.1) (σ:=Unit) (s:=(0,(0,0))) (λk _=>((0:Int),((k:Int),(0:Int)))) (λ_ _ _=>some (1,((0,(((Tt p q).2.1.length:Int),0)),()))) () rfl (show 2<=9223372036854775807 by omega) (λst=>by
  simp only;rw [re];rfl) (λk x m st _ hx hk => .inl ⟨(),by
   simp only;rw [rl hk,AP,AF,AK hx,AF,AK hx,AS,if_pos rfl,Az hx (show 2<=9223372036854775807 by omega)],rfl⟩),AC]
 rw [show neq 1 0=false from rfl,Ai,AS,if_pos rfl]
def wn (p q:AM):Nat:=if w0 p q=true then 0 else 1
def wk (p q:AM):AM:=if w0 p q=true then p else q
theorem UG (p q:AM):(Tt p q).2.2=(wn p q:Int):=by unfold Tt wn;split<;>rfl
theorem UH (p q:AM):(Tt p q).1[wn p q]? = some (wk p q):=by unfold Tt wn wk;split<;>rfl
theorem SW {p q:AM} (hp:EO p) (hq:EO q):Ew (Tt p q)=some (if (wk p q).2=true then 12 else 0):=by
 unfold Ew;rw [UF hp hq,AC,AS,if_pos rfl,UG,AF,AK (UH p q),Gl];split<;>rfl
theorem HO {p q:AM} (hp:EO p) (hq:EO q):CO (Tt p q)=some (if (wk p q).2=true then (0,([],12)) else ((wn p q:Int),((wk p q).1,0))):=by
 unfold CO;rw [SW hp hq,AC,AS,UG,AF,AK (UH p q)];by_cases h:(wk p q).2=true<;>simp [h]
def rk (p q k:AM):AM×AM:=if w0 p q=true then (k,q) else (p,k)
theorem ZJ (p q:AM):BU (0,(1,([p,q],())))=some (w0 p q):=by
 unfold BU w0;show br (AY (beq p.2 q.2)) (λ_=>some q.2) (λ_=>br (AY (seq p.1 q.1)) (λ_=>some (C1 p.1 q.1)) λ_=>some (Am 0 1))=_;rw [Be (beq p.2 q.2),Gl (beq p.2 q.2),Be (seq p.1 q.1),Ea];by_cases h1:p.2=q.2
 ·rw [if_pos (show Sv.beq p.2 q.2=true by simp [Sv.beq,h1]),if_neg (show ¬ p.2≠q.2 by simp [h1])];by_cases h2:p.1=q.1
  ·rw [if_pos h2,if_neg (show ¬ p.1≠q.1 by simp [h2])];rfl
  ·rw [if_neg h2,if_pos h2]
 ·rw [if_neg (show ¬ Sv.beq p.2 q.2=true by simp [Sv.beq,h1]),if_pos h1]
theorem ZK (p q:AM):BU (1,(0,([p,q],())))=some (!w0 p q):=by
 unfold BU w0;show br (AY (beq q.2 p.2)) (λ_=>some p.2) (λ_=>br (AY (seq q.1 p.1)) (λ_=>some (C1 q.1 p.1)) λ_=>some (Am 1 0))=_;rw [Be (beq q.2 p.2),Gl (beq q.2 p.2),Be (seq q.1 p.1),Ea];by_cases h1:p.2=q.2
 ·rw [if_pos (show Sv.beq q.2 p.2=true by simp [Sv.beq,h1]),if_neg (show ¬ p.2≠q.2 by simp [h1])];by_cases h2:p.1=q.1
  ·rw [if_pos h2.symm,if_neg (show ¬ p.1≠q.1 by simp [h2])];rfl
  ·rw [if_neg (show ¬ q.1=p.1 from λe=>h2 e.symm),if_pos h2];cases hs:C1 p.1 q.1 with
   | true=>rw [Df hs];rfl
   | false=>rw [RC hs h2];rfl
 ·rw [if_neg (show ¬ Sv.beq q.2 p.2=true by simp [Sv.beq,Ne.symm h1]),if_pos h1];cases hp:p.2<;>cases hq:q.2<;>simp_all
theorem Hn {p q k:AM} (hp:EO p) (hq:EO q) (hk:EO k) (hw:(wk p q).2=false) (hle:k.2=true\/C1 k.1 (wk p q).1=false) :
  ∃ n,CC (Tt p q,k)=some (Tt (rk p q k).1 (rk p q k).2,(n,0)):=by
 have hlen:(Tt p q).1.length<=1048576:=by show 2<=_;omega
 have hlen2:(Tt p q).2.1.length<=1048576:=by show 2<=_;omega
 have hset:lset (Tt p q).1 (wn p q) k=[(rk p q k).1,(rk p q k).2]:=by unfold Tt wn rk;split<;>rfl
 have hlose:(Tt p q).2.1=[0,(1-(wn p q:Int))]:=by unfold Tt wn;split<;>rfl
 have hwn:wn p q=0\/wn p q=1:=by unfold wn;split<;>simp
 have up : ∀ {f:(Int×(Int×(Unit×(List Int×Int))))->Option (LR (Int×(Int×(Unit×(List Int×Int)))) (Nat×((Int×(Int×(Unit×(List Int×Int))))×Unit)))},
   (f=λs8=>br (BN (HY .i64 s8.2.1 2) 0) (λ_=>some (.dn ((0,((s8.1,(HY .i64 s8.2.1 2,((),s8.2.2.2))),()))))) λ_=>AT (HY .i64 s8.2.1 2) λk9=>gd (Dk k9 (AA s8.2.2.2.1)) λ_=>ix s8.2.2.2.1 k9 λx10=>bd (BU ((x10,(s8.2.2.2.2,([(rk p q k).1,(rk p q k).2],()))))) λr11=>br r11 (λ_=>AT (HY .i64 s8.2.1 2) λk12=>gd (Dk k12 (AA s8.2.2.2.1)) λ_=>ix s8.2.2.2.1 k12 λx13=>AT (HY .i64 s8.2.1 2) λk14=>gd (Dk k14 (AA s8.2.2.2.1)) λ_=>ix s8.2.2.2.1 k14 λx15=>some (.nx ((AI .i64 s8.1 1,(HY .i64 s8.2.1 2,((),(lset s8.2.2.2.1 k14 s8.2.2.2.2,x13))))))) λ_=>some (.nx ((AI .i64 s8.1 1,(HY .i64 s8.2.1 2,((),s8.2.2.2))))))
   -> loop f (0,((2:Int)+wn p q,((),([0,(1-(wn p q:Int))],(wn p q:Int)))))=some (0,((1,(0,((),(Tt (rk p q k).1 (rk p q k).2).2))),())):=by
  intro f hf;subst hf;refine C8 (n:=2) (by omega) ((BV (s':=(1,(1,((),(Tt (rk p q k).1 (rk p q k).2).2)))) ?_).trans (BZ rfl));rcases hwn with h | h
  ·rw [h]
   have hw0:w0 p q=true:=by
    unfold wn at h;by_cases hh:w0 p q=true
    ·exact hh
    ·rw [if_neg hh] at h;cases h
   show bd (BU (1,(0,([(rk p q k).1,(rk p q k).2],())))) _=_;rw [ZK,AC];unfold Tt;cases hz:w0 (rk p q k).1 (rk p q k).2<;>rfl
  ·rw [h];show bd (BU (0,(1,([(rk p q k).1,(rk p q k).2],())))) _=_;rw [ZJ,AC];unfold Tt;cases hz:w0 (rk p q k).1 (rk p q k).2<;>rfl
 unfold CC;simp only [SW hp hq,hw,AC,AS,if_true,if_false,Bool.false_eq_true];rw [GS (by simp [hk]) (by simp) (by simp),AC];simp only [if_true,Be];rw [Gl];unfold Ag Au;simp only [UG,AF,AK (UH p q),Bb hlen,Bb hlen2,AC,GQ,Ml,AR,AV,hset];have hlt:wn p q<(Tt p q).1.length:=by show wn p q<2;omega
 have hi:AI .i64 (([(rk p q k).1,(rk p q k).2].length:Nat):Int) (wn p q:Int)=(2:Int)+wn p q:=by
  rw [Du (by simp;omega)];rfl
 rw [hi,hlose];simp only [AR,Ml] at up;have key:=up rfl;rw [if_pos hlt];by_cases hk2:k.2=true
 ·rw [if_pos hk2,key,AC];exact ⟨_,rfl⟩
 ·rw [if_neg hk2,if_neg (by rcases hle with h | h;exact absurd h hk2;rw [h];simp),key,AC]
  exact ⟨_,rfl⟩
end Go.Proofs.YthpkjfabdccpdaaGreat.Pl
namespace Go.Proofs.YthpkjfabdccpdaaGreat.Pl
open Go Go.Proofs.YthpkjfabdccpdaaGreat.Sv
theorem CQ {S β:Type} {f:S->Option (LR S β)} {s0 s1 s2:S} {r:β} (h0:f s0=some (.nx s1)) (h1:f s1=some (.nx s2)) (h2:f s2=some (.dn r)):loop f s0=some r :=
 C8 (n:=3) (by omega) ((BV h0).trans ((BV h1).trans (BZ h2)))
theorem NO {α β:Type} {c:Bool} {n:Int} {l:List α} {K:Nat->α->Option β} {E:Unit->Option β} (k:Nat) {x:α} (hc:c=true) (hn:n=(k:Int)) (hx:l[k]? = some x):br c (λ_=>AT n λk1=>ix l k1 λx2=>K k1 x2) E=K k x:=by
 subst hc;subst hn;rw [AP,AF,AK hx]
theorem Eb {α β:Type} {n:Int} {l:List α} {K:Nat->α->Option β} (k:Nat) {x:α} (hn:n=(k:Int)) (hx:l[k]? = some x):AT n (λk1=>ix l k1 λx2=>K k1 x2)=K k x:=by
 subst hn;rw [AF,AK hx]
theorem Gc {l:List AD} {i:Nat} (h:i<=l.length):A9 (l,(i:Int))=some (kx l i):=by
 unfold A9 kx;simp only [AV,AR];rw [Bj];by_cases hi:i=l.length
 ·rw [if_pos (by omega),List.getElem?_eq_none (by omega)]
 ·have hx:l[i]? = some l[i]:=by rw [List.getElem?_eq_getElem (by omega)]
  rw [if_neg (by omega),AF,AK hx,hx]
section
variable {a b:List AD} (va:VL a) (vb:VL b)
theorem ZL {i j:Nat} (hi:i<=a.length) (hj:j<=b.length):Fq ([a,b],[(i:Int),(j:Int)])=some (Tt (kx a i) (kx b j)):=by
 unfold Fq;refine A8 (x:=(0,((2,[kx a i,kx b j]),()))) (CQ (s1:=(1,[kx a i,([],false)])) (s2:=(2,[kx a i,kx b j])) ?_ ?_ rfl) ?_
 ·show bd (A9 (a,(i:Int))) _=_;rw [Gc hi];rfl
 ·show bd (A9 (b,(j:Int))) _=_;rw [Gc hj];rfl
 ·show bd (CK [kx a i,kx b j]) _=_;rw [Mq (BX _ _) (BX _ _)];rfl
include va vb
theorem L4:BH a=some (0,0):=by
 rw [Gn _ (by have:=va.len;omega),Jg va]
theorem K8:DE [a,b]=some (0,0):=by
 unfold DE;refine A8 (x:=(1,((0,(0,2)),()))) (CQ (s1:=(0,(0,1))) (s2:=(0,(0,2))) ?_ ?_ rfl) rfl
 ·show bd (BH a) _=_;rw [L4 va va];rfl
 ·show bd (BH b) _=_;rw [L4 vb vb];rfl
theorem Wv (bt:Bool):EY ([a,b],bt)=some (nO a b bt 0,(0,0)):=by
 unfold EY;rw [K8 va vb,AC,AS,if_pos rfl];refine A8 (x:=(0,((2,[kx a 0,kx b 0]),()))) (CQ (s1:=(1,[kx a 0,([],false)])) (s2:=(2,[kx a 0,kx b 0])) ?_ ?_ rfl) ?_
 ·show bd (A9 (a,((0:Nat):Int))) _=_;rw [Gc (by omega)];rfl
 ·show bd (A9 (b,((0:Nat):Int))) _=_;rw [Gc (by omega)];rfl
 ·show bd (CK [kx a 0,kx b 0]) _=_;rw [Mq (BX _ _) (BX _ _)];rfl
end
theorem Ho (x:Bool):Sv.beq x x=true:=by cases x<;>rfl
theorem Iu (x:L0):seq x x=true:=by rw [NZ]
theorem UI (l:List AM) (h:l.length<=1000):Ah (l,l)=some true:=by
 unfold Ah;simp only [AV,AR]
 rw [AS,if_pos rfl,L3 (l:=l) (σ:=Unit) (s:=(0,false)) (λk _=>((k:Int),false)) (λ_ _ _=>some (1,(((l.length:Int),false),()))) () rfl (by omega) (λst=>by
  simp only;rw [re];rfl) (λk x m st _ hx hk => .inl ⟨(),by
   simp only;rw [rl hk,AP,AF,AK hx,AF,AK hx,Iu,Ho,show AY (Bd true (Bd true true))=false from rfl,Ai,Az hx (by omega)],rfl⟩),AC]
 rfl
theorem UJ (l:List Int) (h:l.length<=1000):Ac (l,l)=some true:=by
 unfold Ac;simp only [AV,AR]
 rw [AS,if_pos rfl,L3 (l:=l) (σ:=Unit) (s:=(0,false)) (λk _=>((k:Int),false)) (λ_ _ _=>some (1,(((l.length:Int),false),()))) () rfl (by omega) (λst=>by
  simp only;rw [re];rfl) (λk x m st _ hx hk => .inl ⟨(),by
   simp only;rw [rl hk,AP,AF,AK hx,AF,AK hx,AS,if_pos rfl,Az hx (by omega)],rfl⟩),AC]
 rfl
theorem Ww (t:Dv) (h1:t.1.length<=1000) (h2:t.2.1.length<=1000):ED (t,t)=some true:=by
 unfold ED;rw [Bj,if_pos rfl,UI _ h1,AC,AP,UJ _ h2];rfl
theorem Wx (p q:AM):ED (Tt p q,Tt p q)=some true:=Ww _ (show 2<=1000 by omega) (show 2<=1000 by omega)
theorem Wy {a b:List AD} {i j:Nat} (h:Ha a b i j=true):wk (kx a i) (kx b j)=kx a i/\wn (kx a i) (kx b j)=0:=by
 unfold Ha at h;unfold wk wn;rw [if_pos h,if_pos h];exact ⟨rfl,rfl⟩
theorem Wz {a b:List AD} {i j:Nat} (h:Ha a b i j=false):wk (kx a i) (kx b j)=kx b j/\wn (kx a i) (kx b j)=1:=by
 unfold Ha at h;unfold wk wn;rw [if_neg (by simp [h]),if_neg (by simp [h])];exact ⟨rfl,rfl⟩
theorem Vv (x y:L0):CP (x,y)=some (if C1 x y=true then -1 else if C1 y x=true then 1 else 0):=by
 unfold CP Cr;simp only [Iu,K7,AC,Ai];rw [GQ,GQ];split
 ·rfl
 ·split<;>rfl
theorem Vw (x y:Int):B9 (x,y)=some (if x<y then -1 else if x>y then 1 else 0):=by
 unfold B9 D6;simp only [AC,AS,if_true,BG,A5];split
 ·rfl
 ·split<;>rfl
theorem ZM (x y:Int):Fs [x,y]=some (if x≠0 then x else y):=by
 unfold Fs;by_cases h:x=0
 ·rw [if_neg (by simp [h])];by_cases h2:y=0
  ·refine A8 (x:=(1,((0,2),()))) (CQ (s1:=(0,1)) (s2:=(0,2)) ?_ ?_ rfl) (by rw [h2];rfl)
   ·refine (NO 0 rfl rfl rfl).trans ?_;rw [AS,if_pos h];rfl
   ·refine (NO 1 rfl rfl rfl).trans ?_;rw [AS,if_pos h2];rfl
  ·refine A8 (x:=(0,((y,1),()))) (C8 (n:=2) (by omega) ((BV (s':=(0,1)) ?_).trans (BZ ?_))) rfl
   ·refine (NO 0 rfl rfl rfl).trans ?_;rw [AS,if_pos h];rfl
   ·refine (NO 1 rfl rfl rfl).trans ?_;rw [AS,if_neg h2]
 ·rw [if_pos h];refine A8 (x:=(0,((x,0),()))) (C8 (n:=1) (by omega) (BZ ?_)) rfl;refine (NO 0 rfl rfl rfl).trans ?_;rw [AS,if_neg h]
section
variable {a b:List AD} (va:VL a) (vb:VL b)
include va vb
theorem KG {i j:Nat} (I:Inv a b i j):DH (LG a b i j)=some (0,0):=by
 unfold DH;rw [show (LG a b i j).1=[a,b] from rfl,K8 va vb,AC,AS,if_pos rfl];rw [show (LG a b i j).2.1=[(i:Int),(j:Int)] from rfl,AS,if_pos (show AX (AA [(i:Int),(j:Int)])=AX (AA [a,b]) from rfl)];refine A8 (x:=(1,((0,(0,2)),()))) (CQ (s1:=(0,(0,1))) (s2:=(0,(0,2))) ?_ ?_ rfl) ?_
 ·refine (NO 0 rfl rfl rfl).trans ?_;rw [BG,if_neg (by omega),show AT (((0:Int),((0:Int),(0:Int))).2.2)=λ(k:Nat->Option (LR (Int×(Int×Int)) (Nat×((Int×(Int×Int))×Unit))))=>k 0 from rfl];simp only;rw [AK (x:=a) rfl,A5,if_neg (by have:=I.ia;simp only [AV,AR];omega)];rfl
 ·refine (NO 1 rfl rfl rfl).trans ?_;rw [BG,if_neg (by omega),show AT (((0:Int),((0:Int),(1:Int))).2.2)=λ(k:Nat->Option (LR (Int×(Int×Int)) (Nat×((Int×(Int×Int))×Unit))))=>k 1 from rfl];simp only;rw [AK (x:=b) rfl,A5,if_neg (by have:=I.jb;simp only [AV,AR];omega)];rfl
 rw [show neq ((1:Nat),(((0:Int),((0:Int),(2:Int))),())).1 0=false from rfl,Ai,ZL I.ia I.jb,AC,show (LG a b i j).2.2=Tt (kx a i) (kx b j) from rfl,Wx,AC,show AY true=false from rfl,Ai,HO (BX _ _) (BX _ _),AC];by_cases hd:(wk (kx a i) (kx b j)).2=true
 ·rw [if_pos hd];rfl
 rw [if_neg hd,AS,if_pos rfl]
 have la : ∀ {x:AD} {i':Nat},i=i'+1->a[i']? = some x -> ¬ (if (if C1 x.1 (wk (kx a i) (kx b j)).1=true then (-1:Int) else if C1 (wk (kx a i) (kx b j)).1 x.1=true then 1 else 0)≠0 then (if C1 x.1 (wk (kx a i) (kx b j)).1=true then (-1:Int) else if C1 (wk (kx a i) (kx b j)).1 x.1=true then 1 else 0) else (if (0:Int)<(wn (kx a i) (kx b j):Int) then -1 else if (0:Int)>(wn (kx a i) (kx b j):Int) then 1 else 0))>0:=by
  intro x i' hi hx
  have hle:C1 (wk (kx a i) (kx b j)).1 x.1=false:=by
   cases g:Ha a b i j with
   | true =>
    rw [(Wy g).1] at hd ⊢;unfold kx at hd ⊢;cases hy:a[i]? with
    | none=>rw [hy] at hd;exact absurd rfl hd
    | some y=>rw [hi] at hy;exact Df (va.lt hx hy)
   | false =>
    rw [(Wz g).1] at hd ⊢;unfold kx at hd ⊢;cases hy:b[j]? with
    | none=>rw [hy] at hd;exact absurd rfl hd
    | some y=>exact I.pa i' hi x y hx hy
  rw [hle];have : ¬ (0:Int)>(wn (kx a i) (kx b j):Int):=by omega
  by_cases hs:C1 x.1 (wk (kx a i) (kx b j)).1=true
  ·simp [hs]
  ·simp only [hs,Bool.false_eq_true,if_false,ne_eq,not_true,this];split<;>omega
 have lb : ∀ {y:AD} {j':Nat},j=j'+1->b[j']? = some y -> ¬ (if (if C1 y.1 (wk (kx a i) (kx b j)).1=true then (-1:Int) else if C1 (wk (kx a i) (kx b j)).1 y.1=true then 1 else 0)≠0 then (if C1 y.1 (wk (kx a i) (kx b j)).1=true then (-1:Int) else if C1 (wk (kx a i) (kx b j)).1 y.1=true then 1 else 0) else (if (1:Int)<(wn (kx a i) (kx b j):Int) then -1 else if (1:Int)>(wn (kx a i) (kx b j):Int) then 1 else 0))>0:=by
  intro y j' hj hy
  have hlt:C1 y.1 (wk (kx a i) (kx b j)).1=true:=by
   cases g:Ha a b i j with
   | true =>
    rw [(Wy g).1] at hd ⊢;unfold kx at hd ⊢;cases hx:a[i]? with
    | none=>rw [hx] at hd;exact absurd rfl hd
    | some x=>exact I.pb j' hj y x hy hx
   | false =>
    rw [(Wz g).1] at hd ⊢;unfold kx at hd ⊢;cases hx:b[j]? with
    | none=>rw [hx] at hd;exact absurd rfl hd
    | some x=>rw [hj] at hx;exact vb.lt hy hx
  rw [hlt];simp
 refine A8 (x:=(1,((0,(0,2)),()))) (CQ (s1:=(0,(0,1))) (s2:=(0,(0,2))) ?_ ?_ rfl) rfl
 ·refine (NO 0 rfl rfl rfl).trans ?_;rw [A5];by_cases h0:(i:Int)>0
  ·rw [if_pos h0];obtain ⟨i',hi'⟩ : ∃ i',i=i'+1:=⟨i-1,by omega⟩;have hi2:i'<a.length:=by have:=I.ia;omega
   have hx:a[i']? = some a[i']:=by simp [hi2]
   refine (Eb 0 rfl (x:=a) rfl).trans ((Eb i' ?_ hx).trans ?_)
   ·rw [B8 (by have:=va.len;have:=I.ia;omega)];omega
   rw [Vv,AC];show bd (B9 (0,(wn (kx a i) (kx b j):Int))) _=_;rw [Vw,AC,ZM,AC,A5,if_neg (la hi' hx)];rfl
  ·rw [if_neg h0];rfl
 ·refine (NO 1 rfl rfl rfl).trans ?_;rw [A5];by_cases h0:(j:Int)>0
  ·rw [if_pos h0];obtain ⟨j',hj'⟩ : ∃ j',j=j'+1:=⟨j-1,by omega⟩;have hj2:j'<b.length:=by have:=I.jb;omega
   have hy:b[j']? = some b[j']:=by simp [hj2]
   refine (Eb 1 rfl (x:=b) rfl).trans ((Eb j' ?_ hy).trans ?_)
   ·rw [B8 (by have:=vb.len;have:=I.jb;omega)];omega
   rw [Vv,AC];show bd (B9 (1,(wn (kx a i) (kx b j):Int))) _=_;rw [Vw,AC,ZM,AC,A5,if_neg (lb hj' hy)];rfl
  ·rw [if_neg h0];rfl
end
end Go.Proofs.YthpkjfabdccpdaaGreat.Pl
namespace Go.Proofs.YthpkjfabdccpdaaGreat.Pl
open Go Go.Proofs.YthpkjfabdccpdaaGreat.Sv
theorem Fu {l:List AD} {i:Nat} {x:AD} (h:l[i]? = some x):kx l i=(x.1,false):=by unfold kx;rw [h]
theorem L5 {l:List AD} {i:Nat} (h:l[i]? = none):kx l i=([],true):=by unfold kx;rw [h]
theorem Na {l:List AD} (v:VL l) {i:Nat} {x:AD} (h:l[i]? = some x):(kx l (i+1)).2=true\/C1 (kx l (i+1)).1 x.1=false:=by
 cases hy:l[i+1]? with
 | none=>rw [L5 hy];exact .inl rfl
 | some y=>rw [Fu hy];exact .inr (Df (v.lt h hy))
theorem Ji {α β:Type} {n:Int} {l:List α} {K:Nat->α->Option β} (k:Nat) {x:α} (hn:n=(k:Int)) (hx:l[k]? = some x):AT n (λk1=>gd (Dk k1 (AA l)) λ_=>ix l k1 λx2=>K k1 x2)=K k x:=by
 subst hn;rw [AF,Ml,if_pos (show k<AA l from (List.getElem?_eq_some_iff.1 hx).1),AK hx]
section
variable {a b:List AD} (va:VL a) (vb:VL b)
include va vb
theorem fK {i j:Nat} (I:Inv a b i j) {x:AD} (hx:a[i]? = some x) (g:Ha a b i j=true):Bt (LG a b i j)=some (x,(0,(LG a b (i+1) j,0))):=by
 obtain ⟨hk,hn⟩:=Wy g;have hi:=(List.getElem?_eq_some_iff.1 hx).1;have hl:=va.len;have hd:(wk (kx a i) (kx b j)).2=false:=by rw [hk,Fu hx]
 obtain ⟨m,hr⟩:=Hn (p:=kx a i) (q:=kx b j) (k:=kx a (i+1)) (BX _ _) (BX _ _) (BX _ _) hd (by rw [hk,Fu hx];exact Na va hx)
 have hrk:rk (kx a i) (kx b j) (kx a (i+1))=(kx a (i+1),kx b j):=by
  unfold rk;unfold Ha at g;rw [if_pos g]
 rw [hrk] at hr;unfold Bt;rw [KG va vb I,AC,AS,if_pos rfl];unfold Af Au;refine A8 (Jh (show 2<=1048576 by omega)) (A8 (Jh (show 2<=1048576 by omega)) ?_);rw [show (LG a b i j).2.2=Tt (kx a i) (kx b j) from rfl,HO (BX _ _) (BX _ _),if_neg (by simp [hd]),AC,AS,if_pos rfl,hn];refine (Ji 0 rfl (x:=a) rfl).trans ((Ji 0 rfl (x:=(i:Int)) rfl).trans ((Eb i rfl hx).trans ((Ji 0 rfl (x:=(i:Int)) rfl).trans ((Ji 0 rfl (x:=(i:Int)) rfl).trans ((Ji 0 rfl (x:=a) rfl).trans ((Ji 0 rfl (x:=AI .i64 (i:Int) 1) rfl).trans ?_))))));rw [Ab (by omega),Gc (show i+1<=a.length by omega),AC,hr,AC];rfl
theorem fL {i j:Nat} (I:Inv a b i j) {y:AD} (hy:b[j]? = some y) (g:Ha a b i j=false):Bt (LG a b i j)=some (y,(1,(LG a b i (j+1),0))):=by
 obtain ⟨hk,hn⟩:=Wz g;have hi:=(List.getElem?_eq_some_iff.1 hy).1;have hl:=vb.len;have hd:(wk (kx a i) (kx b j)).2=false:=by rw [hk,Fu hy]
 obtain ⟨m,hr⟩:=Hn (p:=kx a i) (q:=kx b j) (k:=kx b (j+1)) (BX _ _) (BX _ _) (BX _ _) hd (by rw [hk,Fu hy];exact Na vb hy)
 have hrk:rk (kx a i) (kx b j) (kx b (j+1))=(kx a i,kx b (j+1)):=by
  unfold rk;unfold Ha at g;rw [if_neg (by simp [g])]
 rw [hrk] at hr;unfold Bt;rw [KG va vb I,AC,AS,if_pos rfl];unfold Af Au;refine A8 (Jh (show 2<=1048576 by omega)) (A8 (Jh (show 2<=1048576 by omega)) ?_);rw [show (LG a b i j).2.2=Tt (kx a i) (kx b j) from rfl,HO (BX _ _) (BX _ _),if_neg (by simp [hd]),AC,AS,if_pos rfl,hn];refine (Ji 1 rfl (x:=b) rfl).trans ((Ji 1 rfl (x:=(j:Int)) rfl).trans ((Eb j rfl hy).trans ((Ji 1 rfl (x:=(j:Int)) rfl).trans ((Ji 1 rfl (x:=(j:Int)) rfl).trans ((Ji 1 rfl (x:=b) rfl).trans ((Ji 1 rfl (x:=AI .i64 (j:Int) 1) rfl).trans ?_))))));rw [Ab (by omega),Gc (show j+1<=b.length by omega),AC,hr,AC];rfl
def K9 (a b:List AD) (n:Nat):AN:=LG a b (Aj a b n).1 (Aj a b n).2
def OT (a b:List AD) (n:Nat):Nat:=if Ha a b (Aj a b n).1 (Aj a b n).2=true then 0 else 1
theorem OU {n:Nat} {x:AD} (h:n<a.length+b.length) (hx:NN a b n=some x):Bt (K9 a b n)=some (x,((OT a b n:Int),(K9 a b (n+1),0))):=by
 obtain ⟨hI,hs⟩:=FT va vb (n:=n) (by omega);unfold K9 OT;rw [show Aj a b (n+1)=if Ha a b (Aj a b n).1 (Aj a b n).2=true then ((Aj a b n).1+1,(Aj a b n).2) else ((Aj a b n).1,(Aj a b n).2+1) from rfl]
 unfold NN at hx;cases g:Ha a b (Aj a b n).1 (Aj a b n).2 with
 | true=>rw [if_pos g] at hx;rw [fK va vb hI hx g];simp
 | false=>rw [if_neg (by simp [g])] at hx;rw [fL va vb hI hx g];simp
end
theorem OV {s:Bs} (h1:s.2.1.length<=32) (h2:s.1=false->s.2.1=[]):Dd s=some 0:=by
 unfold Dd;rw [KZ,AC,if_neg (by omega),AS,if_pos rfl,Be,Gl];cases h:s.1 with
 | true=>rfl
 | false=>rw [if_neg (by simp),Be,Ea,if_pos (h2 h)]
def keep (s:Bs) (x:AD):Bool := !(s.1&&decide (x.1=s.2.1)) && !(s.2.2&&x.2.2.1)
theorem W0 {s:Bs} {x:AD} (h1:s.2.1.length<=32) (h2:s.1=false->s.2.1=[]) (h3:kE x=0) (h4:s.1=true->C1 x.1 s.2.1=false):B0 (s,x)=some (keep s x,((true,(x.1,s.2.2)),0)):=by
 unfold B0 keep;rw [OV h1 h2,AC,AS,if_pos rfl,GR,h3,AC,AS,if_pos rfl];obtain ⟨s1,s2,s3⟩:=s;obtain ⟨x1,x2,x3,x4⟩:=x;simp only at h4 ⊢;cases s1 with
 | true =>
  have:=h4 rfl;simp only [AP,Ai,GQ,Ea,this,Bool.false_eq_true,if_false];by_cases he:x1=s2
  ·simp [he]
  ·simp only [he,if_false,decide_false];cases s3<;>cases x3<;>rfl
 | false =>
  simp only [AP,Ai];cases s3<;>cases x3<;>rfl
def FD:Bs->List AD->List AD
 | _,[]=>[]
 | s,x::l=>(if keep s x=true then [x] else [])++FD (true,(x.1,s.2.2)) l
theorem IQ : ∀ (s:Bs) (l:List AD),(FD s l).length<=l.length
 | _,[]=>Nat.le_refl _
 | s,x::l=>by
  have:=IQ (true,(x.1,s.2.2)) l;unfold FD;by_cases h:keep s x=true
  ·rw [if_pos h];simp;omega
  ·rw [if_neg h];simp;omega
def OW:Bs->List AD->Prop
 | _,[]=>True
 | s,x::l=>kE x=0/\(s.1=true->C1 x.1 s.2.1=false)/\OW (true,(x.1,s.2.2)) l
theorem OX {x:AD} (h:kE x=0):x.1.length<=32:=by
 unfold kE at h;by_cases hh:x.1.length>32\/x.2.1.length>64
 ·rw [if_pos hh] at h;cases h
 ·omega
theorem Cs {α β σ S:Type} {l:List α} (mk:Nat->σ->S) (Inv:List α->Nat->σ->Prop) (F:List α->Nat->σ->β) {f:S->Option (LR S β)} {s:S} (st:σ) (h0:s=mk 0 st) (hl:l.length<=9223372036854775807) (hi:Inv l 0 st)
  (hn : ∀ st,Inv [] l.length st->f (mk l.length st)=some (.dn (F [] l.length st)))
  (hc : ∀ k x m st,l.drop k=x::m->l[k]? = some x->k<l.length->Inv (x::m) k st -> ∃ st',f (mk k st)=some (.nx (mk (k+1) st'))/\Inv m (k+1) st'/\F (x::m) k st=F m (k+1) st'):loop f s=some (F l 0 st):=by
 subst h0
 have main : ∀ (m:List α) (k n:Nat) (st:σ),l.drop k=m->k<=l.length->m.length<n->Inv m k st->DW n f (mk k st)=some (F m k st):=by
  intro m
  induction m with
  | nil =>
   intro k n st hm hk hn' hi;obtain ⟨n,rfl⟩ : ∃ j,n=j+1:=⟨n-1,by omega⟩
   have hkl:k=l.length:=by
    have:=congrArg List.length hm;simp at this;omega
   subst hkl;exact BZ (hn st hi)
  | cons x m ih =>
   intro k n st hm hk hn' hi;obtain ⟨n,rfl⟩ : ∃ j,n=j+1:=⟨n-1,by omega⟩
   have hx:l[k]? = some x:=by
    have:=congrArg List.head? hm;rw [List.head?_drop] at this;simpa using this
   have hk':k<l.length:=(List.getElem?_eq_some_iff.1 hx).1
   have hm2:l.drop (k+1)=m:=by
    have:=congrArg List.tail hm;rw [List.tail_drop] at this;simpa using this
   obtain ⟨st',h1,h2,h3⟩:=hc k x m st hm hx hk' hi;rw [BV h1,h3];exact ih (k+1) n st' hm2 (by omega) (by simp at hn';omega) h2
 exact main l 0 _ st (by simp) (by omega) (by omega) hi
def CI:Bs->List AD->Bs
 | s,[]=>s
 | s,x::l=>CI (true,(x.1,s.2.2)) l
theorem RE {β:Type} {out:List AD} {n:Nat} (h:out.length<=n) (hn:n<=20000) (x:AD) (k:Unit->Option β):gd (BJ (Ao (AA out) (AA [x])) 1048576) k=k ():=Bb (by simp only [Ao,AA,List.length_cons,List.length_nil];omega) k
theorem W1 {l:List AD} {bt:Bool} (hl:l.length<=20000) (hr:OW (false,([],bt)) l):D7 (l,bt)=some (FD (false,([],bt)) l,(0,0)):=by
 unfold D7 CN;simp only [AV,AR];rw [A5,if_neg (by omega),AC]
 rw [Cs (l:=l) (σ:=Bs×List AD) (s:=(0,(0,(0,((false,([],bt)),[]))))) (λk st=>((0:Int),((k:Int),((0:Int),st))))
  (λm k st=>OW st.1 m/\st.1.2.1.length<=32/\(st.1.1=false->st.1.2.1=[])/\st.2.length<=k/\k+m.length=l.length)
  (λm k st=>(1,((0,((l.length:Int),(0,(CI st.1 m,st.2++FD st.1 m)))),()))) ((false,([],bt)),[]) rfl (by omega) ⟨hr,by simp,λ_=>rfl,by simp,by simp⟩ ?_ ?_,AC]
 ·simp;rfl
 ·intro st _;simp only;rw [re,Ai];simp [CI,FD]
 ·rintro k x m ⟨s,out⟩ hm hx hk ⟨⟨h1,h2,h3⟩,h4,h5,h6,h7⟩;simp only at h1 h2 h3 h4 h5 h6 ⊢;refine ⟨((true,(x.1,s.2.2)),out++if keep s x=true then [x] else []),?_,⟨h3,OX h1,(λh=>by cases h),?_,by simp at h7;omega⟩,?_⟩
  ·rw [rl hk,AP,AF,AK hx,OV h4 h5,AC,AS,if_pos rfl,GR,h1,AC,AS,if_pos rfl];unfold keep A1;obtain ⟨s1,s2,s3⟩:=s;obtain ⟨x1,x2,x3,x4⟩:=x;simp only [AC,Az hx (show l.length<=9223372036854775807 by omega)] at h2 ⊢;have hg : ∀ {β:Type} (k:Unit->Option β),gd (BJ (Ao out.length [(x1,(x2,(x3,x4)))].length) 1048576) k=k ():=λk=>RE h6 (by simp at h7;omega) (x1,(x2,(x3,x4))) k;cases s1 with
   | true =>
    have h8:=h2 rfl;simp only [AP,Ai,Ea,h8,hg];by_cases he:x1=s2
    ·simp [he]
    ·simp only [he,if_false,decide_false];cases s3<;>cases x3<;>simp [AP,Ai,By]
   | false =>
    simp only [AP,Ai,hg];cases s3<;>cases x3<;>simp [AP,Ai,By]
  ·split<;>simp<;>omega
  ·simp only [CI,FD,List.append_assoc]
end Go.Proofs.YthpkjfabdccpdaaGreat.Pl
namespace Go.Proofs.YthpkjfabdccpdaaGreat.Pl
open Go Go.Proofs.YthpkjfabdccpdaaGreat.Sv
theorem SX : ∀ (l:List AD) (s:Bs) (x:AD),FD s (l++[x])=FD s l++(if keep (CI s l) x=true then [x] else [])
 | [],s,x=>by
  show (if keep s x=true then [x] else [])++[]=[]++(if keep s x=true then [x] else [])
  rw [List.append_nil,List.nil_append]
 | y::l,s,x=>by
  show (if keep s y=true then [y] else [])++FD _ (l++[x])=((if keep s y=true then [y] else [])++FD _ l)++_
  rw [SX l,List.append_assoc];rfl
theorem KI : ∀ (l:List AD) (s:Bs) (x:AD),CI s (l++[x])=(true,(x.1,(CI s l).2.2))
 | [],s,x=>rfl
 | y::l,s,x=>by simp only [List.cons_append,CI,KI l]
theorem Fv : ∀ (l:List AD) (s:Bs),(CI s l).2.2=s.2.2
 | [],s=>rfl
 | y::l,s=>by rw [CI,Fv l]
theorem SY : ∀ (l:List AD) (s:Bs) (x:AD),OW s l->kE x=0->((CI s l).1=true->C1 x.1 (CI s l).2.1=false)->OW s (l++[x])
 | [],s,x,_,h1,h2=>⟨h1,h2,trivial⟩
 | y::l,s,x,⟨h1,h2,h3⟩,h4,h5=>⟨h1,h2,SY l _ x h3 h4 h5⟩
theorem Pw : ∀ (l:List AD) (s:Bs),OW s l->s.2.1.length<=32->(s.1=false->s.2.1=[])->(CI s l).2.1.length<=32/\((CI s l).1=false->(CI s l).2.1=[])
 | [],s,_,h1,h2=>⟨h1,h2⟩
 | y::l,s,⟨h3,_,h4⟩,_,_=>Pw l _ h4 (OX h3) (λh=>by cases h)
abbrev s0 (bt:Bool):Bs:=(false,([],bt))
def EQ (a b:List AD) (bt:Bool) (n:Nat):Iq:=(K9 a b n,(CI (s0 bt) (Aw a b n),(FD (s0 bt) (Aw a b n),(n:Int))))
def HP (a b:List AD):Nat->List Int
 | 0=>[]
 | n+1=>HP a b n++[(OT a b n:Int)]
theorem Mr (a b:List AD) : ∀ n,(HP a b n).length=n
 | 0=>rfl
 | n+1=>by simp [HP,Mr a b n]
theorem IR {S β:Type} {f:S->Option (LR S β)} {r:β} (mk:Nat->S) (k0 n:Nat) {s:S} (h0:s=mk k0) (hk:k0<=n) (hn:n<18446744073709551616) (hs : ∀ k,k0<=k->k<n->f (mk k)=some (.nx (mk (k+1)))) (he:f (mk n)=some (.dn r)):loop f s=some r:=by
 have h:=HN (f:=f) (r:=r) (λk=>mk (k0+k)) (n-k0) (s:=s) h0 (by omega) (λk hk=>hs (k0+k) (by omega) (by omega)) (by show f (mk (k0+(n-k0)))=_;rw [show k0+(n-k0)=n by omega];exact he);exact h
theorem OY (l:List AD) (h:l.length<=100000):De (l,l)=some true:=by
 unfold De;simp only [AV,AR]
 rw [AS,if_pos rfl,L3 (l:=l) (σ:=Unit) (s:=(false,0)) (λk _=>(false,(k:Int))) (λ_ _ _=>some (1,((false,(l.length:Int)),()))) () rfl (by omega) (λst=>by
  simp only;rw [re];rfl) (λk x m st _ hx hk => .inl ⟨(),by
   simp only;rw [rl hk,AP,AF,AK hx,AF,AK hx,Iu,Iu,Ho,show BN x.2.2.2 x.2.2.2=true by unfold BN;simp,show AY (Bd true (Bd true (Bd true (Bd true true))))=false from rfl,Ai,Az hx (by omega)],rfl⟩),AC]
 rfl
section
variable {a b:List AD} (va:VL a) (vb:VL b)
include va vb
theorem GT {n:Nat} {x:AD} (hx:NN a b n=some x):Aw a b (n+1)=Aw a b n++[x]:=by
 show (match NN a b n with
  | some x=>Aw a b n++[x]
  | none=>Aw a b n)=_
 rw [hx]
theorem HQ (bt:Bool) : ∀ {n:Nat},n<=a.length+b.length->OW (s0 bt) (Aw a b n)
 | 0,_=>trivial
 | n+1,h=>by
  obtain ⟨x,hx,_⟩:=D8 va vb (n:=n) (by omega);rw [GT va vb hx];refine SY _ _ _ (HQ bt (by omega)) (ZI va vb hx) λ_ => ?_;cases n with
  | zero=>rename_i h1;cases h1
  | succ m =>
   obtain ⟨y,hy,_⟩:=D8 va vb (n:=m) (by omega);rw [GT va vb hy,KI];exact Vu va vb (by omega) hy hx
theorem UK (bt:Bool) {n:Nat} (h:n<=a.length+b.length):(CI (s0 bt) (Aw a b n)).2.1.length<=32/\((CI (s0 bt) (Aw a b n)).1=false->(CI (s0 bt) (Aw a b n)).2.1=[]) :=
 Pw _ _ (HQ va vb bt h) (by simp) (λ_=>rfl)
theorem fM {n:Nat} (h:n=a.length+b.length):(wk (kx a (Aj a b n).1) (kx b (Aj a b n).2)).2=true:=by
 obtain ⟨hI,hs⟩:=FT va vb (n:=n) (by omega);have h1:=hI.ia;have h2:=hI.jb;rw [L5 (List.getElem?_eq_none (by omega)),L5 (List.getElem?_eq_none (by omega))];rfl
theorem fN {n:Nat} {x:AD} (hx:NN a b n=some x):(wk (kx a (Aj a b n).1) (kx b (Aj a b n).2)).2=false/\wn (kx a (Aj a b n).1) (kx b (Aj a b n).2)=OT a b n:=by
 unfold NN at hx;unfold OT;cases g:Ha a b (Aj a b n).1 (Aj a b n).2 with
 | true=>rw [if_pos g] at hx;rw [(Wy g).1,(Wy g).2,Fu hx];exact ⟨rfl,rfl⟩
 | false=>rw [if_neg (by simp [g])] at hx;rw [(Wz g).1,(Wz g).2,Fu hx];exact ⟨rfl,rfl⟩
theorem fO:Gm [a,b]=some (Aw a b (a.length+b.length),(HP a b (a.length+b.length),0)):=by
 have la:=va.len;have lb:=vb.len;unfold Gm;rw [K8 va vb,AC,AS,if_pos rfl];refine Eq.trans (b:=bd (loop _ (0,[([],false),([],false)])) _) rfl ?_;refine A8 (x:=(0,((2,[kx a 0,kx b 0]),()))) (CQ (s1:=(1,[kx a 0,([],false)])) (s2:=(2,[kx a 0,kx b 0])) ?_ ?_ rfl) ?_
 ·show bd (A9 (a,((0:Nat):Int))) _=_;rw [Gc (by omega)];rfl
 ·show bd (A9 (b,((0:Nat):Int))) _=_;rw [Gc (by omega)];rfl
 rw [show ((0:Nat),(((2:Int),[kx a 0,kx b 0]),())).2.1.2=[kx a 0,kx b 0] from rfl,Mq (BX _ _) (BX _ _),AC]
 refine A8 (x:=(0,((Aw a b (a.length+b.length),(HP a b (a.length+b.length),((),([((Aj a b (a.length+b.length)).1:Int),((Aj a b (a.length+b.length)).2:Int)],Tt (kx a (Aj a b (a.length+b.length)).1) (kx b (Aj a b (a.length+b.length)).2))))),())))
  (IR (λk=>(Aw a b k,(HP a b k,((),([((Aj a b k).1:Int),((Aj a b k).2:Int)],Tt (kx a (Aj a b k).1) (kx b (Aj a b k).2)))))) 0 (a.length+b.length) rfl (by omega) (by omega) (λk _ hk => ?_) ?_) rfl
 ·obtain ⟨x,hx,_⟩:=D8 va vb (n:=k) hk;obtain ⟨w1,w2⟩:=fN va vb hx;obtain ⟨hI,hs⟩:=FT va vb (n:=k) (by omega);have hl1:(Aw a b k).length=k:=CV va vb (by omega);have hl2:=Mr a b k;simp only;rw [HO (BX _ _) (BX _ _),if_neg (by simp [w1]),AC,AS,if_pos rfl,w2];rw [GT va vb hx];unfold NN at hx;rw [show HP a b (k+1)=HP a b k++[(OT a b k:Int)] from rfl];unfold OT;rw [show Aj a b (k+1)=if Ha a b (Aj a b k).1 (Aj a b k).2=true then ((Aj a b k).1+1,(Aj a b k).2) else ((Aj a b k).1,(Aj a b k).2+1) from rfl]
  have g1 : ∀ {β:Type} (y:AD) (q:Unit->Option β),gd (BJ (Ao (AA (Aw a b k)) (AA [y])) 1048576) q=q ():=λy q=>Bb (by simp only [Ao,AA,hl1,List.length_cons,List.length_nil];omega) q;have g2 : ∀ {β:Type} (y:Int) (q:Unit->Option β),gd (BJ (Ao (AA (HP a b k)) (AA [y])) 1048576) q=q ():=λy q=>Bb (by simp only [Ao,AA,hl2,List.length_cons,List.length_nil];omega) q;cases g:Ha a b (Aj a b k).1 (Aj a b k).2 with
  | true =>
   rw [if_pos g] at hx;obtain ⟨hkk,_⟩:=Wy g;obtain ⟨m,hr⟩:=Hn (p:=kx a (Aj a b k).1) (q:=kx b (Aj a b k).2) (k:=kx a ((Aj a b k).1+1)) (BX _ _) (BX _ _) (BX _ _) w1 (by rw [hkk,Fu hx];exact Na va hx)
   have hrk:rk (kx a (Aj a b k).1) (kx b (Aj a b k).2) (kx a ((Aj a b k).1+1))=(kx a ((Aj a b k).1+1),kx b (Aj a b k).2):=by
    unfold rk;unfold Ha at g;rw [if_pos g]
   rw [hrk] at hr;have hi:=(List.getElem?_eq_some_iff.1 hx).1;simp only [if_true];refine (Ji 0 rfl (x:=a) rfl).trans ((Ji 0 rfl (x:=((Aj a b k).1:Int)) rfl).trans ((Eb _ rfl hx).trans ?_));rw [g1,g2];refine (Ji 0 rfl (x:=((Aj a b k).1:Int)) rfl).trans ((Ji 0 rfl (x:=((Aj a b k).1:Int)) rfl).trans ((Ji 0 rfl (x:=a) rfl).trans ((Ji 0 rfl (x:=AI .i64 ((Aj a b k).1:Int) 1) rfl).trans ?_)));rw [Ab (by omega),Gc (by omega),AC,hr,AC];rfl
  | false =>
   rw [if_neg (by simp [g])] at hx;obtain ⟨hkk,_⟩:=Wz g;obtain ⟨m,hr⟩:=Hn (p:=kx a (Aj a b k).1) (q:=kx b (Aj a b k).2) (k:=kx b ((Aj a b k).2+1)) (BX _ _) (BX _ _) (BX _ _) w1 (by rw [hkk,Fu hx];exact Na vb hx)
   have hrk:rk (kx a (Aj a b k).1) (kx b (Aj a b k).2) (kx b ((Aj a b k).2+1))=(kx a (Aj a b k).1,kx b ((Aj a b k).2+1)):=by
    unfold rk;unfold Ha at g;rw [if_neg (by simp [g])]
   rw [hrk] at hr;have hi:=(List.getElem?_eq_some_iff.1 hx).1;simp only [Bool.false_eq_true,if_false];refine (Ji 1 rfl (x:=b) rfl).trans ((Ji 1 rfl (x:=((Aj a b k).2:Int)) rfl).trans ((Eb _ rfl hx).trans ?_));rw [g1,g2];refine (Ji 1 rfl (x:=((Aj a b k).2:Int)) rfl).trans ((Ji 1 rfl (x:=((Aj a b k).2:Int)) rfl).trans ((Ji 1 rfl (x:=b) rfl).trans ((Ji 1 rfl (x:=AI .i64 ((Aj a b k).2:Int) 1) rfl).trans ?_)));rw [Ab (by omega),Gc (by omega),AC,hr,AC];rfl
 ·simp only;rw [HO (BX _ _) (BX _ _),if_pos (fM va vb rfl),AC,AS,if_neg (by decide),AS,if_neg (by decide)]
end
end Go.Proofs.YthpkjfabdccpdaaGreat.Pl
namespace Go.Proofs.YthpkjfabdccpdaaGreat.Pl
open Go Go.Proofs.YthpkjfabdccpdaaGreat.Sv
theorem Vx {β:Type} {out:List AD} {n:Nat} (h:out.length<=n) (hn:n<=20000) (x:AD) (k:Unit->Option β):gd (BJ (Ao out.length [x].length) 1048576) k=k ():=RE h hn x k
section
variable {a b:List AD} (va:VL a) (vb:VL b)
include va vb
theorem Gy {n:Nat} (h:n<=a.length+b.length):(Aw a b (a.length+b.length)).take n=Aw a b n:=UE va vb (Nat.le_refl _) h
theorem Jj {n:Nat} {x:AD} (bt:Bool) (hx:NN a b n=some x):CI (s0 bt) (Aw a b (n+1))=(true,(x.1,bt)):=by
 rw [GT va vb hx,KI,Fv]
theorem UL (bt:Bool) {n:Nat} (h:n<=a.length+b.length):EZ (EQ a b bt n)=some 0:=by
 obtain ⟨hI,hs⟩:=FT va vb (n:=n) h;have la:=va.len;have lb:=vb.len;have hfl:=IQ (s0 bt) (Aw a b n);have hml:(Aw a b n).length=n:=CV va vb h;unfold EZ;rw [show (EQ a b bt n).1=LG a b (Aj a b n).1 (Aj a b n).2 from rfl,KG va vb hI,AC,AS,if_pos rfl];refine A8 (x:=(0,((2,(n:Int)),()))) (CQ (s1:=(1,((Aj a b n).1:Int))) (s2:=(2,(n:Int))) ?_ ?_ rfl) ?_
 ·refine (NO 0 rfl rfl (x:=((Aj a b n).1:Int)) rfl).trans ?_;show some (LR.nx ((1:Int),AI .i64 0 ((Aj a b n).1:Int)))=_;rw [Du (by omega),Int.zero_add]
 ·refine (NO 1 rfl rfl (x:=((Aj a b n).2:Int)) rfl).trans ?_;show some (LR.nx ((2:Int),AI .i64 ((Aj a b n).1:Int) ((Aj a b n).2:Int)))=_;rw [Du (by omega),show ((Aj a b n).1:Int)+((Aj a b n).2:Int)=(n:Int) by omega]
 simp only [AV,AR];rw [show (EQ a b bt n).2.2.1=FD (s0 bt) (Aw a b n) from rfl,show (EQ a b bt n).2.2.2=(n:Int) from rfl,show (EQ a b bt n).2.1=CI (s0 bt) (Aw a b n) from rfl,A5,if_neg (by omega),A5,if_neg (by omega),AS,if_pos rfl];rw [show (LG a b (Aj a b n).1 (Aj a b n).2).1=[a,b] from rfl,fO va vb,AC,AS,if_pos rfl,AF];rw [Bb (by rw [CV va vb (Nat.le_refl _)];exact h),Bb (Nat.zero_le _)];rw [show EJ (Aw a b (a.length+b.length)) 0 n=Aw a b n from by unfold EJ;rw [List.drop_zero,Nat.sub_zero];exact Gy va vb h,Fv];rw [show (s0 bt).2.2=bt from rfl,W1 (by omega) (HQ va vb bt h),AC,AS,if_pos rfl];unfold CN;rw [AC,A5];cases n with
 | zero =>
  rw [if_neg (by omega),OY _ (by omega),AC,K7,Ai];show br (AY (Bd (Sv.beq false false) (Bd (seq [] []) (Bd (Sv.beq bt bt) true)))) _ _=_;rw [Ho,Ho,Iu];rfl
 | succ m =>
  obtain ⟨x,hx,_⟩:=D8 va vb (n:=m) (by omega);rw [if_pos (by omega),show B7 .i64 ((m+1:Nat):Int) 1=(m:Int) by rw [B8 (by omega)];omega,AF];rw [AK (x:=x) (by rw [IP va vb (Nat.le_refl _) (by omega)];exact hx),OY _ (by omega),AC,K7,Ai,Jj va vb bt hx];rw [Ho,Ho,Iu];rfl
theorem ZN {n:Nat} (h:n<=a.length+b.length):Ft (K9 a b n)=some (((a.length+b.length-n:Nat):Int),0):=by
 obtain ⟨hI,hs⟩:=FT va vb (n:=n) h;have la:=va.len;have lb:=vb.len;have ha:=hI.ia;have hb:=hI.jb;unfold Ft;rw [show K9 a b n=LG a b (Aj a b n).1 (Aj a b n).2 from rfl,KG va vb hI,AC,AS,if_pos rfl];refine A8 (x:=(0,((2,((a.length+b.length-n:Nat):Int)),()))) (CQ (s1:=(1,(a.length:Int)-((Aj a b n).1:Int))) (s2:=(2,((a.length+b.length-n:Nat):Int))) ?_ ?_ rfl) rfl
 ·refine (NO 0 rfl rfl (x:=a) rfl).trans ((Eb 0 rfl (x:=((Aj a b n).1:Int)) rfl).trans ?_);simp only [AV,AR];rw [B8 (by omega)];show some (LR.nx ((1:Int),AI .i64 0 ((a.length:Int)-((Aj a b n).1:Int))))=_;rw [Du (by omega),Int.zero_add]
 ·refine (NO 1 rfl rfl (x:=b) rfl).trans ((Eb 1 rfl (x:=((Aj a b n).2:Int)) rfl).trans ?_);simp only [AV,AR];rw [B8 (by omega)];show some (LR.nx ((2:Int),AI .i64 ((a.length:Int)-((Aj a b n).1:Int)) ((b.length:Int)-((Aj a b n).2:Int))))=_;rw [Du (by omega),show (a.length:Int)-((Aj a b n).1:Int)+((b.length:Int)-((Aj a b n).2:Int))=((a.length+b.length-n:Nat):Int) by omega]
theorem Ms (bt:Bool) {n:Nat} (h:n<=a.length+b.length):BY (EQ a b bt n)=some (((a.length+b.length-n:Nat):Int),0):=by
 unfold BY;rw [UL va vb bt h,AC,AS,if_pos rfl,show (EQ a b bt n).1=K9 a b n from rfl,ZN va vb h];rfl
theorem OZ (bt:Bool) {n:Nat} {x:AD} (hx:NN a b n=some x):EQ a b bt (n+1)=(K9 a b (n+1),((true,(x.1,bt)),(FD (s0 bt) (Aw a b n)++(if keep (CI (s0 bt) (Aw a b n)) x=true then [x] else []),((n+1:Nat):Int)))):=by
 unfold EQ;rw [GT va vb hx,KI,Fv,SX]
theorem Iv (bt:Bool) {n:Nat} {x:AD} (hn:n<a.length+b.length) (hx:NN a b n=some x):B0 (CI (s0 bt) (Aw a b n),x)=some (keep (CI (s0 bt) (Aw a b n)) x,((true,(x.1,bt)),0)):=by
 have hlm:=UK va vb bt (n:=n) (by omega);rw [W0 hlm.1 hlm.2 (ZI va vb hx),Fv];intro h1;cases n with
 | zero=>cases h1
 | succ m =>
  obtain ⟨y,hy,_⟩:=D8 va vb (n:=m) (by omega);rw [Jj va vb bt hy];exact Vu va vb (by omega) hy hx
def gC (k:Int) (s:Iq):Int×(Int×(List (List AD)×(List Int×(List AM×(List Int×(Int×(Bool×(L0×(Bool×(List AD×Int)))))))))) :=
 (k,(0,(s.1.1,(s.1.2.1,(s.1.2.2.1,(s.1.2.2.2.1,(s.1.2.2.2.2,(s.2.1.1,(s.2.1.2.1,(s.2.1.2.2,(s.2.2.1,s.2.2.2)))))))))))
theorem W2 (bt:Bool) {n:Nat} (h:n<=a.length+b.length) {k:Nat}:B3 (EQ a b bt n,(k:Int))=some (EQ a b bt (n+min k (a.length+b.length-n)),(((min k (a.length+b.length-n):Nat):Int),0)):=by
 have la:=va.len;have lb:=vb.len;have hml : ∀ m,m<=a.length+b.length->(FD (s0 bt) (Aw a b m)).length<=m:=λm hm=>by have:=IQ (s0 bt) (Aw a b m);have:=CV va vb hm;omega
 obtain ⟨u,hu⟩ : ∃ u,u=min k (a.length+b.length-n):=⟨_,rfl⟩
 have him:NC (k:Int) ((a.length+b.length-n:Nat):Int)=(u:Int):=by
  unfold NC;split<;>omega
 rw [<- hu];unfold B3;rw [Ms va vb bt h,AC,AS,if_pos rfl];simp only [him,AV,AR];rw [BG,if_neg (by omega),show (EQ a b bt n).2.2.2=(n:Int) from rfl,Du (by omega),A5,if_neg (by omega)];rw [show (EQ a b bt n).2.2.1=FD (s0 bt) (Aw a b n) from rfl,show (EQ a b bt n).1=K9 a b n from rfl,Bb (by have:=hml n h;omega),Bb (show (K9 a b n).2.1.length<=1048576 from (show 2<=1048576 by omega)),BG];by_cases h0:u=0
 ·rw [h0,if_neg (by omega)];rfl
 rw [if_pos (by omega)];obtain ⟨x,hx,_⟩:=D8 va vb (n:=n) (by omega);rw [OU va vb (by omega) hx,AC,AS,if_pos rfl,show (EQ a b bt n).2.1=CI (s0 bt) (Aw a b n) from rfl,Iv va vb bt (by omega) hx,AC,AS,if_pos rfl]
 have hl : ∀ j,1<=j->j<u -> ∃ y,NN a b (n+j)=some y:=λj h1 h2=>by
  obtain ⟨y,hy,_⟩:=D8 va vb (n:=n+j) (by omega);exact ⟨y,hy⟩
 rw [Gl];have hS:=OZ va vb bt hx;cases hk:keep (CI (s0 bt) (Aw a b n)) x with
 | true =>
  rw [hk] at hS;rw [if_pos rfl,Vx (hml n h) (by omega)];refine A8 (x:=(1,(gC u (EQ a b bt (n+u)),()))) (IR (λj=>gC j (EQ a b bt (n+j))) 1 u ?_ (by omega) (by omega) (λj h1 h2 => ?_) ?_) ?_
  ·rw [hS,show AI .i64 (n:Int) 1=((n+1:Nat):Int) from Ab (by omega)];rfl
  ·obtain ⟨y,hy⟩:=hl j h1 h2;show br (Am (j:Int) (u:Int)) _ _=_;rw [BG,if_pos (by omega)];show bd (Bt (K9 a b (n+j))) _=_;rw [OU va vb (by omega) hy,AC,AS,if_pos rfl];show bd (B0 (CI (s0 bt) (Aw a b (n+j)),y)) _=_;rw [Iv va vb bt (by omega) hy,AC,AS,if_pos rfl,Gl,show n+(j+1)=n+j+1 by omega,OZ va vb bt hy];cases hk2:keep (CI (s0 bt) (Aw a b (n+j))) y with
   | true =>
    rw [if_pos rfl,if_pos rfl];show gd (BJ (Ao (AA (FD (s0 bt) (Aw a b (n+j)))) (AA [y])) 1048576) _=_;rw [RE (hml _ (by omega)) (by omega)];show some (LR.nx (AI .i64 (j:Int) 1,_))=_;unfold gC;simp only [Ab (show j+1<=9223372036854775807 by omega),By];rw [show AI .i64 (EQ a b bt (n+j)).2.2.2 1=((n+j+1:Nat):Int) from Ab (by omega)];rfl
   | false =>
    rw [if_neg (by simp),if_neg (by simp)];show some (LR.nx (AI .i64 (j:Int) 1,_))=_;unfold gC;simp only [Ab (show j+1<=9223372036854775807 by omega)];rw [show AI .i64 (EQ a b bt (n+j)).2.2.2 1=((n+j+1:Nat):Int) from Ab (by omega),List.append_nil];rfl
  ·show br (Am (u:Int) (u:Int)) _ _=_;rw [BG,if_neg (by omega)]
  ·rfl
 | false =>
  rw [hk] at hS;rw [if_neg (by simp)];refine A8 (x:=(1,(gC u (EQ a b bt (n+u)),()))) (IR (λj=>gC j (EQ a b bt (n+j))) 1 u ?_ (by omega) (by omega) (λj h1 h2 => ?_) ?_) ?_
  ·rw [hS,show AI .i64 (n:Int) 1=((n+1:Nat):Int) from Ab (by omega),if_neg (by simp),List.append_nil];rfl
  ·obtain ⟨y,hy⟩:=hl j h1 h2;show br (Am (j:Int) (u:Int)) _ _=_;rw [BG,if_pos (by omega)];show bd (Bt (K9 a b (n+j))) _=_;rw [OU va vb (by omega) hy,AC,AS,if_pos rfl];show bd (B0 (CI (s0 bt) (Aw a b (n+j)),y)) _=_;rw [Iv va vb bt (by omega) hy,AC,AS,if_pos rfl,Gl,show n+(j+1)=n+j+1 by omega,OZ va vb bt hy];cases hk2:keep (CI (s0 bt) (Aw a b (n+j))) y with
   | true =>
    rw [if_pos rfl,if_pos rfl];show gd (BJ (Ao (AA (FD (s0 bt) (Aw a b (n+j)))) (AA [y])) 1048576) _=_;rw [RE (hml _ (by omega)) (by omega)];show some (LR.nx (AI .i64 (j:Int) 1,_))=_;unfold gC;simp only [Ab (show j+1<=9223372036854775807 by omega),By];rw [show AI .i64 (EQ a b bt (n+j)).2.2.2 1=((n+j+1:Nat):Int) from Ab (by omega)];rfl
   | false =>
    rw [if_neg (by simp),if_neg (by simp)];show some (LR.nx (AI .i64 (j:Int) 1,_))=_;unfold gC;simp only [Ab (show j+1<=9223372036854775807 by omega)];rw [show AI .i64 (EQ a b bt (n+j)).2.2.2 1=((n+j+1:Nat):Int) from Ab (by omega),List.append_nil];rfl
  ·show br (Am (u:Int) (u:Int)) _ _=_;rw [BG,if_neg (by omega)]
  ·rfl
end
end Go.Proofs.YthpkjfabdccpdaaGreat.Pl
namespace Go.Proofs.YthpkjfabdccpdaaGreat.Pl
open Go Go.Proofs.YthpkjfabdccpdaaGreat.Sv
theorem H2 {α β σ S:Type} {l:List α} (mk:Nat->σ->S) (I:List α->Nat->σ->Prop) (Q:β->Prop) {f:S->Option (LR S β)} {s:S} (st:σ) (h0:s=mk 0 st) (hl:l.length<=9223372036854775807) (hi:I l 0 st)
  (hn : ∀ st,I [] l.length st -> ∃ r,f (mk l.length st)=some (.dn r)/\Q r)
  (hc : ∀ k x m st,l.drop k=x::m->l[k]? = some x->k<l.length->I (x::m) k st->(∃ st',f (mk k st)=some (.nx (mk (k+1) st'))/\I m (k+1) st') \/ ∃ r,f (mk k st)=some (.dn r)/\Q r) : ∃ r,loop f s=some r/\Q r:=by
 subst h0
 have main : ∀ (m:List α) (k n:Nat) (st:σ),l.drop k=m->k<=l.length->m.length<n->I m k st -> ∃ r,DW n f (mk k st)=some r/\Q r:=by
  intro m
  induction m with
  | nil =>
   intro k n st hm hk hn' hi;obtain ⟨n,rfl⟩ : ∃ j,n=j+1:=⟨n-1,by omega⟩
   have hkl:k=l.length:=by
    have:=congrArg List.length hm;simp at this;omega
   subst hkl;obtain ⟨r,h1,h2⟩:=hn st hi;exact ⟨r,BZ h1,h2⟩
  | cons x m ih =>
   intro k n st hm hk hn' hi;obtain ⟨n,rfl⟩ : ∃ j,n=j+1:=⟨n-1,by omega⟩
   have hx:l[k]? = some x:=by
    have:=congrArg List.head? hm;rw [List.head?_drop] at this;simpa using this
   have hk':k<l.length:=(List.getElem?_eq_some_iff.1 hx).1
   have hm2:l.drop (k+1)=m:=by
    have:=congrArg List.tail hm;rw [List.tail_drop] at this;simpa using this
   rcases hc k x m st hm hx hk' hi with ⟨st',h1,h2⟩ | ⟨r,h1,h2⟩
   ·rw [BV h1];exact ih (k+1) n st' hm2 (by omega) (by simp at hn';omega) h2
   ·exact ⟨r,BZ h1,h2⟩
 exact main l 0 _ st (by simp) (by omega) (by omega) hi
theorem IS {α:Type} (l m:List α) (hl:l.length=m.length) (hb:l.length<=9223372036854775806) {f:(Int×Bool)->Option (LR (Int×Bool) (Nat×((Int×Bool)×Unit)))}
  (hs : ∀ (k:Nat) x y,l[k]? = some x->m[k]? = some y->(x=y->f ((k:Int),false)=some (.nx (((k+1:Nat):Int),false)))/\(x≠y->f ((k:Int),false)=some (.dn (0,(((k:Int),false),())))))
  (he:f ((l.length:Int),false)=some (.dn (1,(((l.length:Int),false),())))) :
  ∃ r,loop f (0,false)=some r/\((l=m/\r.1=1)\/(l≠m/\r.1=0/\r.2.1.2=false)):=by
 refine H2 (l:=l) (σ:=Unit) (λk _=>((k:Int),false)) (λt k _=>t=l.drop k/\l.take k=m.take k) _ () rfl (by omega) ⟨by simp,by simp⟩ (λst h => ?_) (λk x t st hd hx hk h => ?_)
 ·refine ⟨_,he,.inl ⟨?_,rfl⟩⟩;have:=h.2;rw [List.take_length,hl,List.take_length] at this;exact this
 ·have hk2:k<m.length:=by omega
  have hy:m[k]? = some m[k]:=by simp [hk2]
  by_cases e:x=m[k]
  ·refine .inl ⟨(),(hs k x m[k] hx hy).1 e,?_,?_⟩
   ·have:=congrArg List.tail hd;rw [List.tail_drop] at this;simp at this;exact this.symm
   ·rw [List.take_add_one,List.take_add_one,h.2,hx,hy,e]
  ·refine .inr ⟨_,(hs k x m[k] hx hy).2 e,.inr ⟨?_,rfl,rfl⟩⟩;intro e2;subst e2;rw [hx] at hy;exact e (Option.some.inj hy)
theorem beq_eq (a b:Bool):Sv.beq a b=decide (a=b):=by cases a<;>cases b<;>rfl
theorem DI (a b:Int):BN a b=decide (a=b):=by
 unfold BN;by_cases h:a=b<;>simp [h]
theorem Iw (p q:Prop) [Decidable p] [Decidable q]:Bd (decide p) (decide q)=decide (p/\q):=by unfold Bd;simp
theorem CW (p:Prop) [Decidable p]:AY (decide p)=decide (¬ p):=by unfold AY;simp
theorem L6 (a:Bool):Bd a true=a:=by cases a<;>rfl
theorem W3 (l m:List AM) (hb:l.length<=9223372036854775806):Ah (l,m)=some (decide (l=m)):=by
 unfold Ah;simp only [AV,AR];rw [AS];by_cases hl:(l.length:Int)=(m.length:Int)
 ·rw [if_pos hl];have hl2:l.length=m.length:=by omega
  obtain ⟨r,h1,h2⟩:=IS l m hl2 hb (f:=λs0=>br (Am s0.1 (l.length:Int)) (λ_=>AT s0.1 λk1=>ix l k1 λx2=>AT s0.1 λk3=>ix m k3 λx4=>br (AY (Bd (seq x2.1 x4.1) (Bd (Sv.beq x2.2 x4.2) true))) (λ_=>some (.dn ((0,((s0.1,false),()))))) λ_=>some (.nx (AI .i64 s0.1 1,s0.2))) λ_=>some (.dn ((1,(s0,()))))) (λk x y hx hy=>by
    have hk:=(List.getElem?_eq_some_iff.1 hx).1
    have he : ∀ {β:Type} (u v:Unit->Option β),br (AY (Bd (seq x.1 y.1) (Bd (Sv.beq x.2 y.2) true))) u v=if x=y then v () else u ():=by
     intro β u v;rw [L6,K6,beq_eq,Iw,CW,CZ];by_cases e:x=y
     ·subst e;simp
     ·rw [if_pos (λh=>e (Prod.ext h.1 h.2)),if_neg e]
    constructor
    ·intro e;simp only;rw [rl hk,AP,AF,AK hx,AF,AK hy,he,if_pos e,Ab (by omega)]
    ·intro e;simp only
     rw [rl hk,AP,AF,AK hx,AF,AK hy,he,if_neg e]) (by simp only;rw [re];rfl)
  refine A8 h1 ?_;rcases h2 with ⟨e,h2⟩ | ⟨e,h2,h3⟩
  ·rw [Cd,h2];simp [e]
  ·rw [Cd,h2];simp [e,h3]
 ·rw [if_neg hl];have : ¬ l=m:=λe=>hl (by rw [e]);simp [this]
theorem KJ (l m:List Int) (hb:l.length<=9223372036854775806):Ac (l,m)=some (decide (l=m)):=by
 unfold Ac;simp only [AV,AR];rw [AS];by_cases hl:(l.length:Int)=(m.length:Int)
 ·rw [if_pos hl];have hl2:l.length=m.length:=by omega
  obtain ⟨r,h1,h2⟩:=IS l m hl2 hb (f:=λs0=>br (Am s0.1 (l.length:Int)) (λ_=>AT s0.1 λk1=>ix l k1 λx2=>AT s0.1 λk3=>ix m k3 λx4=>br (A7 x2 x4) (λ_=>some (.dn ((0,((s0.1,false),()))))) λ_=>some (.nx (AI .i64 s0.1 1,s0.2))) λ_=>some (.dn ((1,(s0,()))))) (λk x y hx hy=>by
    have hk:=(List.getElem?_eq_some_iff.1 hx).1;constructor
    ·intro e;simp only;rw [rl hk,AP,AF,AK hx,AF,AK hy,AS,if_pos e,Ab (by omega)]
    ·intro e;simp only
     rw [rl hk,AP,AF,AK hx,AF,AK hy,AS,if_neg e]) (by simp only;rw [re];rfl)
  refine A8 h1 ?_;rcases h2 with ⟨e,h2⟩ | ⟨e,h2,h3⟩
  ·rw [Cd,h2];simp [e]
  ·rw [Cd,h2];simp [e,h3]
 ·rw [if_neg hl];have : ¬ l=m:=λe=>hl (by rw [e]);simp [this]
theorem Oa {β:Type} (x y:AD) (u v:Unit->Option β):br (AY (Bd (seq x.1 y.1) (Bd (seq x.2.1 y.2.1) (Bd (Sv.beq x.2.2.1 y.2.2.1) (Bd (BN x.2.2.2 y.2.2.2) true))))) u v=if x=y then v () else u ():=by
 rw [L6,K6,K6,beq_eq,DI,Iw,Iw,Iw,CW,CZ];by_cases e:x=y
 ·subst e;simp
 ·rw [if_pos (λh=>e (Prod.ext h.1 (Prod.ext h.2.1 (Prod.ext h.2.2.1 h.2.2.2)))),if_neg e]
theorem Fw (l m:List AD) (hb:l.length<=9223372036854775806):BK (l,m)=some (decide (l=m)):=by
 unfold BK;simp only [AV,AR];rw [AS];by_cases hl:(l.length:Int)=(m.length:Int)
 ·rw [if_pos hl];have hl2:l.length=m.length:=by omega
  obtain ⟨r,h1,h2⟩:=IS l m hl2 hb (f:=λs0=>br (Am s0.1 (l.length:Int)) (λ_=>AT s0.1 λk1=>ix l k1 λx2=>AT s0.1 λk3=>ix m k3 λx4=>br (AY (Bd (seq x2.1 x4.1) (Bd (seq x2.2.1 x4.2.1) (Bd (Sv.beq x2.2.2.1 x4.2.2.1) (Bd (BN x2.2.2.2 x4.2.2.2) true))))) (λ_=>some (.dn ((0,((s0.1,false),()))))) λ_=>some (.nx (AI .i64 s0.1 1,s0.2))) λ_=>some (.dn ((1,(s0,()))))) (λk x y hx hy=>by
    have hk:=(List.getElem?_eq_some_iff.1 hx).1;constructor
    ·intro e;simp only;rw [rl hk,AP,AF,AK hx,AF,AK hy,Oa,if_pos e,Ab (by omega)]
    ·intro e;simp only
     rw [rl hk,AP,AF,AK hx,AF,AK hy,Oa,if_neg e]) (by simp only;rw [re];rfl)
  refine A8 h1 ?_;rcases h2 with ⟨e,h2⟩ | ⟨e,h2,h3⟩
  ·rw [Cd,h2];simp [e]
  ·rw [Cd,h2];simp [e,h3]
 ·rw [if_neg hl];have : ¬ l=m:=λe=>hl (by rw [e]);simp [this]
theorem HR (l m:List AD) (hb:l.length<=9223372036854775806):Bg (l,m)=some (decide (l=m)):=by
 unfold Bg;rw [Fw l m hb];rfl
instance:DecidableEq AD:=inferInstance
instance:DecidableEq (List AD):=inferInstance
instance:DecidableEq (List (List AD)):=inferInstance
instance:DecidableEq AM:=inferInstance
instance:DecidableEq Dv:=inferInstance
instance:DecidableEq AN:=inferInstance
instance:DecidableEq Bs:=inferInstance
instance:DecidableEq Iq:=inferInstance
theorem SZ (x y:Iq) (h1:x.1.1.length<=1000) (h2 : ∀ l∈x.1.1,l.length<=1000000) (h3:x.1.2.1.length<=1000) (h4:x.1.2.2.1.length<=1000) (h5:x.1.2.2.2.1.length<=1000) (h6:x.2.2.1.length<=1000000):C7 (x,y)=some (decide (x=y)):=by
 obtain ⟨⟨xr,xa,xk,xl,xw⟩,⟨xs,xt,xb⟩,xo,xn⟩:=x;obtain ⟨⟨yr,ya,yk,yl,yw⟩,⟨ys,yt,yb⟩,yo,yn⟩:=y;simp only at h1 h2 h3 h4 h5 h6;unfold C7;simp only [AV,AR];rw [AS];by_cases hl:(xr.length:Int)=(yr.length:Int)
 ·rw [if_pos hl];have hl2:xr.length=yr.length:=by omega
  obtain ⟨r,q1,q2⟩:=IS xr yr hl2 (by omega) (f:=λs0=>br (Am s0.1 (xr.length:Int)) (λ_=>AT s0.1 λk1=>ix xr k1 λx2=>AT s0.1 λk3=>ix yr k3 λx4=>bd (Bg (x2,x4)) λr5=>br (AY r5) (λ_=>some (.dn ((0,((s0.1,false),()))))) λ_=>some (.nx (AI .i64 s0.1 1,s0.2))) λ_=>some (.dn ((1,(s0,()))))) (λk x y hx hy=>by
    have hk:=(List.getElem?_eq_some_iff.1 hx).1;have hx1:=h2 x (List.mem_of_getElem? hx);constructor
    ·intro e;simp only;rw [rl hk,AP,AF,AK hx,AF,AK hy,HR _ _ (by omega),AC,CW,CZ,if_neg (by simp [e]),Ab (by omega)]
    ·intro e;simp only
     rw [rl hk,AP,AF,AK hx,AF,AK hy,HR _ _ (by omega),AC,CW,CZ,if_pos e]) (by simp only;rw [re];rfl)
  refine A8 q1 ?_;simp only [KJ _ _ (show xa.length<=9223372036854775806 by omega),KJ _ _ (show xl.length<=9223372036854775806 by omega),W3 _ _ (show xk.length<=9223372036854775806 by omega),HR _ _ (show xo.length<=9223372036854775806 by omega),AC,CZ,DI,K6,beq_eq,L6,Iw,Cd];rw [Gl];rcases q2 with ⟨e,q2⟩ | ⟨e,q2,q3⟩
  ·rw [if_neg (show ¬ r.1=0 by omega)]
   repeat' split
   all_goals simp_all
  ·rw [if_pos q2,if_neg (show ¬ r.2.1.2=true by simp [q3])];simp [e]
 ·rw [if_neg hl];have : ¬ xr=yr:=λe=>hl (by rw [e]);simp [this]
end Go.Proofs.YthpkjfabdccpdaaGreat.Pl
namespace Go.Proofs.YthpkjfabdccpdaaGreat.Pl
open Go Go.Proofs.YthpkjfabdccpdaaGreat.Sv
def kR (ids:List Int) (most:Int) (r:BE):Int :=
 if r.1<1\/r.1>1000000 then 7 else if (Ca r.2).2≠0 then (Ca r.2).2 else if r.2.length=0 then 4 else if (r.2.length:Int)>most then 3 else if r.1∈ids then 8 else 0
def KM (most:Int):Nat->List Int->List BE->Option (Nat×Int)
 | _,_,[]=>none
 | k,ids,r::rs=>if kR ids most r≠0 then some (k,kR ids most r) else KM most (k+1) (ids++[r.1]) rs
def Bc (B:Int) (i:Nat):Int:=B*2 ^ i
def KN (B:Int):Nat->List Int->List (List BE)->Option (Nat×(Nat×Int))
 | _,_,[]=>none
 | i,ids,rs::ls=>if rs.length>2 then some (i,(0,3)) else match KM (Bc B i) 0 ids rs with
  | some (k,e)=>some (i,(k,e))
  | none=>KN B (i+1) (ids++rs.map (·.1)) ls
def ER (L:AJ):Int×(Int×Int) :=
 if L.1<1\/L.1>16 then (0,(0,7)) else if L.2.length>12 then (0,(0,3)) else match KN L.1 0 [] L.2 with
  | some (i,(k,e))=>((i:Int),((k:Int),e))
  | none=>if L.2.getLast? = some [] then (((L.2.length-1:Nat):Int),(0,6)) else (0,(0,0))
theorem Vy {most:Int} : ∀ {rs:List BE} {k:Nat} {ids:List Int} {k':Nat} {e:Int},KM most k ids rs=some (k',e)->e≠0
 | [],_,_,_,_,h=>by cases h
 | r::rs,k,ids,k',e,h=>by
  unfold KM at h;by_cases hk:kR ids most r≠0
  ·rw [if_pos hk] at h;cases h;exact hk
  ·rw [if_neg hk] at h;exact Vy h
theorem RF {B:Int} : ∀ {ls:List (List BE)} {i:Nat} {ids:List Int} {i' k':Nat} {e:Int},KN B i ids ls=some (i',(k',e))->e≠0
 | [],_,_,_,_,_,h=>by cases h
 | rs::ls,i,ids,i',k',e,h=>by
  unfold KN at h;by_cases hk:rs.length>2
  ·rw [if_pos hk] at h;cases h;decide
  ·rw [if_neg hk] at h;cases hr:KM (Bc B i) 0 ids rs with
   | none=>rw [hr] at h;exact RF h
   | some x=>rw [hr] at h;cases h;exact Vy hr
def O7 (ids:List Int):List (Int×Bool):=ids.map λi=>(i,true)
theorem ZO (ids:List Int) (i:Int):O2 (ID (λa b=>BN a b) (O7 ids) i) false=decide (i∈ids):=by
 induction ids with
 | nil=>rfl
 | cons j ids ih =>
  show O2 (bif BN i j then some true else ID (λa b=>BN a b) (O7 ids) i) false=_
  rw [DI];by_cases h:i=j
  ·simp [h,O2]
  ·simp only [h,decide_false,cond_false,List.mem_cons,false_or];exact ih
theorem ZP {ids:List Int} {i:Int} (h:i ∉ ids):HW (λa b=>BN a b) (O7 ids) i true=O7 (ids++[i]):=by
 induction ids with
 | nil=>rfl
 | cons j ids ih =>
  show (bif BN i j then (i,true)::O7 ids else (j,true)::HW (λa b=>BN a b) (O7 ids) i true)=_
  rw [DI];have h1 : ¬ i=j:=λe=>h (by simp [e]);rw [ih (λe=>h (by simp [e]))];simp only [h1,decide_false,cond_false];rfl
theorem L7 (r:BE) (hl:r.2.length<=9223372036854775807):Eu r=some (if r.1<1\/r.1>1000000 then (-1,7) else Ca r.2):=by
 unfold Eu;rw [BG,A5,Gn _ hl,AC];by_cases h:r.1<1
 ·rw [if_pos h,if_pos (.inl h)]
 ·rw [if_neg h];by_cases h2:r.1>1000000
  ·rw [if_pos h2,if_pos (.inr h2)]
  ·rw [if_neg h2,if_neg (by omega)]
theorem Px (r:BE) (most:Int) (hl:r.2.length<=9223372036854775807):Ci (r,most)=some (kR [] most r):=by
 unfold Ci kR;rw [L7 r hl,AC];simp only [AV,AR];by_cases h:r.1<1\/r.1>1000000
 ·rw [if_pos h,if_pos h];rfl
 ·rw [if_neg h,if_neg h,AS];by_cases h2:(Ca r.2).2=0
  ·rw [if_pos h2,if_neg (by simp [h2]),Bj,A5]
   repeat' split
   all_goals first | rfl | (exfalso;omega) | simp_all
  ·rw [if_neg h2,if_pos h2]
theorem ZQ (ids:List Int) (most:Int) (r:BE):kR ids most r=if kR [] most r=0 then (if r.1∈ids then 8 else 0) else kR [] most r:=by
 unfold kR
 repeat' split
 all_goals simp_all
theorem gl (i:Nat) (h:i<=12):(2:Int) ^ i<=4096/\1<=(2:Int) ^ i:=by
 have h1:(2:Nat) ^ i<=2 ^ 12:=Nat.pow_le_pow_right (by omega) h;have h2:1<=(2:Nat) ^ i:=Nat.one_le_two_pow;have h3:((2 ^ i:Nat):Int)=(2:Int) ^ i:=by simp
 omega
theorem Sa {B:Int} {i:Nat} (h1:1<=B) (h2:B<=16) (hi:i<=12):1<=Bc B i/\Bc B i<=65536:=by
 obtain ⟨h3,h4⟩:=gl i hi;unfold Bc;constructor
 ·have:=Int.mul_le_mul h1 h4 (by omega) (by omega);omega
 ·have:=Int.mul_le_mul h2 h3 (by omega) (by omega);omega
theorem Py {B:Int} {i:Nat} (h1:1<=B) (h2:B<=16) (hi:i<=12):Rx .i64 B (i:Int)=Bc B i:=by
 have h3:=Sa h1 h2 hi;unfold Rx;rw [show min ((i:Int).toNat) IntKind.i64.bits=i by rw [Int.toNat_natCast];exact Nat.min_eq_left (Nat.le_trans hi (by decide))];unfold Bc at h3 ⊢;exact IntWalk.i64_in _ (by omega)
def Q1:Option (Nat×(Nat×Int))->Int->Int->Int->Prop
 | some (i,(k,e)),a,b,c=>a=(k:Int)/\b=(i:Int)/\c=e
 | none,_,_,c=>c=0
def Q2 (m:List (Int×Bool)):Option (Nat×Int)->Nat->Int->Int->List (Int×Bool)->Prop
 | some (k,e),r,a,c,_=>r=0/\a=(k:Int)/\c=e
 | none,r,_,c,m'=>r=1/\c=0/\m'=m
theorem LA (L:AJ) (hb:L.2.length<=1048576) (hr : ∀ rs∈L.2,rs.length<=1048576 /\ ∀ r∈rs,r.2.length<=9223372036854775807):Cq L=some (ER L):=by
 unfold Cq ER;simp only [AV,AR];rw [BG,A5,A5];by_cases hB1:L.1<1
 ·rw [if_pos hB1,if_pos (.inl hB1)]
 rw [if_neg hB1];by_cases hB2:L.1>16
 ·rw [if_pos hB2,if_pos (.inr hB2)]
 rw [if_neg hB2,if_neg (show ¬ (L.1<1\/L.1>16) by omega)];by_cases hl:(L.2.length:Int)>12
 ·rw [if_pos hl,if_pos (by omega)]
 rw [if_neg hl,if_neg (by omega)];have hl2:L.2.length<=12:=by omega
 obtain ⟨T,hT⟩ : ∃ T,T=KN L.1 0 [] L.2:=⟨_,rfl⟩;rw [<- hT]
 have hlast : ∀ r2:Int,r2=0->T=none->(br (A7 r2 0) (λ_=>(none:Option (Int×(Int×Int)))) λ_=>br (CE (L.2.length:Int) 0) (λ_=>AT (B7 .i64 (L.2.length:Int) 1) λk15=>ix L.2 k15 λx16=>br (BN (x16.length:Int) 0) (λ_=>some ((B7 .i64 (L.2.length:Int) 1,(0,6)))) λ_=>some ((0,(0,0)))) λ_=>some ((0,(0,0))))=some (if L.2.getLast? = some [] then (((L.2.length-1:Nat):Int),(0,6)) else (0,(0,0))):=by
  intro r2 h0 _;rw [AS,if_pos h0,A5];by_cases hn:L.2=[]
  ·rw [hn];rfl
  ·have hp:=List.length_pos_iff.2 hn;rw [if_pos (by omega),show B7 .i64 (L.2.length:Int) 1=((L.2.length-1:Nat):Int) by rw [B8 (by omega)];omega,AF,List.getLast?_eq_getElem?];have hx:L.2[L.2.length-1]? = some (L.2[L.2.length-1]'(by omega)):=by simp
   rw [AK hx,hx,Bj];by_cases he:L.2[L.2.length-1]'(by omega)=[]
   ·rw [he];simp
   ·rw [if_neg (by have:=List.length_pos_iff.2 he;omega),if_neg (by simp [he])]
 obtain ⟨r,q1,q2⟩:=H2 (l:=L.2) (σ:=Int×(Int×List Int)) (λi st=>(st.1,(st.2.1,((0:Int),((i:Int),O7 st.2.2)))))
  (λm i st=>KN L.1 i st.2.2 m=T) (λ(r:Nat×((Int×(Int×(Int×(Int×List (Int×Bool)))))×Unit))=>Q1 T r.2.1.1 r.2.1.2.1 r.2.1.2.2.1)
  (f:=λs0=>br (Am s0.2.2.2.1 (L.2.length:Int)) (λ_=>AT s0.2.2.2.1 λk1=>ix L.2 k1 λx2=>br (CE (x2.length:Int) 2) (λ_=>some (.dn ((0,((0,(s0.2.2.2.1,(3,s0.2.2.2))),()))))) λ_=>bd (loop (λs3=>br (Am s3.2.1 (x2.length:Int)) (λ_=>AT s3.2.1 λk4=>ix x2 k4 λx5=>gd (G1 s0.2.2.2.1 0) λ_=>bd (Ci (x5,Rx .i64 L.1 s0.2.2.2.1)) λr6=>br (BN r6 0) (λ_=>br (O2 (ID ((λa7=>(λa8=>BN a7 a8))) s3.2.2.2 x5.1) false) (λ_=>some (.dn ((0,((s3.2.1,(s3.2.1,(8,s3.2.2.2))),()))))) λ_=>br (A7 r6 0) (λ_=>some (.dn ((0,((s3.2.1,(s3.2.1,(r6,s3.2.2.2))),()))))) λ_=>some (.nx ((s3.2.1,(AI .i64 s3.2.1 1,(r6,HW ((λa9=>(λa10=>BN a9 a10))) s3.2.2.2 x5.1 true)))))) λ_=>br (A7 r6 0) (λ_=>some (.dn ((0,((s3.2.1,(s3.2.1,(r6,s3.2.2.2))),()))))) λ_=>some (.nx ((s3.2.1,(AI .i64 s3.2.1 1,(r6,HW ((λa11=>(λa12=>BN a11 a12))) s3.2.2.2 x5.1 true)))))) λ_=>some (.dn ((1,(s3,()))))) ((0,(0,(s0.2.2.1,s0.2.2.2.2))))) λr13=>br (neq r13.1 0) (λ_=>some (.dn ((0,((r13.2.1.1,(s0.2.2.2.1,(r13.2.1.2.2.1,(s0.2.2.2.1,r13.2.1.2.2.2)))),()))))) λ_=>some (.nx ((r13.2.1.1,(s0.2.2.2.1,(r13.2.1.2.2.1,(AI .i64 s0.2.2.2.1 1,r13.2.1.2.2.2))))))) λ_=>some (.dn ((0,(s0,())))))
  (s:=(0,(0,(0,(0,[]))))) (0,(0,[])) rfl (by omega) hT.symm (λst h=>by
   refine ⟨_,by simp only;rw [re];rfl,?_⟩;simp only at h ⊢;rw [<- h];exact rfl) (λi rs m st hd hx hi h=>by
   obtain ⟨s1,s2,ids⟩:=st;simp only at h ⊢;obtain ⟨hrs1,hrs2⟩:=hr rs (List.mem_of_getElem? hx);rw [rl hi,AP,AF,AK hx,A5];unfold KN at h;by_cases h3:rs.length>2
   ·rw [if_pos (by omega)];rw [if_pos h3] at h;refine .inr ⟨_,rfl,?_⟩;rw [<- h];exact ⟨rfl,rfl,rfl⟩
   rw [if_neg (by omega)];rw [if_neg h3] at h;obtain ⟨U,hU⟩ : ∃ U,U=KM (Bc L.1 i) 0 ids rs:=⟨_,rfl⟩;rw [<- hU] at h
   obtain ⟨r,q1,q2⟩:=H2 (l:=rs) (σ:=Int) (λk st=>(st,((k:Int),((0:Int),O7 (ids++(rs.take k).map (·.1))))))
    (λm k _=>KM (Bc L.1 i) k (ids++(rs.take k).map (·.1)) m=U) (λ(r:Nat×((Int×(Int×(Int×List (Int×Bool))))×Unit))=>Q2 (O7 (ids++rs.map (·.1))) U r.1 r.2.1.1 r.2.1.2.2.1 r.2.1.2.2.2)
    (f:=λs3=>br (Am s3.2.1 (rs.length:Int)) (λ_=>AT s3.2.1 λk4=>ix rs k4 λx5=>gd (G1 (i:Int) 0) λ_=>bd (Ci (x5,Rx .i64 L.1 (i:Int))) λr6=>br (BN r6 0) (λ_=>br (O2 (ID ((λa7=>(λa8=>BN a7 a8))) s3.2.2.2 x5.1) false) (λ_=>some (.dn ((0,((s3.2.1,(s3.2.1,(8,s3.2.2.2))),()))))) λ_=>br (A7 r6 0) (λ_=>some (.dn ((0,((s3.2.1,(s3.2.1,(r6,s3.2.2.2))),()))))) λ_=>some (.nx ((s3.2.1,(AI .i64 s3.2.1 1,(r6,HW ((λa9=>(λa10=>BN a9 a10))) s3.2.2.2 x5.1 true)))))) λ_=>br (A7 r6 0) (λ_=>some (.dn ((0,((s3.2.1,(s3.2.1,(r6,s3.2.2.2))),()))))) λ_=>some (.nx ((s3.2.1,(AI .i64 s3.2.1 1,(r6,HW ((λa11=>(λa12=>BN a11 a12))) s3.2.2.2 x5.1 true)))))) λ_=>some (.dn ((1,(s3,())))))
    (s:=(0,(0,(0,O7 ids)))) 0 (by simp) (by omega) (by simp [hU]) (λst h=>by
     refine ⟨_,by simp only;rw [re];rfl,?_⟩;rw [<- h];exact ⟨rfl,rfl,by simp⟩) (λk r m st hd hx hk h=>by
     simp only at h ⊢;have hr2:=hrs2 r (List.mem_of_getElem? hx);have htk:(rs.take (k+1)).map (·.1)=(rs.take k).map (·.1)++[r.1]:=by rw [List.take_add_one,hx];simp
     rw [rl hk,AP,AF,AK hx,show gd (G1 (i:Int) 0)=λ(q:Unit->Option (LR (Int×(Int×(Int×List (Int×Bool)))) (Nat×((Int×(Int×(Int×List (Int×Bool))))×Unit))))=>q () from by unfold G1;simp [gd];rfl,Py (by omega) (by omega) (by omega)];simp only;rw [Px _ _ (by omega),AC,Bj,ZO,AS];unfold KM at h;rw [ZQ] at h;by_cases h0:kR [] (Bc L.1 i) r=0
     ·rw [if_pos h0] at h;rw [if_pos h0,if_pos h0,CZ];by_cases hm:r.1∈ids++(rs.take k).map (·.1)
      ·rw [if_pos hm];rw [if_pos hm,if_pos (by decide)] at h;refine .inr ⟨_,rfl,?_⟩;rw [<- h];exact ⟨rfl,rfl,rfl⟩
      ·rw [if_neg hm];rw [if_neg hm,if_neg (by decide)] at h;refine .inl ⟨(k:Int),?_,?_⟩
       ·rw [ZP hm,h0,Az hx (by omega),htk,List.append_assoc]
       ·rw [htk,<- List.append_assoc];exact h
     ·rw [if_neg h0,if_pos h0] at h;rw [if_neg h0,if_neg h0];refine .inr ⟨_,rfl,?_⟩;rw [<- h]
      exact ⟨rfl,rfl,rfl⟩)
   rw [q1,AC,Cd];cases hUc:U with
   | some u =>
    obtain ⟨k,e⟩:=u;rw [hUc] at q2 h;rw [if_pos q2.1];refine .inr ⟨_,rfl,?_⟩;rw [<- h];exact ⟨q2.2.1,rfl,q2.2.2⟩
   | none =>
    rw [hUc] at q2 h;rw [if_neg (show ¬ r.1=0 by have:=q2.1;omega)];refine .inl ⟨(r.2.1.1,((i:Int),ids++rs.map (·.1))),?_,h⟩
    rw [q2.2.1,q2.2.2,Az hx (by omega)])
 refine A8 q1 ?_;cases hTc:T with
 | some t =>
  obtain ⟨i,k,e⟩:=t;rw [hTc] at q2 hT;rw [AS,if_neg (by rw [q2.2.2];exact RF hT.symm),q2.1,q2.2.1,q2.2.2]
 | none =>
  rw [hTc] at q2;have h:=hlast _ q2 hTc;have q3:r.2.1.2.2.1=0:=q2;rw [AS,if_pos q3] at h ⊢;exact h
end Go.Proofs.YthpkjfabdccpdaaGreat.Pl
namespace Go.Proofs.YthpkjfabdccpdaaGreat.Pl
open Go Go.Proofs.YthpkjfabdccpdaaGreat.Sv
structure VR (most:Int) (r:BE):Prop where
 id1:1<=r.1
 id2:r.1<=1000000
 vl:VL r.2
 ne:r.2≠[]
 le:(r.2.length:Int)<=most
theorem ZR {ids:List Int} {most:Int} {r:BE}:kR ids most r=0<->VR most r/\r.1 ∉ ids:=by
 unfold kR;constructor
 ·intro h;by_cases h1:r.1<1\/r.1>1000000
  ·rw [if_pos h1] at h;cases h
  rw [if_neg h1] at h;by_cases h2:(Ca r.2).2≠0
  ·rw [if_pos h2] at h;exact absurd h h2
  rw [if_neg h2] at h;by_cases h3:r.2.length=0
  ·rw [if_pos h3] at h;cases h
  rw [if_neg h3] at h;by_cases h4:(r.2.length:Int)>most
  ·rw [if_pos h4] at h;cases h
  rw [if_neg h4] at h;by_cases h5:r.1∈ids
  ·rw [if_pos h5] at h;cases h
  exact ⟨⟨by omega,by omega,Mn.1 (by simpa using h2),by intro e;rw [e] at h3;exact h3 rfl,by omega⟩,h5⟩
 ·rintro ⟨h,h5⟩;rw [if_neg (by have:=h.id1;have:=h.id2;omega),if_neg (by simp [Mn.2 h.vl]),if_neg (by have:=List.length_pos_iff.2 h.ne;omega),if_neg (by have:=h.le;omega),if_neg h5]
def Vz (r:BE):Int:=r.1
theorem Mt {most:Int} : ∀ {rs:List BE} {k:Nat} {ids:List Int},KM most k ids rs=none<->(∀ r∈rs,VR most r/\r.1 ∉ ids)/\(rs.map Vz).Nodup
 | [],k,ids=>by simp [KM]
 | r::rs,k,ids=>by
  unfold KM;by_cases h:kR ids most r=0
  ·rw [if_neg (by simp [h]),Mt (rs:=rs)];have h1:=ZR.1 h;simp only [List.mem_cons,forall_eq_or_imp,List.map_cons,List.nodup_cons,List.mem_append,List.not_mem_nil,or_false,List.mem_map,not_exists,not_and,not_or];constructor
   ·rintro ⟨h2,h3⟩;exact ⟨⟨h1,λx hx=>⟨(h2 x hx).1,(h2 x hx).2.1⟩⟩,λx hx e=>(h2 x hx).2.2 e,h3⟩
   ·rintro ⟨⟨_,h2⟩,h3,h4⟩;exact ⟨λx hx=>⟨(h2 x hx).1,(h2 x hx).2,h3 x hx⟩,h4⟩
  ·rw [if_pos h];simp only [reduceCtorEq,false_iff,not_and];intro h2;exact absurd (ZR.2 (h2 r (by simp))) h
theorem KK {B:Int} : ∀ {ls:List (List BE)} {i:Nat} {ids:List Int},KN B i ids ls=none<->(∀ k rs,ls[k]? = some rs->rs.length<=2 /\ ∀ r∈rs,VR (Bc B (i+k)) r/\r.1 ∉ ids)/\(ls.flatten.map Vz).Nodup
 | [],i,ids=>by simp [KN]
 | rs::ls,i,ids=>by
  unfold KN;by_cases h:rs.length>2
  ·rw [if_pos h];simp only [reduceCtorEq,false_iff,not_and];intro h2;have:=(h2 0 rs rfl).1;omega
  ·rw [if_neg h];cases hr:KM (Bc B i) 0 ids rs with
   | some x =>
    simp only [reduceCtorEq,false_iff,not_and];intro h2 h3
    have h4:KM (Bc B i) 0 ids rs=none:=Mt.2 ⟨(h2 0 rs rfl).2,by
     simp only [List.flatten_cons,List.map_append] at h3
     exact (List.nodup_append.1 h3).1⟩
    rw [hr] at h4;cases h4
   | none =>
    have h1:=Mt.1 hr;simp only;rw [KK (ls:=ls)];simp only [List.flatten_cons,List.map_append,List.mem_append,not_or,List.mem_map];constructor
    ·rintro ⟨h2,h3⟩;refine ⟨λk rs' hk => ?_,?_⟩
     ·cases k with
      | zero=>cases hk;exact ⟨by omega,h1.1⟩
      | succ k =>
       have h4:=h2 k rs' hk
       exact ⟨h4.1,λr hr=>by
        have:=h4.2 r hr;rw [show i+(k+1)=i+1+k by omega]
        exact ⟨this.1,this.2.1⟩⟩
     ·rw [List.nodup_append];refine ⟨h1.2,h3,?_⟩;intro a ha b hb e;subst e;obtain ⟨r,hr,e1⟩:=List.mem_map.1 ha;obtain ⟨r',hr',e2⟩:=List.mem_map.1 hb;obtain ⟨rs',hrs,hr'⟩:=List.mem_flatten.1 hr';obtain ⟨k,hk⟩:=List.getElem?_of_mem hrs;exact ((h2 k rs' hk).2 r' hr').2.2 ⟨r,hr,by unfold Vz at e1 e2;omega⟩
    ·rintro ⟨h2,h3⟩;rw [List.nodup_append] at h3;refine ⟨λk rs' hk => ?_,h3.2.1⟩;have h4:=h2 (k+1) rs' hk;refine ⟨h4.1,λr hr => ?_⟩;have:=h4.2 r hr;rw [show i+(k+1)=i+1+k by omega] at this;refine ⟨this.1,this.2,?_⟩;rintro ⟨r',hr',e⟩;exact h3.2.2 (Vz r') (List.mem_map_of_mem hr') (Vz r) (List.mem_map_of_mem (List.mem_flatten.2 ⟨rs',List.mem_of_getElem? hk,hr⟩)) e
structure VLev (L:AJ):Prop where
 B1:1<=L.1
 B2:L.1<=16
 len:L.2.length<=12
 lev : ∀ i rs,L.2[i]? = some rs->rs.length<=2 /\ ∀ r∈rs,VR (Bc L.1 i) r
 ids:(L.2.flatten.map Vz).Nodup
 last:L.2.getLast? ≠ some []
theorem Hq {L:AJ}:(ER L).2.2=0<->VLev L:=by
 unfold ER;constructor
 ·intro h;by_cases h1:L.1<1\/L.1>16
  ·rw [if_pos h1] at h;cases h
  rw [if_neg h1] at h;by_cases h2:L.2.length>12
  ·rw [if_pos h2] at h;cases h
  rw [if_neg h2] at h;cases hg:KN L.1 0 [] L.2 with
  | some x =>
   obtain ⟨i,k,e⟩:=x;rw [hg] at h;exact absurd h (RF hg)
  | none =>
   rw [hg] at h;simp only at h;by_cases h3:L.2.getLast? = some []
   ·rw [if_pos h3] at h;cases h
   ·have h4:=KK.1 hg
    exact ⟨by omega,by omega,by omega,λi rs hi=>by
     have:=h4.1 i rs hi;rw [Nat.zero_add] at this
     exact ⟨this.1,λr hr=>(this.2 r hr).1⟩,h4.2,h3⟩
 ·intro h
  have hg:KN L.1 0 [] L.2=none:=KK.2 ⟨λk rs hk=>by
   have:=h.lev k rs hk;rw [Nat.zero_add]
   exact ⟨this.1,λr hr=>⟨this.2 r hr,by simp⟩⟩,h.ids⟩
  rw [if_neg (by have:=h.B1;have:=h.B2;omega),if_neg (by have:=h.len;omega),hg];simp only;rw [if_neg h.last]
theorem Fx {L:AJ} (h:VLev L):ER L=(0,(0,0)):=by
 have hg:KN L.1 0 [] L.2=none:=KK.2 ⟨λk rs hk=>by
  have:=h.lev k rs hk;rw [Nat.zero_add]
  exact ⟨this.1,λr hr=>⟨this.2 r hr,by simp⟩⟩,h.ids⟩
 unfold ER;rw [if_neg (by have:=h.B1;have:=h.B2;omega),if_neg (by have:=h.len;omega),hg];simp only;rw [if_neg h.last]
def Ey (l:List (List BE)):Int:=l.foldl (λm rs=>rs.foldl (λm r=>J5 m r.1) m) 0
def BQ:Nat->List (List BE)->List Int
 | _,[]=>[]
 | i,rs::ls=>(if rs.length=2 then [(i:Int)] else [])++BQ (i+1) ls
theorem Sb (L:AJ) (hb:L.2.length<=1048576) (hr : ∀ rs∈L.2,rs.length<=1048576):D5 L=some (Ey L.2):=by
 unfold D5;simp only [AV,AR]
 rw [Cs (l:=L.2) (σ:=Int) (s:=((0:Int),(0:Int))) (λi m=>(m,(i:Int))) (λ_ _ _=>True) (λls _ m=>(0,((ls.foldl (λm rs=>rs.foldl (λm r=>J5 m r.1) m) m,(L.2.length:Int)),()))) 0 rfl (by omega) trivial (λm _=>by
  simp only;rw [re];rfl) (λi rs ls m hd hx hi _=>by
   refine ⟨rs.foldl (λm r=>J5 m r.1) m,?_,trivial,rfl⟩;have h1:=hr rs (List.mem_of_getElem? hx);simp only
   rw [rl hi,AP,AF,AK hx,Cs (l:=rs) (σ:=Int) (s:=((0:Int),m)) (λi m=>((i:Int),m)) (λ_ _ _=>True) (λl _ m=>(0,(((rs.length:Int),l.foldl (λm r=>J5 m r.1) m),()))) m rfl (by omega) trivial (λm _=>by
    simp only;rw [re];rfl) (λk r l m hd hx hk _=>by
     refine ⟨J5 m r.1,?_,trivial,rfl⟩;simp only
     rw [rl hk,AP,AF,AK hx,Az hx (by omega)]),AC,Az hx (by omega)]),AC]
 rfl
def KO (L:AJ) (due:List Int) (i:Nat) (j:G5):Bool:=match due[i]? with
 | none=>true
 | some d=>if j.1≠d then true else if j.2.2.1.2.2=true/\j.1≠(L.2.length:Int)-1 then true else match L.2[d.toNat]? with
  | some [r0,r1]=>if j.2.2.2.2<0\/j.2.2.2.2>((r1.2.length+r0.2.length:Nat):Int) then true else decide (EQ r1.2 r0.2 j.2.2.1.2.2 j.2.2.2.2.toNat≠j.2)
  | _=>true
def FU (L:AJ) (due:List Int):Nat->List G5->Option Nat
 | _,[]=>none
 | i,j::js=>if KO L due i j=true then some i else FU L due (i+1) js
def Dw (s:A3):Int×Int :=
 if (ER s.1).2.2≠0 then (-1,(ER s.1).2.2) else if s.2.2<1\/s.2.2>1000001 then (-1,7) else if s.2.2<=Ey s.1.2 then (-1,6) else match FU s.1 (BQ 0 s.1.2) 0 s.2.1 with
  | some i=>((i:Int),6)
  | none=>if s.2.1.length<(BQ 0 s.1.2).length then (-1,4) else (0,0)
theorem HA : ∀ {ls:List (List BE)} {i k:Nat} {d:Int},(BQ i ls)[k]? = some d -> ∃ n:Nat,d=((i+n:Nat):Int) /\ ∃ r0 r1,ls[n]? = some [r0,r1]
 | [],i,k,d,h=>by cases h
 | rs::ls,i,k,d,h=>by
  unfold BQ at h;by_cases h2:rs.length=2
  ·rw [if_pos h2] at h;cases k with
   | zero =>
    simp at h;refine ⟨0,by simp [<- h],?_⟩
    match rs,h2 with
    | [r0,r1],_=>exact ⟨r0,r1,rfl⟩
   | succ k =>
    simp at h;obtain ⟨n,h3,h4⟩:=HA h;exact ⟨n+1,by rw [h3];congr 1;omega,h4⟩
  ·rw [if_neg h2] at h;simp at h;obtain ⟨n,h3,h4⟩:=HA h;exact ⟨n+1,by rw [h3];congr 1;omega,h4⟩
theorem Fa : ∀ (ls:List (List BE)) (i:Nat),(BQ i ls).length<=ls.length
 | [],i=>Nat.le_refl _
 | rs::ls,i=>by
  have:=Fa ls (i+1);unfold BQ;split<;>simp<;>omega
theorem Sc {L:AJ} {n:Nat} {r0 r1:BE} (bt:Bool) (h:L.2[n]? = some [r0,r1]) (v0:VL r0.2) (v1:VL r1.2):CL (L,((n:Int),bt))=some ((n:Int),EQ r1.2 r0.2 bt 0):=by
 unfold CL;simp only;rw [AF,AK h,AK (x:=r1) rfl,AK (x:=r0) rfl,Wv v1 v0];rfl
theorem Mv {a b:List AD} (va:VL a) (vb:VL b) (bt:Bool) {n:Nat} (h:n<=a.length+b.length):(EQ a b bt n).1.1.length<=1000/\(∀ l∈(EQ a b bt n).1.1,l.length<=1000000)/\(EQ a b bt n).1.2.1.length<=1000/\(EQ a b bt n).1.2.2.1.length<=1000/\(EQ a b bt n).1.2.2.2.1.length<=1000/\(EQ a b bt n).2.2.1.length<=1000000:=by
 have la:=va.len;have lb:=vb.len;refine ⟨show 2<=1000 by omega,λl hl => ?_,show 2<=1000 by omega,show 2<=1000 by omega,show 2<=1000 by omega,?_⟩
 ·have:l=a\/l=b:=by simpa [EQ,K9,LG] using hl
  rcases this with e | e<;>subst e<;>omega
 ·have h1:=IQ (s0 bt) (Aw a b n);have h2:=CV va vb h;show (FD (s0 bt) (Aw a b n)).length<=_;omega
theorem gm {L:AJ} {n:Nat} {r0 r1:BE} {j:G5} (h:L.2[n]? = some [r0,r1]) (v0:VL r0.2) (v1:VL r1.2) {β:Type} (A B:Option β) :
  (bd (CL (L,((n:Int),j.2.2.1.2.2))) λr16=>bd (BY r16.2) λr17=>br (Am j.2.2.2.2 0) (λ_=>A) λ_=>br (CE j.2.2.2.2 r17.1) (λ_=>A) λ_=>bd (B3 (r16.2,j.2.2.2.2)) λr18=>bd (C7 (r18.1,j.2)) λr19=>br (AY r19) (λ_=>A) λ_=>B)
  = if j.2.2.2.2<0\/j.2.2.2.2>((r1.2.length+r0.2.length:Nat):Int) then A else if EQ r1.2 r0.2 j.2.2.1.2.2 j.2.2.2.2.toNat=j.2 then B else A:=by
 rw [Sc _ h v0 v1,AC,Ms v1 v0 _ (Nat.zero_le _),AC,BG,A5,Nat.sub_zero];by_cases h1:j.2.2.2.2<0
 ·rw [if_pos h1,if_pos (.inl h1)]
 rw [if_neg h1];by_cases h2:j.2.2.2.2>((r1.2.length+r0.2.length:Nat):Int)
 ·rw [if_pos h2,if_pos (.inr h2)]
 rw [if_neg h2,if_neg (show ¬ (j.2.2.2.2<0\/j.2.2.2.2>((r1.2.length+r0.2.length:Nat):Int)) by omega)];obtain ⟨k,hk⟩ : ∃ k:Nat,j.2.2.2.2=(k:Int):=⟨j.2.2.2.2.toNat,by omega⟩;rw [hk,W2 v1 v0 _ (Nat.zero_le _),AC,Nat.sub_zero,Nat.zero_add,Nat.min_eq_left (by omega),Int.toNat_natCast];obtain ⟨s1,s2,s3,s4,s5,s6⟩:=Mv v1 v0 j.2.2.1.2.2 (n:=k) (by omega);rw [SZ _ _ s1 s2 s3 s4 s5 s6,AC,CW,CZ];by_cases he:EQ r1.2 r0.2 j.2.2.1.2.2 k=j.2
 ·rw [if_neg (by simp [he]),if_pos he]
 ·rw [if_pos he,if_neg he]
theorem UN (s:A3) (hb:s.1.2.length<=1048576) (hr : ∀ rs∈s.1.2,rs.length<=1048576 /\ ∀ r∈rs,r.2.length<=9223372036854775807) (hj:s.2.1.length<=1048576):Ce s=some (Dw s):=by
 unfold Ce Dw;simp only [AV,AR];rw [LA _ hb hr,AC,AS];by_cases h0:(ER s.1).2.2=0;rotate_left
 ·rw [if_neg h0,if_pos h0]
 rw [if_pos h0,if_neg (by simp [h0]),BG,A5,Sb _ hb (λrs h=>(hr rs h).1),AC];have v:=Hq.1 h0;by_cases h1:s.2.2<1
 ·rw [if_pos h1,if_pos (.inl h1)]
 rw [if_neg h1];by_cases h2:s.2.2>1000001
 ·rw [if_pos h2,if_pos (.inr h2)]
 rw [if_neg h2,if_neg (show ¬ (s.2.2<1\/s.2.2>1000001) by omega),Vr];by_cases h3:s.2.2<=Ey s.1.2
 ·rw [if_pos h3,if_pos h3]
 rw [if_neg h3,if_neg h3]
 rw [Cs (l:=s.1.2) (σ:=List Int) (s:=((0:Int),([]:List Int))) (λi m=>((i:Int),m)) (λls i m=>m++BQ i ls=BQ 0 s.1.2) (λ_ _ _=>(0,(((s.1.2.length:Int),BQ 0 s.1.2),()))) [] rfl (by omega) rfl (λm h=>by
  simp only;rw [re,Ai,<- h];simp [BQ]) (λi rs ls m hd hx hi h=>by
   refine ⟨m++(if rs.length=2 then [(i:Int)] else []),?_,?_,rfl⟩
   ·simp only;rw [rl hi,AP,AF,AK hx,Bj]
    have hm:m.length<=1048575:=by
     have h4:=congrArg List.length h;have h5:=Fa s.1.2 0;have h6:=v.len;rw [List.length_append] at h4;omega
    by_cases h4:rs.length=2
    ·rw [if_pos (by omega),if_pos h4,Bb (by simp only [Ao,AA,List.length_cons,List.length_nil];omega),Az hx (by omega)];rfl
    ·rw [if_neg (by omega),if_neg h4,List.append_nil,Az hx (by omega)]
   ·rw [List.append_assoc];exact h),AC]
 simp only;obtain ⟨due,hdue⟩ : ∃ due,due=BQ 0 s.1.2:=⟨_,rfl⟩;have hdl:due.length<=12:=by have:=Fa s.1.2 0;have:=v.len;rw [hdue];omega
 rw [<- hdue];obtain ⟨T,hT⟩ : ∃ T,T=FU s.1 due 0 s.2.1:=⟨_,rfl⟩;rw [<- hT]
 obtain ⟨r,q1,q2⟩:=H2 (l:=s.2.1) (σ:=Unit) (λi _=>((0:Int),((0:Int),(i:Int)))) (λjs i _=>FU s.1 due i js=T) (λ(r:Nat×((Int×(Int×Int))×Unit))=>(T=none/\r.1=1)\/(∃ i:Nat,T=some i/\r.1=0/\r.2.1.1=6/\r.2.1.2.1=(i:Int)))
  (f:=λs6=>br (Am s6.2.2 (s.2.1.length:Int)) (λ_=>AT s6.2.2 λk7=>ix s.2.1 k7 λx8=>br (G1 s6.2.2 (due.length:Int)) (λ_=>some (.dn ((0,((6,(s6.2.2,s6.2.2)),()))))) λ_=>AT s6.2.2 λk9=>gd (Dk k9 due.length) λ_=>ix due k9 λx10=>br (A7 x8.1 x10) (λ_=>some (.dn ((0,((6,(s6.2.2,s6.2.2)),()))))) λ_=>br x8.2.2.1.2.2 (λ_=>bd (Cj (s.1,x8.1)) λr11=>br (AY r11) (λ_=>some (.dn ((0,((6,(s6.2.2,s6.2.2)),()))))) λ_=>bd (CL ((s.1,(x8.1,x8.2.2.1.2.2)))) λr12=>bd (BY r12.2) λr13=>br (Am x8.2.2.2.2 0) (λ_=>some (.dn ((0,((6,(s6.2.2,s6.2.2)),()))))) λ_=>br (CE x8.2.2.2.2 r13.1) (λ_=>some (.dn ((0,((6,(s6.2.2,s6.2.2)),()))))) λ_=>bd (B3 (r12.2,x8.2.2.2.2)) λr14=>bd (C7 (r14.1,x8.2)) λr15=>br (AY r15) (λ_=>some (.dn ((0,((6,(s6.2.2,s6.2.2)),()))))) λ_=>some (.nx ((s6.1,(s6.2.1,AI .i64 s6.2.2 1))))) λ_=>bd (CL ((s.1,(x8.1,x8.2.2.1.2.2)))) λr16=>bd (BY r16.2) λr17=>br (Am x8.2.2.2.2 0) (λ_=>some (.dn ((0,((6,(s6.2.2,s6.2.2)),()))))) λ_=>br (CE x8.2.2.2.2 r17.1) (λ_=>some (.dn ((0,((6,(s6.2.2,s6.2.2)),()))))) λ_=>bd (B3 (r16.2,x8.2.2.2.2)) λr18=>bd (C7 (r18.1,x8.2)) λr19=>br (AY r19) (λ_=>some (.dn ((0,((6,(s6.2.2,s6.2.2)),()))))) λ_=>some (.nx ((s6.1,(s6.2.1,AI .i64 s6.2.2 1))))) λ_=>some (.dn ((1,(s6,())))))
  (s:=(0,(0,0))) () rfl (by omega) hT.symm (λ_ h=>by
   refine ⟨_,by simp only;rw [re];rfl,.inl ⟨by rw [<- h];rfl,rfl⟩⟩) (λi j js _ hd hx hi h=>by
   simp only;rw [rl hi,AP,AF,AK hx,Dm];unfold FU at h
   have hbad:KO s.1 due i j=true -> ∃ r:Nat×((Int×(Int×Int))×Unit),(some (LR.dn ((0,((6,((i:Int),(i:Int))),()))):LR (Int×(Int×Int)) _))=some (.dn r)/\((T=none/\r.1=1)\/(∃ i:Nat,T=some i/\r.1=0/\r.2.1.1=6/\r.2.1.2.1=(i:Int))):=λhb=>by
    rw [if_pos hb] at h;exact ⟨_,rfl,.inr ⟨i,h.symm,rfl,rfl,rfl⟩⟩
   have hgood:KO s.1 due i j=false -> ∃ st':Unit,(some (LR.nx ((0:Int),((0:Int),AI .i64 (i:Int) 1))):Option (LR _ (Nat×((Int×(Int×Int))×Unit))))=some (.nx ((0:Int),((0:Int),((i+1:Nat):Int))))/\FU s.1 due (i+1) js=T:=λhg=>by
    rw [if_neg (by simp [hg])] at h;exact ⟨(),by rw [Az hx (by omega)],h⟩
   by_cases h1:(i:Int)>=(due.length:Int)
   ·rw [if_pos h1];exact .inr (hbad (by unfold KO;rw [List.getElem?_eq_none (by omega)]))
   rw [if_neg h1,AF,Ml,if_pos (by omega)];have hd2:due[i]? = some (due[i]'(by omega)):=by simp
   rw [AK hd2,AS];obtain ⟨n,hn,r0,r1,hlv⟩:=HA (ls:=s.1.2) (i:=0) (k:=i) (d:=due[i]'(by omega)) (by rw [<- hdue];exact hd2);rw [Nat.zero_add] at hn
   have hE:KO s.1 due i j=(if j.1≠(due[i]'(by omega)) then true else if j.2.2.1.2.2=true/\j.1≠(s.1.2.length:Int)-1 then true else if j.2.2.2.2<0\/j.2.2.2.2>((r1.2.length+r0.2.length:Nat):Int) then true else decide (EQ r1.2 r0.2 j.2.2.1.2.2 j.2.2.2.2.toNat≠j.2)):=by
    unfold KO;rw [hd2];simp only;rw [hn,Int.toNat_natCast,hlv]
   by_cases h2:j.1=(due[i]'(by omega));rotate_left
   ·rw [if_neg h2];exact .inr (hbad (by rw [hE,if_pos h2]))
   rw [if_pos h2];rw [if_neg (by simp [h2])] at hE;have hjn:j.1=(n:Int):=by rw [h2,hn]
   have hv:=(v.lev n _ hlv).2;have v0:=(hv r0 (by simp)).vl;have v1:=(hv r1 (by simp)).vl;have hlow:B7 .i64 (s.1.2.length:Int) 1=(s.1.2.length:Int)-1:=B8 (by omega);unfold Cj;simp only [AV,AR];rw [AC,hlow,DI,CW,CZ,hjn,gm hlv v0 v1,Gl];rw [hjn] at hE;by_cases h3:j.2.2.1.2.2=true/\(n:Int)≠(s.1.2.length:Int)-1
   ·rw [if_pos h3.1,if_pos h3.2];exact .inr (hbad (by rw [hE,if_pos h3]))
   rw [if_neg h3] at hE
   have h4 : ∀ {γ:Type} (A B:γ),(if j.2.2.1.2.2=true then if ¬(n:Int)=(s.1.2.length:Int)-1 then A else B else B)=B:=by
    intro γ A B;by_cases h5:j.2.2.1.2.2=true
    ·rw [if_pos h5,if_neg (λh6=>h3 ⟨h5,h6⟩)]
    ·rw [if_neg h5]
   rw [h4];by_cases h5:j.2.2.2.2<0\/j.2.2.2.2>((r1.2.length+r0.2.length:Nat):Int)
   ·rw [if_pos h5];exact .inr (hbad (by rw [hE,if_pos h5]))
   rw [if_neg h5];rw [if_neg h5] at hE;by_cases h6:EQ r1.2 r0.2 j.2.2.1.2.2 j.2.2.2.2.toNat=j.2
   ·rw [if_pos h6];exact .inl (hgood (by rw [hE];simp [h6]))
   ·rw [if_neg h6]
    exact .inr (hbad (by rw [hE];simp [h6])))
 rw [h0];refine A8 q1 ?_;rw [Cd];rcases q2 with ⟨q2,q3⟩ | ⟨i,q2,q3,q4,q5⟩
 ·rw [if_neg (show ¬ r.1=0 by omega),q2,BG];simp only;by_cases h7:s.2.1.length<due.length
  ·rw [if_pos (by omega),if_pos h7]
  ·rw [if_neg (by omega),if_neg h7]
 ·rw [if_pos q3,q2,q4,q5]
end Go.Proofs.YthpkjfabdccpdaaGreat.Pl
