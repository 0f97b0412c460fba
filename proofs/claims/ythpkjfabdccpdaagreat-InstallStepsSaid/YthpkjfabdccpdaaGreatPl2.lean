/- Functions of the program and of the specification as plain functions, and laws about them. No condition. -/
import Derived.Test.YthpkjfabdccpdaaGreatPl1
import Derived.KernelRfl
set_option linter.all false
namespace Go.Proofs.YthpkjfabdccpdaaGreat.Pl
open Go Go.Proofs.YthpkjfabdccpdaaGreat.Sv
set_option linter.unusedVariables false
def Cq (x:(List AD)):Option Bool :=
 bd (loop (λs0=>br (Ah s0.1 (AY (AA x))) (λ_=>br (Ah s0.1 80) (λ_=>AS s0.1 λk1=>ix x k1 λx2=>br (B8 (AY (FD x2.1)) 100) (λ_=>some (.dn ((0,((s0.1,true),()))))) λ_=>AS s0.1 λk3=>ix x k3 λx4=>br (B8 (AY (FD x4.2.1)) 100) (λ_=>some (.dn ((0,((s0.1,true),()))))) λ_=>some (.nx (AI .i64 s0.1 1,s0.2))) λ_=>some (.dn ((1,(s0,()))))) λ_=>some (.dn ((1,(s0,()))))) (0,false)) λr5=>br (neq r5.1 0) (λ_=>some r5.2.1.2) λ_=>some (B8 (AY (AA x)) 70)
def E6 (x:(List AD)):Option Bool :=
 bd (loop (λs0=>br (Ah s0.1 (AY (AA x))) (λ_=>br (Ah s0.1 40) (λ_=>AS s0.1 λk1=>ix x k1 λx2=>br (B8 (AY (FD x2.1)) 100) (λ_=>some (.dn ((0,((s0.1,true),()))))) λ_=>AS s0.1 λk3=>ix x k3 λx4=>br (B8 (AY (FD x4.2.1)) 100) (λ_=>some (.dn ((0,((s0.1,true),()))))) λ_=>some (.nx (AI .i64 s0.1 1,s0.2))) λ_=>some (.dn ((1,(s0,()))))) λ_=>some (.dn ((1,(s0,()))))) (0,false)) λr5=>br (neq r5.1 0) (λ_=>some r5.2.1.2) λ_=>some (B8 (AY (AA x)) 30)
def Cy (x:(List BL)):Option Bool :=
 bd (loop (λs0=>br (Ah s0.1 (AY (AA x))) (λ_=>br (Ah s0.1 10) (λ_=>AS s0.1 λk1=>ix x k1 λx2=>bd (E6 x2.2) λr3=>br r3 (λ_=>some (.dn ((0,((s0.1,true),()))))) λ_=>some (.nx (AI .i64 s0.1 1,s0.2))) λ_=>some (.dn ((1,(s0,()))))) λ_=>some (.dn ((1,(s0,()))))) (0,false)) λr4=>br (neq r4.1 0) (λ_=>some r4.2.1.2) λ_=>some (B8 (AY (AA x)) 6)
def GN (x:AJ):Option Bool :=
 bd (loop (λs0=>br (Ah s0.1 (AY (AA x.2))) (λ_=>br (Ah s0.1 20) (λ_=>AS s0.1 λk1=>ix x.2 k1 λx2=>bd (Cy x2) λr3=>br r3 (λ_=>some (.dn ((0,((s0.1,true),()))))) λ_=>some (.nx (AI .i64 s0.1 1,s0.2))) λ_=>some (.dn ((1,(s0,()))))) λ_=>some (.dn ((1,(s0,()))))) (0,false)) λr4=>br (neq r4.1 0) (λ_=>some r4.2.1.2) λ_=>some (B8 (AY (AA x.2)) 14)
def GO (x:(AJ×((List (Int×(AL×((Bool×AM)×((List AD)×Int)))))×Int))):Option Bool :=
 bd (loop (λs0=>br (Ah s0.1 (AY (AA x.2.1))) (λ_=>br (Ah s0.1 20) (λ_=>AS s0.1 λk1=>ix x.2.1 k1 λx2=>bd (loop (λs3=>br (Ah s3.1 (AY (AA x2.2.1.1))) (λ_=>br (Ah s3.1 10) (λ_=>AS s3.1 λk4=>ix x2.2.1.1 k4 λx5=>bd (Cq x5) λr6=>br r6 (λ_=>some (.dn ((0,((s3.1,true),()))))) λ_=>some (.nx (AI .i64 s3.1 1,s3.2))) λ_=>some (.dn ((1,(s3,()))))) λ_=>some (.dn ((1,(s3,()))))) (0,s0.2)) λr7=>br (neq r7.1 0) (λ_=>some (.dn ((1,((s0.1,r7.2.1.2),()))))) λ_=>bd (Cq x2.2.2.2.1) λr8=>br r8 (λ_=>some (.dn ((1,((s0.1,true),()))))) λ_=>br (B8 (AY (AA x2.2.1.1)) 6) (λ_=>some (.dn ((1,((s0.1,true),()))))) λ_=>br (B8 (AY (AA x2.2.1.2.1)) 40) (λ_=>some (.dn ((1,((s0.1,true),()))))) λ_=>br (B8 (AY (AA x2.2.1.2.2.1)) 40) (λ_=>some (.dn ((1,((s0.1,true),()))))) λ_=>br (B8 (AY (AA x2.2.1.2.2.2.1)) 40) (λ_=>some (.dn ((1,((s0.1,true),()))))) λ_=>br (B8 (AY (FD x2.2.2.1.2.1)) 200) (λ_=>some (.dn ((1,((s0.1,true),()))))) λ_=>some (.nx (AI .i64 s0.1 1,r7.2.1.2))) λ_=>some (.dn ((0,(s0,()))))) λ_=>some (.dn ((0,(s0,()))))) (0,false)) λr9=>br (neq r9.1 0) (λ_=>br (B8 (AY (AA x.2.1)) 14) (λ_=>some true) λ_=>bd (GN x.1) λr10=>some r10) λ_=>some r9.2.1.2
def JG (x:(Int×(Bool×(List UInt8)))):Option BL :=
 bd (loop (λ(s0:(Int×BL))=>br (Ah s0.1 (AY (FD x.2.2))) (λ_=>AS (AI .i64 s0.1 1) λk1=>AS s0.1 λk2=>gd (BO k1 (FD x.2.2)) λ_=>gd (BO k2 k1) λ_=>gd (BO (Ar (AA s0.2.2) (AA ([(fj x.2.2 k2 k1,(([]:List UInt8),(x.2.1,AI .i64 (AI .i64 (Mn .i64 10 x.1) s0.1) 1)))]))) 1048576) λ_=>some (.nx ((AI .i64 s0.1 1,(s0.2.1,B3 s0.2.2 ([(fj x.2.2 k2 k1,([],(x.2.1,AI .i64 (AI .i64 (Mn .i64 10 x.1) s0.1) 1)))])))))) λ_=>some (.dn ((0,(s0,()))))) ((0,(x.1,[])))) λr3=>some r3.2.1.2
def HG (x:Unit):Option AJ :=
 bd (JG ((1,(false,[(97:UInt8),(98:UInt8)])))) λr0=>bd (JG ((2,(true,[(98:UInt8)])))) λr1=>some (2,[[r0,r1]])
def La (x:AJ):Option ((AJ×((List (Int×(AL×((Bool×AM)×((List AD)×Int)))))×Int))×Int) :=
 bd (CU x) λr0=>br (A7 r0.2.2 0) (λ_=>some ((((0,[]),([],0)),r0.2.2))) λ_=>bd (CO x) λr1=>bd (Bj x) λr2=>bd (loop (λ(s3:(Int×(Int×((List (List BL))×((List (Int×(AL×((Bool×AM)×((List AD)×Int)))))×Int)))))=>br (Ah s3.1 (AY (AA r2))) (λ_=>AS s3.1 λk4=>ix r2 k4 λx5=>AS s3.1 λk6=>ix r2 k6 λx7=>bd (BJ (x,x7)) λr8=>bd (Ap ((x,(x5,r8)))) λr9=>gd (BO (Ar (AA s3.2.2.2.1) (AA [r9])) 1048576) λ_=>some (.nx ((AI .i64 s3.1 1,(s3.2.1,(s3.2.2.1,(B3 s3.2.2.2.1 [r9],s3.2.2.2.2))))))) λ_=>some (.dn ((0,(s3,()))))) ((0,(x.1,(x.2,([],AI .i64 r1 1)))))) λr10=>some ((((r10.2.1.2.1,r10.2.1.2.2.1),r10.2.1.2.2.2),0))
def Fp (x:((AJ×((List (Int×(AL×((Bool×AM)×((List AD)×Int)))))×Int))×Int)):Option (Int×Int) :=
 bd (DK x.1) λr0=>br (A7 r0.2 0) (λ_=>some (0,r0.2)) λ_=>bd (loop (λs1=>br (Ah s1.2 (AY (AA x.1.2.1))) (λ_=>AS s1.2 λk2=>ix x.1.2.1 k2 λx3=>br (BP x3.1 x.2) (λ_=>some (.dn ((0,((s1.2,s1.2),()))))) λ_=>some (.nx (s1.1,AI .i64 s1.2 1))) λ_=>some (.dn ((1,(s1,()))))) (0,0)) λr4=>br (neq r4.1 0) (λ_=>br (Ah r4.2.1.1 0) (λ_=>some (0,4)) λ_=>some (r4.2.1.1,0)) λ_=>br (Ah (-1) 0) (λ_=>some (0,4)) λ_=>some (((-1),0))
def Cr (x:((AJ×((List (Int×(AL×((Bool×AM)×((List AD)×Int)))))×Int))×Int)):Option (((AJ×((List (Int×(AL×((Bool×AM)×((List AD)×Int)))))×Int))×((Int×(AL×((Bool×AM)×((List AD)×Int))))×Int))×Int) :=
 bd (Fp x) λr0=>br (A7 r0.2 0) (λ_=>some (((((0,[]),([],0)),((0,(([],([],([],([],0)))),((false,([],false)),([],0)))),0)),r0.2))) λ_=>AS r0.1 λk1=>ix x.1.2.1 k1 λx2=>bd (Bi x2.2) λr3=>some (((x.1,(x2,r3.1)),r3.2))
def A2 (x:((AJ×((List (Int×(AL×((Bool×AM)×((List AD)×Int)))))×Int))×((Int×(AL×((Bool×AM)×((List AD)×Int))))×Int))):Option Bool :=
 some (B8 x.2.2 0)
def FU (x:(Int×Int)):Option (Int×Int) :=
 br (Ah x.1 1) (λ_=>some (0,7)) λ_=>br (B8 x.1 16) (λ_=>some (0,7)) λ_=>br (Ah x.2 0) (λ_=>some (0,7)) λ_=>br (G5 x.2 12) (λ_=>some (0,7)) λ_=>gd (G5 x.2 0) λ_=>some (SZ .i64 x.1 x.2,0)
def BK (x:((AJ×((List (Int×(AL×((Bool×AM)×((List AD)×Int)))))×Int))×((Int×(AL×((Bool×AM)×((List AD)×Int))))×Int))):Option Bool :=
 bd (FU (x.1.1.1,x.2.1.1)) λr0=>br (BP r0.2 0) (λ_=>some (fh (AY (AA x.2.1.2.2.2.1)) r0.1)) λ_=>some false
def Eo (x:(AJ×Int)):Option Int :=
 bd (C2 x.1) λr0=>br (A7 r0.2.2 0) (λ_=>some r0.2.2) λ_=>br (Ah x.2 0) (λ_=>some 7) λ_=>br (G5 x.2 12) (λ_=>some 7) λ_=>some 0
def FV (x:(AJ×Int)):Option (Bool×Int) :=
 bd (Eo x) λr0=>br (A7 r0 0) (λ_=>some (false,r0)) λ_=>br (Ah x.2 (AY (AA x.1.2))) (λ_=>AS x.2 λk1=>ix x.1.2 k1 λx2=>some ((Ah (AY (AA x2)) 2,0))) λ_=>some (true,0)
def Cc (x:((AJ×((List (Int×(AL×((Bool×AM)×((List AD)×Int)))))×Int))×((Int×(AL×((Bool×AM)×((List AD)×Int))))×Int))):Option Bool :=
 bd (FV (x.1.1,AI .i64 x.2.1.1 1)) λr0=>br (BP r0.2 0) (λ_=>some r0.1) λ_=>some false
def Bq (x:((AJ×((List (Int×(AL×((Bool×AM)×((List AD)×Int)))))×Int))×((Int×(AL×((Bool×AM)×((List AD)×Int))))×Int))):Option Bool :=
 bd (loop (λs0=>br (Ah s0.1 3) (λ_=>AS s0.1 λk1=>br (neq k1 0) (λ_=>bd (A2 x) λr2=>br r2 (λ_=>some (.dn ((0,((s0.1,true),()))))) λ_=>some (.nx (AI .i64 s0.1 1,s0.2))) λ_=>br (neq k1 1) (λ_=>bd (BK x) λr3=>br r3 (λ_=>some (.dn ((0,((s0.1,true),()))))) λ_=>some (.nx (AI .i64 s0.1 1,s0.2))) λ_=>gd (neq k1 2) λ_=>bd (Cc x) λr4=>br r4 (λ_=>some (.dn ((0,((s0.1,true),()))))) λ_=>some (.nx (AI .i64 s0.1 1,s0.2))) λ_=>some (.dn ((1,(s0,()))))) (0,false)) λr5=>br (neq r5.1 0) (λ_=>some r5.2.1.2) λ_=>some false
def BV (x:(List (Int×(AL×((Bool×AM)×((List AD)×Int)))))):Option (List (Int×(AL×((Bool×AM)×((List AD)×Int))))) :=
 gd (BO (AA x) 1048576) λ_=>some x
def G3 (x:((AJ×((List (Int×(AL×((Bool×AM)×((List AD)×Int)))))×Int))×(Int×Int))):Option ((AJ×((List (Int×(AL×((Bool×AM)×((List AD)×Int)))))×Int))×(Int×Int)) :=
 bd (DK x.1) λr0=>br (A7 r0.2 0) (λ_=>some ((((0,[]),([],0)),(0,r0.2)))) λ_=>br (Ah x.2.2 0) (λ_=>some ((((0,[]),([],0)),(0,7)))) λ_=>bd (Fp (x.1,x.2.1)) λr1=>br (A7 r1.2 0) (λ_=>some ((((0,[]),([],0)),(0,r1.2)))) λ_=>AS r1.1 λk2=>ix x.1.2.1 k2 λx3=>bd (Bi x3.2) λr4=>br (BP r4.1 0) (λ_=>some ((((0,[]),([],0)),(0,9)))) λ_=>AS r1.1 λk5=>ix x.1.2.1 k5 λx6=>bd (Bz (x6.2,x.2.2)) λr7=>br (A7 r7.2.2 0) (λ_=>some ((((0,[]),([],0)),(0,r7.2.2)))) λ_=>bd (BV x.1.2.1) λr8=>AS r1.1 λk9=>gd (Df k9 (AA r8)) λ_=>ix r8 k9 λx10=>some (((x.1.1,(lset r8 k9 (x10.1,r7.1),x.1.2.2)),(r7.2.1,0)))
def Dd (x:(AJ×(Int×(List BL)))):Option AJ :=
 AS (KP (AY (AA x.1.2)) (AI .i64 x.2.1 1)) λk0=>AS (KP (AY (AA x.1.2)) (AI .i64 x.2.1 1)) λk1=>gd (BO k1 1048576) λ_=>AS x.2.1 λk2=>gd (Df k2 (AA (Je (Dh k1 ([]:List BL)) 0 x.1.2 (AA (Dh k1 ([]:List BL)))))) λ_=>ix (Je (Dh k1 ([]:List BL)) 0 x.1.2 (AA (Dh k1 ([]:List BL)))) k2 λx3=>bd (loop (λs4=>br (B8 s4 0) (λ_=>AS (CE .i64 s4 1) λk5=>gd (Df k5 (AA (lset (Je (Dh k1 ([]:List BL)) 0 x.1.2 (AA (Dh k1 ([]:List BL)))) k2 x.2.2))) λ_=>ix (lset (Je (Dh k1 ([]:List BL)) 0 x.1.2 (AA (Dh k1 ([]:List BL)))) k2 x.2.2) k5 λx6=>br (BP (AY (AA x6)) 0) (λ_=>some (.nx (CE .i64 s4 1))) λ_=>some (.dn ((0,(s4,()))))) λ_=>some (.dn ((0,(s4,()))))) (AY (AA (lset (Je (Dh k1 ([]:List BL)) 0 x.1.2 (AA (Dh k1 ([]:List BL)))) k2 x.2.2)))) λr7=>AS r7.2.1 λk8=>gd (BO k8 (AA (lset (Je (Dh k1 ([]:List BL)) 0 x.1.2 (AA (Dh k1 ([]:List BL)))) k2 x.2.2))) λ_=>gd (BO 0 k8) λ_=>br (Df 0 (AA (lset (Je (Dh k1 ([]:List BL)) 0 x.1.2 (AA (Dh k1 ([]:List BL)))) k2 x.2.2))) (λ_=>gd (BO (Ar 0 (RB k8 0)) (AA (lset (Je (Dh k1 ([]:List BL)) 0 x.1.2 (AA (Dh k1 ([]:List BL)))) k2 x.2.2))) λ_=>some ((x.1.1,ER (lset (Je (Dh k1 ([]:List BL)) 0 x.1.2 (AA (Dh k1 ([]:List BL)))) k2 x.2.2) 0 (Ar 0 (RB k8 0))))) λ_=>some (x.1.1,[])
def C5 (x:(AJ×Int)):Option (AJ×((List BL)×Int)) :=
 bd (Eo x) λr0=>br (A7 r0 0) (λ_=>some (((0,[]),([],r0)))) λ_=>br (Ah x.2 (AY (AA x.1.2))) (λ_=>AS x.2 λk1=>ix x.1.2 k1 λx2=>br (BP (AY (AA x2)) 0) (λ_=>some (((0,[]),([],4)))) λ_=>bd (Dd ((x.1,(x.2,[])))) λr3=>gd (BO (AA x2) 1048576) λ_=>some ((r3,(x2,0)))) λ_=>some (((0,[]),([],4)))
def BT (x:(AJ×(Int×BL))):Option (AJ×Int) :=
 bd (Eo (x.1,x.2.1)) λr0=>br (A7 r0 0) (λ_=>some (((0,[]),r0))) λ_=>gd (G5 x.2.1 0) λ_=>bd (Ct (x.2.2,SZ .i64 x.1.1 x.2.1)) λr1=>br (A7 r1 0) (λ_=>some (((0,[]),r1))) λ_=>bd (loop (λ(s2:(Int×(AJ×Int)))=>br (Ah s2.1 (AY (AA x.1.2))) (λ_=>AS s2.1 λk3=>ix x.1.2 k3 λx4=>bd (loop (λ(s5:(Int×(AJ×Int)))=>br (G5 s5.1 0) (λ_=>AS s5.1 λk6=>ix x4 k6 λx7=>br (BP x7.1 x.2.2.1) (λ_=>some (.dn ((1,((s5.1,((0,[]),8)),()))))) λ_=>some (.nx (CE .i64 s5.1 1,s5.2))) λ_=>some (.dn ((0,(s5,()))))) ((CE .i64 (AY (AA x4)) 1,s2.2))) λr8=>br (neq r8.1 0) (λ_=>some (.nx (AI .i64 s2.1 1,r8.2.1.2))) λ_=>some (.dn ((1,((s2.1,r8.2.1.2),()))))) λ_=>some (.dn ((0,(s2,()))))) ((0,((0,[]),0)))) λr9=>br (neq r9.1 0) (λ_=>br (Ah x.2.1 (AY (AA x.1.2))) (λ_=>AS x.2.1 λk10=>ix x.1.2 k10 λx11=>br (BP (AY (AA x11)) 2) (λ_=>some (((0,[]),5))) λ_=>AS (AY (AA x11)) λk12=>AS (AY (AA x11)) λk13=>gd (BO k12 (AA x11)) λ_=>gd (neq k12 k13) λ_=>gd (BO 0 k12) λ_=>gd (BO (Ar (AA (ER x11 0 k12)) (AA [x.2.2])) 1048576) λ_=>bd (Dd ((x.1,(x.2.1,B3 (ER x11 0 k12) [x.2.2])))) λr14=>some (r14,0)) λ_=>gd (BO (AA [x.2.2]) 1048576) λ_=>bd (Dd ((x.1,(x.2.1,[x.2.2])))) λr15=>some (r15,0)) λ_=>some r9.2.1.2
def GP (x:(AJ×Int)):Option ((Int×(AL×((Bool×AM)×((List AD)×Int))))×Int) :=
 bd (C2 x.1) λr0=>br (A7 r0.2.2 0) (λ_=>some (((0,(([],([],([],([],0)))),((false,([],false)),([],0)))),r0.2.2))) λ_=>br (Ah x.2 0) (λ_=>some (((0,(([],([],([],([],0)))),((false,([],false)),([],0)))),7))) λ_=>br (G5 x.2 12) (λ_=>some (((0,(([],([],([],([],0)))),((false,([],false)),([],0)))),7))) λ_=>br (G5 x.2 (AY (AA x.1.2))) (λ_=>some (((0,(([],([],([],([],0)))),((false,([],false)),([],0)))),4))) λ_=>AS x.2 λk1=>ix x.1.2 k1 λx2=>br (Ah (AY (AA x2)) 2) (λ_=>some (((0,(([],([],([],([],0)))),((false,([],false)),([],0)))),4))) λ_=>bd (Cu x) λr3=>bd (CS ((x.1,(x.2,r3)))) λr4=>some (r4,0)
def A9 (x:((AJ×((List (Int×(AL×((Bool×AM)×((List AD)×Int)))))×Int))×(AJ×(Int×Int)))):Option ((AJ×((List (Int×(AL×((Bool×AM)×((List AD)×Int)))))×Int))×Int) :=
 bd (loop (λ(s0:(Int×(List (Int×(Int×(AL×((Bool×AM)×((List AD)×Int))))))))=>br (Ah s0.1 (AY (AA x.1.2.1))) (λ_=>AS s0.1 λk1=>ix x.1.2.1 k1 λx2=>some (.nx ((AI .i64 s0.1 1,Hn ((λa3=>(λa4=>BP a3 a4))) s0.2 x2.1 x2)))) λ_=>some (.dn ((0,(s0,()))))) (0,[])) λr5=>bd (loop (λ(s6:(Int×(Int×((Int×((List (List BL))×((List (Int×(AL×((Bool×AM)×((List AD)×Int)))))×Int)))×(Int×((List (List BL))×((List (Int×(AL×((Bool×AM)×((List AD)×Int)))))×Int)))))))=>br (Ah s6.2.1 (AY (AA x.2.1.2))) (λ_=>AS s6.2.1 λk7=>ix x.2.1.2 k7 λx8=>br (Ah (AY (AA x8)) 2) (λ_=>some (.nx ((s6.1,(AI .i64 s6.2.1 1,s6.2.2))))) λ_=>br (Ab (jT (IV ((λa9=>(λa10=>BP a9 a10))) (JU ((λa11=>(λa12=>BP a11 a12))) r5.2.1.2 x.2.2.2) s6.2.1))) (λ_=>bd (GP (x.2.1,s6.2.1)) λr13=>br (A7 r13.2 0) (λ_=>some (.dn ((1,((r13.2,(s6.2.1,((0,([],([],0))),s6.2.2.2))),()))))) λ_=>gd (BO (Ar (AA s6.2.2.2.2.2.1) (AA [r13.1])) 1048576) λ_=>some (.nx ((s6.1,(AI .i64 s6.2.1 1,(s6.2.2.1,(s6.2.2.2.1,(s6.2.2.2.2.1,(B3 s6.2.2.2.2.2.1 [r13.1],s6.2.2.2.2.2.2))))))))) λ_=>gd (BO (Ar (AA s6.2.2.2.2.2.1) (AA ([Pe (IV (λa b=>BP a b) (JU (λa b=>BP a b) r5.2.1.2 x.2.2.2) s6.2.1) (0,(([],([],([],([],0)))),((false,([],false)),([],0))))]))) 1048576) λ_=>some (.nx ((s6.1,(AI .i64 s6.2.1 1,(s6.2.2.1,(s6.2.2.2.1,(s6.2.2.2.2.1,(B3 s6.2.2.2.2.2.1 ([Pe (IV (λa b=>BP a b) (JU (λa b=>BP a b) r5.2.1.2 x.2.2.2) s6.2.1) (0,(([],([],([],([],0)))),((false,([],false)),([],0))))]),s6.2.2.2.2.2.2))))))))) λ_=>some (.dn ((0,(s6,()))))) ((0,(0,((0,([],([],0))),(x.2.1.1,(x.2.1.2,([],x.2.2.1)))))))) λr102=>br (neq r102.1 0) (λ_=>some ((((r102.2.1.2.2.2.1,r102.2.1.2.2.2.2.1),r102.2.1.2.2.2.2.2),0))) λ_=>some ((((r102.2.1.2.2.1.1,r102.2.1.2.2.1.2.1),r102.2.1.2.2.1.2.2),r102.2.1.1))
def Ck (x:((AJ×((List (Int×(AL×((Bool×AM)×((List AD)×Int)))))×Int))×Int)):Option ((AJ×((List (Int×(AL×((Bool×AM)×((List AD)×Int)))))×Int))×Int) :=
 bd (Cr x) λr0=>br (A7 r0.2 0) (λ_=>some ((((0,[]),([],0)),r0.2))) λ_=>bd (A2 r0.1) λr1=>br r1 (λ_=>some ((((0,[]),([],0)),9))) λ_=>bd (Bq r0.1) λr2=>br (Ab r2) (λ_=>some ((((0,[]),([],0)),9))) λ_=>br (B8 x.1.2.2 1000000) (λ_=>br (B8 (AY (AA r0.1.2.1.2.2.2.1)) 0) (λ_=>some ((((0,[]),([],0)),5))) λ_=>bd (C5 (x.1.1,x.2)) λr3=>br (BP r3.2.2 0) (λ_=>br (B8 (AY (AA r0.1.2.1.2.2.2.1)) 0) (λ_=>bd (BK r0.1) λr4=>br (Ab r4) (λ_=>bd (BT ((r3.1,(AI .i64 x.2 1,(x.1.2.2,r0.1.2.1.2.2.2.1))))) λr5=>br (A7 r5.2 0) (λ_=>some ((((0,[]),([],0)),r5.2))) λ_=>bd (A9 ((x.1,(r5.1,(AI .i64 x.1.2.2 1,x.2))))) λr6=>some r6) λ_=>bd (BT ((r3.1,(x.2,(x.1.2.2,r0.1.2.1.2.2.2.1))))) λr7=>br (A7 r7.2 0) (λ_=>some ((((0,[]),([],0)),r7.2))) λ_=>bd (A9 ((x.1,(r7.1,(AI .i64 x.1.2.2 1,x.2))))) λr8=>some r8) λ_=>br (A7 r3.2.2 0) (λ_=>some ((((0,[]),([],0)),r3.2.2))) λ_=>bd (A9 ((x.1,(r3.1,(x.1.2.2,x.2))))) λr9=>some r9) λ_=>br (A7 r3.2.2 0) (λ_=>some ((((0,[]),([],0)),r3.2.2))) λ_=>bd (A9 ((x.1,(r3.1,(x.1.2.2,x.2))))) λr10=>some r10) λ_=>bd (C5 (x.1.1,x.2)) λr11=>br (BP r11.2.2 0) (λ_=>br (B8 (AY (AA r0.1.2.1.2.2.2.1)) 0) (λ_=>bd (BK r0.1) λr12=>br (Ab r12) (λ_=>bd (BT ((r11.1,(AI .i64 x.2 1,(x.1.2.2,r0.1.2.1.2.2.2.1))))) λr13=>br (A7 r13.2 0) (λ_=>some ((((0,[]),([],0)),r13.2))) λ_=>bd (A9 ((x.1,(r13.1,(AI .i64 x.1.2.2 1,x.2))))) λr14=>some r14) λ_=>bd (BT ((r11.1,(x.2,(x.1.2.2,r0.1.2.1.2.2.2.1))))) λr15=>br (A7 r15.2 0) (λ_=>some ((((0,[]),([],0)),r15.2))) λ_=>bd (A9 ((x.1,(r15.1,(AI .i64 x.1.2.2 1,x.2))))) λr16=>some r16) λ_=>br (A7 r11.2.2 0) (λ_=>some ((((0,[]),([],0)),r11.2.2))) λ_=>bd (A9 ((x.1,(r11.1,(x.1.2.2,x.2))))) λr17=>some r17) λ_=>br (A7 r11.2.2 0) (λ_=>some ((((0,[]),([],0)),r11.2.2))) λ_=>bd (A9 ((x.1,(r11.1,(x.1.2.2,x.2))))) λr18=>some r18
def C6 (x:((AJ×((List (Int×(AL×((Bool×AM)×((List AD)×Int)))))×Int))×Int)):Option ((AJ×((List (Int×(AL×((Bool×AM)×((List AD)×Int)))))×Int))×(Bool×Int)) :=
 bd (Cr x) λr0=>br (A7 r0.2 0) (λ_=>some ((((0,[]),([],0)),(false,r0.2)))) λ_=>bd (Bq r0.1) λr1=>br (Ab r1) (λ_=>some ((((0,[]),([],0)),(false,9)))) λ_=>bd (A2 r0.1) λr2=>br r2 (λ_=>bd (G3 ((x.1,(x.2,1)))) λr3=>some ((r3.1,(false,r3.2.2)))) λ_=>bd (Ck x) λr4=>some ((r4.1,(BP r4.2 0,r4.2)))
def Du (x:((AJ×((List (Int×(AL×((Bool×AM)×((List AD)×Int)))))×Int))×Int)):Option (Int×Int) :=
 bd (Cr x) λr0=>br (A7 r0.2 0) (λ_=>some (0,r0.2)) λ_=>bd (A2 r0.1) λr1=>br r1 (λ_=>some (0,9)) λ_=>bd (BK r0.1) λr2=>br r2 (λ_=>some (x.2,0)) λ_=>some (AI .i64 x.2 1,0)
def Hj (x:(AJ×((List (Int×(AL×((Bool×AM)×((List AD)×Int)))))×Int))):Option ((List Int)×Int) :=
 bd (DK x) λr0=>br (A7 r0.2 0) (λ_=>some ([],r0.2)) λ_=>bd (loop (λs1=>br (Ah s1.1 (AY (AA x.1.2))) (λ_=>AS s1.1 λk2=>ix x.1.2 k2 λx3=>br (BP (AY (AA x3)) 2) (λ_=>gd (BO (Ar (AA s1.2) (AA [s1.1])) 1048576) λ_=>some (.nx (AI .i64 s1.1 1,B3 s1.2 [s1.1]))) λ_=>some (.nx (AI .i64 s1.1 1,s1.2))) λ_=>some (.dn ((0,(s1,()))))) (0,[])) λr4=>some (r4.2.1.2,0)
def Hk (x:(AJ×((List (Int×(AL×((Bool×AM)×((List AD)×Int)))))×Int))):Option (Int×Int) :=
 bd (Hj x) λr0=>br (A7 r0.2 0) (λ_=>some (0,r0.2)) λ_=>br (BP (AY (AA r0.1)) 0) (λ_=>some (0,4)) λ_=>bd (loop (λs1=>br (Ah s1.2.2.1 (AY (AA r0.1))) (λ_=>AS s1.2.2.1 λk2=>ix r0.1 k2 λx3=>bd (Cr (x,x3)) λr4=>br (A7 r4.2 0) (λ_=>some (.dn ((0,((r4.2,(s1.2.1,(s1.2.2.1,0))),()))))) λ_=>bd (Bq r4.1) λr5=>br r5 (λ_=>some (.dn ((1,((s1.1,(true,(s1.2.2.1,x3))),()))))) λ_=>some (.nx ((s1.1,(s1.2.1,(AI .i64 s1.2.2.1 1,s1.2.2.2)))))) λ_=>some (.dn ((1,(s1,()))))) ((r0.2,(false,(0,0))))) λr6=>br (neq r6.1 0) (λ_=>some (r6.2.1.2.2.2,r6.2.1.1)) λ_=>br (Ab r6.2.1.2.1) (λ_=>some (0,9)) λ_=>some (r6.2.1.2.2.2,0)
def FW (x:Unit):Option Bool :=
 bd (HG ()) λr0=>bd (La r0) λr1=>bd (loop (λ(s2:(Bool×(Int×(Int×((List (List BL))×((List (Int×(AL×((Bool×AM)×((List AD)×Int)))))×Int))))))=>jn (γ:=(Nat×(Bool×Unit))) (λs3=>jn (γ:=(Nat×(Bool×Unit))) (λs4=>br (Ah s2.2.1 3) (λ_=>some (.nx (BP r1.2 0))) λ_=>some (.nx false)) () (λs5=>br s5 (λ_=>some (.nx s5)) λ_=>some (.dn ((0,(s5,()))))) λr6=>some (.dn ((0,(r6.2.1,()))))) () (λs7=>jn (γ:=(Nat×((Bool×(Int×((List (List BL))×((List (Int×(AL×((Bool×AM)×((List AD)×Int)))))×Int))))×Unit))) (λs8=>bd (C6 ((((s8.2.1,s8.2.2.1),s8.2.2.2),0))) λr9=>jn (γ:=(Nat×(Bool×Unit))) (λs10=>br (A7 r9.2.2 0) (λ_=>some (.nx true)) λ_=>some (.nx r9.2.1)) () (λs11=>br s11 (λ_=>some (.dn ((0,((false,s8.2),()))))) λ_=>some (.nx ((s8.1,(r9.1.1.1,(r9.1.1.2,r9.1.2)))))) λr12=>none) (s2.1,s2.2.2) (λs13=>some (.nx ((s13.1,(AI .i64 s2.2.1 1,s13.2))))) λr14=>some (.dn ((1,((r14.2.1.1,(s2.2.1,r14.2.1.2)),()))))) λr15=>some (.dn ((0,(s2,()))))) ((false,(0,(r1.1.1.1,(r1.1.1.2,r1.1.2)))))) λr16=>br (neq r16.1 0) (λ_=>bd (Du ((((r16.2.1.2.2.1,r16.2.1.2.2.2.1),r16.2.1.2.2.2.2),0))) λr17=>bd (C6 ((((r16.2.1.2.2.1,r16.2.1.2.2.2.1),r16.2.1.2.2.2.2),0))) λr18=>jn (γ:=(Nat×(Bool×Unit))) (λs19=>br (A7 r1.2 0) (λ_=>some (.nx true)) λ_=>br (A7 r17.1 0) (λ_=>some (.nx true)) λ_=>br (A7 r17.2 0) (λ_=>some (.nx true)) λ_=>br (Ab r18.2.1) (λ_=>some (.nx true)) λ_=>some (.nx (A7 r18.2.2 0))) () (λs20=>br s20 (λ_=>some false) λ_=>bd (Hk r18.1) λr21=>br (BP r21.2 4) (λ_=>br (BP (AY (AA r18.1.2.1)) 0) (λ_=>br (BP r18.1.2.2 4) (λ_=>br (BP (AY (AA r18.1.1.2)) 1) (λ_=>ix r18.1.1.2 0 λx22=>br (BP (AY (AA x22)) 1) (λ_=>ix r18.1.1.2 0 λx23=>ix x23 0 λx24=>br (BP x24.1 3) (λ_=>ix r18.1.1.2 0 λx25=>ix x25 0 λx26=>br (BP (AY (AA x26.2)) 1) (λ_=>ix r18.1.1.2 0 λx27=>ix x27 0 λx28=>ix x28.2 0 λx29=>some (seq x29.1 ([(97:UInt8)]))) λ_=>some false) λ_=>some false) λ_=>some false) λ_=>some false) λ_=>some false) λ_=>some false) λ_=>some false) λr30=>none) λ_=>some r16.2.1.1
def Kv (x:((AJ×((List (Int×(AL×((Bool×AM)×((List AD)×Int)))))×Int))×Int)):Option (Bool×Int) :=
 bd (Cr x) λr0=>br (A7 r0.2 0) (λ_=>some (false,r0.2)) λ_=>bd (Bq r0.1) λr1=>some (r1,0)
def GQ (x:(Int×Int)):Option (Int×Int) :=
 br (Ah x.1 1) (λ_=>some (0,7)) λ_=>br (B8 x.1 16) (λ_=>some (0,7)) λ_=>br (Ah x.2 0) (λ_=>some (0,7)) λ_=>br (G5 x.2 12) (λ_=>some (0,7)) λ_=>bd (DM x) λr0=>some (r0,0)
def De (x:((AJ×((List (Int×(AL×((Bool×AM)×((List AD)×Int)))))×Int))×(Int×(AL×((Bool×AM)×((List AD)×Int)))))):Option Bool :=
 bd (GQ (x.1.1.1,x.2.1)) λr0=>some (fh (AY (AA x.2.2.2.2.1)) r0.1)
def GR (x:((AJ×((List (Int×(AL×((Bool×AM)×((List AD)×Int)))))×Int))×Int)):Option Bool :=
 br (Ah (AI .i64 x.2 1) 12) (λ_=>br (G5 (AI .i64 x.2 1) (AY (AA x.1.1.2))) (λ_=>some true) λ_=>AS (AI .i64 x.2 1) λk0=>ix x.1.1.2 k0 λx1=>some (Ah (AY (AA x1)) 2)) λ_=>some false
def Fq (x:((AJ×((List (Int×(AL×((Bool×AM)×((List AD)×Int)))))×Int))×Int)):Option (Bool×Int) :=
 bd (CV x) λr0=>br (A7 r0.2 0) (λ_=>some (false,r0.2)) λ_=>bd (Bu x) λr1=>br (B8 r0.1 0) (λ_=>some (true,0)) λ_=>AS r1.1 λk2=>ix x.1.2.1 k2 λx3=>bd (De (x.1,x3)) λr4=>br r4 (λ_=>some (true,0)) λ_=>bd (GR x) λr5=>some (r5,0)
def Ep (x:((AJ×((List (Int×(AL×((Bool×AM)×((List AD)×Int)))))×Int))×Int)):Option (Int×Int) :=
 bd (CV x) λr0=>br (BP r0.2 0) (λ_=>br (B8 r0.1 0) (λ_=>some (0,9)) λ_=>br (A7 r0.2 0) (λ_=>some (0,r0.2)) λ_=>bd (Bu x) λr1=>AS r1.1 λk2=>ix x.1.2.1 k2 λx3=>bd (De (x.1,x3)) λr4=>br r4 (λ_=>some (x.2,0)) λ_=>some (AI .i64 x.2 1,0)) λ_=>br (A7 r0.2 0) (λ_=>some (0,r0.2)) λ_=>bd (Bu x) λr5=>AS r5.1 λk6=>ix x.1.2.1 k6 λx7=>bd (De (x.1,x7)) λr8=>br r8 (λ_=>some (x.2,0)) λ_=>some (AI .i64 x.2 1,0)
end Go.Proofs.YthpkjfabdccpdaaGreat.Pl
namespace Go.Proofs.YthpkjfabdccpdaaGreat.Pl
open Go Go.Proofs.YthpkjfabdccpdaaGreat.Sv
def JobAt (L:AJ) (n:Nat) (j:Job):Prop := ∃ r0 r1 bt k,L.2[n]? = some [r0,r1]/\j=((n:Int),Dg r1.2 r0.2 bt k)/\k<=r1.2.length+r0.2.length/\(bt=true->n+1=L.2.length)/\VL r0.2/\VL r1.2
structure VSt (s:AT):Prop where
 lev:VLev s.1
 n1:1<=s.2.2
 n2:s.2.2<=1000001
 n3:E3 s.1.2<s.2.2
 due:s.2.1.map (·.1)=Az 0 s.1.2
 job : ∀ j∈s.2.1,∃ n,JobAt s.1 n j
theorem Rv (a b:List AD) (bt:Bool) (k:Nat):(Dg a b bt k).2.1.2.2=bt:=by
 show (CP (s0 bt) (A1 a b k)).2.2=bt;rw [GD]
theorem PC {L:AJ} (v:VLev L) {i:Nat} {j:Job}:Kg L (Az 0 L.2) i j=false <-> ∃ n,(Az 0 L.2)[i]? = some j.1/\JobAt L n j:=by
 constructor
 ·intro h;unfold Kg at h;cases hd:(Az 0 L.2)[i]? with
  | none=>rw [hd] at h;cases h
  | some d =>
   rw [hd] at h;simp only at h;by_cases h1:j.1=d;rotate_left
   ·rw [if_pos h1] at h;cases h
   rw [if_neg (by simp [h1])] at h;by_cases h2:j.2.2.1.2.2=true/\j.1≠(L.2.length:Int)-1
   ·rw [if_pos h2] at h;cases h
   rw [if_neg h2] at h;obtain ⟨n,hn,r0,r1,hl⟩:=HQ hd;rw [Nat.zero_add] at hn;rw [hn,Int.toNat_natCast,hl] at h;simp only at h;by_cases h3:j.2.2.2.2<0\/j.2.2.2.2>((r1.2.length+r0.2.length:Nat):Int)
   ·rw [if_pos h3] at h;cases h
   rw [if_neg h3] at h;have h4:Dg r1.2 r0.2 j.2.2.1.2.2 j.2.2.2.2.toNat=j.2:=by simpa using h
   have hv:=(v.lev n _ hl).2;refine ⟨n,by rw [h1],r0,r1,j.2.2.1.2.2,j.2.2.2.2.toNat,hl,Prod.ext (by rw [h1,hn]) h4.symm,by omega,λhb => ?_,(hv r0 (by simp)).vl,(hv r1 (by simp)).vl⟩
   have h5:j.1=(L.2.length:Int)-1:=by
    by_cases h6:j.1=(L.2.length:Int)-1
    ·exact h6
    ·exact absurd ⟨hb,h6⟩ h2
   omega
 ·rintro ⟨n,hd,r0,r1,bt,k,hl,rfl,hk,hb,v0,v1⟩;unfold Kg;rw [hd];simp only;rw [if_neg (by simp),Rv,if_neg (λh:bt=true/\(n:Int)≠(L.2.length:Int)-1=>h.2 (by have:=hb h.1;omega)),Int.toNat_natCast,hl];simp only;rw [show (Dg r1.2 r0.2 bt k).2.2.2=(k:Int) from rfl,if_neg (by omega),Int.toNat_natCast];simp
theorem J4 {L:AJ} {due:List Int} : ∀ {js:List Job} {i:Nat},Fi L due i js=none <-> ∀ k j,js[k]? = some j->Kg L due (i+k) j=false
 | [],i=>by simp [Fi]
 | j::js,i=>by
  unfold Fi;by_cases h:Kg L due i j=true
  ·rw [if_pos h];simp only [reduceCtorEq,false_iff];intro h2;have:=h2 0 j rfl;rw [Nat.add_zero,h] at this;cases this
  ·rw [if_neg h,J4 (js:=js)];constructor
   ·intro h2 k j' hk;cases k with
    | zero=>cases hk;simpa using h
    | succ k=>rw [show i+(k+1)=i+1+k by omega];exact h2 k j' hk
   ·intro h2 k j' hk;rw [show i+1+k=i+(k+1) by omega];exact h2 (k+1) j' hk
theorem BY {s:AT}:(AV s).2=0<->VSt s:=by
 unfold AV;constructor
 ·intro h;by_cases h0:(EY s.1).2.2≠0
  ·rw [if_pos h0] at h;exact absurd h h0
  rw [if_neg h0] at h;have v:=H7.1 (Decidable.not_not.1 h0);by_cases h1:s.2.2<1\/s.2.2>1000001
  ·rw [if_pos h1] at h;cases h
  rw [if_neg h1] at h;by_cases h2:s.2.2<=E3 s.1.2
  ·rw [if_pos h2] at h;cases h
  rw [if_neg h2] at h;cases hg:Fi s.1 (Az 0 s.1.2) 0 s.2.1 with
  | some i=>rw [hg] at h;cases h
  | none =>
   rw [hg] at h;simp only at h;by_cases h3:s.2.1.length<(Az 0 s.1.2).length
   ·rw [if_pos h3] at h;cases h
   have hj:=J4.1 hg
   have hj2 : ∀ k j,s.2.1[k]? = some j -> ∃ n,(Az 0 s.1.2)[k]? = some j.1/\JobAt s.1 n j:=λk j hk=>by
    have:=hj k j hk;rw [Nat.zero_add] at this;exact (PC v).1 this
   refine ⟨v,by omega,by omega,by omega,?_,λj hm => ?_⟩
   ·apply List.ext_getElem?;intro k;rw [List.getElem?_map];cases hk:s.2.1[k]? with
    | some j=>obtain ⟨n,e,_⟩:=hj2 k j hk;rw [e];rfl
    | none =>
     have:=List.getElem?_eq_none_iff.1 hk;rw [List.getElem?_eq_none (by omega)];rfl
   ·obtain ⟨k,hk⟩:=List.getElem?_of_mem hm;obtain ⟨n,_,h⟩:=hj2 k j hk;exact ⟨n,h⟩
 ·intro v;rw [if_neg (by simp [H7.2 v.lev]),if_neg (by have:=v.n1;have:=v.n2;omega),if_neg (by have:=v.n3;omega)]
  have hg:Fi s.1 (Az 0 s.1.2) 0 s.2.1=none:=J4.2 λk j hk=>by
   rw [Nat.zero_add];obtain ⟨n,hn⟩:=v.job j (List.mem_of_getElem? hk);exact (PC v.lev).2 ⟨n,by rw [<- v.due,List.getElem?_map,hk];rfl,hn⟩
  rw [hg];simp only;rw [if_neg (by rw [<- v.due];simp)]
structure Sm (s:AT):Prop where
 lv:s.1.2.length<=1048576
 rs : ∀ rs∈s.1.2,rs.length<=1048576 /\ ∀ r∈rs,r.2.length<=9223372036854775807
 js:s.2.1.length<=1048576
theorem ot {s:AT} (m:Sm s):DK s=some (AV s):=Ux s m.lv m.rs m.js
theorem jj {s:AT} (m:Sm s):Db s=some (AV s):=TQ s m.lv m.rs m.js
theorem VSt.jlen {s:AT} (v:VSt s):s.2.1.length=(Az 0 s.1.2).length:=by rw [<- v.due];simp
theorem VSt.jsmall {s:AT} (v:VSt s):s.2.1.length<=12:=by
 have:=v.jlen;have:=Fo s.1.2 0;have:=v.lev.len;omega
theorem VSt.sm {s:AT} (v:VSt s):Sm s:=⟨v.lev.small.1,v.lev.small.2,by have:=v.jsmall;omega⟩
def MW (x:Int):Nat->List Int->Option Nat
 | _,[]=>none
 | k,y::l=>if y=x then some k else MW x (k+1) l
theorem aO {x:Int} : ∀ {l:List Int} {k i:Nat},MW x k l=some i->k<=i/\l[i-k]? = some x
 | [],_,_,h=>by cases h
 | y::l,k,i,h=>by
  unfold MW at h;by_cases e:y=x
  ·rw [if_pos e] at h;cases h;simp [e]
  ·rw [if_neg e] at h;obtain ⟨h1,h2⟩:=aO h;exact ⟨by omega,by rw [show i-k=(i-(k+1))+1 by omega];simpa using h2⟩
def Il (s:AT) (level:Int):Int×Int:=if (AV s).2≠0 then (0,(AV s).2) else match MW level 0 (Az 0 s.1.2) with
 | some i=>((i:Int),0)
 | none=>(0,4)
theorem Wk {s:AT} (m:Sm s) (level:Int):Fp (s,level)=some (Il s level):=by
 unfold Fp Il;simp only [AW,AP];rw [ot m,AB,AN];by_cases h0:(AV s).2=0;rotate_left
 ·rw [if_neg h0,if_pos h0]
 rw [if_pos h0,if_neg (show ¬ (AV s).2≠0 by simp [h0])];have v:=BY.1 h0;have hj:=v.jsmall;rw [<- v.due];obtain ⟨T,hT⟩ : ∃ T,T=MW level 0 (s.2.1.map (·.1)):=⟨_,rfl⟩;rw [<- hT]
 obtain ⟨r,q1,q2⟩:=HF (l:=s.2.1) (σ:=Unit) (s:=((0:Int),(0:Int))) (λk _=>((0:Int),(k:Int))) (λjs k _=>MW level k (js.map (·.1))=T) (λ(r:Nat×((Int×Int)×Unit))=>(r.1=1/\T=none)\/(r.1=0 /\ ∃ i:Nat,T=some i/\r.2.1.1=(i:Int)))
  (f:=λs1=>br (Ah s1.2 (s.2.1.length:Int)) (λ_=>AS s1.2 λk2=>ix s.2.1 k2 λx3=>br (BP x3.1 level) (λ_=>some (.dn ((0,((s1.2,s1.2),()))))) λ_=>some (.nx (s1.1,AI .i64 s1.2 1))) λ_=>some (.dn ((1,(s1,())))))
  () rfl (by omega) hT.symm (λ_ h=>⟨_,by simp only;rw [re];rfl,.inl ⟨rfl,by rw [<- h];rfl⟩⟩) (λk j js _ hd hx hk h=>by
   simp only;rw [rl hk,AR,AE,AK hx,Bc];unfold MW at h;simp only [List.map_cons] at h;by_cases e:j.1=level
   ·rw [if_pos e];rw [if_pos e] at h;exact .inr ⟨_,rfl,.inr ⟨rfl,k,h.symm,rfl⟩⟩
   ·rw [if_neg e];rw [if_neg e] at h
    exact .inl ⟨(),by rw [Au hx (by omega)],h⟩)
 refine BC q1 ?_;rw [CX];rcases q2 with ⟨q2,q3⟩ | ⟨q2,i,q3,q4⟩
 ·rw [if_neg (show ¬ r.1=0 by omega),q3];rfl
 ·rw [if_pos q2,q3,q4,BB,if_neg (by omega)]
theorem aQ {s:AT} (m:Sm s):EI s=some (if (AV s).2≠0 then ([],(AV s).2) else (Az 0 s.1.2,0)):=by
 unfold EI;rw [jj m,AB,AN];by_cases h0:(AV s).2=0
 ·rw [if_pos h0,if_neg (show ¬ (AV s).2≠0 by simp [h0]),N9 (by have:=(BY.1 h0).lev.len;omega),AB]
 ·rw [if_neg h0,if_pos h0]
theorem J5 {s:AT} (m:Sm s) (level:Int):Bu (s,level)=some (Il s level):=by
 unfold Bu Il;simp only [AW,AP];rw [aQ m,AB,AN];by_cases h0:(AV s).2=0;rotate_left
 ·rw [if_pos h0,if_neg h0,if_pos h0]
 rw [if_neg (show ¬ (AV s).2≠0 by simp [h0]),if_pos rfl,if_neg (show ¬ (AV s).2≠0 by simp [h0])];have v:=BY.1 h0;have hj:=v.jsmall;have hd:=v.jlen;obtain ⟨due,hdue⟩ : ∃ due,due=Az 0 s.1.2:=⟨_,rfl⟩;rw [<- hdue] at hd ⊢;obtain ⟨T,hT⟩ : ∃ T,T=MW level 0 due:=⟨_,rfl⟩;rw [<- hT];simp only
 obtain ⟨r,q1,q2⟩:=HF (l:=due) (σ:=Unit) (s:=((0:Int),((0:Int),(0:Int)))) (λk _=>((0:Int),((0:Int),(k:Int)))) (λjs k _=>MW level k js=T) (λ(r:Nat×((Int×(Int×Int))×Unit))=>(r.1=1/\T=none)\/(r.1=0 /\ ∃ i:Nat,T=some i/\r.2.1.2.1=(i:Int)/\r.2.1.1=0))
  (f:=λs1=>br (Ah s1.2.2 (due.length:Int)) (λ_=>AS s1.2.2 λk2=>ix due k2 λx3=>br (BP x3 level) (λ_=>some (.dn ((0,((0,(s1.2.2,s1.2.2)),()))))) λ_=>some (.nx ((s1.1,(s1.2.1,AI .i64 s1.2.2 1))))) λ_=>some (.dn ((1,(s1,())))))
  () rfl (by omega) hT.symm (λ_ h=>⟨_,by simp only;rw [re];rfl,.inl ⟨rfl,by rw [<- h];rfl⟩⟩) (λk j js _ hd hx hk h=>by
   simp only;rw [rl hk,AR,AE,AK hx,Bc];unfold MW at h;by_cases e:j=level
   ·rw [if_pos e];rw [if_pos e] at h;exact .inr ⟨_,rfl,.inr ⟨rfl,k,h.symm,rfl,rfl⟩⟩
   ·rw [if_neg e];rw [if_neg e] at h
    exact .inl ⟨(),by rw [Au hx (by omega)],h⟩)
 refine BC q1 ?_;rw [CX];rcases q2 with ⟨q2,q3⟩ | ⟨q2,i,q3,q4,q5⟩
 ·rw [if_neg (show ¬ r.1=0 by omega),q3]
 ·rw [if_pos q2,q3,q4,q5]
end Go.Proofs.YthpkjfabdccpdaaGreat.Pl
namespace Go.Proofs.YthpkjfabdccpdaaGreat.Pl
open Go Go.Proofs.YthpkjfabdccpdaaGreat.Sv
def BX (L:AJ) (j:Job):Nat:=match L.2[j.1.toNat]? with
 | some [r0,r1]=>r1.2.length+r0.2.length-j.2.2.2.2.toNat
 | _=>0
def ES (L:AJ) (j:Job):Bool:=decide ((j.2.2.2.1.length:Int)<=CH L.1 j.1.toNat)
def MS (L:AJ) (n:Nat):Bool:=decide (n<12/\((L.2[n]?).getD []).length<2)
def II (L:AJ) (j:Job):Bool:=decide (0<BX L j)||(ES L j||MS L (j.1.toNat+1))
def U3 (s:AT) (level:Int):Option Job:=match MW level 0 (Az 0 s.1.2) with
 | some i=>s.2.1[i]?
 | none=>none
theorem VSt.at {s:AT} (v:VSt s) {level:Int} {i:Nat} (h:MW level 0 (Az 0 s.1.2)=some i) : ∃ (j:Job) (n:Nat),s.2.1[i]? = some j/\level=(n:Int)/\j.1=(n:Int)/\JobAt s.1 n j/\n<s.1.2.length:=by
 obtain ⟨_,h1⟩:=aO h;rw [Nat.sub_zero] at h1;rw [<- v.due,List.getElem?_map] at h1;cases hj:s.2.1[i]? with
 | none=>rw [hj] at h1;cases h1
 | some j =>
  rw [hj] at h1;simp only [Option.map_some,Option.some.injEq] at h1;obtain ⟨n,hn⟩:=v.job j (List.mem_of_getElem? hj);have hn0:=hn;obtain ⟨r0,r1,bt,k,hl,e,_⟩:=hn;have h2:j.1=(n:Int):=by rw [e]
  exact ⟨j,n,rfl,by rw [<- h1,h2],h2,hn0,(List.getElem?_eq_some_iff.1 hl).1⟩
theorem JobAt.left {L:AJ} {n:Nat} {j:Job} (h:JobAt L n j):Bi j.2=some ((BX L j:Int),0)/\BH j.2=some ((BX L j:Int),0)/\BX L j<=10000:=by
 obtain ⟨r0,r1,bt,k,hl,rfl,hk,_,v0,v1⟩:=h;have l0:=v0.len;have l1:=v1.len
 have e:BX L ((n:Int),Dg r1.2 r0.2 bt k)=r1.2.length+r0.2.length-k:=by
  unfold BX;simp only [Int.toNat_natCast,hl];show r1.2.length+r0.2.length-((k:Int)).toNat=_;rw [Int.toNat_natCast]
 rw [e];exact ⟨NH v1 v0 bt hk,LZ v1 v0 bt hk,by omega⟩
theorem Xl {L:AJ} (v:VLev L) {n:Nat} (hn:n<12):FU (L.1,(n:Int))=some (CH L.1 n,0):=by
 have h1:=v.B1;have h2:=v.B2;unfold FU;rw [BB,if_neg (by omega),Ao,if_neg (by omega),BB,if_neg (by omega),Dz,if_neg (by omega),NI h1 h2 (by omega)];have:G5 (n:Int) 0=true:=by unfold G5;simp
 rw [this];rfl
theorem aR {L:AJ} (v:VLev L) {n:Nat} (hn:n<12):GQ (L.1,(n:Int))=some (CH L.1 n,0):=by
 have h1:=v.B1;have h2:=v.B2;unfold GQ;rw [BB,if_neg (by omega),Ao,if_neg (by omega),BB,if_neg (by omega),Dz,if_neg (by omega),TP h1 h2 (by omega),AB]
theorem Rw {L:AJ} (v:VLev L) (k:Int):Eo (L,k)=some (if k<0\/k>=12 then 7 else 0):=by
 obtain ⟨hb,hr⟩:=v.small;unfold Eo;rw [LW _ hb hr,GF v,AB,AN,if_pos rfl,BB,Dz];by_cases h1:k<0
 ·rw [if_pos h1,if_pos (.inl h1)]
 ·rw [if_neg h1];by_cases h2:k>=12
  ·rw [if_pos h2,if_pos (.inr h2)]
  ·rw [if_neg h2,if_neg (by omega)]
theorem aS (l:List BL):Ah (l.length:Int) 2=decide (l.length<2):=by
 unfold Ah;rw [decide_eq_decide];omega
theorem Xm {L:AJ} (v:VLev L) {n:Nat} (hn:n<=12):FV (L,(n:Int))=some (MS L n,if n>=12 then 7 else 0):=by
 unfold FV MS;simp only [AW,AP];rw [Rw v,AB,AN];by_cases h:n>=12
 ·rw [if_pos (show (n:Int)<0\/(n:Int)>=12 by omega),if_neg (by decide),if_pos h];simp;omega
 ·rw [if_neg (show ¬ ((n:Int)<0\/(n:Int)>=12) by omega),if_pos rfl,if_neg h,BB];have h12:n<12:=by omega
  by_cases h2:n<L.2.length
  ·have hx:L.2[n]? = some (L.2[n]'h2):=by simp
   rw [if_pos (by omega),AE,AK hx,hx,aS,Option.getD_some];simp [h12]
  ·rw [if_neg (by omega),List.getElem?_eq_none (by omega)];simp [h12]
theorem aT {s:AT} (v:VLev s.1) {n:Nat} (hn:n<12):GR (s,(n:Int))=some (MS s.1 (n+1)):=by
 unfold GR MS;simp only [AW,AP];rw [Ac (by omega),BB];by_cases h:n+1<12
 ·rw [if_pos (by omega),Dz];by_cases h2:n+1<s.1.2.length
  ·have hx:s.1.2[n+1]? = some (s.1.2[n+1]'h2):=by simp
   rw [if_neg (by omega),AE,AK hx,hx,aS,Option.getD_some];simp [h]
  ·rw [if_pos (by omega),List.getElem?_eq_none (by omega)];simp [h]
 ·rw [if_neg (by omega)];simp;omega
abbrev lN:=AT×(Job×Int)
theorem PF {s:AT} (v:VLev s.1) {n:Nat} {j:Job} (hj:j.1=(n:Int)) (hn:n<12) (l:Int):BK (s,(j,l))=some (ES s.1 j):=by
 unfold BK ES;simp only [AW,AP];rw [hj,Xl v hn,AB,Bc,if_pos rfl,Int.toNat_natCast];rfl
theorem QZ {s:AT} (v:VLev s.1) {n:Nat} {j:Job} (hj:j.1=(n:Int)) (hn:n<12):De (s,j)=some (ES s.1 j):=by
 unfold De ES;simp only [AW,AP];rw [hj,aR v hn,AB,Int.toNat_natCast];rfl
theorem aU {s:AT} (v:VLev s.1) {n:Nat} {j:Job} (hj:j.1=(n:Int)) (hn:n<12) (l:Int):Cc (s,(j,l))=some (MS s.1 (n+1)):=by
 unfold Cc;simp only;rw [hj,Ac (by omega),Xm v (by omega),AB,Bc];by_cases h:n+1>=12
 ·rw [if_pos h,if_neg (show ¬ (7:Int)=0 by decide)];unfold MS;simp;omega
 ·rw [if_neg h,if_pos rfl]
theorem U4 {s:AT} (v:VLev s.1) {n:Nat} {j:Job} (hj:j.1=(n:Int)) (hn:n<12) (l:Nat) (hl:l=BX s.1 j):Bq (s,(j,(l:Int)))=some (II s.1 j):=by
 have e0:A2 (s,(j,(l:Int)))=some (decide (0<BX s.1 j)):=by
  unfold A2 B8;rw [hl];simp
 have e1:=PF v hj hn (l:Int);have e2:=aU v hj hn (l:Int);unfold Bq II;rw [e0,e1,e2,hj,Int.toNat_natCast];simp only [AB];cases h0:decide (0<BX s.1 j) with
 | true=>exact BC (x:=(0,((0,true),()))) (CT (n:=1) (by omega) (BN rfl)) rfl
 | false =>
  cases h1:ES s.1 j with
  | true=>exact BC (x:=(0,((1,true),()))) (CT (n:=2) (by omega) ((BF (s':=(1,false)) rfl).trans (BN rfl))) rfl
  | false =>
   cases h2:MS s.1 (n+1) with
   | true=>exact BC (x:=(0,((2,true),()))) (CT (n:=3) (by omega) ((BF (s':=(1,false)) rfl).trans ((BF (s':=(2,false)) rfl).trans (BN rfl)))) rfl
   | false=>exact BC (x:=(1,((3,false),()))) (CT (n:=4) (by omega) ((BF (s':=(1,false)) rfl).trans ((BF (s':=(2,false)) rfl).trans ((BF (s':=(3,false)) rfl).trans (BN rfl))))) rfl
end Go.Proofs.YthpkjfabdccpdaaGreat.Pl
namespace Go.Proofs.YthpkjfabdccpdaaGreat.Pl
open Go Go.Proofs.YthpkjfabdccpdaaGreat.Sv
def Hl {α:Type} (z:α) (f:AT->Job->α×Int) (s:AT) (level:Int):α×Int:=if (AV s).2≠0 then (z,(AV s).2) else match U3 s level with
 | some j=>f s j
 | none=>(z,4)
def z0:lN:=(((0,[]),([],0)),((0,(([],([],([],([],0)))),((false,([],false)),([],0)))),0))
theorem Wl {s:AT} (m:Sm s) (level:Int):Cr (s,level)=some (Hl z0 (λs j=>((s,(j,(BX s.1 j:Int))),0)) s level):=by
 unfold Cr;rw [Wk m,AB];unfold Hl U3 Il;by_cases h0:(AV s).2=0;rotate_left
 ·rw [if_pos h0,AN,if_neg h0,if_pos h0];rfl
 rw [if_neg (show ¬ (AV s).2≠0 by simp [h0]),if_neg (show ¬ (AV s).2≠0 by simp [h0])];have v:=BY.1 h0;cases hf:MW level 0 (Az 0 s.1.2) with
 | none=>rfl
 | some i =>
  obtain ⟨j,n,hj,hl,hjn,ha,hn⟩:=v.at hf;simp only;rw [AN,if_pos rfl,AE,AK hj,hj,(JobAt.left ha).1,AB]
theorem lO {s:AT} (m:Sm s) (level:Int):Kv (s,level)=some (Hl false (λs j=>(II s.1 j,0)) s level):=by
 unfold Kv;rw [Wl m,AB];unfold Hl;by_cases h0:(AV s).2=0;rotate_left
 ·rw [if_pos h0,AN,if_neg h0,if_pos h0]
 rw [if_neg (show ¬ (AV s).2≠0 by simp [h0]),if_neg (show ¬ (AV s).2≠0 by simp [h0])];have v:=BY.1 h0;unfold U3;cases hf:MW level 0 (Az 0 s.1.2) with
 | none=>rfl
 | some i =>
  obtain ⟨j,n,hj,hl,hjn,ha,hn⟩:=v.at hf;have:=v.lev.len;simp only [hj];rw [AN,if_pos rfl,U4 v.lev hjn (by omega) _ rfl,AB]
theorem Kc {s:AT} (m:Sm s) (level:Int):CV (s,level)=some (Hl 0 (λs j=>((BX s.1 j:Int),0)) s level):=by
 unfold CV;rw [J5 m,AB];unfold Hl U3 Il;by_cases h0:(AV s).2=0;rotate_left
 ·rw [if_pos h0,AN,if_neg h0,if_pos h0]
 rw [if_neg (show ¬ (AV s).2≠0 by simp [h0]),if_neg (show ¬ (AV s).2≠0 by simp [h0])];have v:=BY.1 h0;cases hf:MW level 0 (Az 0 s.1.2) with
 | none=>rfl
 | some i =>
  obtain ⟨j,n,hj,hl,hjn,ha,hn⟩:=v.at hf;simp only [hj];rw [AN,if_pos rfl,AE,AK hj,(JobAt.left ha).2.1,AB]
theorem Wm {s:AT} (m:Sm s) (level:Int):Fq (s,level)=some (Hl false (λs j=>(II s.1 j,0)) s level):=by
 unfold Fq;rw [Kc m,AB,J5 m,AB];unfold Hl;by_cases h0:(AV s).2=0;rotate_left
 ·rw [if_pos h0,AN,if_neg h0,if_pos h0]
 rw [if_neg (show ¬ (AV s).2≠0 by simp [h0]),if_neg (show ¬ (AV s).2≠0 by simp [h0])];have v:=BY.1 h0;unfold U3 Il;cases hf:MW level 0 (Az 0 s.1.2) with
 | none=>rfl
 | some i =>
  obtain ⟨j,n,hj,hl,hjn,ha,hn⟩:=v.at hf;have:=v.lev.len;rw [if_neg (show ¬ (AV s).2≠0 by simp [h0])];simp only [hj];rw [AN,if_pos rfl,Ao,AE,AK hj,QZ v.lev hjn (by omega),AB,hl,aT v.lev (by omega),AB];unfold II;rw [hjn,Int.toNat_natCast];by_cases h1:0<BX s.1 j
  ·rw [if_pos (by omega)];simp [h1]
  ·rw [if_neg (by omega)];cases ES s.1 j<;>simp [h1,AR,Al]
def MT (s:AT) (j:Job):Int×Int:=if 0<BX s.1 j then (0,9) else if ES s.1 j=true then (j.1,0) else (j.1+1,0)
theorem jO {s:AT} (m:Sm s) (level:Int):Du (s,level)=some (Hl 0 MT s level):=by
 unfold Du;rw [Wl m,AB];unfold Hl;by_cases h0:(AV s).2=0;rotate_left
 ·rw [if_pos h0,AN,if_neg h0,if_pos h0]
 rw [if_neg (show ¬ (AV s).2≠0 by simp [h0]),if_neg (show ¬ (AV s).2≠0 by simp [h0])];have v:=BY.1 h0;unfold U3;cases hf:MW level 0 (Az 0 s.1.2) with
 | none=>rfl
 | some i =>
  obtain ⟨j,n,hj,hl,hjn,ha,hn⟩:=v.at hf;have:=v.lev.len;simp only [hj];unfold A2 MT;rw [AN,if_pos rfl,AB,Ao,PF v.lev hjn (by omega),AB,hl,Ac (by omega),hjn];by_cases h1:0<BX s.1 j
  ·rw [if_pos (show ((BX s.1 j:Int))>0 by omega),if_pos h1]
  ·rw [if_neg (show ¬ ((BX s.1 j:Int))>0 by omega),if_neg h1,FG];by_cases h2:ES s.1 j=true
   ·rw [if_pos h2,if_pos h2]
   ·rw [if_neg h2,if_neg h2];rfl
theorem U5 {s:AT} (m:Sm s) (level:Int):Ep (s,level)=some (Hl 0 MT s level):=by
 unfold Ep;rw [Kc m,AB,J5 m];unfold Hl;by_cases h0:(AV s).2=0;rotate_left
 ·rw [if_pos h0,Bc,if_neg h0,AN,if_neg h0,if_pos h0]
 rw [if_neg (show ¬ (AV s).2≠0 by simp [h0]),if_neg (show ¬ (AV s).2≠0 by simp [h0])];have v:=BY.1 h0;unfold U3 Il;cases hf:MW level 0 (Az 0 s.1.2) with
 | none=>rfl
 | some i =>
  obtain ⟨j,n,hj,hl,hjn,ha,hn⟩:=v.at hf;have:=v.lev.len;rw [if_neg (show ¬ (AV s).2≠0 by simp [h0])];simp only [hj];unfold MT;rw [Bc,if_pos rfl,Ao];by_cases h1:0<BX s.1 j
  ·rw [if_pos (show ((BX s.1 j:Int))>0 by omega),if_pos h1]
  ·rw [if_neg (show ¬ ((BX s.1 j:Int))>0 by omega),if_neg h1,AN,if_pos rfl,AB,AE,AK hj,QZ v.lev hjn (by omega),AB,FG,hl,Ac (by omega),hjn];by_cases h2:ES s.1 j=true
   ·rw [if_pos h2,if_pos h2]
   ·rw [if_neg h2,if_neg h2];rfl
end Go.Proofs.YthpkjfabdccpdaaGreat.Pl
namespace Go.Proofs.YthpkjfabdccpdaaGreat.Pl
open Go Go.Proofs.YthpkjfabdccpdaaGreat.Sv
theorem Im {α β σ S:Type} {l:List α} (c:Nat) (hc9:c<=1000) (mk:Nat->σ->S) (I:Nat->σ->Prop) (Q:β->Prop) {f:S->Option (LR S β)} {s:S} (st:σ) (h0:s=mk 0 st) (hi:I 0 st)
  (hn : ∀ k st,(k=l.length\/k=c)->k<=l.length->I k st -> ∃ r,f (mk k st)=some (.dn r)/\Q r)
  (hc : ∀ k x st,l[k]? = some x->k<c->I k st->(∃ st',f (mk k st)=some (.nx (mk (k+1) st'))/\I (k+1) st') \/ ∃ r,f (mk k st)=some (.dn r)/\Q r) : ∃ r,loop f s=some r/\Q r:=by
 refine HF (l:=l.take c) mk (λ_ k st=>I k st/\k<=(l.take c).length) Q st h0 (by simp;omega) ⟨hi,by omega⟩ (λst h=>hn _ st (by simp;omega) (by simp;omega) h.1) (λk x m st hd hx hk h => ?_);have hk2:k<c:=by simp at hk;omega
 have hx2:l[k]? = some x:=by rw [List.getElem?_take] at hx;rw [if_pos hk2] at hx;exact hx
 rcases hc k x st hx2 hk2 h.1 with ⟨st',h1,h2⟩ | h1
 ·exact .inl ⟨st',h1,h2,by omega⟩
 ·exact .inr h1
theorem Qa {k c:Nat} (h:k<c):Ah (k:Int) (c:Int)=true:=by unfold Ah;simp;omega
theorem Xn {α β:Type} {l:List α} {k c:Nat} (h:k=l.length\/k=c) (hk:k<=l.length) (A B C:Option β) (e:B=C):br (Ah (k:Int) (l.length:Int)) (λ_=>br (Ah (k:Int) (c:Int)) (λ_=>A) λ_=>B) (λ_=>C)=C:=by
 rw [BB];by_cases h1:(k:Int)<(l.length:Int)
 ·rw [if_pos h1,BB,if_neg (by omega),e]
 ·rw [if_neg h1]
theorem Xo (l:List AD) : ∃ b,E6 l=some b/\(b=false->l.length<=30):=by
 unfold E6;simp only [AW,AP]
 obtain ⟨r,q1,q2⟩:=Im (l:=l) (σ:=Unit) (s:=((0:Int),false)) 40 (by omega) (λk _=>((k:Int),false)) (λ_ _=>True) (λ(r:Nat×((Int×Bool)×Unit))=>r.1=1\/(r.1=0/\r.2.1.2=true))
  (f:=λs0=>br (Ah s0.1 (l.length:Int)) (λ_=>br (Ah s0.1 40) (λ_=>AS s0.1 λk1=>ix l k1 λx2=>br (B8 (FD x2.1:Int) 100) (λ_=>some (.dn ((0,((s0.1,true),()))))) λ_=>AS s0.1 λk3=>ix l k3 λx4=>br (B8 (FD x4.2.1:Int) 100) (λ_=>some (.dn ((0,((s0.1,true),()))))) λ_=>some (.nx (AI .i64 s0.1 1,s0.2))) λ_=>some (.dn ((1,(s0,()))))) λ_=>some (.dn ((1,(s0,())))))
  () rfl trivial (λk _ h hk _=>⟨_,(Xn (c:=40) h hk _ _ _ rfl),.inl rfl⟩) (λk x _ hx hk _=>by
   simp only;have hk2:=(List.getElem?_eq_some_iff.1 hx).1;rw [rl hk2,AR,show Ah (k:Int) 40=true from Qa hk,AR,AE,AK hx,Ao,AE,AK hx,Ao,Ac (by omega)]
   repeat' split
   all_goals first | exact .inr ⟨_,rfl,.inr ⟨rfl,rfl⟩⟩ | exact .inl ⟨(),rfl,trivial⟩)
 rw [q1,AB,CX];rcases q2 with q2 | ⟨q2,q3⟩
 ·rw [if_neg (show ¬ r.1=0 by omega)];exact ⟨_,rfl,λh=>by unfold B8 at h;simp at h;omega⟩
 ·rw [if_pos q2,q3];exact ⟨_,rfl,λh=>by cases h⟩
theorem TS (l:List BL) : ∃ b,Cy l=some b/\(b=false->l.length<=6 /\ ∀ r∈l,r.2.length<=30):=by
 unfold Cy;simp only [AW,AP]
 obtain ⟨r,q1,q2⟩:=Im (l:=l) (σ:=Unit) (s:=((0:Int),false)) 10 (by omega) (λk _=>((k:Int),false)) (λk _ => ∀ i x,i<k->l[i]? = some x->x.2.length<=30) (λ(r:Nat×((Int×Bool)×Unit))=>(r.1=1 /\ ∀ i x,i<10->l[i]? = some x->x.2.length<=30)\/(r.1=0/\r.2.1.2=true))
  (f:=λs0=>br (Ah s0.1 (l.length:Int)) (λ_=>br (Ah s0.1 10) (λ_=>AS s0.1 λk1=>ix l k1 λx2=>bd (E6 x2.2) λr3=>br r3 (λ_=>some (.dn ((0,((s0.1,true),()))))) λ_=>some (.nx (AI .i64 s0.1 1,s0.2))) λ_=>some (.dn ((1,(s0,()))))) λ_=>some (.dn ((1,(s0,())))))
  () rfl (λi x h=>by omega) (λk _ h hk hI=>⟨_,(Xn (c:=10) h hk _ _ _ rfl),.inl ⟨rfl,λi x hi hx=>hI i x (by have:=(List.getElem?_eq_some_iff.1 hx).1;omega) hx⟩⟩) (λk x _ hx hk hI=>by
   simp only;have hk2:=(List.getElem?_eq_some_iff.1 hx).1;obtain ⟨b,e,hb⟩:=Xo x.2;rw [rl hk2,AR,show Ah (k:Int) 10=true from Qa hk,AR,AE,AK hx,e,AB,Ac (by omega)];cases b with
   | true=>exact .inr ⟨_,rfl,.inr ⟨rfl,rfl⟩⟩
   | false =>
    refine .inl ⟨(),rfl,λi y hi hy => ?_⟩;by_cases h:i=k
    ·subst h;rw [hx] at hy;cases hy;exact hb rfl
    ·exact hI i y (by omega) hy)
 rw [q1,AB,CX];rcases q2 with ⟨q2,q3⟩ | ⟨q2,q3⟩
 ·rw [if_neg (show ¬ r.1=0 by omega)];refine ⟨_,rfl,λh => ?_⟩;have hl:l.length<=6:=by unfold B8 at h;simp at h;omega
  exact ⟨hl,λr hr=>by
   obtain ⟨i,hi⟩:=List.getElem?_of_mem hr
   exact q3 i r (by have:=(List.getElem?_eq_some_iff.1 hi).1;omega) hi⟩
 ·rw [if_pos q2,q3];exact ⟨_,rfl,λh=>by cases h⟩
theorem Xp (L:AJ) : ∃ b,GN L=some b/\(b=false->L.2.length<=14 /\ ∀ rs∈L.2,rs.length<=6 /\ ∀ r∈rs,r.2.length<=30):=by
 unfold GN;simp only [AW,AP]
 obtain ⟨r,q1,q2⟩:=Im (l:=L.2) (σ:=Unit) (s:=((0:Int),false)) 20 (by omega) (λk _=>((k:Int),false)) (λk _ => ∀ i x,i<k->L.2[i]? = some x->x.length<=6 /\ ∀ r∈x,r.2.length<=30) (λ(r:Nat×((Int×Bool)×Unit))=>(r.1=1 /\ ∀ i x,i<20->L.2[i]? = some x->x.length<=6 /\ ∀ r∈x,r.2.length<=30)\/(r.1=0/\r.2.1.2=true))
  (f:=λs0=>br (Ah s0.1 (L.2.length:Int)) (λ_=>br (Ah s0.1 20) (λ_=>AS s0.1 λk1=>ix L.2 k1 λx2=>bd (Cy x2) λr3=>br r3 (λ_=>some (.dn ((0,((s0.1,true),()))))) λ_=>some (.nx (AI .i64 s0.1 1,s0.2))) λ_=>some (.dn ((1,(s0,()))))) λ_=>some (.dn ((1,(s0,())))))
  () rfl (λi x h=>by omega) (λk _ h hk hI=>⟨_,(Xn (c:=20) h hk _ _ _ rfl),.inl ⟨rfl,λi x hi hx=>hI i x (by have:=(List.getElem?_eq_some_iff.1 hx).1;omega) hx⟩⟩) (λk x _ hx hk hI=>by
   simp only;have hk2:=(List.getElem?_eq_some_iff.1 hx).1;obtain ⟨b,e,hb⟩:=TS x;rw [rl hk2,AR,show Ah (k:Int) 20=true from Qa hk,AR,AE,AK hx,e,AB,Ac (by omega)];cases b with
   | true=>exact .inr ⟨_,rfl,.inr ⟨rfl,rfl⟩⟩
   | false =>
    refine .inl ⟨(),rfl,λi y hi hy => ?_⟩;by_cases h:i=k
    ·subst h;rw [hx] at hy;cases hy;exact hb rfl
    ·exact hI i y (by omega) hy)
 rw [q1,AB,CX];rcases q2 with ⟨q2,q3⟩ | ⟨q2,q3⟩
 ·rw [if_neg (show ¬ r.1=0 by omega)];refine ⟨_,rfl,λh => ?_⟩;have hl:L.2.length<=14:=by unfold B8 at h;simp at h;omega
  exact ⟨hl,λr hr=>by
   obtain ⟨i,hi⟩:=List.getElem?_of_mem hr
   exact q3 i r (by have:=(List.getElem?_eq_some_iff.1 hi).1;omega) hi⟩
 ·rw [if_pos q2,q3];exact ⟨_,rfl,λh=>by cases h⟩
theorem Wn (l:List AD) : ∃ b,Cq l=some b:=by
 unfold Cq;simp only [AW,AP]
 obtain ⟨r,q1,q2⟩:=Im (l:=l) (σ:=Unit) (s:=((0:Int),false)) 80 (by omega) (λk _=>((k:Int),false)) (λ_ _=>True) (λ(r:Nat×((Int×Bool)×Unit))=>True)
  (f:=λs0=>br (Ah s0.1 (l.length:Int)) (λ_=>br (Ah s0.1 80) (λ_=>AS s0.1 λk1=>ix l k1 λx2=>br (B8 (FD x2.1:Int) 100) (λ_=>some (.dn ((0,((s0.1,true),()))))) λ_=>AS s0.1 λk3=>ix l k3 λx4=>br (B8 (FD x4.2.1:Int) 100) (λ_=>some (.dn ((0,((s0.1,true),()))))) λ_=>some (.nx (AI .i64 s0.1 1,s0.2))) λ_=>some (.dn ((1,(s0,()))))) λ_=>some (.dn ((1,(s0,())))))
  () rfl trivial (λk _ h hk _=>⟨_,(Xn (c:=80) h hk _ _ _ rfl),trivial⟩) (λk x _ hx hk _=>by
   simp only;have hk2:=(List.getElem?_eq_some_iff.1 hx).1;rw [rl hk2,AR,show Ah (k:Int) 80=true from Qa hk,AR,AE,AK hx,Ao,AE,AK hx,Ao,Ac (by omega)]
   repeat' split
   all_goals first | exact .inr ⟨_,rfl,trivial⟩ | exact .inl ⟨(),rfl,trivial⟩)
 rw [q1,AB,CX];split<;>exact ⟨_,rfl⟩
theorem Xq (s:AT) : ∃ b,GO s=some b/\(b=false->Sm s /\ ∀ rs∈s.1.2,∀ r∈rs,r.2.length<=30):=by
 unfold GO;simp only [AW,AP]
 obtain ⟨r,q1,q2⟩:=Im (l:=s.2.1) (σ:=Unit) (s:=((0:Int),false)) 20 (by omega) (λk _=>((k:Int),false)) (λ_ _=>True) (λ(r:Nat×((Int×Bool)×Unit))=>r.1=0\/(r.1=1/\r.2.1.2=true))
  (f:=λs0=>br (Ah s0.1 (s.2.1.length:Int)) (λ_=>br (Ah s0.1 20) (λ_=>AS s0.1 λk1=>ix s.2.1 k1 λx2=>bd (loop (λs3=>br (Ah s3.1 (x2.2.1.1.length:Int)) (λ_=>br (Ah s3.1 10) (λ_=>AS s3.1 λk4=>ix x2.2.1.1 k4 λx5=>bd (Cq x5) λr6=>br r6 (λ_=>some (.dn ((0,((s3.1,true),()))))) λ_=>some (.nx (AI .i64 s3.1 1,s3.2))) λ_=>some (.dn ((1,(s3,()))))) λ_=>some (.dn ((1,(s3,()))))) (0,s0.2)) λr7=>br (neq r7.1 0) (λ_=>some (.dn ((1,((s0.1,r7.2.1.2),()))))) λ_=>bd (Cq x2.2.2.2.1) λr8=>br r8 (λ_=>some (.dn ((1,((s0.1,true),()))))) λ_=>br (B8 (x2.2.1.1.length:Int) 6) (λ_=>some (.dn ((1,((s0.1,true),()))))) λ_=>br (B8 (x2.2.1.2.1.length:Int) 40) (λ_=>some (.dn ((1,((s0.1,true),()))))) λ_=>br (B8 (x2.2.1.2.2.1.length:Int) 40) (λ_=>some (.dn ((1,((s0.1,true),()))))) λ_=>br (B8 (x2.2.1.2.2.2.1.length:Int) 40) (λ_=>some (.dn ((1,((s0.1,true),()))))) λ_=>br (B8 (FD x2.2.2.1.2.1:Int) 200) (λ_=>some (.dn ((1,((s0.1,true),()))))) λ_=>some (.nx (AI .i64 s0.1 1,r7.2.1.2))) λ_=>some (.dn ((0,(s0,()))))) λ_=>some (.dn ((0,(s0,())))))
  () rfl trivial (λk _ h hk _=>⟨_,(Xn (c:=20) h hk _ _ _ rfl),.inl rfl⟩) (λk x _ hx hk _=>by
   simp only;have hk2:=(List.getElem?_eq_some_iff.1 hx).1;rw [rl hk2,AR,show Ah (k:Int) 20=true from Qa hk,AR,AE,AK hx]
   obtain ⟨r,q1,q2⟩:=Im (l:=x.2.1.1) (σ:=Unit) (s:=((0:Int),false)) 10 (by omega) (λk _=>((k:Int),false)) (λ_ _=>True) (λ(r:Nat×((Int×Bool)×Unit))=>(r.1=1/\r.2.1.2=false)\/(r.1=0/\r.2.1.2=true))
    (f:=λs3=>br (Ah s3.1 (x.2.1.1.length:Int)) (λ_=>br (Ah s3.1 10) (λ_=>AS s3.1 λk4=>ix x.2.1.1 k4 λx5=>bd (Cq x5) λr6=>br r6 (λ_=>some (.dn ((0,((s3.1,true),()))))) λ_=>some (.nx (AI .i64 s3.1 1,s3.2))) λ_=>some (.dn ((1,(s3,()))))) λ_=>some (.dn ((1,(s3,())))))
    () rfl trivial (λk _ h hk _=>⟨_,(Xn (c:=10) h hk _ _ _ rfl),.inl ⟨rfl,rfl⟩⟩) (λk y _ hy hk _=>by
     simp only;have hk2:=(List.getElem?_eq_some_iff.1 hy).1;obtain ⟨b,e⟩:=Wn y;rw [rl hk2,AR,show Ah (k:Int) 10=true from Qa hk,AR,AE,AK hy,e,AB,Ac (by omega)];cases b with
     | true=>exact .inr ⟨_,rfl,.inr ⟨rfl,rfl⟩⟩
     | false=>exact .inl ⟨(),rfl,trivial⟩)
   obtain ⟨b,e⟩:=Wn x.2.2.2.1;rw [q1,AB,CX,e];rcases q2 with ⟨q2,q3⟩ | ⟨q2,q3⟩
   ·rw [if_neg (show ¬ r.1=0 by omega),AB,FG,Ao,Ao,Ao,Ao,Ao,q3,Ac (by omega)]
    repeat' split
    all_goals first | exact .inr ⟨_,rfl,.inr ⟨rfl,rfl⟩⟩ | exact .inl ⟨(),rfl,trivial⟩
   ·rw [if_pos q2,q3]
    exact .inr ⟨_,rfl,.inr ⟨rfl,rfl⟩⟩)
 rw [q1,AB,CX];rcases q2 with q2 | ⟨q2,q3⟩
 ·rw [if_pos q2,Ao];by_cases h:(s.2.1.length:Int)>14
  ·rw [if_pos h];exact ⟨_,rfl,λh=>by cases h⟩
  ·rw [if_neg h];obtain ⟨b,e,hb⟩:=Xp s.1;rw [e];refine ⟨b,rfl,λh2 => ?_⟩;obtain ⟨h3,h4⟩:=hb h2;exact ⟨⟨by omega,λrs hrs=>⟨by have:=(h4 rs hrs).1;omega,λr hr=>by have:=(h4 rs hrs).2 r hr;omega⟩,by omega⟩,λrs hrs=>(h4 rs hrs).2⟩
 ·rw [if_neg (show ¬ r.1=0 by omega),q3];exact ⟨_,rfl,λh=>by cases h⟩
end Go.Proofs.YthpkjfabdccpdaaGreat.Pl
namespace Go.Proofs.YthpkjfabdccpdaaGreat.Pl
open Go Go.Proofs.YthpkjfabdccpdaaGreat.Sv
theorem gj:FW ()=some true:=by kernel_rfl
theorem gk (a:Int):BP a a=true:=by unfold BP;simp
end Go.Proofs.YthpkjfabdccpdaaGreat.Pl
namespace Go.Proofs.YthpkjfabdccpdaaGreat.Pl
open Go Go.Proofs.YthpkjfabdccpdaaGreat.Sv
theorem gl {β:Type} (k:Unit->Option β):gd true k=k ():=rfl
def As (l:List (List BL)) (i:Nat):List BL:=(l[i]?).getD []
def JH (l:List (List BL)):Nat->Nat
 | 0=>0
 | k+1=>if As l k=[] then JH l k else k+1
def In (l:List (List BL)) (n:Nat):List (List BL):=l++List.replicate (n+1-l.length) []
def Fj (l:List (List BL)) (n:Nat) (r:List BL):List (List BL):=(In l n).set n r
def Hm (l:List (List BL)):List (List BL):=l.take (JH l l.length)
def Cd (L:AJ) (n:Nat) (r:List BL):AJ:=(L.1,Hm (Fj L.2 n r))
theorem Rx (l:List (List BL)) : ∀ k,JH l k<=k
 | 0=>Nat.le_refl _
 | k+1=>by
  unfold JH;split
  ·exact Nat.le_succ_of_le (Rx l k)
  ·exact Nat.le_refl _
theorem PG (l:List (List BL)) : ∀ {k i:Nat},JH l k<=i->i<k->As l i=[]
 | 0,_,_,h=>by omega
 | k+1,i,h1,h2=>by
  unfold JH at h1;split at h1
  ·rename_i he;by_cases hi:i=k
   ·rw [hi];exact he
   ·exact PG l h1 (by omega)
  ·omega
theorem Qb (l:List (List BL)) : ∀ {k m:Nat},JH l k=m+1->As l m≠[]
 | 0,m,h=>by cases h
 | k+1,m,h=>by
  unfold JH at h;split at h
  ·exact Qb l h
  ·rename_i hne;have:m=k:=by omega
   rw [this];exact hne
theorem Qc (l:List (List BL)) (i:Nat):As (Hm l) i=As l i:=by
 unfold Hm;by_cases h:i<JH l l.length
 ·unfold As;rw [List.getElem?_take,if_pos h]
 ·have h1:As (l.take (JH l l.length)) i=[]:=by
   unfold As;rw [List.getElem?_take,if_neg h];rfl
  rw [h1];by_cases h2:i<l.length
  ·exact (PG l (by omega) h2).symm
  ·unfold As;rw [List.getElem?_eq_none (by omega)];rfl
theorem U6 (l:List (List BL)):(Hm l).getLast? ≠ some []:=by
 have hl:(Hm l).length=JH l l.length:=by
  have:=Rx l l.length;unfold Hm;rw [List.length_take];omega
 cases hd:JH l l.length with
 | zero =>
  have:Hm l=[]:=List.length_eq_zero_iff.1 (by rw [hl,hd]);rw [this];simp
 | succ m =>
  have h1:=Qb l hd;rw [List.getLast?_eq_getElem?,hl,hd];intro h2;have h3:As (Hm l) m=[]:=by unfold As;rw [show m=m+1-1 by omega,h2];rfl
  rw [Qc] at h3;exact h1 h3
theorem J6 (l:List (List BL)) (n:Nat):(In l n).length=max l.length (n+1):=by
 unfold In;simp;omega
theorem TT (l:List (List BL)) (n i:Nat):As (In l n) i=As l i:=by
 unfold As In;by_cases h:i<l.length
 ·rw [List.getElem?_append_left h]
 ·rw [List.getElem?_append_right (by omega),List.getElem?_replicate,List.getElem?_eq_none (l:=l) (by omega)];split<;>rfl
theorem TU (l:List (List BL)) (n i:Nat) (r:List BL):As (Fj l n r) i=if i=n then r else As l i:=by
 unfold Fj;by_cases h:i=n
 ·rw [if_pos h,h];have:=J6 l n;unfold As;rw [List.getElem?_set_self (by omega)];rfl
 ·rw [if_neg h];unfold As;rw [List.getElem?_set_ne (λe=>h e.symm)];exact TT l n i
theorem Fs (L:AJ) (n i:Nat) (r:List BL):As (Cd L n r).2 i=if i=n then r else As L.2 i:=by
 show As (Hm _) i=_;rw [Qc,TU]
theorem U7 (L:AJ) (n:Nat) (r:List BL):(Cd L n r).2.getLast? ≠ some []:=U6 _
theorem Xr (L:AJ) (n:Nat) (r:List BL):(Cd L n r).2.length<=max L.2.length (n+1):=by
 show (Hm _).length<=_;unfold Hm;rw [List.length_take];have:(Fj L.2 n r).length=max L.2.length (n+1):=by unfold Fj;rw [List.length_set,J6]
 omega
theorem Xs (l:List (List BL)):(Hm l).flatten=l.flatten:=by
 have h:l=Hm l++l.drop (JH l l.length):=(List.take_append_drop _ _).symm
 have h2:(l.drop (JH l l.length)).flatten=[]:=by
  rw [List.flatten_eq_nil_iff];intro x hx;obtain ⟨i,hi⟩:=List.getElem?_of_mem hx;rw [List.getElem?_drop] at hi;have h3:=(List.getElem?_eq_some_iff.1 hi).1;have:=PG l (k:=l.length) (i:=JH l l.length+i) (by omega) h3;unfold As at this;rw [hi] at this;exact this
 conv=>rhs;rw [h,List.flatten_append,h2,List.append_nil]
theorem aV (l:List (List BL)) (n:Nat):(In l n).flatten=l.flatten:=by
 unfold In;rw [List.flatten_append]
 have:(List.replicate (n+1-l.length) ([]:List BL)).flatten=[]:=by
  rw [List.flatten_eq_nil_iff];intro x hx;exact (List.mem_replicate.1 hx).2
 rw [this,List.append_nil]
theorem NM (L:AJ) (n:Nat) (r:List BL) : ∃ p q,L.2.flatten=p++(As L.2 n++q)/\(Cd L n r).2.flatten=p++(r++q):=by
 have hn:n<(In L.2 n).length:=by rw [J6];omega
 refine ⟨((In L.2 n).take n).flatten,((In L.2 n).drop (n+1)).flatten,?_,?_⟩
 ·rw [<- TT L.2 n n,<- aV L.2 n]
  have:In L.2 n=(In L.2 n).take n++((In L.2 n)[n]::(In L.2 n).drop (n+1)):=by
   rw [<- List.drop_eq_getElem_cons hn,List.take_append_drop]
  have h2:As (In L.2 n) n=(In L.2 n)[n]:=by unfold As;rw [List.getElem?_eq_getElem hn];rfl
  rw [h2]
  conv=>lhs;rw [this]
  rw [List.flatten_append,List.flatten_cons]
 ·show (Hm (Fj L.2 n r)).flatten=_;rw [Xs];unfold Fj;rw [List.set_eq_take_append_cons_drop,if_pos hn,List.flatten_append,List.flatten_cons]
theorem VLev.own {L:AJ} (v:VLev L) (i:Nat):(As L.2 i).length<=2 /\ ∀ r∈As L.2 i,VR (CH L.1 i) r:=by
 unfold As;cases h:L.2[i]? with
 | none=>exact ⟨by simp,λr hr=>by cases hr⟩
 | some rs=>exact v.lev i rs h
theorem VLev.with' {L:AJ} (v:VLev L) {n:Nat} (hn:n<12) {r:List BL} (hl:r.length<=2) (hr : ∀ x∈r,VR (CH L.1 n) x) (hid:((Cd L n r).2.flatten.map iM).Nodup):VLev (Cd L n r):=by
 refine ⟨v.B1,v.B2,?_,λi rs hi => ?_,hid,U7 L n r⟩
 ·have:=Xr L n r;have:=v.len;omega
 ·have h1:=Fs L n i r;unfold As at h1;rw [hi] at h1;simp only [Option.getD_some] at h1;rw [h1];split
  ·rename_i he;rw [he];exact ⟨hl,hr⟩
  ·exact v.own i
theorem VLev.leave {L:AJ} (v:VLev L) {n:Nat} (hn:n<12):VLev (Cd L n []):=by
 refine v.with' hn (by simp) (λ_ h=>by cases h) ?_
 obtain ⟨p,q,h1,h2⟩:=NM L n [];have:=v.ids;rw [h1] at this;rw [h2,List.nil_append];refine List.Sublist.nodup (List.Sublist.map _ ?_) this;exact List.Sublist.append (List.Sublist.refl _) (List.sublist_append_right _ _)
theorem VLev.arrive {L:AJ} (v:VLev L) {n:Nat} (hn:n<12) {x:BL} (hl:(As L.2 n).length<2) (hx:VR (CH L.1 n) x) (hid : ∀ y∈L.2.flatten,y.1≠x.1):VLev (Cd L n (As L.2 n++[x])):=by
 refine v.with' hn (by simp;omega) (λy hy => ?_) ?_
 ·rcases List.mem_append.1 hy with hy | hy
  ·exact (v.own n).2 y hy
  ·rw [List.mem_singleton.1 hy];exact hx
 ·obtain ⟨p,q,h1,h2⟩:=NM L n (As L.2 n++[x])
  have hp:(Cd L n (As L.2 n++[x])).2.flatten.Perm (x::L.2.flatten):=by
   rw [h1,h2,List.append_assoc];refine List.Perm.trans ?_ (List.perm_middle (l₁:=p++As L.2 n) (l₂:=q) (a:=x) |>.trans (by rw [List.append_assoc]));rw [List.append_assoc];exact List.Perm.refl _
  refine (hp.map iM).nodup_iff.2 (List.nodup_cons.2 ⟨λhm => ?_,v.ids⟩);obtain ⟨y,hy,e⟩:=List.mem_map.1 hm;exact hid y hy e
theorem TV {l:List (List BL)} {x:BL}:x∈l.flatten <-> ∃ i,x∈As l i:=by
 rw [List.mem_flatten];constructor
 ·rintro ⟨rs,h1,h2⟩;obtain ⟨i,hi⟩:=List.getElem?_of_mem h1;exact ⟨i,by unfold As;rw [hi];exact h2⟩
 ·rintro ⟨i,h⟩;unfold As at h;cases hi:l[i]? with
  | none=>rw [hi] at h;cases h
  | some rs=>rw [hi] at h;exact ⟨rs,List.mem_of_getElem? hi,h⟩
theorem MU {l:List (List BL)} {x:BL} (h:x∈l.flatten):x.1<=E3 l:=by
 have one : ∀ (rs:List BL) (m:Int),m<=rs.foldl (λm r=>KP m r.1) m /\ ∀ x∈rs,x.1<=rs.foldl (λm r=>KP m r.1) m:=by
  intro rs
  induction rs with
  | nil=>intro m;exact ⟨by simp,λx hx=>by cases hx⟩
  | cons r rs ih =>
   intro m;obtain ⟨h1,h2⟩:=ih (KP m r.1);rw [GM] at h1 h2;simp only [List.foldl_cons,GM] at h1 h2 ⊢;refine ⟨by omega,λx hx => ?_⟩;rcases List.mem_cons.1 hx with e | hx
   ·rw [e];omega
   ·exact h2 x hx
 have two : ∀ (ls:List (List BL)) (m:Int),m<=ls.foldl (λm rs=>rs.foldl (λm r=>KP m r.1) m) m /\ ∀ rs∈ls,∀ x∈rs,x.1<=ls.foldl (λm rs=>rs.foldl (λm r=>KP m r.1) m) m:=by
  intro ls
  induction ls with
  | nil=>intro m;exact ⟨by simp,λx hx=>by cases hx⟩
  | cons rs ls ih =>
   intro m;obtain ⟨h1,h2⟩:=ih (rs.foldl (λm r=>KP m r.1) m);obtain ⟨k1,k2⟩:=one rs m;simp only [List.foldl_cons];refine ⟨by omega,λrs' hrs x hx => ?_⟩;rcases List.mem_cons.1 hrs with e | hrs
   ·subst e;have:=k2 x hx;omega
   ·exact h2 rs' hrs x hx
 obtain ⟨rs,h1,h2⟩:=List.mem_flatten.1 h;exact (two l 0).2 rs h1 x h2
end Go.Proofs.YthpkjfabdccpdaaGreat.Pl
namespace Go.Proofs.YthpkjfabdccpdaaGreat.Pl
open Go Go.Proofs.YthpkjfabdccpdaaGreat.Sv
theorem Qd {M:List (List BL)} {f:Int->Option (LR Int (Nat×(Int×Unit)))} (h0:f 0=some (.dn (0,(0,())))) (hs : ∀ k,k<M.length->f ((k+1:Nat):Int)=if As M k=[] then some (.nx (k:Int)) else some (.dn (0,(((k+1:Nat):Int),())))) : ∀ k,k<=M.length->Dk (k+1) f (k:Int)=some (0,((JH M k:Nat):Int),())
 | 0,_=>BN h0
 | k+1,hk=>by
  have h:=hs k (by omega);unfold JH;by_cases he:As M k=[]
  ·rw [if_pos he] at h ⊢;rw [BF h];exact Qd h0 hs k (by omega)
  ·rw [if_neg he] at h ⊢;exact BN h
theorem i7 (L:List (List BL)) (n:Nat):Je (Dh (max L.length (n+1)) ([]:List BL)) 0 L (AA (Dh (max L.length (n+1)) ([]:List BL)))=In L n:=by
 have h1:AA (Dh (max L.length (n+1)) ([]:List BL))=max L.length (n+1):=by unfold AA Dh;simp
 rw [h1];unfold Je In Dh;rw [List.take_of_length_le (by omega:L.length<=max L.length (n+1))];simp only [List.take_zero,List.nil_append,List.drop_replicate,Nat.zero_add]
 congr 2
 omega
theorem aW (l:List (List BL)) (n:Nat) (r:List BL):lset (In l n) n r=Fj l n r:=rfl
theorem E7 {l:List (List BL)} {i:Nat} (h:i<l.length):l[i]? = some (As l i):=by
 unfold As;rw [List.getElem?_eq_getElem h];rfl
theorem Ry {β:Type} (l:List BL) (x y:Unit->Option β):br (BP (l.length:Int) 0) x y=if l=[] then x () else y ():=by
 rw [Bc];by_cases h:l=[]
 ·rw [if_pos h,if_pos (by rw [h];rfl)]
 ·rw [if_neg h,if_neg (by have:=List.length_pos_iff.2 h;omega)]
theorem NN {L:AJ} (h1:L.2.length<=1000) {n:Nat} (hn:n<1000) (r:List BL):Dd (L,((n:Int),r))=some (Cd L n r):=by
 have hk:KP (AY (AA L.2)) (AI .i64 (n:Int) 1)=((max L.2.length (n+1):Nat):Int):=by
  rw [Ac (by omega),GM,AW,AP];omega
 unfold Dd;simp only [hk,AE,i7,aW];have hp:(In L.2 n).length=max L.2.length (n+1):=J6 _ _;have hr:(Fj L.2 n r).length=max L.2.length (n+1):=by unfold Fj;rw [List.length_set,hp]
 rw [Bl (by omega),Jx,if_pos (by rw [AP,hp];omega),AK (E7 (by omega))]
 have hlo:=Qd (M:=Fj L.2 n r) (f:=λs4=>br (B8 s4 0) (λ_=>AS (CE .i64 s4 1) λk5=>gd (Df k5 (AA (Fj L.2 n r))) λ_=>ix (Fj L.2 n r) k5 λx6=>br (BP (AY (AA x6)) 0) (λ_=>some (.nx (CE .i64 s4 1))) λ_=>some (.dn ((0,(s4,()))))) λ_=>some (.dn ((0,(s4,()))))) rfl (λk hk=>by
  have hi:CE .i64 ((k+1:Nat):Int) 1=(k:Int):=by rw [CF (by omega)];omega
  simp only [hi,AE];rw [Ao,if_pos (by omega),Jx,if_pos (by rw [AP];omega),AK (E7 hk)]
  exact Ry _ _ _) _ (Nat.le_refl _)
 rw [AW,show AA (Fj L.2 n r)=(Fj L.2 n r).length from rfl];refine BC (CT (by omega) hlo) ?_;have hd:=Rx (Fj L.2 n r) (Fj L.2 n r).length;simp only [AE];rw [Bl hd,Uk,if_pos (by omega),iw,if_pos (by omega),Uk,if_pos (by unfold Ar RB;omega)];unfold Cd Hm ER Ar RB;simp
end Go.Proofs.YthpkjfabdccpdaaGreat.Pl
namespace Go.Proofs.YthpkjfabdccpdaaGreat.Pl
open Go Go.Proofs.YthpkjfabdccpdaaGreat.Sv
def Xt (d:Int) (j:Job):Bool:=BP d j.1
def FB (js:List Job) (d:Int):Option Job:=js.find? (Xt d)
def MV (js:List Job):List (Int×Job):=js.map λj=>(j.1,j)
def zJ:Job:=(0,(([],([],([],([],0)))),((false,([],false)),([],0))))
def GS (L:AJ) (d:Int):Job:=match As L.2 d.toNat with
 | [r0,r1]=>(d,Dg r1.2 r0.2 (decide (d=(L.2.length:Int)-1)) 0)
 | _=>zJ
def G4 (s:AT) (L:AJ) (ended d:Int):Job:=(if d=ended then none else FB s.2.1 d).getD (GS L d)
def Qe (s:AT) (L:AJ) (next ended:Int):AT:=(L,((Az 0 L.2).map (G4 s L ended),next))
theorem Qf (d:Int) : ∀ js:List Job,IV (λa b=>BP a b) (MV js) d=FB js d
 | []=>rfl
 | j::js=>by
  show (bif BP d j.1 then some j else IV (λa b=>BP a b) (MV js) d)=(j::js).find? (Xt d)
  rw [List.find?_cons,Qf d js];show _=match BP d j.1 with | true=>some j | false=>FB js d
  cases BP d j.1<;>rfl
theorem Qg {j:Job} : ∀ {js:List Job},j.1 ∉ js.map (·.1)->Hn (λa b=>BP a b) (MV js) j.1 j=MV (js++[j])
 | [],_=>rfl
 | i::js,h=>by
  show (bif BP j.1 i.1 then (j.1,j)::MV js else (i.1,i)::Hn (λa b=>BP a b) (MV js) j.1 j)=(i.1,i)::MV (js++[j])
  have h1:BP j.1 i.1=false:=by rw [Ej];simp;intro e;exact h (by simp [e])
  rw [h1,cond_false,Qg (λhm=>h (by simp at hm ⊢;exact .inr hm))]
theorem PH {js:List Job} {d:Int} (h:d ∉ js.map (·.1)):FB js d=none:=by
 unfold FB;rw [List.find?_eq_none];intro j hj;unfold Xt;rw [Ej];simp only [decide_eq_true_eq];intro e;exact h (by rw [e];exact List.mem_map_of_mem hj)
theorem Qh {x d:Int} : ∀ {js:List Job},(js.map (·.1)).Nodup->IV (λa b=>BP a b) (JU (λa b=>BP a b) (MV js) x) d=if d=x then none else FB js d
 | [],_=>by split<;>rfl
 | j::js,h=>by
  rw [List.map_cons,List.nodup_cons] at h;show IV (λa b=>BP a b) (bif BP x j.1 then MV js else (j.1,j)::JU (λa b=>BP a b) (MV js) x) d=_
  have hf:FB (j::js) d=if d=j.1 then some j else FB js d:=by
   unfold FB;rw [List.find?_cons];unfold Xt;rw [Ej];by_cases e:d=j.1<;>simp [e]
  rw [Ej,hf];by_cases hx:x=j.1
  ·rw [show decide (x=j.1)=true by simp [hx],cond_true,Qf];by_cases hd:d=x
   ·rw [if_pos hd];exact PH (by rw [hd,hx];exact h.1)
   ·rw [if_neg hd,if_neg (by rw [<- hx];exact hd)]
  ·rw [show decide (x=j.1)=false by simp [hx],cond_false];show (bif BP d j.1 then some j else IV (λa b=>BP a b) (JU (λa b=>BP a b) (MV js) x) d)=_
   rw [Qh h.2,Ej];by_cases hd:d=j.1
   ·rw [show decide (d=j.1)=true by simp [hd],cond_true,if_pos hd,if_neg (by rw [hd];exact λe=>hx e.symm)]
   ·rw [show decide (d=j.1)=false by simp [hd],cond_false,if_neg hd]
theorem VR.vl' {L:AJ} (v:VLev L) {n:Nat} {r:BL} (h:r∈As L.2 n):VL r.2:=((v.own n).2 r h).vl
theorem Xu (L:AJ) (hl:L.2.length<=1000) (n:Nat):Cu (L,(n:Int))=some (decide ((n:Int)=(L.2.length:Int)-1)):=by
 unfold Cu;simp only [AW,AP];rw [CF (by omega),Ej]
theorem aX {L:AJ} (v:VLev L) {n:Nat} (h:(As L.2 n).length=2):GP (L,(n:Int))=some (GS L n,0):=by
 have hn:n<L.2.length:=by
  by_cases h0:n<L.2.length
  ·exact h0
  ·unfold As at h;rw [List.getElem?_eq_none (by omega)] at h;cases h
 have hl:=v.len;obtain ⟨hb,hr⟩:=v.small;unfold GP;simp only [AW,AP];rw [LW _ hb hr,GF v,AB,AN,if_pos rfl,BB,if_neg (by omega),Dz,if_neg (by omega),Dz,if_neg (by omega),AE,AK (E7 hn),BB,if_neg (by omega),Xu L (by omega) n,AB]
 obtain ⟨r0,r1,hrr⟩ : ∃ r0 r1,As L.2 n=[r0,r1]:=by
  match hq:As L.2 n with
  | [r0,r1]=>exact ⟨r0,r1,rfl⟩
  | []=>rw [hq] at h;cases h
  | [_]=>rw [hq] at h;cases h
  | _::_::_::_=>rw [hq] at h;simp at h
 rw [TI _ (by rw [E7 hn,hrr]) (VR.vl' v (n:=n) (by rw [hrr];simp)) (VR.vl' v (n:=n) (by rw [hrr];simp)),AB];unfold GS;rw [Int.toNat_natCast,hrr]
theorem PI (i:Nat) (rs:List BL) (ls:List (List BL)):Az i (rs::ls)=(if rs.length=2 then [(i:Int)] else [])++Az (i+1) ls:=rfl
theorem Nk {s:AT} (hj:(s.2.1.map (·.1)).Nodup) (hl:s.2.1.length<=1000) {L:AJ} (v:VLev L) (next ended:Int):A9 (s,(L,(next,ended)))=some (Qe s L next ended,0):=by
 have hv:=v.len;unfold A9;simp only [AW,AP]
 rw [DL (l:=s.2.1) (σ:=List (Int×Job)) (s:=((0:Int),([]:List (Int×Job)))) (λi m=>((i:Int),m)) (λls i m => ∃ p,s.2.1=p++ls/\m=MV p) (λ_ _ _=>(0,(((s.2.1.length:Int),MV s.2.1),()))) [] rfl (by omega) ⟨[],rfl,rfl⟩ (λm h=>by
  obtain ⟨p,h1,rfl⟩:=h
  simp only;rw [re,Al,h1,List.append_nil]) (λi x ls m hd hx hi h=>by
   obtain ⟨p,h1,rfl⟩:=h;refine ⟨MV (p++[x]),?_,⟨p++[x],by rw [h1];simp,rfl⟩,rfl⟩;simp only;rw [rl hi,AR,AE,AK hx,Au hx (by omega),Qg];intro hm;rw [h1,List.map_append,List.nodup_append] at hj
   exact hj.2.2 _ hm x.1 (by simp) rfl),AB]
 simp only
 rw [DL (l:=L.2) (σ:=List Job) (s:=((0:Int),((0:Int),(((0:Int),(([]:List (List BL)),(([]:List Job),(0:Int)))),(L.1,(L.2,(([]:List Job),next))))))) (λi js=>((0:Int),((i:Int),(((0:Int),(([]:List (List BL)),(([]:List Job),(0:Int)))),(L.1,(L.2,(js,next))))))) (λls i js=>js++(Az i ls).map (G4 s L ended)=(Az 0 L.2).map (G4 s L ended)) (λ_ _ _=>(0,(((0:Int),((L.2.length:Int),(((0:Int),(([]:List (List BL)),(([]:List Job),(0:Int)))),(L.1,(L.2,((Az 0 L.2).map (G4 s L ended),next)))))),()))) [] rfl (by omega) rfl (λm h=>by
  simp only;rw [re,Al,<- h];simp [Az]) (λi rs ls m hd hx hi h=>by
   have ho:As L.2 i=rs:=by unfold As;rw [hx];rfl
   have h2:=(v.own i).1;rw [ho] at h2;refine ⟨m++(if rs.length=2 then [G4 s L ended i] else []),?_,?_,rfl⟩
   ·simp only;rw [rl hi,AR,AE,AK hx,BB]
    have hm:m.length<=1000:=by
     have h4:=congrArg List.length h;have h5:=Fo L.2 0;rw [List.length_append,List.length_map,List.length_map] at h4;omega
    by_cases h4:rs.length=2;rotate_left
    ·rw [if_pos (by omega),if_neg h4,List.append_nil,Au hx (by omega)]
    rw [if_neg (by omega),if_pos h4,Qh hj];have hn:G4 s L ended i=(if (i:Int)=ended then none else FB s.2.1 i).getD (GS L i):=rfl
    cases hq:(if (i:Int)=ended then none else FB s.2.1 (i:Int)) with
    | none =>
     rw [hq,Option.getD_none] at hn;rw [hn,aX v (by rw [ho];exact h4),BW,FG,if_neg (show ¬ jT (none:Option Job)=true by simp [jT]),AB];simp only;rw [AN,if_pos rfl,Bl (by simp only [Ar,List.length_cons,List.length_nil];omega),Au hx (by omega)];rfl
    | some j =>
     rw [hq,Option.getD_some] at hn;rw [hn,BW,FG,if_pos (show jT (some j)=true from rfl),Bl (by simp only [Ar,List.length_cons,List.length_nil];omega),Au hx (by omega)];rfl
   ·rw [List.append_assoc,<- h,PI,List.map_append]
    congr 2
    split<;>rfl),AB]
 rfl
end Go.Proofs.YthpkjfabdccpdaaGreat.Pl
namespace Go.Proofs.YthpkjfabdccpdaaGreat.Pl
open Go Go.Proofs.YthpkjfabdccpdaaGreat.Sv
def pS (s:B4):Option MK:=if s.1=true then some s.2.1 else none
theorem Asc.weak : ∀ {l:List AD} {p p':Option MK},(∀ q',p'=some q' -> ∃ q,p=some q/\DC q q'=false)->Asc p l->Asc p' l
 | [],_,_,_,_=>trivial
 | x::l,p,p',h,⟨h1,h2⟩=>⟨λq' hq'=>by
  obtain ⟨q,e,hq⟩:=h q' hq';have h3:=h1 q e;by_cases he:q'=q
  ·rw [he];exact h3
  ·exact Ig (Rn hq (λe=>he e.symm)) h3,h2⟩
theorem TW : ∀ (l:List AD) (s:B4),O1 s l->Asc (pS s) (FM s l)
 | [],_,_=>trivial
 | x::l,s,⟨_,h2,h3⟩=>by
  have ih:=TW l _ h3;have ih':Asc (some x.1) (FM (true,(x.1,s.2.2)) l):=ih;unfold FM;by_cases hk:keep s x=true
  ·rw [if_pos hk];refine ⟨λq hq => ?_,ih'⟩;unfold pS at hq;by_cases h1:s.1=true
   ·rw [if_pos h1] at hq;cases hq;refine Rn (h2 h1) λe => ?_;unfold keep at hk;rw [h1,e] at hk;simp at hk
   ·rw [if_neg h1] at hq;cases hq
  ·rw [if_neg hk,List.nil_append];refine ih'.weak λq' hq'=>⟨x.1,rfl,?_⟩;unfold pS at hq';by_cases h1:s.1=true
   ·rw [if_pos h1] at hq';cases hq';exact h2 h1
   ·rw [if_neg h1] at hq';cases hq'
theorem TX : ∀ {l:List AD} {s:B4} {x:AD},x∈FM s l->x∈l
 | y::l,s,x,h=>by
  unfold FM at h;rcases List.mem_append.1 h with h | h
  ·split at h
   ·rw [List.mem_singleton.1 h];simp
   ·cases h
  ·exact List.mem_cons_of_mem _ (TX h)
theorem Wo : ∀ {l:List AD} {s:B4},O1 s l -> ∀ x∈l,kE x=0
 | y::l,s,⟨h1,_,h3⟩,x,h=>by
  rcases List.mem_cons.1 h with e | h
  ·rw [e];exact h1
  ·exact Wo h3 x h
theorem i8 {a b:List AD} (va:VL a) (vb:VL b) (bt:Bool) {k:Nat} (hk:k<=a.length+b.length) (hl:a.length+b.length<=5000):VL (Dg a b bt k).2.2.1/\(Dg a b bt k).2.2.1.length<=a.length+b.length:=by
 have hr:=Hg va vb bt hk
 have h1:(FM (s0 bt) (A1 a b k)).length<=k:=by
  have:=Ii (s0 bt) (A1 a b k);rw [Ch va vb hk] at this;exact this
 have h2:(Dg a b bt k).2.2.1=FM (s0 bt) (A1 a b k):=rfl;rw [h2];exact ⟨⟨by omega,λx hx=>Wo hr x (TX hx),TW _ _ hr⟩,by omega⟩
theorem U8 {L:AJ} (v:VLev L) {n:Nat} (h:As L.2 n≠[]):C5 (L,(n:Int))=some (Cd L n [],(As L.2 n,0)):=by
 have hn:n<L.2.length:=by
  by_cases h0:n<L.2.length
  ·exact h0
  ·unfold As at h;rw [List.getElem?_eq_none (by omega)] at h;exact absurd rfl h
 have hv:=v.len;have h2:=(v.own n).1;unfold C5;simp only [AW,AP];rw [Rw v,AB,if_neg (by omega),AN,if_pos rfl,BB,if_pos (by omega),AE,AK (E7 hn),Ry,if_neg h,NN (by omega) (by omega),AB,Bl (by omega)]
theorem Xv {S β:Type} {f:S->Option (LR S β)} {r:β} (mk:Int->S) (n:Nat) {s:S} (h0:s=mk ((n:Int)-1)) (hn:n<1000000) (hs : ∀ k,k<n->f (mk (k:Int))=some (.nx (mk ((k:Int)-1)))) (he:f (mk (-1))=some (.dn r)):loop f s=some r:=by
 subst h0
 have main : ∀ k,k<=n->Dk (k+1) f (mk ((k:Int)-1))=some r:=by
  intro k
  induction k with
  | zero=>intro _;exact BN he
  | succ k ih =>
   intro hk;have:=hs k (by omega);rw [show ((k+1:Nat):Int)-1=(k:Int) by omega,BF this];exact ih (by omega)
 exact CT (by omega) (main n (Nat.le_refl _))
theorem TY {L:AJ} (v:VLev L) {n:Nat} (hn:n<12) {x:BL} (hx:x.2.length<=1048576) (hid : ∀ y∈L.2.flatten,y.1≠x.1) (hl:(As L.2 n).length<2) :
  BT (L,((n:Int),x))=some (if kR [] (CH L.1 n) x≠0 then ((0,[]),kR [] (CH L.1 n) x) else (Cd L n (As L.2 n++[x]),0)):=by
 have hv:=v.len;unfold BT;simp only [AW,AP];rw [Rw v,AB,if_neg (by omega),AN,if_pos rfl,NI v.B1 v.B2 (by omega),QV x _ (by omega),show G5 (n:Int) 0=true by unfold G5;simp];rw [gl,AB,AN];by_cases hk:kR [] (CH L.1 n) x=0;rotate_left
 ·rw [if_neg hk,if_pos hk]
 rw [if_pos hk,if_neg (by simp [hk])]
 rw [DL (l:=L.2) (σ:=Unit) (s:=((0:Int),(((0:Int),([]:List (List BL))),(0:Int)))) (λi _=>((i:Int),(((0:Int),([]:List (List BL))),(0:Int)))) (λ_ _ _=>True) (λ_ _ _=>(0,(((L.2.length:Int),(((0:Int),([]:List (List BL))),(0:Int))),()))) () rfl (by omega) trivial (λ_ _=>by
  simp only;rw [re];rfl) (λi rs ls _ hd hi hlt _=>by
   refine ⟨(),?_,trivial,rfl⟩;have ho:As L.2 i=rs:=by unfold As;rw [hi];rfl
   have h2:=(v.own i).1;rw [ho] at h2;simp only;rw [rl hlt,AR,AE,AK hi,CF (by omega)]
   rw [Xv (λk=>(k,(((0:Int),([]:List (List BL))),(0:Int)))) rs.length rfl (by omega) (λk hk=>by
    have hg:rs[k]? = some rs[k]:=List.getElem?_eq_getElem hk;have hne:rs[k].1≠x.1:=hid _ (List.mem_flatten.2 ⟨rs,List.mem_of_getElem? hi,List.getElem_mem hk⟩);simp only
    rw [Dz,if_pos (by omega),AE,AK hg,Bc,if_neg hne,CF (by omega)]) (r:=(0,(((-1:Int),(((0:Int),([]:List (List BL))),(0:Int))),()))) rfl,AB]
   rw [Au hi (by omega)]
   rfl),AB]
 rw [CX,if_pos rfl,BB];by_cases h3:n<L.2.length
 ·rw [if_pos (by omega),AE,AK (E7 h3),Bc,if_neg (by omega),AE,AE,Bl (Nat.le_refl _),iy,if_pos rfl,Bl (Nat.zero_le _)];have hs:ER (As L.2 n) 0 (As L.2 n).length=As L.2 n:=by unfold ER;simp
  rw [hs,Bl (by simp only [Ar,List.length_cons,List.length_nil];omega),NN (by omega) (by omega),AB];rfl
 ·rw [if_neg (by omega)];have ho:As L.2 n=[]:=by unfold As;rw [List.getElem?_eq_none (by omega)];rfl
  rw [Bl (by simp),NN (by omega) (by omega),AB,ho];rfl
end Go.Proofs.YthpkjfabdccpdaaGreat.Pl
namespace Go.Proofs.YthpkjfabdccpdaaGreat.Pl
open Go Go.Proofs.YthpkjfabdccpdaaGreat.Sv
def zS:AT:=((0,[]),([],0))
def Dv (j:Job):List AD:=j.2.2.2.1
def NO (s:AT) (j:Job):Nat:=if ES s.1 j=true then j.1.toNat else j.1.toNat+1
def JI (s:AT) (j:Job):AJ:=if Dv j=[] then Cd s.1 j.1.toNat [] else Cd (Cd s.1 j.1.toNat []) (NO s j) (As (Cd s.1 j.1.toNat []).2 (NO s j)++[(s.2.2,Dv j)])
def Kh (s:AT) (j:Job):Int:=if Dv j=[] then s.2.2 else s.2.2+1
def JR (s:AT) (j:Job):AT×Int :=
 if 0<BX s.1 j\/II s.1 j=false then (zS,9) else if s.2.2>1000000/\Dv j≠[] then (zS,5) else (Qe s (JI s j) (Kh s j) j.1,0)
theorem Qi : ∀ (ls:List (List BL)) (i:Nat),(Az i ls).Nodup /\ ∀ d∈Az i ls,(i:Int)<=d
 | [],_=>⟨.nil,λ_ h=>by cases h⟩
 | rs::ls,i=>by
  obtain ⟨h1,h2⟩:=Qi ls (i+1);rw [PI];by_cases h:rs.length=2
  ·rw [if_pos h];refine ⟨List.nodup_cons.2 ⟨λhm => ?_,h1⟩,λd hd => ?_⟩
   ·have:=h2 _ hm;omega
   ·rcases List.mem_cons.1 hd with e | hd
    ·omega
    ·have:=h2 d hd;omega
  ·rw [if_neg h];exact ⟨h1,λd hd=>by have:=h2 d hd;omega⟩
theorem VSt.nodup {s:AT} (v:VSt s):(s.2.1.map (·.1)).Nodup:=by rw [v.due];exact (Qi _ _).1
theorem JobAt.out {L:AJ} {n:Nat} {j:Job} (ha:JobAt L n j) (v:VLev L) (hs:(∀ r∈As L.2 n,r.2.length<=2000)):VL (Dv j)/\((Dv j).length:Int)<=2*CH L.1 n/\j.1=(n:Int)/\n<12/\As L.2 n≠[]:=by
 obtain ⟨r0,r1,bt,k,h1,rfl,hk,_,v0,v1⟩:=ha;have ho:As L.2 n=[r0,r1]:=by unfold As;rw [h1];rfl
 have l0:=hs r0 (by rw [ho];simp);have l1:=hs r1 (by rw [ho];simp);have m0:=((v.own n).2 r0 (by rw [ho];simp)).le;have m1:=((v.own n).2 r1 (by rw [ho];simp)).le;obtain ⟨h2,h3⟩:=i8 v1 v0 bt hk (by omega);have hn:=(List.getElem?_eq_some_iff.1 h1).1;have hv:=v.len;refine ⟨h2,?_,rfl,by omega,by rw [ho];simp⟩
 have h4:((Dv ((n:Int),Dg r1.2 r0.2 bt k)).length:Int)<=(r1.2.length:Int)+(r0.2.length:Int):=by
  have:(Dv ((n:Int),Dg r1.2 r0.2 bt k)).length<=r1.2.length+r0.2.length:=h3;omega
 omega
def Yr (L:AJ):Prop := ∀ i,∀ r∈As L.2 i,r.2.length<=2000
structure InstF (s:AT) (n:Nat) (j:Job):Prop where
 l1:VLev (Cd s.1 n [])
 to12:Dv j≠[]->NO s j<12
 vr:Dv j≠[]->VR (CH s.1.1 (NO s j)) (s.2.2,Dv j)
 id : ∀ y∈(Cd s.1 n []).2.flatten,y.1≠s.2.2
 room:Dv j≠[]->(As (Cd s.1 n []).2 (NO s j)).length<2
 lev:VLev (JI s j)
theorem aY {s:AT} (v:VSt s) (hf:Yr s.1) {n:Nat} {j:Job} (ha:JobAt s.1 n j) (h0 : ¬ 0<BX s.1 j) (hc:II s.1 j=true) (h5:Dv j≠[]->s.2.2<=1000000):InstF s n j:=by
 obtain ⟨o1,o2,o3,o4,o5⟩:=ha.out v.lev (hf n);have hl1:=v.lev.leave (n:=n) o4;have hj:j.1.toNat=n:=by rw [o3];simp
 have hroom:ES s.1 j≠true->n+1<12/\(As s.1.2 (n+1)).length<2:=λhs=>by
  unfold II at hc;rw [show decide (0<BX s.1 j)=false by simp;omega,hj] at hc;cases hq:ES s.1 j with
  | true=>exact absurd hq hs
  | false =>
   rw [hq] at hc;simpa [MS,As] using hc
 have hid : ∀ y∈(Cd s.1 n []).2.flatten,y.1≠s.2.2:=λy hy=>by
  obtain ⟨p,q,h1,h2⟩:=NM s.1 n [];rw [h2,List.nil_append] at hy
  have hm:y∈s.1.2.flatten:=by
   rw [h1];rcases List.mem_append.1 hy with h | h
   ·exact List.mem_append_left _ h
   ·exact List.mem_append_right _ (List.mem_append_right _ h)
  have:=MU hm;have:=v.n3;omega
 have hto:NO s j<12/\(As (Cd s.1 n []).2 (NO s j)).length<2/\((Dv j).length:Int)<=CH s.1.1 (NO s j):=by
  unfold NO;by_cases hs:ES s.1 j=true
  ·rw [if_pos hs,hj];refine ⟨o4,by rw [Fs,if_pos rfl];simp,?_⟩;have hs':=hs;unfold ES at hs';rw [hj] at hs';exact of_decide_eq_true hs'
  ·rw [if_neg hs,hj];obtain ⟨h1,h2⟩:=hroom hs;refine ⟨h1,by rw [Fs,if_neg (by omega)];exact h2,?_⟩;rw [QX];exact o2
 obtain ⟨t1,t2,t3⟩:=hto;have hvr:Dv j≠[]->VR (CH s.1.1 (NO s j)) (s.2.2,Dv j):=λhne=>⟨v.n1,h5 hne,o1,hne,t3⟩;refine ⟨hl1,λ_=>t1,hvr,hid,λ_=>t2,?_⟩;unfold JI;rw [hj];by_cases ho:Dv j=[]
 ·rw [if_pos ho];exact hl1
 ·rw [if_neg ho];exact hl1.arrive t1 t2 (hvr ho) hid
theorem Qj {s:AT} (v:VSt s) (hf:Yr s.1) {n:Nat} {j:Job} (ha:JobAt s.1 n j) (h0 : ¬ 0<BX s.1 j) (hc:II s.1 j=true) (h5:Dv j≠[]->s.2.2<=1000000) (l:Int) :
  (bd (C5 (s.1,(n:Int))) λr3=>br (BP r3.2.2 0) (λ_=>br (B8 (AY (AA j.2.2.2.1)) 0) (λ_=>bd (BK (s,(j,l))) λr4=>br (Ab r4) (λ_=>bd (BT ((r3.1,(AI .i64 (n:Int) 1,(s.2.2,j.2.2.2.1))))) λr5=>br (A7 r5.2 0) (λ_=>some ((((0,[]),([],0)),r5.2))) λ_=>bd (A9 ((s,(r5.1,(AI .i64 s.2.2 1,(n:Int)))))) λr6=>some r6) λ_=>bd (BT ((r3.1,((n:Int),(s.2.2,j.2.2.2.1))))) λr7=>br (A7 r7.2 0) (λ_=>some ((((0,[]),([],0)),r7.2))) λ_=>bd (A9 ((s,(r7.1,(AI .i64 s.2.2 1,(n:Int)))))) λr8=>some r8) λ_=>br (A7 r3.2.2 0) (λ_=>some ((((0,[]),([],0)),r3.2.2))) λ_=>bd (A9 ((s,(r3.1,(s.2.2,(n:Int)))))) λr9=>some r9) λ_=>br (A7 r3.2.2 0) (λ_=>some ((((0,[]),([],0)),r3.2.2))) λ_=>bd (A9 ((s,(r3.1,(s.2.2,(n:Int)))))) λr10=>some r10)
  = some (Qe s (JI s j) (Kh s j) j.1,0):=by
 have F:=aY v hf ha h0 hc h5;obtain ⟨o1,o2,o3,o4,o5⟩:=ha.out v.lev (hf n);have hj:j.1.toNat=n:=by rw [o3];simp
 have hn2:=v.n2;have hn1:=v.n1;have hjs:=v.jsmall;have hlev:=F.lev;rw [U8 v.lev o5,AB];show (br (BP 0 0) _ _)=_;rw [Bc,if_pos rfl,AW,AP,Ao];by_cases ho:Dv j=[]
 ·rw [if_neg (show ¬ ((j.2.2.2.1.length:Int)>0) by rw [show j.2.2.2.1=[] from ho];simp),AN,if_pos rfl];unfold JI at hlev ⊢;rw [if_pos ho,hj] at hlev;rw [if_pos ho,hj,Nk v.nodup (by omega) hlev,AB];unfold Kh;rw [if_pos ho,o3]
 ·rw [if_pos (show ((j.2.2.2.1.length:Int)>0) by have:=List.length_pos_iff.2 ho;have h:(Dv j).length=j.2.2.2.1.length:=rfl;omega),PF v.lev o3 o4,AB,BW];have hx:(Dv j).length<=1048576:=by have:=o1.len;omega
  have hk:kR [] (CH (Cd s.1 n []).1 (NO s j)) (s.2.2,Dv j)=0:=aG.2 ⟨F.vr ho,by simp⟩;have hA:=TY F.l1 (F.to12 ho) (x:=(s.2.2,Dv j)) hx F.id (F.room ho);rw [if_neg (by simp [hk])] at hA
  have hL:JI s j=Cd (Cd s.1 n []) (NO s j) (As (Cd s.1 n []).2 (NO s j)++[(s.2.2,Dv j)]):=by
   unfold JI;rw [if_neg ho,hj]
  have hN:Kh s j=s.2.2+1:=by unfold Kh;rw [if_neg ho]
  rw [<- hL] at hA;have hI:AI .i64 s.2.2 1=s.2.2+1:=D5 (by omega);have hW:=Nk v.nodup (by omega) hlev (s.2.2+1) (n:Int);rw [FG];have hto:NO s j=if ES s.1 j=true then n else n+1:=by unfold NO;rw [hj]
  by_cases hs:ES s.1 j=true
  ·rw [if_pos hs] at hto ⊢;rw [hto] at hA;have hA':BT (Cd s.1 n [],((n:Int),(s.2.2,j.2.2.2.1)))=some (JI s j,0):=hA;rw [hA',AB,AN,if_pos rfl,hI,hW,AB,hN,o3]
  ·rw [if_neg hs] at hto ⊢;rw [hto] at hA;rw [Ac (by omega)];have hA':BT (Cd s.1 n [],(((n+1:Nat):Int),(s.2.2,j.2.2.2.1)))=some (JI s j,0):=hA;rw [hA',AB,AN,if_pos rfl,hI,hW,AB,hN,o3]
theorem PJ {s:AT} (m:Sm s) (hf:Yr s.1) (level:Int):Ck (s,level)=some (Hl zS JR s level):=by
 unfold Ck;rw [Wl m,AB];unfold Hl;by_cases h0:(AV s).2=0;rotate_left
 ·rw [if_pos h0,AN,if_neg h0,if_pos h0];rfl
 rw [if_neg (show ¬ (AV s).2≠0 by simp [h0]),if_neg (show ¬ (AV s).2≠0 by simp [h0])];have v:=BY.1 h0;unfold U3;cases hq:MW level 0 (Az 0 s.1.2) with
 | none=>rfl
 | some i =>
  obtain ⟨j,n,hj,hl,hjn,ha,hn⟩:=v.at hq;have:=v.lev.len;subst hl;simp only [hj];unfold A2 JR;rw [AN,if_pos rfl,AB,Ao];by_cases h1:0<BX s.1 j
  ·rw [if_pos (show ((BX s.1 j:Int))>0 by omega),if_pos (.inl h1)];rfl
  rw [if_neg (show ¬ ((BX s.1 j:Int))>0 by omega),U4 v.lev hjn (by omega) _ rfl,AB,BW,FG];by_cases hc:II s.1 j=true;rotate_left
  ·rw [if_neg hc,if_pos (.inr (by simpa using hc))];rfl
  rw [if_pos hc,if_neg (show ¬ (0<BX s.1 j\/II s.1 j=false) by rw [hc];simp;omega),Ao];by_cases h2:s.2.2>1000000
  ·rw [if_pos h2,AW,AP,Ao];by_cases ho:Dv j=[]
   ·rw [if_neg (show ¬ ((j.2.2.2.1.length:Int)>0) by rw [show j.2.2.2.1=[] from ho];simp),if_neg (by simp [ho])];exact Qj v hf ha h1 hc (λh=>absurd ho h) _
   ·rw [if_pos (show ((j.2.2.2.1.length:Int)>0) by have:=List.length_pos_iff.2 ho;have h:(Dv j).length=j.2.2.2.1.length:=rfl;omega),if_pos ⟨h2,ho⟩];rfl
  ·rw [if_neg h2,if_neg (by simp [h2])];exact Qj v hf ha h1 hc (λh=>by omega) _
end Go.Proofs.YthpkjfabdccpdaaGreat.Pl
namespace Go.Proofs.YthpkjfabdccpdaaGreat.Pl
open Go Go.Proofs.YthpkjfabdccpdaaGreat.Sv
def Qk (L:AJ) (j:Job):H5:=match As L.2 j.1.toNat with
 | [r0,r1]=>Dg r1.2 r0.2 j.2.2.1.2.2 (j.2.2.2.2.toNat+1)
 | _=>j.2
def PK (s:AT) (j:Job):AT:=(s.1,(lset s.2.1 ((MW j.1 0 (Az 0 s.1.2)).getD 0) (j.1,Qk s.1 j),s.2.2))
theorem aZ {s:AT} (m:Sm s) (v:VSt s) {level:Int} {i:Nat} (hf:MW level 0 (Az 0 s.1.2)=some i) {j:Job} (hj:s.2.1[i]? = some j) (h0:0<BX s.1 j):G3 (s,(level,1))=some (PK s j,(1,0)):=by
 obtain ⟨j',n,hj',hl,hjn,ha,hn⟩:=v.at hf;rw [hj] at hj';cases hj';subst hl;have hz:(AV s).2=0:=BY.2 v
 have hfs:Il s (n:Int)=((i:Int),0):=by
  unfold Il;rw [if_neg (show ¬ (AV s).2≠0 by simp [hz]),hf]
 have hjs:=v.jsmall;have hi:=(List.getElem?_eq_some_iff.1 hj).1;unfold G3;rw [ot m,AB,AN,if_pos hz,BB,if_neg (show ¬ ((1:Int)<0) by omega),Wk m,AB,hfs,AN,if_pos rfl,AE,AK hj,(JobAt.left ha).1,AB,Bc,if_neg (show ¬ ((BX s.1 j:Int)=0) by omega),AE,AK hj];obtain ⟨r0,r1,bt,k,h1,rfl,hk,hb,v0,v1⟩:=ha;have ho:As s.1.2 n=[r0,r1]:=by unfold As;rw [h1];rfl
 have hle:BX s.1 ((n:Int),Dg r1.2 r0.2 bt k)=r1.2.length+r0.2.length-k:=by
  unfold BX;simp only [Int.toNat_natCast,h1];show r1.2.length+r0.2.length-((k:Int)).toNat=_;rw [Int.toNat_natCast]
 rw [hle] at h0;have hst:=QU v1 v0 bt hk (k:=1);rw [show min 1 (r1.2.length+r0.2.length-k)=1 by omega] at hst;show (bd (Bz (Dg r1.2 r0.2 bt k,((1:Nat):Int))) λr7=>_)=_;rw [hst,AB];simp only;rw [AN,if_pos rfl];unfold BV;rw [Bl (by simp only [AA];omega),AB,AE,Jx,if_pos (by simp only [AA];exact hi),AK hj];unfold PK Qk;simp only [Int.toNat_natCast,ho,hf,Option.getD_some];have e1:(Dg r1.2 r0.2 bt k).2.1.2.2=bt:=Rv _ _ _ _;have e2:(Dg r1.2 r0.2 bt k).2.2.2.toNat=k:=by show ((k:Int)).toNat=k;rw [Int.toNat_natCast]
 rw [e1,e2];rfl
def Wp (s:AT) (j:Job):AT×(Bool×Int):=if II s.1 j=false then (zS,(false,9)) else if 0<BX s.1 j then (PK s j,(false,0)) else ((JR s j).1,(BP (JR s j).2 0,(JR s j).2))
def PL (s:AT) (level:Int):AT×(Bool×Int):=if (AV s).2≠0 then (zS,(false,(AV s).2)) else match U3 s level with
 | some j=>Wp s j
 | none=>(zS,(false,4))
theorem gm {s:AT} (m:Sm s) (hf:Yr s.1) (level:Int):C6 (s,level)=some (PL s level):=by
 unfold C6;rw [Wl m,AB,PJ m hf];unfold Hl PL;by_cases h0:(AV s).2=0;rotate_left
 ·rw [if_pos h0,AN,if_neg h0,if_pos h0];rfl
 rw [if_neg (show ¬ (AV s).2≠0 by simp [h0]),if_neg (show ¬ (AV s).2≠0 by simp [h0]),if_neg (show ¬ (AV s).2≠0 by simp [h0])];have v:=BY.1 h0;unfold U3;cases hq:MW level 0 (Az 0 s.1.2) with
 | none=>rfl
 | some i =>
  obtain ⟨j,n,hj,hl,hjn,ha,hn⟩:=v.at hq;have:=v.lev.len;simp only [hj];unfold Wp A2;rw [AN,if_pos rfl,U4 v.lev hjn (by omega) _ rfl,AB,BW,FG];cases hc:II s.1 j with
  | false=>rw [if_neg (by simp),if_pos rfl];rfl
  | true =>
   rw [if_pos rfl,if_neg (by simp),AB,Ao];by_cases h1:0<BX s.1 j
   ·rw [if_pos (show ((BX s.1 j:Int))>0 by omega),if_pos h1,aZ m v hq hj h1];rfl
   ·rw [if_neg (show ¬ ((BX s.1 j:Int))>0 by omega),if_neg h1];rfl
end Go.Proofs.YthpkjfabdccpdaaGreat.Pl
namespace Go.Proofs.YthpkjfabdccpdaaGreat.Pl
open Go Go.Proofs.YthpkjfabdccpdaaGreat.Sv
theorem Wq {ls:List (List BL)} {d:Int} (h:d∈Az 0 ls) : ∃ (n:Nat) (r0 r1:BL),d=(n:Int)/\ls[n]? = some [r0,r1]:=by
 obtain ⟨k,hk⟩:=List.getElem?_of_mem h;obtain ⟨n,h1,r0,r1,h2⟩:=HQ hk;exact ⟨n,r0,r1,by rw [h1,Nat.zero_add],h2⟩
theorem TZ {l:List (List BL)} {n:Int} (h0:0<n) (h : ∀ x∈l.flatten,x.1<n):E3 l<n:=by
 have one : ∀ (rs:List BL) (m:Int),m<n->(∀ x∈rs,x.1<n)->rs.foldl (λm r=>KP m r.1) m<n:=by
  intro rs
  induction rs with
  | nil=>intro m hm _;exact hm
  | cons r rs ih =>
   intro m hm hr;rw [List.foldl_cons];refine ih _ ?_ λx hx=>hr x (by simp [hx]);rw [GM];have:=hr r (by simp);omega
 have two : ∀ (ls:List (List BL)) (m:Int),m<n->(∀ rs∈ls,∀ x∈rs,x.1<n)->ls.foldl (λm rs=>rs.foldl (λm r=>KP m r.1) m) m<n:=by
  intro ls
  induction ls with
  | nil=>intro m hm _;exact hm
  | cons rs ls ih =>
   intro m hm hr;rw [List.foldl_cons];exact ih _ (one rs m hm (hr rs (by simp))) λrs' hrs=>hr rs' (by simp [hrs])
 exact two l 0 h0 λrs hrs x hx=>h x (List.mem_flatten.2 ⟨rs,hrs,hx⟩)
theorem gn {l:List (List BL)} (hl:l.getLast? ≠ some []) {n:Nat} (h1:As l n≠[]) (h2 : ∀ i,n<i->As l i=[]):l.length=n+1:=by
 have h3:n<l.length:=by
  by_cases h:n<l.length
  ·exact h
  ·unfold As at h1;rw [List.getElem?_eq_none (by omega)] at h1;exact absurd rfl h1
 by_cases h4:l.length=n+1
 ·exact h4
 ·exfalso;have h5:=h2 (l.length-1) (by omega);refine hl ?_;rw [List.getLast?_eq_getElem?,E7 (by omega),h5]
theorem U9 {js:List Job} {d:Int} {j:Job} (h:FB js d=some j):j∈js/\j.1=d:=by
 unfold FB at h;have h1:=List.find?_some h;unfold Xt at h1;rw [Ej] at h1;exact ⟨List.mem_of_find?_eq_some h,(of_decide_eq_true h1).symm⟩
theorem aa {L:AJ} (v:VLev L) {n:Nat} {r0 r1:BL} (h:L.2[n]? = some [r0,r1]):JobAt L n (GS L (n:Int)):=by
 have ho:As L.2 n=[r0,r1]:=by unfold As;rw [h];rfl
 refine ⟨r0,r1,decide ((n:Int)=(L.2.length:Int)-1),0,h,?_,Nat.zero_le _,λhd => ?_,VR.vl' v (n:=n) (by rw [ho];simp),VR.vl' v (n:=n) (by rw [ho];simp)⟩
 ·unfold GS;rw [Int.toNat_natCast,ho]
 ·have:=of_decide_eq_true hd;have:=(List.getElem?_eq_some_iff.1 h).1;omega
theorem ab {s:AT} (v:VSt s) {L:AJ} (vL:VLev L) {next ended:Int} (h1:1<=next) (h2:next<=1000001) (h3 : ∀ x∈L.2.flatten,x.1<next)
  (hk : ∀ (n:Nat) (r0 r1:BL),s.1.2[n]? = some [r0,r1]->(n:Int)≠ended->(∃ q0 q1,L.2[n]? = some [q0,q1])->L.2[n]? = some [r0,r1]/\(n+1=s.1.2.length->n+1=L.2.length)):VSt (Qe s L next ended):=by
 have each : ∀ d∈Az 0 L.2,(G4 s L ended d).1=d /\ ∃ n,JobAt L n (G4 s L ended d):=λd hd=>by
  obtain ⟨n,q0,q1,rfl,hn⟩:=Wq hd;unfold G4;cases hq:(if (n:Int)=ended then none else FB s.2.1 (n:Int)) with
  | none =>
   rw [Option.getD_none];have hb:=aa vL hn;refine ⟨?_,n,hb⟩;obtain ⟨_,_,_,_,_,e,_⟩:=hb;rw [e]
  | some j =>
   rw [Option.getD_some];by_cases he:(n:Int)=ended
   ·rw [if_pos he] at hq;cases hq
   rw [if_neg he] at hq;obtain ⟨hj,hj1⟩:=U9 hq;refine ⟨hj1,n,?_⟩;obtain ⟨m,r0,r1,bt,k,a1,rfl,a3,a4,a5,a6⟩:=v.job j hj;have hm:m=n:=by have:(m:Int)=(n:Int):=hj1;omega
   subst hm;obtain ⟨b1,b2⟩:=hk m r0 r1 a1 he ⟨q0,q1,hn⟩;exact ⟨r0,r1,bt,k,b1,rfl,a3,λhb=>b2 (a4 hb),a5,a6⟩
 refine ⟨vL,h1,h2,TZ (by show 0<next;omega) h3,?_,λj hj => ?_⟩
 ·show ((Az 0 L.2).map (G4 s L ended)).map (·.1)=Az 0 L.2;rw [List.map_map]
  conv=>rhs;rw [<- List.map_id (Az 0 L.2)]
  exact List.map_congr_left λd hd=>(each d hd).1
 ·obtain ⟨d,hd,rfl⟩:=List.mem_map.1 hj;exact (each d hd).2
theorem OA {l:List (List BL)} {n:Nat} {r0 r1:BL}:l[n]? = some [r0,r1]<->As l n=[r0,r1]:=by
 unfold As;constructor
 ·intro h;rw [h];rfl
 ·intro h;cases hn:l[n]? with
  | none=>rw [hn] at h;cases h
  | some rs=>rw [hn] at h;exact congrArg some h
theorem PM {s:AT} {j:Job} {n:Nat} (hj:j.1.toNat=n) (i:Nat):As (JI s j).2 i=if Dv j≠[]/\i=NO s j then (if i=n then [] else As s.1.2 i)++[(s.2.2,Dv j)] else if i=n then [] else As s.1.2 i:=by
 unfold JI;rw [hj];by_cases ho:Dv j=[]
 ·rw [if_pos ho,if_neg (by simp [ho]),Fs]
 ·rw [if_neg ho,Fs];by_cases hi:i=NO s j
  ·rw [if_pos hi,if_pos ⟨ho,hi⟩,Fs,<- hi]
  ·rw [if_neg hi,if_neg (by simp [hi]),Fs]
theorem ac {s:AT} (v:VSt s) (hf:Yr s.1) {n:Nat} {j:Job} (ha:JobAt s.1 n j) (h0 : ¬ 0<BX s.1 j) (hc:II s.1 j=true) (h5:Dv j≠[]->s.2.2<=1000000):VSt (Qe s (JI s j) (Kh s j) j.1):=by
 have F:=aY v hf ha h0 hc h5;obtain ⟨o1,o2,o3,o4,o5⟩:=ha.out v.lev (hf n);have hj:j.1.toNat=n:=by rw [o3];simp
 have hn1:=v.n1;have hn2:=v.n2
 have hnx:s.2.2<=Kh s j/\Kh s j<=1000001/\(Dv j≠[]->s.2.2<Kh s j):=by
  unfold Kh;by_cases ho:Dv j=[]
  ·rw [if_pos ho];exact ⟨by omega,by omega,λh=>absurd ho h⟩
  ·rw [if_neg ho];have:=h5 ho;exact ⟨by omega,by omega,λ_=>by omega⟩
 refine ab v F.lev (by omega) hnx.2.1 (λx hx => ?_) (λm r0 r1 hm he hq => ?_)
 ·obtain ⟨i,hi⟩:=TV.1 hx;rw [PM hj] at hi
  have hold : ∀ {y:BL},y∈(if i=n then [] else As s.1.2 i)->y.1<Kh s j:=fun {y} hy=>by
   by_cases hin:i=n
   ·rw [if_pos hin] at hy;cases hy
   ·rw [if_neg hin] at hy;have:=MU (TV.2 ⟨i,hy⟩);have:=v.n3;omega
  split at hi
  ·rename_i hh;rcases List.mem_append.1 hi with hi | hi
   ·exact hold hi
   ·rw [List.mem_singleton.1 hi];exact hnx.2.2 hh.1
  ·exact hold hi
 ·have hmn:m≠n:=λe=>he (by rw [o3,e]);have hms:As s.1.2 m=[r0,r1]:=OA.1 hm
  have hto : ¬ (Dv j≠[]/\m=NO s j):=λ⟨ho,ht⟩=>by
   have:=F.room ho;rw [Fs,<- ht,if_neg hmn,hms] at this;simp at this
  have hown:As (JI s j).2 m=[r0,r1]:=by rw [PM hj,if_neg hto,if_neg hmn,hms]
  refine ⟨OA.2 hown,λhl=>(gn F.lev.last (by rw [hown];simp) λi hi => ?_).symm⟩;have hin:As s.1.2 i=[]:=by unfold As;rw [List.getElem?_eq_none (by omega)];rfl
  have hnl:n<s.1.2.length:=by
   by_cases h:n<s.1.2.length
   ·exact h
   ·unfold As at o5;rw [List.getElem?_eq_none (by omega)] at o5;exact absurd rfl o5
  have hti:NO s j<=n+1:=by unfold NO;rw [hj];split<;>omega
  rw [PM hj,if_neg (by rintro ⟨_,h⟩;omega),hin];split<;>rfl
theorem Job.steps {L:AJ} {n:Nat} {j:Job} (ha:JobAt L n j) (h:0<BX L j):JobAt L n (j.1,Qk L j):=by
 obtain ⟨r0,r1,bt,k,h1,rfl,hk,hb,v0,v1⟩:=ha;have ho:=OA.1 h1
 have hle:BX L ((n:Int),Dg r1.2 r0.2 bt k)=r1.2.length+r0.2.length-k:=by
  unfold BX;simp only [Int.toNat_natCast,h1];show r1.2.length+r0.2.length-((k:Int)).toNat=_;rw [Int.toNat_natCast]
 rw [hle] at h;refine ⟨r0,r1,bt,k+1,h1,?_,by omega,hb,v0,v1⟩;unfold Qk;simp only [Int.toNat_natCast,ho];have e1:(Dg r1.2 r0.2 bt k).2.1.2.2=bt:=Rv _ _ _ _;have e2:(Dg r1.2 r0.2 bt k).2.2.2.toNat=k:=by show ((k:Int)).toNat=k;rw [Int.toNat_natCast]
 rw [e1,e2]
theorem ad {s:AT} (v:VSt s) {j:Job} {i n:Nat} (hf:MW j.1 0 (Az 0 s.1.2)=some i) (hj:s.2.1[i]? = some j) (ha:JobAt s.1 n j) (h0:0<BX s.1 j):VSt (PK s j):=by
 unfold PK;rw [hf,Option.getD_some];refine ⟨v.lev,v.n1,v.n2,v.n3,?_,λx hx => ?_⟩
 ·show (s.2.1.set i (j.1,Qk s.1 j)).map (·.1)=_;rw [<- v.due,List.map_set];refine List.ext_getElem? λk => ?_;rw [List.getElem?_set];by_cases hk:i=k
  ·subst hk;have hi:=(List.getElem?_eq_some_iff.1 hj).1;rw [if_pos rfl,List.length_map,if_pos hi,List.getElem?_map,hj];rfl
  ·rw [if_neg hk]
 ·rcases List.mem_or_eq_of_mem_set hx with hx | hx
  ·exact v.job x hx
  ·rw [hx];exact ⟨n,Job.steps ha h0⟩
end Go.Proofs.YthpkjfabdccpdaaGreat.Pl
