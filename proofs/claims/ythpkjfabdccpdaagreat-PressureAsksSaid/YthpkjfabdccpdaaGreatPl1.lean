/- Functions of the program and of the specification as plain functions, and laws about them. No condition. -/
import Derived.Test.YthpkjfabdccpdaaGreatPl0
set_option linter.all false
namespace Go.Proofs.YthpkjfabdccpdaaGreat.Pl
open Go Go.Proofs.YthpkjfabdccpdaaGreat.Sv
set_option linter.unusedVariables false
def D2 (x:(Int×Int)):Option Int :=
 bd (loop (λs0=>br (Ag s0.2 x.2) (λ_=>some (.nx (Kh .i64 2 s0.1,AH .i64 s0.2 1))) λ_=>some (.dn ((0,(s0,()))))) (x.1,0)) λr1=>some r1.2.1.1
def Ax (x:AB):Option Int :=
 br (Bv (AW (Fb x.1)) 32) (λ_=>some 3) λ_=>br (Bv (AW (Fb x.2.1)) 64) (λ_=>some 3) λ_=>br x.2.2.1 (λ_=>br (AV (seq x.2.1 [])) (λ_=>some 6) λ_=>br (Ag x.2.2.2 1) (λ_=>some 7) λ_=>br (Bv x.2.2.2 1000000000) (λ_=>some 7) λ_=>some 0) λ_=>br (Ag x.2.2.2 1) (λ_=>some 7) λ_=>br (Bv x.2.2.2 1000000000) (λ_=>some 7) λ_=>some 0
def Em (x:((List UInt8)×(List UInt8))):Option Int :=
 bd (loop (λs0=>br (Ag s0 (AW (Fb x.1))) (λ_=>br (Ag s0 (AW (Fb x.2))) (λ_=>AO s0 λk1=>ix x.1 k1 λx2=>AO s0 λk3=>ix x.2 k3 λx4=>br (Bh (SS x2) (SS x4)) (λ_=>some (.nx (AH .i64 s0 1))) λ_=>some (.dn ((0,(s0,()))))) λ_=>some (.dn ((0,(s0,()))))) λ_=>some (.dn ((0,(s0,()))))) 0) λr5=>some r5.2.1
def EL (x:((List UInt8)×(List UInt8))):Option Int :=
 bd (Em x) λr0=>br (Bh r0 (AW (Fb x.1))) (λ_=>br (Bh r0 (AW (Fb x.2))) (λ_=>some 0) λ_=>br (Bh r0 (AW (Fb x.1))) (λ_=>some (-1)) λ_=>br (Ag r0 (AW (Fb x.2))) (λ_=>AO r0 λk1=>ix x.1 k1 λx2=>AO r0 λk3=>ix x.2 k3 λx4=>br (Ag (SS x2) (SS x4)) (λ_=>some (-1)) λ_=>some 1) λ_=>some 1) λ_=>br (Bh r0 (AW (Fb x.1))) (λ_=>some (-1)) λ_=>br (Ag r0 (AW (Fb x.2))) (λ_=>AO r0 λk5=>ix x.1 k5 λx6=>AO r0 λk7=>ix x.2 k7 λx8=>br (Ag (SS x6) (SS x8)) (λ_=>some (-1)) λ_=>some 1) λ_=>some 1
def Cc (x:(List AB)):Option (Int×Int) :=
 br (Bv (AW (AA x)) 5000) (λ_=>some (((-1),3))) λ_=>bd (loop (λs0=>br (Ag s0.2.2 (AW (AA x))) (λ_=>AO s0.2.2 λk1=>ix x k1 λx2=>bd (Ax x2) λr3=>br (Bh r3 0) (λ_=>br (Bv s0.2.2 0) (λ_=>AO (A9 .i64 s0.2.2 1) λk4=>ix x k4 λx5=>AO s0.2.2 λk6=>ix x k6 λx7=>bd (EL (x5.1,x7.1)) λr8=>br (Iu r8 0) (λ_=>some (.dn ((0,((6,(s0.2.2,s0.2.2)),()))))) λ_=>br (Aq r3 0) (λ_=>some (.dn ((0,((r3,(s0.2.2,s0.2.2)),()))))) λ_=>some (.nx ((s0.1,(s0.2.1,AH .i64 s0.2.2 1))))) λ_=>br (Aq r3 0) (λ_=>some (.dn ((0,((r3,(s0.2.2,s0.2.2)),()))))) λ_=>some (.nx ((s0.1,(s0.2.1,AH .i64 s0.2.2 1))))) λ_=>br (Aq r3 0) (λ_=>some (.dn ((0,((r3,(s0.2.2,s0.2.2)),()))))) λ_=>some (.nx ((s0.1,(s0.2.1,AH .i64 s0.2.2 1))))) λ_=>some (.dn ((1,(s0,()))))) ((0,(0,0)))) λr9=>br (neq r9.1 0) (λ_=>some (r9.2.1.2.1,r9.2.1.1)) λ_=>some (0,0)
def FK (x:BI):Option (Int×Int) :=
 br (Ag x.1 1) (λ_=>some (((-1),7))) λ_=>br (Bv x.1 1000000) (λ_=>some (((-1),7))) λ_=>bd (Cc x.2) λr0=>some r0
def D3 (x:(BI×(Int×(List Int)))):Option Int :=
 bd (FK x.1) λr0=>br (Aq r0.2 0) (λ_=>some r0.2) λ_=>br (Bh (AW (AA x.1.2)) 0) (λ_=>some 4) λ_=>br (Bv (AW (AA x.1.2)) x.2.1) (λ_=>some 3) λ_=>bd (loop (λs1=>br (Ag s1.1 (AW (AA x.2.2))) (λ_=>AO s1.1 λk2=>ix x.2.2 k2 λx3=>br (Bh x3 x.1.1) (λ_=>some (.dn ((0,((s1.1,8),()))))) λ_=>some (.nx (AH .i64 s1.1 1,s1.2))) λ_=>some (.dn ((1,(s1,()))))) (0,0)) λr4=>br (neq r4.1 0) (λ_=>some r4.2.1.2) λ_=>some 0
def DQ (x:AM):Option (Int×(Int×Int)) :=
 br (Ag x.1 1) (λ_=>some ((0,(0,7)))) λ_=>br (Bv x.1 16) (λ_=>some ((0,(0,7)))) λ_=>br (Bv (AW (AA x.2)) 12) (λ_=>some ((0,(0,3)))) λ_=>bd (loop (λ(s0:(Int×((List Int)×(Int×(Int×Int)))))=>br (Ag s0.2.2.2.2 (AW (AA x.2))) (λ_=>AO s0.2.2.2.2 λk1=>ix x.2 k1 λx2=>br (Bv (AW (AA x2)) 2) (λ_=>some (.dn ((0,((0,(s0.2.1,(s0.2.2.2.2,(3,s0.2.2.2.2)))),()))))) λ_=>bd (loop (λ(s3:(Int×((List Int)×(Int×(Int×Int)))))=>br (Ag s3.2.2.2.2 (AW (AA x2))) (λ_=>AO s3.2.2.2.2 λk4=>ix x2 k4 λx5=>bd (D2 (x.1,s0.2.2.2.2)) λr6=>bd (D3 ((x5,(r6,s3.2.1)))) λr7=>br (Aq r7 0) (λ_=>some (.dn ((0,((s3.2.2.2.2,(s3.2.1,(s0.2.2.2.2,(r7,s3.2.2.2.2)))),()))))) λ_=>AO s3.2.2.2.2 λk8=>ix x2 k8 λx9=>gd (A0 (AK (AA s3.2.1) (AA [x9.1])) 1048576) λ_=>some (.nx ((s3.1,(CC s3.2.1 [x9.1],(s3.2.2.1,(s3.2.2.2.1,AH .i64 s3.2.2.2.2 1))))))) λ_=>some (.dn ((1,(s3,()))))) ((s0.1,(s0.2.1,(s0.2.2.1,(s0.2.2.2.1,0)))))) λr10=>br (neq r10.1 0) (λ_=>some (.dn ((0,((r10.2.1.1,(r10.2.1.2.1,(r10.2.1.2.2.1,(r10.2.1.2.2.2.1,s0.2.2.2.2)))),()))))) λ_=>some (.nx ((r10.2.1.1,(r10.2.1.2.1,(r10.2.1.2.2.1,(r10.2.1.2.2.2.1,AH .i64 s0.2.2.2.2 1))))))) λ_=>some (.dn ((1,(s0,()))))) ((0,([],(0,(0,0)))))) λr11=>br (neq r11.1 0) (λ_=>some ((r11.2.1.2.2.1,(r11.2.1.1,r11.2.1.2.2.2.1)))) λ_=>br (Bv (AW (AA x.2)) 0) (λ_=>AO (A9 .i64 (AW (AA x.2)) 1) λk12=>ix x.2 k12 λx13=>br (Bh (AW (AA x13)) 0) (λ_=>some ((A9 .i64 (AW (AA x.2)) 1,(0,6)))) λ_=>some ((0,(0,0)))) λ_=>some ((0,(0,0)))
def En (x:AM):Option ((List BI)×Int) :=
 bd (DQ x) λr0=>br (Aq r0.2.2 0) (λ_=>some ([],r0.2.2)) λ_=>bd (loop (λs1=>br (Ag s1.2 (AW (AA x.2))) (λ_=>AO s1.2 λk2=>ix x.2 k2 λx3=>bd (loop (λs4=>br (Iu s4.2 0) (λ_=>AO s1.2 λk5=>ix x.2 k5 λx6=>AO s4.2 λk7=>ix x6 k7 λx8=>gd (A0 (AK (AA s4.1) (AA [x8])) 1048576) λ_=>some (.nx (CC s4.1 [x8],A9 .i64 s4.2 1))) λ_=>some (.dn ((0,(s4,()))))) ((s1.1,A9 .i64 (AW (AA x3)) 1))) λr9=>some (.nx (r9.2.1.1,AH .i64 s1.2 1))) λ_=>some (.dn ((0,(s1,()))))) ([],0)) λr10=>some (r10.2.1.1,0)
def Cu (x:AM):Option Int :=
 bd (En x) λr0=>bd (loop (λs1=>br (Ag s1.2 (AW (AA r0.1))) (λ_=>AO s1.2 λk2=>ix r0.1 k2 λx3=>some (.nx (Nl s1.1 x3.1,AH .i64 s1.2 1))) λ_=>some (.dn ((0,(s1,()))))) (0,0)) λr4=>some r4.2.1.1
def Dr (x:AM):Option (List Int) :=
 bd (loop (λs0=>br (Ag s0.2 (AW (AA x.2))) (λ_=>AO s0.2 λk1=>ix x.2 k1 λx2=>br (Bh (AW (AA x2)) 2) (λ_=>gd (A0 (AK (AA s0.1) (AA [s0.2])) 1048576) λ_=>some (.nx (CC s0.1 [s0.2],AH .i64 s0.2 1))) λ_=>some (.nx (s0.1,AH .i64 s0.2 1))) λ_=>some (.dn ((0,(s0,()))))) ([],0)) λr3=>some r3.2.1.1
def Hl (x:(AM×Int)):Option Int :=
 bd (DQ x.1) λr0=>br (Bh r0.2.2 0) (λ_=>br (Ag x.2 0) (λ_=>some 7) λ_=>br (Iu x.2 12) (λ_=>some 7) λ_=>some r0.2.2) λ_=>some r0.2.2
def Gu (x:(AM×Int)):Option (Bool×Int) :=
 bd (Hl x) λr0=>br (Aq r0 0) (λ_=>some (false,r0)) λ_=>some ((Bv (AW (AA x.1.2)) (AH .i64 x.2 1),0))
def B9 (x:(AM×Int)):Option Bool :=
 bd (Gu x) λr0=>some (AV r0.1)
def DS (x:(List (List AB))):Option (Int×Int) :=
 br (Bh (AW (AA x)) 0) (λ_=>some (((-1),6))) λ_=>br (Bv (AW (AA x)) 32) (λ_=>some (((-1),3))) λ_=>bd (loop (λs0=>br (Ag s0.2.2 (AW (AA x))) (λ_=>AO s0.2.2 λk1=>ix x k1 λx2=>bd (Cc x2) λr3=>br (Aq r3.2 0) (λ_=>some (.dn ((0,((r3.2,(s0.2.2,s0.2.2)),()))))) λ_=>some (.nx ((s0.1,(s0.2.1,AH .i64 s0.2.2 1))))) λ_=>some (.dn ((1,(s0,()))))) ((0,(0,0)))) λr4=>br (neq r4.1 0) (λ_=>some (r4.2.1.2.1,r4.2.1.1)) λ_=>some (0,0)
def FL (x:(List AQ)):Option Int :=
 br (Bh (AW (AA x)) 0) (λ_=>some 6) λ_=>br (Bv (AW (AA x)) 32) (λ_=>some 3) λ_=>bd (loop (λs0=>br (Ag s0.1 (AW (AA x))) (λ_=>AO s0.1 λk1=>ix x k1 λx2=>br x2.2 (λ_=>AO s0.1 λk3=>ix x k3 λx4=>br (AV (seq x4.1 [])) (λ_=>some (.dn ((0,((s0.1,2),()))))) λ_=>some (.nx (AH .i64 s0.1 1,s0.2))) λ_=>some (.nx (AH .i64 s0.1 1,s0.2))) λ_=>some (.dn ((1,(s0,()))))) (0,0)) λr5=>br (neq r5.1 0) (λ_=>some r5.2.1.2) λ_=>some 0
def E7 (x:((List AQ)×(Int×Int))):Option Bool :=
 AO x.2.1 λk0=>ix x.1 k0 λx1=>AO x.2.2 λk2=>ix x.1 k2 λx3=>br (AV (beq x1.2 x3.2)) (λ_=>some x3.2) λ_=>br (AV x1.2) (λ_=>br (AV (seq x1.1 x3.1)) (λ_=>some (Bl x1.1 x3.1)) λ_=>some (Ag x.2.1 x.2.2)) λ_=>some (Ag x.2.1 x.2.2)
def As (rec:((List AQ)×Int)->Option (Int×Int)) (x:((List AQ)×Int)):Option (Int×Int) :=
 br (Iu x.2 (AW (AA x.1))) (λ_=>some ((A9 .i64 x.2 (AW (AA x.1)),0))) λ_=>bd (rec (x.1,Kh .i64 2 x.2)) λr0=>bd (rec ((x.1,AH .i64 (Kh .i64 2 x.2) 1))) λr1=>bd (E7 ((x.1,(r0.1,r1.1)))) λr2=>br r2 (λ_=>some (r0.1,r1.1)) λ_=>some (r1.1,r0.1)
def GE:((List AQ)×Int)->Option (Int×Int):=J2 As 100
def GF (x:(List AQ)):Option D0 :=
 gd (A0 (AA x) 1048576) λ_=>AO (AW (AA x)) λk0=>AO (AW (AA x)) λk1=>gd (A0 k1 1048576) λ_=>bd (loop (λs2=>br (Ag s2.1 (AW (AA x))) (λ_=>bd (GE (x,s2.1)) λr3=>AO s2.1 λk4=>gd (CB k4 (AA s2.2.2.1)) λ_=>ix s2.2.2.1 k4 λx5=>some (.nx ((AH .i64 s2.1 1,(s2.2.1,(lset s2.2.2.1 k4 r3.2,s2.2.2.2)))))) λ_=>some (.dn ((0,(s2,()))))) ((1,(x,(CW k1 0,(0:Int)))))) λr6=>bd (GE (x,1)) λr7=>some ((r6.2.1.2.1,(r6.2.1.2.2.1,r7.1)))
def EM (x:(List AQ)):Option (D0×Int) :=
 bd (FL x) λr0=>br (Aq r0 0) (λ_=>some ((([],([],0)),r0))) λ_=>bd (GF x) λr1=>some (r1,0)
def Cp (x:((List (List AB))×(List Int))):Option AS :=
 gd (A0 (AA x.1) 1048576) λ_=>gd (A0 (AA x.2) 1048576) λ_=>bd (loop (λs0=>br (Ag s0.1 (AW (AA x.1))) (λ_=>AO s0.1 λk1=>ix x.2 k1 λx2=>AO s0.1 λk3=>ix x.1 k3 λx4=>br (AV (Bh x2 (AW (AA x4)))) (λ_=>AO s0.1 λk5=>ix x.1 k5 λx6=>AO s0.1 λk7=>ix x.2 k7 λx8=>AO x8 λk9=>ix x6 k9 λx10=>gd (A0 (AK (AA s0.2) (AA ([(x10.1,Bh x2 (AW (AA x4)))]))) 1048576) λ_=>some (.nx ((AH .i64 s0.1 1,CC s0.2 ([(x10.1,Bh x2 (AW (AA x4)))]))))) λ_=>gd (A0 (AK (AA s0.2) (AA ([(([]:List UInt8),Bh x2 (AW (AA x4)))]))) 1048576) λ_=>some (.nx ((AH .i64 s0.1 1,CC s0.2 ([([],Bh x2 (AW (AA x4)))]))))) λ_=>some (.dn ((0,(s0,()))))) (0,[])) λr11=>bd (EM r11.2.1.2) λr12=>some ((x.1,(x.2,r12.1)))
def Gv (x:(List (List AB))):Option (AS×(Int×Int)) :=
 bd (DS x) λr0=>br (Aq r0.2 0) (λ_=>some ((([],([],([],([],0)))),r0))) λ_=>AO (AW (AA x)) λk1=>AO (AW (AA x)) λk2=>gd (A0 k2 1048576) λ_=>bd (Cp (x,CW k2 0)) λr3=>some ((r3,(0,0)))
def Cq (x:Bool):Option (Bool×AQ) :=
 some ((false,([],x)))
def FM (x:((List (List AB))×Bool)):Option ((AS×((Bool×AQ)×((List AB)×Int)))×(Int×Int)) :=
 bd (Gv x.1) λr0=>br (Aq r0.2.2 0) (λ_=>some (((([],([],([],([],0)))),((false,([],false)),([],0))),r0.2))) λ_=>bd (Cq x.2) λr1=>some (((r0.1,(r1,([],0))),(0,0)))
def BH (x:(AM×(Int×Bool))):Option (Int×(AS×((Bool×AQ)×((List AB)×Int)))) :=
 br (Iu x.2.1 (AW (AA x.1.2))) (λ_=>none) λ_=>AO x.2.1 λk0=>ix x.1.2 k0 λx1=>ix x1 1 λx2=>ix x1 0 λx3=>bd (FM ([x2.2,x3.2],x.2.2)) λr4=>some (x.2.1,r4.1)
def GG (x:((List Int)×(List Int))):Option Bool :=
 br (Aq (AW (AA x.1)) (AW (AA x.2))) (λ_=>some false) λ_=>bd (loop (λs0=>br (Ag s0.1 (AW (AA x.1))) (λ_=>AO s0.1 λk1=>ix x.1 k1 λx2=>AO s0.1 λk3=>ix x.2 k3 λx4=>br (Aq x2 x4) (λ_=>some (.dn ((0,((s0.1,false),()))))) λ_=>some (.nx (AH .i64 s0.1 1,s0.2))) λ_=>some (.dn ((1,(s0,()))))) (0,false)) λr5=>br (neq r5.1 0) (λ_=>some r5.2.1.2) λ_=>some true
def E8 (x:(D0×D0)):Option Bool :=
 br (Aq (AW (AA x.1.1)) (AW (AA x.2.1))) (λ_=>some false) λ_=>br (Aq x.1.2.2 x.2.2.2) (λ_=>some false) λ_=>bd (GG (x.1.2.1,x.2.2.1)) λr0=>br (AV r0) (λ_=>some false) λ_=>bd (loop (λs1=>br (Ag s1.1 (AW (AA x.1.1))) (λ_=>AO s1.1 λk2=>ix x.1.1 k2 λx3=>AO s1.1 λk4=>ix x.2.1 k4 λx5=>br (AV (BZ (seq x3.1 x5.1) (BZ (beq x3.2 x5.2) true))) (λ_=>some (.dn ((0,((s1.1,false),()))))) λ_=>some (.nx (AH .i64 s1.1 1,s1.2))) λ_=>some (.dn ((1,(s1,()))))) (0,false)) λr6=>br (neq r6.1 0) (λ_=>some r6.2.1.2) λ_=>some true
def DT (x:((List (List AB))×(List Int))):Option Int :=
 bd (loop (λs0=>br (Ag s0.2 (AW (AA x.1))) (λ_=>AO s0.2 λk1=>ix x.2 k1 λx2=>AO s0.2 λk3=>ix x.1 k3 λx4=>br (Ag x2 (AW (AA x4))) (λ_=>br (Ag s0.1 0) (λ_=>some (.nx (s0.2,AH .i64 s0.2 1))) λ_=>AO s0.2 λk5=>ix x.1 k5 λx6=>AO s0.2 λk7=>ix x.2 k7 λx8=>AO x8 λk9=>ix x6 k9 λx10=>AO s0.1 λk11=>ix x.1 k11 λx12=>AO s0.1 λk13=>ix x.2 k13 λx14=>AO x14 λk15=>ix x12 k15 λx16=>br (Bl x10.1 x16.1) (λ_=>some (.nx (s0.2,AH .i64 s0.2 1))) λ_=>some (.nx (s0.1,AH .i64 s0.2 1))) λ_=>some (.nx (s0.1,AH .i64 s0.2 1))) λ_=>some (.dn ((0,(s0,()))))) (((-1),0))) λr17=>some r17.2.1.1
def DU (x:AS):Option (Int×Int) :=
 bd (DS x.1) λr0=>br (Aq r0.2 0) (λ_=>some r0) λ_=>br (Aq (AW (AA x.2.1)) (AW (AA x.1))) (λ_=>some (((-1),6))) λ_=>bd (loop (λs1=>br (Ag s1.2.2 (AW (AA x.2.1))) (λ_=>AO s1.2.2 λk2=>ix x.2.1 k2 λx3=>br (Ag x3 0) (λ_=>some (.dn ((0,((6,(s1.2.2,s1.2.2)),()))))) λ_=>AO s1.2.2 λk4=>ix x.2.1 k4 λx5=>AO s1.2.2 λk6=>ix x.1 k6 λx7=>br (Bv x5 (AW (AA x7))) (λ_=>some (.dn ((0,((6,(s1.2.2,s1.2.2)),()))))) λ_=>some (.nx ((s1.1,(s1.2.1,AH .i64 s1.2.2 1))))) λ_=>some (.dn ((1,(s1,()))))) ((0,(0,0)))) λr8=>br (neq r8.1 0) (λ_=>some (r8.2.1.2.1,r8.2.1.1)) λ_=>bd (Cp (x.1,x.2.1)) λr9=>bd (E8 (x.2.2,r9.2.2)) λr10=>br (AV r10) (λ_=>some (((-1),6))) λ_=>bd (DT (x.1,x.2.1)) λr11=>bd (loop (λs12=>br (Ag s12.2.2 (AW (AA x.1))) (λ_=>br (Iu r11 0) (λ_=>AO s12.2.2 λk13=>ix x.2.1 k13 λx14=>br (Bh x14 0) (λ_=>some (.nx ((s12.1,(s12.2.1,AH .i64 s12.2.2 1))))) λ_=>AO s12.2.2 λk15=>ix x.1 k15 λx16=>AO s12.2.2 λk17=>ix x.2.1 k17 λx18=>AO (A9 .i64 x18 1) λk19=>ix x16 k19 λx20=>AO r11 λk21=>ix x.1 k21 λx22=>AO r11 λk23=>ix x.2.1 k23 λx24=>AO x24 λk25=>ix x22 k25 λx26=>br (Bl x26.1 x20.1) (λ_=>some (.dn ((0,((6,(r11,s12.2.2)),()))))) λ_=>br (seq x20.1 x26.1) (λ_=>br (Bv s12.2.2 r11) (λ_=>some (.dn ((0,((6,(r11,s12.2.2)),()))))) λ_=>some (.nx ((s12.1,(s12.2.1,AH .i64 s12.2.2 1))))) λ_=>some (.nx ((s12.1,(s12.2.1,AH .i64 s12.2.2 1))))) λ_=>some (.dn ((1,(s12,()))))) λ_=>some (.dn ((1,(s12,()))))) ((r8.2.1.1,(r8.2.1.2.1,0)))) λr27=>br (neq r27.1 0) (λ_=>some (r27.2.1.2.1,r27.2.1.1)) λ_=>some (0,0)
def D4 (x:(AS×((Bool×AQ)×((List AB)×Int)))):Option Int :=
 bd (loop (λs0=>br (Ag s0.2 (AW (AA x.1.2.1))) (λ_=>AO s0.2 λk1=>ix x.1.2.1 k1 λx2=>some (.nx (AH .i64 s0.1 x2,AH .i64 s0.2 1))) λ_=>some (.dn ((0,(s0,()))))) (0,0)) λr3=>some r3.2.1.1
def Eo (x:(List (List AB))):Option ((List AB)×((List Int)×Int)) :=
 bd (DS x) λr0=>br (Aq r0.2 0) (λ_=>some (([],([],r0.2)))) λ_=>AO (AW (AA x)) λk1=>AO (AW (AA x)) λk2=>gd (A0 k2 1048576) λ_=>bd (loop (λ(s3:((List Int)×((List AB)×((List AB)×(Int×((List Int)×(List Int)))))))=>bd (DT (x,s3.2.2.2.2.2)) λr4=>br (Ag r4 0) (λ_=>some (.dn ((0,((s3.2.2.2.2.1,(s3.2.1,0)),()))))) λ_=>AO r4 λk5=>ix x k5 λx6=>AO r4 λk7=>gd (CB k7 (AA s3.2.2.2.2.2)) λ_=>ix s3.2.2.2.2.2 k7 λx8=>AO x8 λk9=>ix x6 k9 λx10=>gd (A0 (AK (AA s3.2.1) (AA [x10])) 1048576) λ_=>gd (A0 (AK (AA s3.2.2.2.2.1) (AA [r4])) 1048576) λ_=>AO r4 λk11=>gd (CB k11 (AA s3.2.2.2.2.2)) λ_=>ix s3.2.2.2.2.2 k11 λx12=>AO r4 λk13=>gd (CB k13 (AA s3.2.2.2.2.2)) λ_=>ix s3.2.2.2.2.2 k13 λx14=>some (.nx ((s3.1,(CC s3.2.1 [x10],(s3.2.2.1,(s3.2.2.2.1,(CC s3.2.2.2.2.1 [r4],lset s3.2.2.2.2.2 k13 (AH .i64 x12 1))))))))) (([],([],([],(0,([],CW k2 0))))))) λr15=>some ((r15.2.1.2.1,(r15.2.1.1,r15.2.1.2.2)))
def FN (x:(Bool×AQ)):Option Int :=
 br (Bv (AW (Fb x.2.1)) 32) (λ_=>some 3) λ_=>br (AV x.1) (λ_=>br (AV (seq x.2.1 [])) (λ_=>some 6) λ_=>some 0) λ_=>some 0
def GH (x:((Bool×AQ)×AB)):Option (Bool×((Bool×AQ)×Int)) :=
 bd (FN x.1) λr0=>br (Bh r0 0) (λ_=>bd (Ax x.2) λr1=>br (Bh r1 0) (λ_=>br x.1.1 (λ_=>br (Bl x.2.1 x.1.2.1) (λ_=>some ((false,((false,([],false)),6)))) λ_=>br (Aq r1 0) (λ_=>some ((false,((false,([],false)),r1)))) λ_=>br (AV x.1.1) (λ_=>br x.1.2.2 (λ_=>some ((AV x.2.2.2.1,((true,(x.2.1,x.1.2.2)),0)))) λ_=>some ((true,((true,(x.2.1,x.1.2.2)),0)))) λ_=>br (AV (seq x.2.1 x.1.2.1)) (λ_=>br x.1.2.2 (λ_=>some ((AV x.2.2.2.1,((true,(x.2.1,x.1.2.2)),0)))) λ_=>some ((true,((true,(x.2.1,x.1.2.2)),0)))) λ_=>some ((false,((true,(x.2.1,x.1.2.2)),0)))) λ_=>br (Aq r1 0) (λ_=>some ((false,((false,([],false)),r1)))) λ_=>br (AV x.1.1) (λ_=>br x.1.2.2 (λ_=>some ((AV x.2.2.2.1,((true,(x.2.1,x.1.2.2)),0)))) λ_=>some ((true,((true,(x.2.1,x.1.2.2)),0)))) λ_=>br (AV (seq x.2.1 x.1.2.1)) (λ_=>br x.1.2.2 (λ_=>some ((AV x.2.2.2.1,((true,(x.2.1,x.1.2.2)),0)))) λ_=>some ((true,((true,(x.2.1,x.1.2.2)),0)))) λ_=>some ((false,((true,(x.2.1,x.1.2.2)),0)))) λ_=>br (Aq r1 0) (λ_=>some ((false,((false,([],false)),r1)))) λ_=>br (AV x.1.1) (λ_=>br x.1.2.2 (λ_=>some ((AV x.2.2.2.1,((true,(x.2.1,x.1.2.2)),0)))) λ_=>some ((true,((true,(x.2.1,x.1.2.2)),0)))) λ_=>br (AV (seq x.2.1 x.1.2.1)) (λ_=>br x.1.2.2 (λ_=>some ((AV x.2.2.2.1,((true,(x.2.1,x.1.2.2)),0)))) λ_=>some ((true,((true,(x.2.1,x.1.2.2)),0)))) λ_=>some ((false,((true,(x.2.1,x.1.2.2)),0)))) λ_=>br (Bh r0 0) (λ_=>br x.1.1 (λ_=>br (Bl x.2.1 x.1.2.1) (λ_=>some ((false,((false,([],false)),6)))) λ_=>br (Aq r0 0) (λ_=>some ((false,((false,([],false)),r0)))) λ_=>br (AV x.1.1) (λ_=>br x.1.2.2 (λ_=>some ((AV x.2.2.2.1,((true,(x.2.1,x.1.2.2)),0)))) λ_=>some ((true,((true,(x.2.1,x.1.2.2)),0)))) λ_=>br (AV (seq x.2.1 x.1.2.1)) (λ_=>br x.1.2.2 (λ_=>some ((AV x.2.2.2.1,((true,(x.2.1,x.1.2.2)),0)))) λ_=>some ((true,((true,(x.2.1,x.1.2.2)),0)))) λ_=>some ((false,((true,(x.2.1,x.1.2.2)),0)))) λ_=>br (Aq r0 0) (λ_=>some ((false,((false,([],false)),r0)))) λ_=>br (AV x.1.1) (λ_=>br x.1.2.2 (λ_=>some ((AV x.2.2.2.1,((true,(x.2.1,x.1.2.2)),0)))) λ_=>some ((true,((true,(x.2.1,x.1.2.2)),0)))) λ_=>br (AV (seq x.2.1 x.1.2.1)) (λ_=>br x.1.2.2 (λ_=>some ((AV x.2.2.2.1,((true,(x.2.1,x.1.2.2)),0)))) λ_=>some ((true,((true,(x.2.1,x.1.2.2)),0)))) λ_=>some ((false,((true,(x.2.1,x.1.2.2)),0)))) λ_=>br (Aq r0 0) (λ_=>some ((false,((false,([],false)),r0)))) λ_=>br (AV x.1.1) (λ_=>br x.1.2.2 (λ_=>some ((AV x.2.2.2.1,((true,(x.2.1,x.1.2.2)),0)))) λ_=>some ((true,((true,(x.2.1,x.1.2.2)),0)))) λ_=>br (AV (seq x.2.1 x.1.2.1)) (λ_=>br x.1.2.2 (λ_=>some ((AV x.2.2.2.1,((true,(x.2.1,x.1.2.2)),0)))) λ_=>some ((true,((true,(x.2.1,x.1.2.2)),0)))) λ_=>some ((false,((true,(x.2.1,x.1.2.2)),0)))
def Ep (x:((List AB)×Bool)):Option ((List AB)×(Int×Int)) :=
 br (Bv (AW (AA x.1)) 20000) (λ_=>some (([],((-1),3)))) λ_=>bd (Cq x.2) λr0=>bd (loop (λ(s1:(Int×(Int×((List AB)×((List AB)×(Int×(Bool×AQ)))))))=>br (Ag s1.2.1 (AW (AA x.1))) (λ_=>AO s1.2.1 λk2=>ix x.1 k2 λx3=>bd (GH (s1.2.2.2.2.2,x3)) λr4=>br (Aq r4.2.2 0) (λ_=>some (.dn ((0,((s1.2.1,(s1.2.1,([],(s1.2.2.2.1,(r4.2.2,s1.2.2.2.2.2))))),()))))) λ_=>br r4.1 (λ_=>AO s1.2.1 λk5=>ix x.1 k5 λx6=>gd (A0 (AK (AA s1.2.2.2.1) (AA [x6])) 1048576) λ_=>some (.nx ((s1.1,(AH .i64 s1.2.1 1,(s1.2.2.1,(CC s1.2.2.2.1 [x6],(s1.2.2.2.2.1,r4.2.1)))))))) λ_=>some (.nx ((s1.1,(AH .i64 s1.2.1 1,(s1.2.2.1,(s1.2.2.2.1,(s1.2.2.2.2.1,r4.2.1)))))))) λ_=>some (.dn ((1,(s1,()))))) ((0,(0,([],([],(0,r0))))))) λr7=>br (neq r7.1 0) (λ_=>some ((r7.2.1.2.2.1,(r7.2.1.1,r7.2.1.2.2.2.2.1)))) λ_=>some ((r7.2.1.2.2.2.1,(0,0)))
def C4 (x:((List AB)×Bool)):Option ((List AB)×(Bool×AQ)) :=
 bd (Ep x) λr0=>bd (Cq x.2) λr1=>br (Bv (AW (AA x.1)) 0) (λ_=>AO (A9 .i64 (AW (AA x.1)) 1) λk2=>ix x.1 k2 λx3=>some ((r0.1,(true,(x3.1,r1.2.2))))) λ_=>some (r0.1,r1)
def Bi (x:((List AB)×(List AB))):Option Bool :=
 br (Aq (AW (AA x.1)) (AW (AA x.2))) (λ_=>some false) λ_=>bd (loop (λs0=>br (Ag s0.1 (AW (AA x.1))) (λ_=>AO s0.1 λk1=>ix x.1 k1 λx2=>AO s0.1 λk3=>ix x.2 k3 λx4=>br (AV (BZ (seq x2.1 x4.1) (BZ (seq x2.2.1 x4.2.1) (BZ (beq x2.2.2.1 x4.2.2.1) (BZ (Bh x2.2.2.2 x4.2.2.2) true))))) (λ_=>some (.dn ((0,((s0.1,false),()))))) λ_=>some (.nx (AH .i64 s0.1 1,s0.2))) λ_=>some (.dn ((1,(s0,()))))) (0,false)) λr5=>br (neq r5.1 0) (λ_=>some r5.2.1.2) λ_=>some true
def FO (x:(AS×((Bool×AQ)×((List AB)×Int)))):Option Int :=
 bd (DU x.1) λr0=>br (Aq r0.2 0) (λ_=>some r0.2) λ_=>bd (D4 x) λr1=>br (Bv (AW (AA x.2.2.1)) 20000) (λ_=>some 3) λ_=>br (Bv r1 20000) (λ_=>some 3) λ_=>br (Aq x.2.2.2 r1) (λ_=>some 7) λ_=>bd (Eo x.1.1) λr2=>AO r1 λk3=>gd (A0 k3 (AA r2.1)) λ_=>gd (A0 0 k3) λ_=>bd (C4 (B6 r2.1 0 k3,x.2.1.2.2)) λr4=>bd (Bi (x.2.2.1,r4.1)) λr5=>br (AV r5) (λ_=>some 6) λ_=>br (AV (BZ (beq x.2.1.1 r4.2.1) (BZ (seq x.2.1.2.1 r4.2.2.1) (BZ (beq x.2.1.2.2 r4.2.2.2) true)))) (λ_=>some 6) λ_=>some 0
def GI (x:AS):Option (Int×Int) :=
 bd (DU x) λr0=>br (Aq r0.2 0) (λ_=>some (0,r0.2)) λ_=>bd (loop (λs1=>br (Ag s1.1 (AW (AA x.1))) (λ_=>AO s1.1 λk2=>ix x.1 k2 λx3=>AO s1.1 λk4=>ix x.2.1 k4 λx5=>some (.nx ((AH .i64 s1.1 1,A9 .i64 (AH .i64 s1.2 (AW (AA x3))) x5)))) λ_=>some (.dn ((0,(s1,()))))) (0,0)) λr6=>some (r6.2.1.2,0)
def BE (x:(AS×((Bool×AQ)×((List AB)×Int)))):Option (Int×Int) :=
 bd (FO x) λr0=>br (Aq r0 0) (λ_=>some (0,r0)) λ_=>bd (GI x.1) λr1=>some r1
def D5 (x:AS):Option (AB×(Int×(AS×Int))) :=
 bd (DU x) λr0=>br (Aq r0.2 0) (λ_=>some (((([],([],(false,0))):AB),(0,(([],([],([],([],0)))),r0.2))))) λ_=>bd (DT (x.1,x.2.1)) λr1=>br (Ag r1 0) (λ_=>some (((([],([],(false,0))):AB),(0,(([],([],([],([],0)))),12))))) λ_=>gd (A0 (AA x.2.1) 1048576) λ_=>AO r1 λk2=>gd (CB k2 (AA x.2.1)) λ_=>ix x.2.1 k2 λx3=>AO r1 λk4=>gd (CB k4 (AA x.2.1)) λ_=>ix x.2.1 k4 λx5=>AO r1 λk6=>ix x.1 k6 λx7=>AO r1 λk8=>ix x.2.1 k8 λx9=>AO x9 λk10=>ix x7 k10 λx11=>bd (Cp ((x.1,lset x.2.1 k4 (AH .i64 x3 1)))) λr12=>some ((x11,(r1,(r12,0))))
def BQ (x:((AS×((Bool×AQ)×((List AB)×Int)))×Int)):Option ((AS×((Bool×AQ)×((List AB)×Int)))×(Int×Int)) :=
 bd (BE x.1) λr0=>br (Bh r0.2 0) (λ_=>br (Ag x.2 0) (λ_=>some (((([],([],([],([],0)))),((false,([],false)),([],0))),(0,7)))) λ_=>br (Aq r0.2 0) (λ_=>some (((([],([],([],([],0)))),((false,([],false)),([],0))),(0,r0.2)))) λ_=>bd (D4 x.1) λr1=>br (Bv (AH .i64 r1 (NZ x.2 r0.1)) 20000) (λ_=>some (((([],([],([],([],0)))),((false,([],false)),([],0))),(0,3)))) λ_=>bd (loop (λ(s2:(Int×((List (List AB))×((List Int)×((List AQ)×((List Int)×(Int×(Bool×((List UInt8)×(Bool×((List AB)×Int)))))))))))=>br (Ag s2.1 (NZ x.2 r0.1)) (λ_=>bd (D5 ((s2.2.1,(s2.2.2.1,(s2.2.2.2.1,(s2.2.2.2.2.1,s2.2.2.2.2.2.1)))))) λr3=>some (.nx ((AH .i64 s2.1 1,(r3.2.2.1.1,(r3.2.2.1.2.1,(r3.2.2.1.2.2.1,(r3.2.2.1.2.2.2.1,(r3.2.2.1.2.2.2.2,s2.2.2.2.2.2.2))))))))) λ_=>some (.dn ((0,(s2,()))))) ((0,(x.1.1.1,(x.1.1.2.1,(x.1.1.2.2.1,(x.1.1.2.2.2.1,(x.1.1.2.2.2.2,(x.1.2.1.1,(x.1.2.1.2.1,(x.1.2.1.2.2,x.1.2.2))))))))))) λr4=>bd (Eo x.1.1.1) λr5=>AO (AH .i64 x.1.2.2.2 (NZ x.2 r0.1)) λk6=>gd (A0 k6 (AA r5.1)) λ_=>gd (A0 0 k6) λ_=>bd (C4 (B6 r5.1 0 k6,x.1.2.1.2.2)) λr7=>some ((((r4.2.1.2.1,(r4.2.1.2.2.1,(r4.2.1.2.2.2.1,(r4.2.1.2.2.2.2.1,r4.2.1.2.2.2.2.2.1)))),(r7.2,(r7.1,AH .i64 x.1.2.2.2 (NZ x.2 r0.1)))),(NZ x.2 r0.1,0)))) λ_=>br (Aq r0.2 0) (λ_=>some (((([],([],([],([],0)))),((false,([],false)),([],0))),(0,r0.2)))) λ_=>bd (D4 x.1) λr8=>br (Bv (AH .i64 r8 (NZ x.2 r0.1)) 20000) (λ_=>some (((([],([],([],([],0)))),((false,([],false)),([],0))),(0,3)))) λ_=>bd (loop (λ(s9:(Int×((List (List AB))×((List Int)×((List AQ)×((List Int)×(Int×(Bool×((List UInt8)×(Bool×((List AB)×Int)))))))))))=>br (Ag s9.1 (NZ x.2 r0.1)) (λ_=>bd (D5 ((s9.2.1,(s9.2.2.1,(s9.2.2.2.1,(s9.2.2.2.2.1,s9.2.2.2.2.2.1)))))) λr10=>some (.nx ((AH .i64 s9.1 1,(r10.2.2.1.1,(r10.2.2.1.2.1,(r10.2.2.1.2.2.1,(r10.2.2.1.2.2.2.1,(r10.2.2.1.2.2.2.2,s9.2.2.2.2.2.2))))))))) λ_=>some (.dn ((0,(s9,()))))) ((0,(x.1.1.1,(x.1.1.2.1,(x.1.1.2.2.1,(x.1.1.2.2.2.1,(x.1.1.2.2.2.2,(x.1.2.1.1,(x.1.2.1.2.1,(x.1.2.1.2.2,x.1.2.2))))))))))) λr11=>bd (Eo x.1.1.1) λr12=>AO (AH .i64 x.1.2.2.2 (NZ x.2 r0.1)) λk13=>gd (A0 k13 (AA r12.1)) λ_=>gd (A0 0 k13) λ_=>bd (C4 (B6 r12.1 0 k13,x.1.2.1.2.2)) λr14=>some ((((r11.2.1.2.1,(r11.2.1.2.2.1,(r11.2.1.2.2.2.1,(r11.2.1.2.2.2.2.1,r11.2.1.2.2.2.2.2.1)))),(r14.2,(r14.1,AH .i64 x.1.2.2.2 (NZ x.2 r0.1)))),(NZ x.2 r0.1,0)))
def GJ (x:(AS×AS)):Option Bool :=
 br (Aq (AW (AA x.1.1)) (AW (AA x.2.1))) (λ_=>some false) λ_=>bd (GG (x.1.2.1,x.2.2.1)) λr0=>br (AV r0) (λ_=>some false) λ_=>bd (E8 (x.1.2.2,x.2.2.2)) λr1=>br (AV r1) (λ_=>some false) λ_=>bd (loop (λs2=>br (Ag s2.1 (AW (AA x.1.1))) (λ_=>AO s2.1 λk3=>ix x.1.1 k3 λx4=>AO s2.1 λk5=>ix x.2.1 k5 λx6=>bd (Bi (x4,x6)) λr7=>br (AV r7) (λ_=>some (.dn ((0,((s2.1,false),()))))) λ_=>some (.nx (AH .i64 s2.1 1,s2.2))) λ_=>some (.dn ((1,(s2,()))))) (0,false)) λr8=>br (neq r8.1 0) (λ_=>some r8.2.1.2) λ_=>some true
def BK (x:((AS×((Bool×AQ)×((List AB)×Int)))×(AS×((Bool×AQ)×((List AB)×Int))))):Option Bool :=
 bd (GJ (x.1.1,x.2.1)) λr0=>br r0 (λ_=>br (BZ (beq x.1.2.1.1 x.2.2.1.1) (BZ (seq x.1.2.1.2.1 x.2.2.1.2.1) (BZ (beq x.1.2.1.2.2 x.2.2.1.2.2) true))) (λ_=>bd (Bi (x.1.2.2.1,x.2.2.2.1)) λr1=>br r1 (λ_=>some (Bh x.1.2.2.2 x.2.2.2.2)) λ_=>some false) λ_=>some false) λ_=>some false
def EN (x:(AM×((List (Int×(AS×((Bool×AQ)×((List AB)×Int)))))×Int))):Option (Int×Int) :=
 bd (DQ x.1) λr0=>br (Bh r0.2.2 0) (λ_=>br (Ag x.2.2 1) (λ_=>some (((-1),7))) λ_=>br (Bv x.2.2 1000001) (λ_=>some (((-1),7))) λ_=>br (Bh r0.2.2 0) (λ_=>bd (Cu x.1) λr1=>br (PY x.2.2 r1) (λ_=>some (((-1),6))) λ_=>br (Aq r0.2.2 0) (λ_=>some (((-1),r0.2.2))) λ_=>bd (Dr x.1) λr2=>bd (loop (λs3=>br (Ag s3.2.2 (AW (AA x.2.1))) (λ_=>AO s3.2.2 λk4=>ix x.2.1 k4 λx5=>br (Iu s3.2.2 (AW (AA r2))) (λ_=>some (.dn ((0,((6,(s3.2.2,s3.2.2)),()))))) λ_=>AO s3.2.2 λk6=>ix r2 k6 λx7=>br (Aq x5.1 x7) (λ_=>some (.dn ((0,((6,(s3.2.2,s3.2.2)),()))))) λ_=>br x5.2.2.1.2.2 (λ_=>bd (B9 (x.1,x5.1)) λr8=>br (AV r8) (λ_=>some (.dn ((0,((6,(s3.2.2,s3.2.2)),()))))) λ_=>bd (BH ((x.1,(x5.1,x5.2.2.1.2.2)))) λr9=>bd (BE r9.2) λr10=>br (Ag x5.2.2.2.2 0) (λ_=>some (.dn ((0,((6,(s3.2.2,s3.2.2)),()))))) λ_=>br (Bv x5.2.2.2.2 r10.1) (λ_=>some (.dn ((0,((6,(s3.2.2,s3.2.2)),()))))) λ_=>bd (BQ (r9.2,x5.2.2.2.2)) λr11=>bd (BK (r11.1,x5.2)) λr12=>br (AV r12) (λ_=>some (.dn ((0,((6,(s3.2.2,s3.2.2)),()))))) λ_=>some (.nx ((s3.1,(s3.2.1,AH .i64 s3.2.2 1))))) λ_=>bd (BH ((x.1,(x5.1,x5.2.2.1.2.2)))) λr13=>bd (BE r13.2) λr14=>br (Ag x5.2.2.2.2 0) (λ_=>some (.dn ((0,((6,(s3.2.2,s3.2.2)),()))))) λ_=>br (Bv x5.2.2.2.2 r14.1) (λ_=>some (.dn ((0,((6,(s3.2.2,s3.2.2)),()))))) λ_=>bd (BQ (r13.2,x5.2.2.2.2)) λr15=>bd (BK (r15.1,x5.2)) λr16=>br (AV r16) (λ_=>some (.dn ((0,((6,(s3.2.2,s3.2.2)),()))))) λ_=>some (.nx ((s3.1,(s3.2.1,AH .i64 s3.2.2 1))))) λ_=>some (.dn ((1,(s3,()))))) ((0,(0,0)))) λr17=>br (neq r17.1 0) (λ_=>some (r17.2.1.2.1,r17.2.1.1)) λ_=>br (Ag (AW (AA x.2.1)) (AW (AA r2))) (λ_=>some (((-1),4))) λ_=>some (0,0)) λ_=>br (Aq r0.2.2 0) (λ_=>some (((-1),r0.2.2))) λ_=>bd (Dr x.1) λr18=>bd (loop (λs19=>br (Ag s19.2.2 (AW (AA x.2.1))) (λ_=>AO s19.2.2 λk20=>ix x.2.1 k20 λx21=>br (Iu s19.2.2 (AW (AA r18))) (λ_=>some (.dn ((0,((6,(s19.2.2,s19.2.2)),()))))) λ_=>AO s19.2.2 λk22=>ix r18 k22 λx23=>br (Aq x21.1 x23) (λ_=>some (.dn ((0,((6,(s19.2.2,s19.2.2)),()))))) λ_=>br x21.2.2.1.2.2 (λ_=>bd (B9 (x.1,x21.1)) λr24=>br (AV r24) (λ_=>some (.dn ((0,((6,(s19.2.2,s19.2.2)),()))))) λ_=>bd (BH ((x.1,(x21.1,x21.2.2.1.2.2)))) λr25=>bd (BE r25.2) λr26=>br (Ag x21.2.2.2.2 0) (λ_=>some (.dn ((0,((6,(s19.2.2,s19.2.2)),()))))) λ_=>br (Bv x21.2.2.2.2 r26.1) (λ_=>some (.dn ((0,((6,(s19.2.2,s19.2.2)),()))))) λ_=>bd (BQ (r25.2,x21.2.2.2.2)) λr27=>bd (BK (r27.1,x21.2)) λr28=>br (AV r28) (λ_=>some (.dn ((0,((6,(s19.2.2,s19.2.2)),()))))) λ_=>some (.nx ((s19.1,(s19.2.1,AH .i64 s19.2.2 1))))) λ_=>bd (BH ((x.1,(x21.1,x21.2.2.1.2.2)))) λr29=>bd (BE r29.2) λr30=>br (Ag x21.2.2.2.2 0) (λ_=>some (.dn ((0,((6,(s19.2.2,s19.2.2)),()))))) λ_=>br (Bv x21.2.2.2.2 r30.1) (λ_=>some (.dn ((0,((6,(s19.2.2,s19.2.2)),()))))) λ_=>bd (BQ (r29.2,x21.2.2.2.2)) λr31=>bd (BK (r31.1,x21.2)) λr32=>br (AV r32) (λ_=>some (.dn ((0,((6,(s19.2.2,s19.2.2)),()))))) λ_=>some (.nx ((s19.1,(s19.2.1,AH .i64 s19.2.2 1))))) λ_=>some (.dn ((1,(s19,()))))) ((0,(0,0)))) λr33=>br (neq r33.1 0) (λ_=>some (r33.2.1.2.1,r33.2.1.1)) λ_=>br (Ag (AW (AA x.2.1)) (AW (AA r18))) (λ_=>some (((-1),4))) λ_=>some (0,0)) λ_=>br (Bh r0.2.2 0) (λ_=>bd (Cu x.1) λr34=>br (PY x.2.2 r34) (λ_=>some (((-1),6))) λ_=>br (Aq r0.2.2 0) (λ_=>some (((-1),r0.2.2))) λ_=>bd (Dr x.1) λr35=>bd (loop (λs36=>br (Ag s36.2.2 (AW (AA x.2.1))) (λ_=>AO s36.2.2 λk37=>ix x.2.1 k37 λx38=>br (Iu s36.2.2 (AW (AA r35))) (λ_=>some (.dn ((0,((6,(s36.2.2,s36.2.2)),()))))) λ_=>AO s36.2.2 λk39=>ix r35 k39 λx40=>br (Aq x38.1 x40) (λ_=>some (.dn ((0,((6,(s36.2.2,s36.2.2)),()))))) λ_=>br x38.2.2.1.2.2 (λ_=>bd (B9 (x.1,x38.1)) λr41=>br (AV r41) (λ_=>some (.dn ((0,((6,(s36.2.2,s36.2.2)),()))))) λ_=>bd (BH ((x.1,(x38.1,x38.2.2.1.2.2)))) λr42=>bd (BE r42.2) λr43=>br (Ag x38.2.2.2.2 0) (λ_=>some (.dn ((0,((6,(s36.2.2,s36.2.2)),()))))) λ_=>br (Bv x38.2.2.2.2 r43.1) (λ_=>some (.dn ((0,((6,(s36.2.2,s36.2.2)),()))))) λ_=>bd (BQ (r42.2,x38.2.2.2.2)) λr44=>bd (BK (r44.1,x38.2)) λr45=>br (AV r45) (λ_=>some (.dn ((0,((6,(s36.2.2,s36.2.2)),()))))) λ_=>some (.nx ((s36.1,(s36.2.1,AH .i64 s36.2.2 1))))) λ_=>bd (BH ((x.1,(x38.1,x38.2.2.1.2.2)))) λr46=>bd (BE r46.2) λr47=>br (Ag x38.2.2.2.2 0) (λ_=>some (.dn ((0,((6,(s36.2.2,s36.2.2)),()))))) λ_=>br (Bv x38.2.2.2.2 r47.1) (λ_=>some (.dn ((0,((6,(s36.2.2,s36.2.2)),()))))) λ_=>bd (BQ (r46.2,x38.2.2.2.2)) λr48=>bd (BK (r48.1,x38.2)) λr49=>br (AV r49) (λ_=>some (.dn ((0,((6,(s36.2.2,s36.2.2)),()))))) λ_=>some (.nx ((s36.1,(s36.2.1,AH .i64 s36.2.2 1))))) λ_=>some (.dn ((1,(s36,()))))) ((0,(0,0)))) λr50=>br (neq r50.1 0) (λ_=>some (r50.2.1.2.1,r50.2.1.1)) λ_=>br (Ag (AW (AA x.2.1)) (AW (AA r35))) (λ_=>some (((-1),4))) λ_=>some (0,0)) λ_=>br (Aq r0.2.2 0) (λ_=>some (((-1),r0.2.2))) λ_=>bd (Dr x.1) λr51=>bd (loop (λs52=>br (Ag s52.2.2 (AW (AA x.2.1))) (λ_=>AO s52.2.2 λk53=>ix x.2.1 k53 λx54=>br (Iu s52.2.2 (AW (AA r51))) (λ_=>some (.dn ((0,((6,(s52.2.2,s52.2.2)),()))))) λ_=>AO s52.2.2 λk55=>ix r51 k55 λx56=>br (Aq x54.1 x56) (λ_=>some (.dn ((0,((6,(s52.2.2,s52.2.2)),()))))) λ_=>br x54.2.2.1.2.2 (λ_=>bd (B9 (x.1,x54.1)) λr57=>br (AV r57) (λ_=>some (.dn ((0,((6,(s52.2.2,s52.2.2)),()))))) λ_=>bd (BH ((x.1,(x54.1,x54.2.2.1.2.2)))) λr58=>bd (BE r58.2) λr59=>br (Ag x54.2.2.2.2 0) (λ_=>some (.dn ((0,((6,(s52.2.2,s52.2.2)),()))))) λ_=>br (Bv x54.2.2.2.2 r59.1) (λ_=>some (.dn ((0,((6,(s52.2.2,s52.2.2)),()))))) λ_=>bd (BQ (r58.2,x54.2.2.2.2)) λr60=>bd (BK (r60.1,x54.2)) λr61=>br (AV r61) (λ_=>some (.dn ((0,((6,(s52.2.2,s52.2.2)),()))))) λ_=>some (.nx ((s52.1,(s52.2.1,AH .i64 s52.2.2 1))))) λ_=>bd (BH ((x.1,(x54.1,x54.2.2.1.2.2)))) λr62=>bd (BE r62.2) λr63=>br (Ag x54.2.2.2.2 0) (λ_=>some (.dn ((0,((6,(s52.2.2,s52.2.2)),()))))) λ_=>br (Bv x54.2.2.2.2 r63.1) (λ_=>some (.dn ((0,((6,(s52.2.2,s52.2.2)),()))))) λ_=>bd (BQ (r62.2,x54.2.2.2.2)) λr64=>bd (BK (r64.1,x54.2)) λr65=>br (AV r65) (λ_=>some (.dn ((0,((6,(s52.2.2,s52.2.2)),()))))) λ_=>some (.nx ((s52.1,(s52.2.1,AH .i64 s52.2.2 1))))) λ_=>some (.dn ((1,(s52,()))))) ((0,(0,0)))) λr66=>br (neq r66.1 0) (λ_=>some (r66.2.1.2.1,r66.2.1.1)) λ_=>br (Ag (AW (AA x.2.1)) (AW (AA r51))) (λ_=>some (((-1),4))) λ_=>some (0,0)
end Go.Proofs.YthpkjfabdccpdaaGreat.Pl
namespace Go.Proofs.YthpkjfabdccpdaaGreat.Pl
open Go Go.Proofs.YthpkjfabdccpdaaGreat.Sv
theorem GK (x:AB):Ax x=some (kE x):=by
 unfold Ax kE;rw [Ap,AX,JG];by_cases h1:x.1.length>32
 ·rw [if_pos (by omega),if_pos (.inl h1)]
 rw [if_neg (by omega),Ap,AX,JG];by_cases h2:x.2.1.length>64
 ·rw [if_pos (by omega),if_pos (.inr h2)]
 rw [if_neg (by omega : ¬ (x.2.1.length:Int)>64),if_neg (by omega),HL];by_cases h3:x.2.2.1=true
 ·rw [if_pos h3,Br,Ei];by_cases h4:x.2.1=[]
  ·rw [if_pos h4,if_neg (by simp [h4]),BB,Ap];by_cases h5:x.2.2.2<1
   ·simp [h5]
   ·by_cases h6:x.2.2.2>1000000000<;>simp [h5,h6]
  ·rw [if_neg h4,if_pos ⟨h3,h4⟩]
 ·rw [if_neg h3,if_neg (by simp [h3]),BB,Ap];by_cases h5:x.2.2.2<1
  ·simp [h5]
  ·by_cases h6:x.2.2.2>1000000000<;>simp [h5,h6]
def DV:List UInt8->List UInt8->Nat
 | x::a,y::b=>if x=y then DV a b+1 else 0
 | _,_=>0
theorem aS (x y:UInt8):Bh (SS x) (SS y)=decide (x=y):=by
 rw [IN];unfold SS;by_cases h:x=y
 ·simp [h]
 ·have : ¬ ((x.toNat:Int)=(y.toNat:Int)):=λe=>h (UInt8.toNat_inj.1 (by omega));simp [h,this]
theorem Xn (a b:List UInt8) (ha:a.length<=9223372036854775806):Em (a,b)=some (DV a b:Int):=by
 unfold Em;simp only [AX,JG]
 have key : ∀ (m:List UInt8) (k n:Nat),a.drop k=m->k<=a.length->k<=b.length->m.length<n->D7 n (λs0=>br (Ag s0 (a.length:Int)) (λ_=>br (Ag s0 (b.length:Int)) (λ_=>AO s0 λk1=>ix a k1 λx2=>AO s0 λk3=>ix b k3 λx4=>br (Bh (SS x2) (SS x4)) (λ_=>some (LR.nx (AH .i64 s0 1))) λ_=>some (.dn ((0,(s0,()))))) λ_=>some (.dn ((0,(s0,()))))) λ_=>some (.dn ((0,(s0,()))))) (k:Int)=some ((0:Nat),(((k+DV m (b.drop k):Nat):Int),())):=by
  intro m
  induction m with
  | nil =>
   intro k n hm hk hkb hn;obtain ⟨n,rfl⟩ : ∃ j,n=j+1:=⟨n-1,by omega⟩
   have hkl:k=a.length:=by
    have:=congrArg List.length hm;simp at this;omega
   subst hkl;refine Bo ?_;rw [re];simp [Aa,DV]
  | cons x m ih =>
   intro k n hm hk hkb hn;obtain ⟨n,rfl⟩ : ∃ j,n=j+1:=⟨n-1,by omega⟩
   have hx:a[k]? = some x:=by
    have:=congrArg List.head? hm;rw [List.head?_drop] at this;simpa using this
   have hk':k<a.length:=(List.getElem?_eq_some_iff.1 hx).1
   have hm2:a.drop (k+1)=m:=by
    have:=congrArg List.tail hm;rw [List.tail_drop] at this;simpa using this
   by_cases hb:k<b.length
   ·have hy:b[k]? = some b[k]:=by simp [hb]
    rw [List.drop_eq_getElem_cons hb];unfold DV;by_cases e:x=b[k]
    ·rw [if_pos e];refine (BX (s':=((k+1:Nat):Int)) ?_).trans ?_
     ·rw [rl hk',AL,rl hb,AL,AF,AJ hx,AF,AJ hy,aS,Cj,if_pos e,Ac (by omega)]
     ·rw [ih (k+1) n hm2 (by omega) (by omega) (by simp at hn;omega),show k+1+DV m (b.drop (k+1))=k+(DV m (b.drop (k+1))+1) by omega]
    ·rw [if_neg e];refine Bo ?_;rw [rl hk',AL,rl hb,AL,AF,AJ hx,AF,AJ hy,aS,Cj,if_neg e];simp
   ·have hb2:k=b.length:=by omega
    refine Bo ?_;rw [rl hk',AL,hb2,re,Aa,List.drop_length];simp [DV]
 refine BC (Dd (n:=a.length+1) (by omega) (key a 0 (a.length+1) (by simp) (by omega) (by omega) (by omega))) ?_;simp
def Lb (a b:Hf):Int:=if Bl a b=true then -1 else if a=b then 0 else 1
theorem TB : ∀ (a b:Hf),(DV a b<=a.length/\DV a b<=b.length)/\(DV a b=a.length->DV a b=b.length->Lb a b=0)/\(DV a b=a.length->DV a b≠b.length->Lb a b = -1)/\(DV a b≠a.length->DV a b=b.length->Lb a b=1)/\(∀ x y,a[DV a b]? = some x->b[DV a b]? = some y->Lb a b=if x.toNat<y.toNat then -1 else 1)
 | [],[]=>by simp [DV,Lb,ML]
 | [],y::b=>by simp [DV,Lb,Rd]
 | x::a,[]=>by simp [DV,Lb,ML]
 | x::a,y::b=>by
  obtain ⟨⟨h0,h0'⟩,h1,h2,h3,h4⟩:=TB a b;by_cases e:x=y
  ·subst e
   have ho:Lb (x::a) (x::b)=Lb a b:=by
    unfold Lb;rw [Ij];simp
   have hc:DV (x::a) (x::b)=DV a b+1:=by simp [DV]
   rw [ho,hc];refine ⟨⟨by simp;omega,by simp;omega⟩,λu v=>h1 (by simp at u;omega) (by simp at v;omega),λu v=>h2 (by simp at u;omega) (by simp at v;omega),λu v=>h3 (by simp at u;omega) (by simp at v;omega),λp q hp hq=>h4 p q (by simpa using hp) (by simpa using hq)⟩
  ·have hc:DV (x::a) (y::b)=0:=by simp [DV,e]
   rw [hc];refine ⟨⟨by omega,by omega⟩,λu=>by simp at u,λu=>by simp at u,λ_ u=>by simp at u,λp q hp hq => ?_⟩;simp at hp hq;subst hp hq;unfold Lb;rw [Ij];have hne : ¬ (x::a=y::b):=λh=>e (by injection h);by_cases hlt:x.toNat<y.toNat
   ·have:x<y:=UInt8.lt_iff_toNat_lt.2 hlt;simp [this,hlt]
   ·have : ¬ x<y:=λh=>hlt (UInt8.lt_iff_toNat_lt.1 h);simp [this,hlt,e]
theorem aT (a b:Hf) (ha:a.length<=1000000000) (hb:b.length<=1000000000):EL (a,b)=some (Lb a b):=by
 obtain ⟨⟨h0,h0'⟩,h1,h2,h3,h4⟩:=TB a b;unfold EL;simp only [AX,JG];rw [Xn a b (by omega),AD,By]
 have hl:(if (DV a b:Int)<(b.length:Int) then (AO (DV a b:Int) λk1=>ix a k1 λx2=>AO (DV a b:Int) λk3=>ix b k3 λx4=>br (Ag (SS x2) (SS x4)) (λ_=>some (-1:Int)) λ_=>some 1) else some 1)=(if DV a b=a.length then (if (DV a b:Int)<(b.length:Int) then (AO (DV a b:Int) λk1=>ix a k1 λx2=>AO (DV a b:Int) λk3=>ix b k3 λx4=>br (Ag (SS x2) (SS x4)) (λ_=>some (-1:Int)) λ_=>some 1) else some 1) else some (Lb a b)):=by
  by_cases u:DV a b=a.length
  ·rw [if_pos u]
  ·rw [if_neg u];by_cases v:DV a b=b.length
   ·rw [if_neg (by omega),h3 u v]
   ·rw [if_pos (by omega),AF];have hx:a[DV a b]? = some (a[DV a b]'(by omega)):=by simp
    have hy:b[DV a b]? = some (b[DV a b]'(by omega)):=by simp
    rw [AJ hx,AF,AJ hy,BB,h4 _ _ hx hy];unfold SS;by_cases w:(a[DV a b]'(by omega)).toNat<(b[DV a b]'(by omega)).toNat
    ·rw [if_pos (by omega),if_pos w]
    ·rw [if_neg (by omega),if_neg w]
 by_cases u:DV a b=a.length
 ·rw [if_pos (by omega),By];by_cases v:DV a b=b.length
  ·rw [if_pos (by omega),h1 u v]
  ·rw [if_neg (by omega),By,if_pos (by omega),h2 u v]
 ·rw [if_neg (by omega),By,if_neg (by omega),BB,hl,if_neg u]
theorem Wf (a b:Hf):Lb a b>=0<->Bl a b=false:=by
 unfold Lb;cases h:Bl a b with
 | true=>simp
 | false=>simp;split<;>omega
theorem Gk (l:List AB) (hl:l.length<=9223372036854775807):Cc l=some (Ej l):=by
 unfold Cc Ej;simp only [AX,AR];rw [Ap];by_cases h:l.length>5000
 ·rw [if_pos (by omega),if_pos h]
 rw [if_neg (by omega),if_neg h];obtain ⟨T,hT⟩ : ∃ T,T=JZ none 0 l:=⟨_,rfl⟩;rw [<- hT]
 obtain ⟨r,q1,q2⟩:=D1 (l:=l) (σ:=Unit) (s:=((0:Int),((0:Int),(0:Int)))) (λk _=>((0:Int),((0:Int),(k:Int)))) (λm k _=>JZ (if k=0 then none else (l[k-1]?).map (·.1)) k m=T/\(∀ y,k≠0->l[k-1]? = some y->kE y=0)) (λ(r:Nat×((Int×(Int×Int))×Unit))=>(r.1=1/\T=(0,0))\/(r.1=0/\T=(r.2.1.2.1,r.2.1.1)))
  (f:=λs0=>br (Ag s0.2.2 (l.length:Int)) (λ_=>AO s0.2.2 λk1=>ix l k1 λx2=>bd (Ax x2) λr3=>br (Bh r3 0) (λ_=>br (Bv s0.2.2 0) (λ_=>AO (A9 .i64 s0.2.2 1) λk4=>ix l k4 λx5=>AO s0.2.2 λk6=>ix l k6 λx7=>bd (EL (x5.1,x7.1)) λr8=>br (Iu r8 0) (λ_=>some (.dn ((0,((6,(s0.2.2,s0.2.2)),()))))) λ_=>br (Aq r3 0) (λ_=>some (.dn ((0,((r3,(s0.2.2,s0.2.2)),()))))) λ_=>some (.nx ((s0.1,(s0.2.1,AH .i64 s0.2.2 1))))) λ_=>br (Aq r3 0) (λ_=>some (.dn ((0,((r3,(s0.2.2,s0.2.2)),()))))) λ_=>some (.nx ((s0.1,(s0.2.1,AH .i64 s0.2.2 1))))) λ_=>br (Aq r3 0) (λ_=>some (.dn ((0,((r3,(s0.2.2,s0.2.2)),()))))) λ_=>some (.nx ((s0.1,(s0.2.1,AH .i64 s0.2.2 1))))) λ_=>some (.dn ((1,(s0,())))))
  () rfl (by omega) ⟨hT.symm,λ_ h=>absurd rfl h⟩ (λ_ h=>by
   refine ⟨_,by simp only;rw [re];rfl,.inl ⟨rfl,?_⟩⟩;rw [<- h.1];simp [JZ]) (λk x m _ hd hx hk h=>by
   simp only;obtain ⟨h,hprev⟩:=h;rw [rl hk,AL,AF,AJ hx,GK,AD,By];unfold JZ at h
   have next:kE x=0->(T=JZ (some x.1) (k+1) m)->JZ (if k+1=0 then none else (l[k+1-1]?).map (·.1)) (k+1) m=T/\(∀ y,k+1≠0->l[k+1-1]? = some y->kE y=0):=λh0 e=>by
    rw [if_neg (by omega),Nat.add_sub_cancel,hx,e];exact ⟨rfl,λy _ hy=>by cases hy;exact h0⟩
   by_cases h0:kE x=0
   ·rw [if_pos h0,Ap];rw [if_neg (by simp [h0])] at h;by_cases hk0:k=0
    ·rw [if_neg (by omega),AT,if_pos h0];rw [if_pos hk0] at h;exact .inl ⟨(),by rw [A6 hx (by omega)],next h0 h.symm⟩
    ·have hy:l[k-1]? = some (l[k-1]'(by omega)):=by rw [List.getElem?_eq_getElem]
     rw [if_pos (by omega),show A9 .i64 (k:Int) 1=((k-1:Nat):Int) by rw [CH (by omega)];omega,AF,AJ hy,AF,AJ hx];rw [if_neg hk0,hy] at h;simp only [Option.map_some] at h;rw [aT _ _ (by have:=O2 (hprev _ hk0 hy);omega) (by have:=O2 h0;omega),AD,G3];by_cases hs:Bl (l[k-1]'(by omega)).1 x.1=true
     ·rw [if_neg (λe=>by rw [Wf,hs] at e;cases e),AT,if_pos h0];rw [if_pos hs] at h;exact .inl ⟨(),by rw [A6 hx (by omega)],next h0 h.symm⟩
     ·rw [if_pos ((Wf _ _).2 (by simpa using hs))];rw [if_neg hs] at h;exact .inr ⟨_,rfl,.inr ⟨rfl,h.symm⟩⟩
   ·rw [if_neg h0,AT,if_neg h0];rw [if_pos h0] at h
    exact .inr ⟨_,rfl,.inr ⟨rfl,h.symm⟩⟩)
 refine BC q1 ?_;rw [CR];rcases q2 with ⟨q2,q3⟩ | ⟨q2,q3⟩
 ·rw [if_neg (show ¬ r.1=0 by omega),q3]
 ·rw [if_pos q2,q3]
theorem aU (p q:AQ) (hp:EX p) (hq:EX q):E7 ([p,q],(0,1))=some (w0 p q):=by
 unfold E7 w0;refine (El 0 rfl (x:=p) rfl).trans ((El 1 rfl (x:=q) rfl).trans ?_);rw [beq_eq,CQ,Cj,Br,HL];by_cases h1:p.2=q.2
 ·rw [if_neg (show ¬ ¬ p.2=q.2 by simp [h1]),if_neg (show ¬ p.2≠q.2 by simp [h1])];by_cases h2:p.2=true
  ·rw [if_pos h2,hp h2,hq (h1 ▸ h2)];rfl
  ·rw [if_neg h2,Br,Ei];by_cases h3:p.1=q.1
   ·rw [if_pos h3,if_neg (by simp [h3])];rfl
   ·rw [if_neg h3,if_pos h3]
 ·rw [if_pos h1,if_pos h1]
theorem Ni (p q:AQ) (n:Nat) (k:Int) (h:2<=k) (hk:k<=100):J2 As (n+1) ([p,q],k)=some (k-2,0):=by
 show As (J2 As n) ([p,q],k)=_;unfold As;show br (Iu k 2) (λ_=>some (A9 .i64 k 2,0)) _=_;rw [G3,if_pos h,CH (by omega)]
theorem O7 (p q:AQ) (hp:EX p) (hq:EX q):GE ([p,q],1)=some (if w0 p q=true then (0,1) else (1,0)):=by
 show As (J2 As 99) ([p,q],1)=_;unfold As;show br (Iu (1:Int) 2) (λ_=>some (A9 .i64 (1:Int) 2,0)) (λ_=>bd (J2 As (98+1) ([p,q],2)) λr0=>bd (J2 As (98+1) ([p,q],3)) _)=_;rw [G3,if_neg (by omega),Ni p q 98 2 (by omega) (by omega),AD,Ni p q 98 3 (by omega) (by omega),AD];show bd (E7 ([p,q],(0,1))) _=_;rw [aU p q hp hq,AD,HL];cases h:w0 p q<;>rfl
theorem aV (p q:AQ) (hp:EX p) (hq:EX q):GF [p,q]=some (Tt p q):=by
 unfold GF;refine Eq.trans (b:=bd (loop _ (1,([p,q],([0,0],0)))) _) rfl ?_;refine BC (x:=(0,((2,([p,q],([0,if w0 p q=true then 1 else 0],0))),()))) (Dd (n:=2) (by omega) ((BX (s':=(2,([p,q],([0,if w0 p q=true then 1 else 0],0)))) ?_).trans (Bo rfl))) ?_
 ·show bd (GE ([p,q],1)) _=_;rw [O7 p q hp hq,AD];refine (J5 1 rfl (x:=(0:Int)) rfl).trans ?_;cases h:w0 p q<;>rfl
 ·rw [O7 p q hp hq,AD];unfold Tt;cases h:w0 p q<;>rfl
theorem Xo {l:List AQ} (h : ∀ k∈l,EX k) (h0:l≠[]) (hl:l.length<=32):FL l=some 0:=by
 unfold FL;simp only [AX,AR];rw [By,Ap,if_neg (by have:=List.length_pos_iff.2 h0;omega),if_neg (by omega)]
 rw [GB (l:=l) (σ:=Unit) (s:=((0:Int),(0:Int))) (λk _=>((k:Int),(0:Int))) (λ_ _ _=>True) (λ_ _ _=>(1,(((l.length:Int),0),()))) () rfl (by omega) trivial (λst _=>by
  simp only;rw [re];rfl) (λk x m st _ hx hk _=>⟨(),by
   simp only;rw [rl hk,AL,AF,AJ hx,HL,A6 hx (by omega)];by_cases hd:x.2=true
   ·rw [if_pos hd,AF,AJ hx,Br,Ei,if_pos (h x (List.mem_of_getElem? hx) hd)]
   ·rw [if_neg hd],trivial,rfl⟩),AD]
 rfl
theorem Xp (p q:AQ) (hp:EX p) (hq:EX q):EM [p,q]=some (Tt p q,0):=by
 unfold EM;rw [Xo (by simp [hp,hq]) (by simp) (by simp),AD,AT,if_pos rfl,aV p q hp hq,AD]
end Go.Proofs.YthpkjfabdccpdaaGreat.Pl
namespace Go.Proofs.YthpkjfabdccpdaaGreat.Pl
open Go Go.Proofs.YthpkjfabdccpdaaGreat.Sv
theorem Gw:Bi=BL:=rfl
theorem O8:GG=Af:=rfl
theorem Um (l m:List AQ) (hb:l.length<=9223372036854775806) (hl:l.length=m.length) : ∃ r,loop (λs1=>br (Ag s1.1 (l.length:Int)) (λ_=>AO s1.1 λk2=>ix l k2 λx3=>AO s1.1 λk4=>ix m k4 λx5=>br (AV (BZ (seq x3.1 x5.1) (BZ (Sv.beq x3.2 x5.2) true))) (λ_=>some (LR.dn ((0:Nat),((s1.1,false),())))) λ_=>some (.nx (AH .i64 s1.1 1,s1.2))) λ_=>some (.dn ((1,(s1,()))))) ((0:Int),false)=some r/\((l=m/\r.1=1)\/(l≠m/\r.1=0/\r.2.1.2=false)):=by
 refine Ip l m hl hb (λk x y hx hy => ?_) (by simp only;rw [re];rfl);have hk:=(List.getElem?_eq_some_iff.1 hx).1
 have he : ∀ {β:Type} (u v:Unit->Option β),br (AV (BZ (seq x.1 y.1) (BZ (Sv.beq x.2 y.2) true))) u v=if x=y then v () else u ():=by
  intro β u v;rw [MP,LY,beq_eq,JJ,CQ,Cj];by_cases e:x=y
  ·subst e;simp
  ·rw [if_pos (λh=>e (Prod.ext h.1 h.2)),if_neg e]
 constructor
 ·intro e;simp only;rw [rl hk,AL,AF,AJ hx,AF,AJ hy,he,if_pos e,Ac (by omega)]
 ·intro e;simp only;rw [rl hk,AL,AF,AJ hx,AF,AJ hy,he,if_neg e]
theorem O9 (s t:D0) (h1:s.1.length<=1000) (h2:s.2.1.length<=1000):E8 (s,t)=some (decide (s=t)):=by
 obtain ⟨sk,sl,sw⟩:=s;obtain ⟨tk,tl,tw⟩:=t;simp only at h1 h2;unfold E8;simp only [AX,AR];rw [AT];by_cases e1:(sk.length:Int)=(tk.length:Int);rotate_left
 ·rw [if_neg e1];have : ¬ sk=tk:=λe=>e1 (by rw [e]);simp [this]
 rw [if_pos e1,AT];by_cases e2:sw=tw;rotate_left
 ·rw [if_neg e2];simp [e2]
 rw [if_pos e2,O8,Kf _ _ (by omega),AD,CQ,Cj];by_cases e3:sl=tl;rotate_left
 ·rw [if_pos e3];simp [e3]
 rw [if_neg (show ¬ ¬ sl=tl by simp [e3])];obtain ⟨r,q1,q2⟩:=Um sk tk (by omega) (by omega);refine BC q1 ?_;rw [CR];rcases q2 with ⟨e,q2⟩ | ⟨e,q2,q3⟩
 ·rw [if_neg (show ¬ r.1=0 by omega)];simp [e,e2,e3]
 ·rw [if_pos q2,q3];simp [e]
theorem TC (s t:AS) (h1:s.1.length<=1000) (h2 : ∀ l∈s.1,l.length<=1000000) (h3:s.2.1.length<=1000) (h4:s.2.2.1.length<=1000) (h5:s.2.2.2.1.length<=1000):GJ (s,t)=some (decide (s=t)):=by
 obtain ⟨sr,sa,st⟩:=s;obtain ⟨tr,ta,tt⟩:=t;simp only at h1 h2 h3 h4 h5;unfold GJ;simp only [AX,AR];rw [AT];by_cases e1:(sr.length:Int)=(tr.length:Int);rotate_left
 ·rw [if_neg e1];have : ¬ sr=tr:=λe=>e1 (by rw [e]);simp [this]
 rw [if_pos e1,O8,Kf _ _ (by omega),AD,CQ,Cj];by_cases e2:sa=ta;rotate_left
 ·rw [if_pos e2];simp [e2]
 rw [if_neg (show ¬ ¬ sa=ta by simp [e2]),O9 _ _ h4 h5,AD,CQ,Cj];by_cases e3:st=tt;rotate_left
 ·rw [if_pos e3];simp [e3]
 rw [if_neg (show ¬ ¬ st=tt by simp [e3])]
 obtain ⟨r,q1,q2⟩:=Ip sr tr (by omega) (by omega) (f:=λs2=>br (Ag s2.1 (sr.length:Int)) (λ_=>AO s2.1 λk3=>ix sr k3 λx4=>AO s2.1 λk5=>ix tr k5 λx6=>bd (Bi (x4,x6)) λr7=>br (AV r7) (λ_=>some (.dn ((0,((s2.1,false),()))))) λ_=>some (.nx (AH .i64 s2.1 1,s2.2))) λ_=>some (.dn ((1,(s2,()))))) (λk x y hx hy=>by
   have hk:=(List.getElem?_eq_some_iff.1 hx).1;have hx1:=h2 x (List.mem_of_getElem? hx);constructor
   ·intro e;simp only;rw [rl hk,AL,AF,AJ hx,AF,AJ hy,Gw,GD _ _ (by omega),AD,CQ,Cj,if_neg (by simp [e]),Ac (by omega)]
   ·intro e;simp only
    rw [rl hk,AL,AF,AJ hx,AF,AJ hy,Gw,GD _ _ (by omega),AD,CQ,Cj,if_pos e]) (by simp only;rw [re];rfl)
 refine BC q1 ?_;rw [CR];rcases q2 with ⟨e,q2⟩ | ⟨e,q2,q3⟩
 ·rw [if_neg (show ¬ r.1=0 by omega)];simp [e,e2,e3]
 ·rw [if_pos q2,q3];simp [e]
theorem PA (x y:JF) (h1:x.1.1.length<=1000) (h2 : ∀ l∈x.1.1,l.length<=1000000) (h3:x.1.2.1.length<=1000) (h4:x.1.2.2.1.length<=1000) (h5:x.1.2.2.2.1.length<=1000) (h6:x.2.2.1.length<=1000000):BK (x,y)=some (decide (x=y)):=by
 obtain ⟨xm,⟨xs,xt,xb⟩,xo,xn⟩:=x;obtain ⟨ym,⟨ys,yt,yb⟩,yo,yn⟩:=y;simp only at h1 h2 h3 h4 h5 h6;unfold BK;simp only [TC _ _ h1 h2 h3 h4 h5,Gw,GD _ _ (show xo.length<=9223372036854775806 by omega),AD,Cj,IN,LY,beq_eq,MP,JJ]
 repeat' split
 all_goals simp_all
section
variable {a b:List AB} (va:VL a) (vb:VL b)
include va vb
theorem Lc:DS [a,b]=some (0,0):=by
 have la:=va.len;have lb:=vb.len;unfold DS;refine Eq.trans (b:=bd (loop _ (0,(0,0))) _) rfl ?_;refine BC (x:=(1,((0,(0,2)),()))) (CV (s1:=(0,(0,1))) (s2:=(0,(0,2))) ?_ ?_ rfl) rfl
 ·refine (Np 0 rfl rfl (x:=a) rfl).trans ?_;rw [Gk _ (by omega),J3 va,AD];rfl
 ·refine (Np 1 rfl rfl (x:=b) rfl).trans ?_;rw [Gk _ (by omega),J3 vb,AD];rfl
theorem JL {i j:Nat} (hi:i<=a.length) (hj:j<=b.length):DT ([a,b],[(i:Int),(j:Int)])=some (if i=a.length/\j=b.length then -1 else if Hr a b i j=true then 0 else 1):=by
 have la:=va.len;have lb:=vb.len;unfold DT;simp only [AX,AR];refine BC (x:=(0,((if i=a.length/\j=b.length then -1 else if Hr a b i j=true then 0 else 1,2),()))) (CV (s1:=(if i=a.length then -1 else 0,1)) (s2:=(if i=a.length/\j=b.length then -1 else if Hr a b i j=true then 0 else 1,2)) ?_ ?_ rfl) rfl
 ·refine (Np 0 rfl rfl (x:=(i:Int)) rfl).trans ((El 0 rfl (x:=a) rfl).trans ?_);rw [BB];by_cases h:i=a.length
  ·rw [if_neg (by omega),if_pos h];rfl
  ·rw [if_pos (by omega),if_neg h];rfl
 ·refine (Np 1 rfl rfl (x:=(j:Int)) rfl).trans ((El 1 rfl (x:=b) rfl).trans ?_);rw [BB];by_cases h:j=b.length
  ·rw [if_neg (by omega)];by_cases h2:i=a.length
   ·rw [if_pos h2,if_pos ⟨h2,h⟩];rfl
   ·rw [if_neg h2,if_neg (λh3=>h2 h3.1)];have hx:a[i]? = some (a[i]'(by omega)):=by simp
    rw [WY hx (List.getElem?_eq_none (by omega))];rfl
  ·have hy:b[j]? = some (b[j]'(by omega)):=by simp
   rw [if_pos (by omega),BB,if_neg (λh3:i=a.length/\j=b.length=>h h3.2)];by_cases h2:i=a.length
   ·rw [if_pos h2,if_pos (by omega),WZ (List.getElem?_eq_none (by omega)) hy];rfl
   ·rw [if_neg h2,if_neg (by omega)];have hx:a[i]? = some (a[i]'(by omega)):=by simp
    refine (El 1 rfl (x:=b) rfl).trans ((El 1 rfl (x:=(j:Int)) rfl).trans ((El j rfl hy).trans ((El 0 rfl (x:=a) rfl).trans ((El 0 rfl (x:=(i:Int)) rfl).trans ((El i rfl hx).trans ?_)))));rw [F9,Ox hx hy];cases hs:Bl (b[j]'(by omega)).1 (a[i]'(by omega)).1<;>rfl
theorem JM {i j:Nat} (hi:i<=a.length) (hj:j<=b.length):Cp ([a,b],[(i:Int),(j:Int)])=some (Lf a b i j):=by
 have la:=va.len;have lb:=vb.len;unfold Cp;simp only [AX,AR];rw [Bt (show [a,b].length<=1048576 from (show 2<=1048576 by omega)),Bt (show [(i:Int),(j:Int)].length<=1048576 from (show 2<=1048576 by omega))];refine BC (x:=(0,((2,[kx a i,kx b j]),()))) (CV (s1:=(1,[kx a i])) (s2:=(2,[kx a i,kx b j])) ?_ ?_ rfl) ?_
 ·refine (Np 0 rfl rfl (x:=(i:Int)) rfl).trans ((El 0 rfl (x:=a) rfl).trans ?_);rw [IN,CQ,Cj];by_cases h:i=a.length
  ·have hne:((i:Int)=(a.length:Int)):=by omega
   rw [if_neg (show ¬ ¬ ((i:Int)=(a.length:Int)) by simp [hne]),MO (List.getElem?_eq_none (by omega))];simp only [hne,decide_true];rfl
  ·have hx:a[i]? = some (a[i]'(by omega)):=by simp
   have hne : ¬ ((i:Int)=(a.length:Int)):=by omega
   rw [if_pos hne];refine (El 0 rfl (x:=a) rfl).trans ((El 0 rfl (x:=(i:Int)) rfl).trans ((El i rfl hx).trans ?_));rw [GA hx];simp only [hne,decide_false];rfl
 ·refine (Np 1 rfl rfl (x:=(j:Int)) rfl).trans ((El 1 rfl (x:=b) rfl).trans ?_);rw [IN,CQ,Cj];by_cases h:j=b.length
  ·have hne:((j:Int)=(b.length:Int)):=by omega
   rw [if_neg (show ¬ ¬ ((j:Int)=(b.length:Int)) by simp [hne]),MO (l:=b) (i:=j) (List.getElem?_eq_none (by omega))];simp only [hne,decide_true];rfl
  ·have hx:b[j]? = some (b[j]'(by omega)):=by simp
   have hne : ¬ ((j:Int)=(b.length:Int)):=by omega
   rw [if_pos hne];refine (El 1 rfl (x:=b) rfl).trans ((El 1 rfl (x:=(j:Int)) rfl).trans ((El j rfl hx).trans ?_));rw [GA (l:=b) (i:=j) hx];simp only [hne,decide_false];rfl
 ·show bd (EM [kx a i,kx b j]) _=_;rw [Xp _ _ (BW _ _) (BW _ _)];rfl
theorem Wg {i:Nat} {l:List AB} (h:i≠0) (hi:i<=l.length) : ∃ x,l[i-1]? = some x:=⟨l[i-1]'(by omega),by simp⟩
theorem NG {i j:Nat} (I:Inv a b i j):DU (Lf a b i j)=some (0,0):=by
 have la:=va.len;have lb:=vb.len;have hi:=I.ia;have hj:=I.jb;unfold DU;rw [show (Lf a b i j).1=[a,b] from rfl,Lc va vb,AD,AT,if_pos rfl];rw [show (Lf a b i j).2.1=[(i:Int),(j:Int)] from rfl,AT,if_pos (show AW (AA [(i:Int),(j:Int)])=AW (AA [a,b]) from rfl)];refine BC (x:=(1,((0,(0,2)),()))) (CV (s1:=(0,(0,1))) (s2:=(0,(0,2))) ?_ ?_ rfl) ?_
 ·refine (Np 0 rfl rfl (x:=(i:Int)) rfl).trans ?_;rw [BB,if_neg (by omega)];refine (El 0 rfl (x:=(i:Int)) rfl).trans ((El 0 rfl (x:=a) rfl).trans ?_);rw [Ap,if_neg (by simp only [AX,AR];omega)];rfl
 ·refine (Np 1 rfl rfl (x:=(j:Int)) rfl).trans ?_;rw [BB,if_neg (by omega)];refine (El 1 rfl (x:=(j:Int)) rfl).trans ((El 1 rfl (x:=b) rfl).trans ?_);rw [Ap,if_neg (by simp only [AX,AR];omega)];rfl
 rw [show neq ((1:Nat),(((0:Int),((0:Int),(2:Int))),())).1 0=false from rfl,Aa,JM va vb hi hj,AD,O9 (Lf a b i j).2.2 (Lf a b i j).2.2 (show 2<=1000 by omega) (show 2<=1000 by omega),AD,CQ,Cj,if_neg (show ¬ ¬ (Lf a b i j).2.2=(Lf a b i j).2.2 by simp),JL va vb hi hj,AD];by_cases hd:i=a.length/\j=b.length
 ·rw [if_pos hd];refine BC (x:=(1,((0,(0,0)),()))) (Dd (n:=1) (by omega) (Bo ?_)) rfl;rfl
 rw [if_neg hd];cases g:Hr a b i j with
 | true =>
  rw [if_pos rfl]
  have hil:i<a.length:=by
   refine Nat.lt_of_not_le λh' => ?_;have hb2:j<b.length:=by omega
   rw [WZ (List.getElem?_eq_none h') (show b[j]? = some (b[j]'hb2) by simp)] at g;cases g
  have hx:a[i]? = some (a[i]'hil):=by simp
  refine BC (x:=(1,((0,(0,2)),()))) (CV (s1:=(0,(0,1))) (s2:=(0,(0,2))) ?_ ?_ rfl) rfl
  ·show br (Ag (0:Int) 2) _ _=_;rw [BB,if_pos (by omega),G3,if_pos (by omega)];refine (El 0 rfl (x:=(i:Int)) rfl).trans ?_;rw [By];by_cases h0:i=0
   ·rw [if_pos (by omega)];rfl
   ·rw [if_neg (by omega)];obtain ⟨y,hy⟩:=Wg va vb (l:=a) h0 hi;refine (El 0 rfl (x:=a) rfl).trans ((El 0 rfl (x:=(i:Int)) rfl).trans ?_);rw [show A9 .i64 (i:Int) 1=((i-1:Nat):Int) by rw [CH (by omega)];omega,AF,AJ hy];refine (El 0 rfl (x:=a) rfl).trans ((El 0 rfl (x:=(i:Int)) rfl).trans ((El i rfl hx).trans ?_));have hlt:=va.lt hy (show a[i-1+1]? = some _ by rw [show i-1+1=i by omega];exact hx);rw [F9,if_neg (by rw [Cs hlt];simp),Ei,if_neg (Ua hlt)];rfl
  ·show br (Ag (1:Int) 2) _ _=_;rw [BB,if_pos (by omega),G3,if_pos (by omega)];refine (El 1 rfl (x:=(j:Int)) rfl).trans ?_;rw [By];by_cases h0:j=0
   ·rw [if_pos (by omega)];rfl
   ·rw [if_neg (by omega)];obtain ⟨y,hy⟩:=Wg va vb (l:=b) h0 hj;refine (El 1 rfl (x:=b) rfl).trans ((El 1 rfl (x:=(j:Int)) rfl).trans ?_);rw [show A9 .i64 (j:Int) 1=((j-1:Nat):Int) by rw [CH (by omega)];omega,AF,AJ hy];refine (El 0 rfl (x:=a) rfl).trans ((El 0 rfl (x:=(i:Int)) rfl).trans ((El i rfl hx).trans ?_));have hlt:=I.pb (j-1) (by omega) y _ hy hx;rw [F9,if_neg (by rw [Cs hlt];simp),Ei,if_neg (Ua hlt)];rfl
 | false =>
  rw [if_neg (by simp)]
  have hjl:j<b.length:=by
   refine Nat.lt_of_not_le λh' => ?_;have ha2:i<a.length:=by omega
   rw [WY (show a[i]? = some (a[i]'ha2) by simp) (List.getElem?_eq_none h')] at g;cases g
  have hx:b[j]? = some (b[j]'hjl):=by simp
  refine BC (x:=(1,((0,(0,2)),()))) (CV (s1:=(0,(0,1))) (s2:=(0,(0,2))) ?_ ?_ rfl) rfl
  ·show br (Ag (0:Int) 2) _ _=_;rw [BB,if_pos (by omega),G3,if_pos (by omega)];refine (El 0 rfl (x:=(i:Int)) rfl).trans ?_;rw [By];by_cases h0:i=0
   ·rw [if_pos (by omega)];rfl
   ·rw [if_neg (by omega)];obtain ⟨y,hy⟩:=Wg va vb (l:=a) h0 hi;refine (El 0 rfl (x:=a) rfl).trans ((El 0 rfl (x:=(i:Int)) rfl).trans ?_);rw [show A9 .i64 (i:Int) 1=((i-1:Nat):Int) by rw [CH (by omega)];omega,AF,AJ hy];refine (El 1 rfl (x:=b) rfl).trans ((El 1 rfl (x:=(j:Int)) rfl).trans ((El j rfl hx).trans ?_));have hle:=I.pa (i-1) (by omega) y _ hy hx;rw [F9,if_neg (by rw [hle];simp),Ei];by_cases he:y.1=(b[j]'hjl).1
    ·rw [if_pos he];rfl
    ·rw [if_neg he];rfl
  ·show br (Ag (1:Int) 2) _ _=_;rw [BB,if_pos (by omega),G3,if_pos (by omega)];refine (El 1 rfl (x:=(j:Int)) rfl).trans ?_;rw [By];by_cases h0:j=0
   ·rw [if_pos (by omega)];rfl
   ·rw [if_neg (by omega)];obtain ⟨y,hy⟩:=Wg va vb (l:=b) h0 hj;refine (El 1 rfl (x:=b) rfl).trans ((El 1 rfl (x:=(j:Int)) rfl).trans ?_);rw [show A9 .i64 (j:Int) 1=((j-1:Nat):Int) by rw [CH (by omega)];omega,AF,AJ hy];refine (El 1 rfl (x:=b) rfl).trans ((El 1 rfl (x:=(j:Int)) rfl).trans ((El j rfl hx).trans ?_));have hlt:=vb.lt hy (show b[j-1+1]? = some _ by rw [show j-1+1=j by omega];exact hx);rw [F9,if_neg (by rw [Cs hlt];simp),Ei,if_neg (Ua hlt)];rfl
end
end Go.Proofs.YthpkjfabdccpdaaGreat.Pl
namespace Go.Proofs.YthpkjfabdccpdaaGreat.Pl
open Go Go.Proofs.YthpkjfabdccpdaaGreat.Sv
section
variable {a b:List AB} (va:VL a) (vb:VL b)
include va vb
theorem aW {n:Nat} {x:AB} (h:n<a.length+b.length) (hx:Nn a b n=some x):D5 (La a b n)=some (x,((Oy a b n:Int),(La a b (n+1),0))):=by
 obtain ⟨hI,hs⟩:=Ff va vb (n:=n) (by omega);obtain ⟨hI2,hs2⟩:=Ff va vb (n:=n+1) (by omega);have la:=va.len;have lb:=vb.len;have hia:=hI.ia;have hjb:=hI.jb;unfold D5;rw [show La a b n=Lf a b (Am a b n).1 (Am a b n).2 from rfl,NG va vb hI,AD,AT,if_pos rfl,show (Lf a b (Am a b n).1 (Am a b n).2).1=[a,b] from rfl,show (Lf a b (Am a b n).1 (Am a b n).2).2.1=[((Am a b n).1:Int),((Am a b n).2:Int)] from rfl,JL va vb hia hjb,AD,if_neg (λhh:(Am a b n).1=a.length/\(Am a b n).2=b.length=>by omega)];unfold Nn at hx;have hpos:Am a b (n+1)=if Hr a b (Am a b n).1 (Am a b n).2=true then ((Am a b n).1+1,(Am a b n).2) else ((Am a b n).1,(Am a b n).2+1):=rfl
 unfold La Oy;cases g:Hr a b (Am a b n).1 (Am a b n).2 with
 | true =>
  rw [g,if_pos rfl] at hpos;rw [g,if_pos rfl] at hx;have hi:=(List.getElem?_eq_some_iff.1 hx).1;rw [if_pos rfl,BB,if_neg (by omega),Bt (show AA [((Am a b n).1:Int),((Am a b n).2:Int)]<=1048576 from (show 2<=1048576 by omega))];refine (J5 0 rfl (x:=((Am a b n).1:Int)) rfl).trans ((J5 0 rfl (x:=((Am a b n).1:Int)) rfl).trans ((El 0 rfl (x:=a) rfl).trans ((El 0 rfl (x:=((Am a b n).1:Int)) rfl).trans ((El _ rfl hx).trans ?_))));rw [Ac (by omega),show lset [((Am a b n).1:Int),((Am a b n).2:Int)] 0 (((Am a b n).1+1:Nat):Int)=[(((Am a b n).1+1:Nat):Int),((Am a b n).2:Int)] from rfl,JM va vb (by omega) hjb,AD,hpos];rfl
 | false =>
  rw [g,if_neg (by simp)] at hpos;rw [g,if_neg (by simp)] at hx;have hi:=(List.getElem?_eq_some_iff.1 hx).1;rw [if_neg (by simp),BB,if_neg (by omega),Bt (show AA [((Am a b n).1:Int),((Am a b n).2:Int)]<=1048576 from (show 2<=1048576 by omega))];refine (J5 1 rfl (x:=((Am a b n).2:Int)) rfl).trans ((J5 1 rfl (x:=((Am a b n).2:Int)) rfl).trans ((El 1 rfl (x:=b) rfl).trans ((El 1 rfl (x:=((Am a b n).2:Int)) rfl).trans ((El _ rfl hx).trans ?_))));rw [Ac (by omega),show lset [((Am a b n).1:Int),((Am a b n).2:Int)] 1 (((Am a b n).2+1:Nat):Int)=[((Am a b n).1:Int),(((Am a b n).2+1:Nat):Int)] from rfl,JM va vb hia (by omega),AD,hpos];rfl
theorem aX {n:Nat} (h:n<=a.length+b.length):GI (La a b n)=some (((a.length+b.length-n:Nat):Int),0):=by
 obtain ⟨hI,hs⟩:=Ff va vb (n:=n) h;have la:=va.len;have lb:=vb.len;have ha:=hI.ia;have hb:=hI.jb;unfold GI;rw [show La a b n=Lf a b (Am a b n).1 (Am a b n).2 from rfl,NG va vb hI,AD,AT,if_pos rfl];refine BC (x:=(0,((2,((a.length+b.length-n:Nat):Int)),()))) (CV (s1:=(1,(a.length:Int)-((Am a b n).1:Int))) (s2:=(2,((a.length+b.length-n:Nat):Int))) ?_ ?_ rfl) rfl
 ·refine (Np 0 rfl rfl (x:=a) rfl).trans ((El 0 rfl (x:=((Am a b n).1:Int)) rfl).trans ?_);simp only [AX,AR];rw [show AH .i64 (0:Int) (a.length:Int)=(a.length:Int) by rw [Ci (by omega),Int.zero_add],CH (by omega)];rfl
 ·refine (Np 1 rfl rfl (x:=b) rfl).trans ((El 1 rfl (x:=((Am a b n).2:Int)) rfl).trans ?_);simp only [AX,AR];show some (LR.nx ((2:Int),A9 .i64 (AH .i64 ((a.length:Int)-((Am a b n).1:Int)) (b.length:Int)) ((Am a b n).2:Int)))=_;rw [Ci (by omega),CH (by omega),show (a.length:Int)-((Am a b n).1:Int)+(b.length:Int)-((Am a b n).2:Int)=((a.length+b.length-n:Nat):Int) by omega]
theorem Wh:Eo [a,b]=some (Az a b (a.length+b.length),(Hi a b (a.length+b.length),0)):=by
 have la:=va.len;have lb:=vb.len;unfold Eo;rw [Lc va vb,AD,AT,if_pos rfl];refine Eq.trans (b:=bd (loop _ ([],([],([],(0,([],[0,0])))))) _) rfl ?_
 refine BC (x:=(0,((Hi a b (a.length+b.length),(Az a b (a.length+b.length),0)),())))
  (Io (λk=>([],(Az a b k,([],(0,(Hi a b k,[((Am a b k).1:Int),((Am a b k).2:Int)])))))) 0 (a.length+b.length) rfl (by omega) (by omega) (λk _ hk => ?_) ?_) rfl
 ·obtain ⟨x,hx,_⟩:=EE va vb (n:=k) hk;obtain ⟨hI,hs⟩:=Ff va vb (n:=k) (by omega);have hl1:(Az a b k).length=k:=Cb va vb (by omega);have hl2:=NC a b k;simp only;rw [JL va vb hI.ia hI.jb,AD,if_neg (λhh:(Am a b k).1=a.length/\(Am a b k).2=b.length=>by omega)];rw [Gj va vb hx];unfold Nn at hx;rw [show Hi a b (k+1)=Hi a b k++[(Oy a b k:Int)] from rfl];unfold Oy;rw [show Am a b (k+1)=if Hr a b (Am a b k).1 (Am a b k).2=true then ((Am a b k).1+1,(Am a b k).2) else ((Am a b k).1,(Am a b k).2+1) from rfl]
  have g1 : ∀ {β:Type} (y:AB) (q:Unit->Option β),gd (A0 (AK (AA (Az a b k)) (AA [y])) 1048576) q=q ():=λy q=>Bt (by simp only [AK,AA,hl1,List.length_cons,List.length_nil];omega) q;have g2 : ∀ {β:Type} (y:Int) (q:Unit->Option β),gd (A0 (AK (AA (Hi a b k)) (AA [y])) 1048576) q=q ():=λy q=>Bt (by simp only [AK,AA,hl2,List.length_cons,List.length_nil];omega) q;cases g:Hr a b (Am a b k).1 (Am a b k).2 with
  | true =>
   rw [g,if_pos rfl] at hx;have hi:=(List.getElem?_eq_some_iff.1 hx).1;simp only [if_true];rw [BB,if_neg (by omega)];refine (El 0 rfl (x:=a) rfl).trans ((J5 0 rfl (x:=((Am a b k).1:Int)) rfl).trans ((El _ rfl hx).trans ?_));rw [g1,g2];refine (J5 0 rfl (x:=((Am a b k).1:Int)) rfl).trans ((J5 0 rfl (x:=((Am a b k).1:Int)) rfl).trans ?_);rw [Ac (by omega)];rfl
  | false =>
   rw [g,if_neg (by simp)] at hx;have hi:=(List.getElem?_eq_some_iff.1 hx).1;simp only [Bool.false_eq_true,if_false];rw [BB,if_neg (by omega)];refine (El 1 rfl (x:=b) rfl).trans ((J5 1 rfl (x:=((Am a b k).2:Int)) rfl).trans ((El _ rfl hx).trans ?_));rw [g1,g2];refine (J5 1 rfl (x:=((Am a b k).2:Int)) rfl).trans ((J5 1 rfl (x:=((Am a b k).2:Int)) rfl).trans ?_);rw [Ac (by omega)];rfl
 ·obtain ⟨hI,hs⟩:=Ff va vb (n:=a.length+b.length) (Nat.le_refl _);simp only;rw [JL va vb hI.ia hI.jb,AD,if_pos (show (Am a b (a.length+b.length)).1=a.length/\(Am a b (a.length+b.length)).2=b.length by have:=hI.ia;have:=hI.jb;omega),BB,if_pos (by omega)]
end
theorem TD {s:Bp} (h1:s.2.1.length<=32) (h2:s.1=false->s.2.1=[]):FN s=some 0:=by
 unfold FN;rw [Ap,if_neg (by simp only [AX,JG];omega),Br,HL];cases h:s.1 with
 | true=>rfl
 | false=>rw [if_neg (by simp),Br,Ei,if_pos (h2 h)]
theorem Un {s:Bp} {x:AB} (h1:s.2.1.length<=32) (h2:s.1=false->s.2.1=[]) (h3:kE x=0) (h4:s.1=true->Bl x.1 s.2.1=false):GH (s,x)=some (keep s x,((true,(x.1,s.2.2)),0)):=by
 unfold GH keep;rw [TD h1 h2,AD,By,if_pos rfl,GK,h3,AD,By,if_pos rfl];obtain ⟨s1,s2,s3⟩:=s;obtain ⟨x1,x2,x3,x4⟩:=x;simp only at h4 ⊢;cases s1 with
 | true =>
  have:=h4 rfl;simp only [AL,F9,this,Bool.false_eq_true,if_false,AT,if_true,Br,Ei];by_cases he:x1=s2
  ·simp [he,Aa]
  ·simp only [he,if_false,decide_false];cases s3<;>cases x3<;>rfl
 | false =>
  simp only [Aa,AT,if_true,Br];cases s3<;>cases x3<;>rfl
theorem Uo {l:List AB} {bt:Bool} (hl:l.length<=20000) (hr:O1 (false,([],bt)) l):Ep (l,bt)=some (FJ (false,([],bt)) l,(0,0)):=by
 unfold Ep Cq;simp only [AX,AR];rw [Ap,if_neg (by omega),AD]
 rw [GB (l:=l) (σ:=Bp×List AB) (s:=(0,(0,([],([],(0,(false,([],bt)))))))) (λk st=>((0:Int),((k:Int),(([]:List AB),(st.2,((0:Int),st.1))))))
  (λm k st=>O1 st.1 m/\st.1.2.1.length<=32/\(st.1.1=false->st.1.2.1=[])/\st.2.length<=k/\k+m.length=l.length)
  (λm k st=>(1,((0,((l.length:Int),([],(st.2++FJ st.1 m,(0,CK st.1 m))))),()))) ((false,([],bt)),[]) rfl (by omega) ⟨hr,by simp,λ_=>rfl,by simp,by simp⟩ ?_ ?_,AD]
 ·simp;rfl
 ·intro st _;simp only;rw [re,Aa];simp [CK,FJ]
 ·rintro k x m ⟨s,out⟩ hm hx hk ⟨⟨h1,h2,h3⟩,h4,h5,h6,h7⟩;simp only at h1 h2 h3 h4 h5 h6 ⊢;refine ⟨((true,(x.1,s.2.2)),out++if keep s x=true then [x] else []),?_,⟨h3,O2 h1,(λh=>by cases h),?_,by simp at h7;omega⟩,?_⟩
  ·rw [rl hk,AL,AF,AJ hx,Un h4 h5 h1 h2,AD,AT,if_pos rfl,HL,AF,AJ hx];have hg : ∀ {β:Type} (k:Unit->Option β),gd (A0 (AK out.length [x].length) 1048576) k=k ():=λk=>Wd h6 (by simp at h7;omega) x k;rw [hg,A6 hx (show l.length<=9223372036854775807 by omega)];cases hk2:keep s x<;>simp [CC]
  ·split<;>simp<;>omega
  ·simp only [CK,FJ,List.append_assoc]
section
variable {a b:List AB} (va:VL a) (vb:VL b)
include va vb
theorem QS (bt:Bool) {n:Nat} (h:n<=a.length+b.length):C4 (Az a b n,bt)=some (FJ (s0 bt) (Az a b n),CK (s0 bt) (Az a b n)):=by
 have la:=va.len;have lb:=vb.len;have hml:(Az a b n).length=n:=Cb va vb h;unfold C4;simp only [AX,AR];rw [Uo (by omega) (Hj va vb bt h),AD];unfold Cq;rw [AD,Ap,hml];cases n with
 | zero=>rw [if_neg (by omega)];rfl
 | succ m =>
  obtain ⟨x,hx,_⟩:=EE va vb (n:=m) (by omega);rw [if_pos (by omega),show A9 .i64 ((m+1:Nat):Int) 1=(m:Int) by rw [CH (by omega)];omega,AF,AJ (x:=x) (by rw [Il va vb h (by omega)];exact hx),J6 va vb bt hx]
theorem TE (bt:Bool) {n:Nat} (h:n<=a.length+b.length):D4 (EZ a b bt n)=some (n:Int):=by
 obtain ⟨hI,hs⟩:=Ff va vb (n:=n) h;have la:=va.len;have lb:=vb.len;unfold D4;refine BC (x:=(0,(((n:Int),2),()))) (CV (s1:=(((Am a b n).1:Int),1)) (s2:=((n:Int),2)) ?_ ?_ rfl) rfl
 ·refine (Np 0 rfl rfl (x:=((Am a b n).1:Int)) rfl).trans ?_;show some (LR.nx (AH .i64 0 ((Am a b n).1:Int),(1:Int)))=_;rw [Ci (by omega),Int.zero_add]
 ·refine (Np 1 rfl rfl (x:=((Am a b n).2:Int)) rfl).trans ?_;show some (LR.nx (AH .i64 ((Am a b n).1:Int) ((Am a b n).2:Int),(2:Int)))=_;rw [Ci (by omega),show ((Am a b n).1:Int)+((Am a b n).2:Int)=(n:Int) by omega]
theorem TF (bt:Bool) {n:Nat} (h:n<=a.length+b.length):FO (EZ a b bt n)=some 0:=by
 obtain ⟨hI,hs⟩:=Ff va vb (n:=n) h;have la:=va.len;have lb:=vb.len;have hfl:=Im (s0 bt) (Az a b n);have hml:(Az a b n).length=n:=Cb va vb h;unfold FO;rw [show (EZ a b bt n).1=Lf a b (Am a b n).1 (Am a b n).2 from rfl,NG va vb hI,AD,AT,if_pos rfl,TE va vb bt h,AD];simp only [AX,AR];rw [show (EZ a b bt n).2.2.1=FJ (s0 bt) (Az a b n) from rfl,show (EZ a b bt n).2.2.2=(n:Int) from rfl,show (EZ a b bt n).2.1=CK (s0 bt) (Az a b n) from rfl,Ap,if_neg (by omega),Ap,if_neg (by omega),AT,if_pos rfl];rw [show (Lf a b (Am a b n).1 (Am a b n).2).1=[a,b] from rfl,Wh va vb,AD,AF];rw [Bt (by rw [Cb va vb (Nat.le_refl _)];exact h),Bt (Nat.zero_le _)];rw [show B6 (Az a b (a.length+b.length)) 0 n=Az a b n from by unfold B6;rw [List.drop_zero,Nat.sub_zero];exact HD va vb h,GC];rw [show (s0 bt).2.2=bt from rfl,QS va vb bt h,AD,Gw,GD _ _ (by omega),AD,CQ,Cj,if_neg (by simp),GC,Gt,Gt,JH];rfl
theorem Ld (bt:Bool) {n:Nat} (h:n<=a.length+b.length):BE (EZ a b bt n)=some (((a.length+b.length-n:Nat):Int),0):=by
 unfold BE;rw [TF va vb bt h,AD,AT,if_pos rfl,show (EZ a b bt n).1=La a b n from rfl,aX va vb h];rfl
theorem Uq (bt:Bool) {n:Nat} (h:n<=a.length+b.length) {k:Nat}:BQ (EZ a b bt n,(k:Int))=some (EZ a b bt (n+min k (a.length+b.length-n)),(((min k (a.length+b.length-n):Nat):Int),0)):=by
 have la:=va.len;have lb:=vb.len;obtain ⟨u,hu⟩ : ∃ u,u=min k (a.length+b.length-n):=⟨_,rfl⟩
 have him:NZ (k:Int) ((a.length+b.length-n:Nat):Int)=(u:Int):=by
  unfold NZ;split<;>omega
 rw [<- hu];unfold BQ;rw [Ld va vb bt h,AD,By,if_pos rfl];simp only [him,AX,AR];rw [BB,if_neg (by omega),AT,if_pos rfl,TE va vb bt h,AD,Ci (by omega),Ap,if_neg (by omega)]
 refine BC (x:=(0,(((u:Int),((La a b (n+u)).1,((La a b (n+u)).2.1,((La a b (n+u)).2.2.1,((La a b (n+u)).2.2.2.1,((La a b (n+u)).2.2.2.2,((EZ a b bt n).2.1.1,((EZ a b bt n).2.1.2.1,((EZ a b bt n).2.1.2.2,(EZ a b bt n).2.2))))))))),())))
  (Io (λj=>((j:Int),((La a b (n+j)).1,((La a b (n+j)).2.1,((La a b (n+j)).2.2.1,((La a b (n+j)).2.2.2.1,((La a b (n+j)).2.2.2.2,((EZ a b bt n).2.1.1,((EZ a b bt n).2.1.2.1,((EZ a b bt n).2.1.2.2,(EZ a b bt n).2.2)))))))))) 0 u rfl (by omega) (by omega) (λj _ hj => ?_) ?_) ?_
 ·obtain ⟨y,hy,_⟩:=EE va vb (n:=n+j) (by omega);show br (Ag (j:Int) (u:Int)) _ _=_;rw [BB,if_pos (by omega)];show bd (D5 (La a b (n+j))) _=_;rw [aW va vb (by omega) hy,AD,Ac (by omega)];rfl
 ·show br (Ag (u:Int) (u:Int)) _ _=_;rw [BB,if_neg (by omega)]
 ·rw [show (EZ a b bt n).1.1=[a,b] from rfl,Wh va vb,AD,show (EZ a b bt n).2.2.2=(n:Int) from rfl,show AH .i64 (n:Int) (u:Int)=((n+u:Nat):Int) by rw [Ci (by omega)];omega,AF];rw [Bt (by rw [Cb va vb (Nat.le_refl _)];omega),Bt (Nat.zero_le _)];rw [show B6 (Az a b (a.length+b.length)) 0 (n+u)=Az a b (n+u) from by unfold B6;rw [List.drop_zero,Nat.sub_zero];exact HD va vb (by omega),show (EZ a b bt n).2.1.2.2=bt from GC _ _,QS va vb bt (by omega),AD];rfl
end
end Go.Proofs.YthpkjfabdccpdaaGreat.Pl
namespace Go.Proofs.YthpkjfabdccpdaaGreat.Pl
open Go Go.Proofs.YthpkjfabdccpdaaGreat.Sv
theorem Xq (B:Int) (i:Nat):C8 B (i+1)=2*C8 B i:=by
 unfold C8;rw [Int.pow_succ,<- Int.mul_assoc,Int.mul_comm]
theorem aY {B:Int} {i:Nat} (h1:1<=B) (h2:B<=16) (hi:i<=12):D2 (B,(i:Int))=some (C8 B i):=by
 unfold D2;refine BC (x:=(0,((C8 B i,(i:Int)),()))) (Ik (λk=>(C8 B k,(k:Int))) i (by simp [C8]) (by omega) (λk hk => ?_) ?_) rfl
 ·have h3:=S9 h1 h2 (show k<=12 by omega);simp only;rw [BB,if_pos (by omega),gi (by omega),Ac (by omega),Xq]
 ·simp only;rw [BB,if_neg (by omega)]
theorem gw (r:BI) (hl:r.2.length<=9223372036854775807):FK r=some (if r.1<1\/r.1>1000000 then (-1,7) else Ej r.2):=by
 unfold FK;rw [BB,Ap,Gk _ hl,AD];by_cases h:r.1<1
 ·rw [if_pos h,if_pos (.inl h)]
 ·rw [if_neg h];by_cases h2:r.1>1000000
  ·rw [if_pos h2,if_pos (.inr h2)]
  ·rw [if_neg h2,if_neg (by omega)]
theorem aZ (r:BI) (most:Int) (ids:List Int) (hl:r.2.length<=9223372036854775807) (hi:ids.length<=1048576):D3 (r,(most,ids))=some (kR ids most r):=by
 unfold D3 kR;rw [gw r (by omega),AD];simp only [AX,AR];by_cases h:r.1<1\/r.1>1000000
 ·rw [if_pos h,if_pos h];rfl
 rw [if_neg h,if_neg h,AT];by_cases h2:(Ej r.2).2=0;rotate_left
 ·rw [if_neg h2,if_pos h2]
 rw [if_pos h2,if_neg (show ¬ (Ej r.2).2≠0 by simp [h2]),By,Ap];by_cases h3:r.2.length=0
 ·rw [if_pos (by omega),if_pos h3]
 rw [if_neg (by omega),if_neg h3];by_cases h4:(r.2.length:Int)>most
 ·rw [if_pos h4,if_pos h4]
 rw [if_neg h4,if_neg h4]
 obtain ⟨q,q1,q2⟩:=D1 (l:=ids) (σ:=Unit) (s:=((0:Int),(0:Int))) (λk _=>((k:Int),(0:Int))) (λm k _=>r.1∈ids<->r.1∈m) (λ(q:Nat×((Int×Int)×Unit))=>(q.1=1/\r.1 ∉ ids)\/(q.1=0/\r.1∈ids/\q.2.1.2=8))
  (f:=λs1=>br (Ag s1.1 (ids.length:Int)) (λ_=>AO s1.1 λk2=>ix ids k2 λx3=>br (Bh x3 r.1) (λ_=>some (.dn ((0,((s1.1,8),()))))) λ_=>some (.nx (AH .i64 s1.1 1,s1.2))) λ_=>some (.dn ((1,(s1,())))))
  () rfl (by omega) Iff.rfl (λ_ h=>⟨_,by simp only;rw [re];rfl,.inl ⟨rfl,by simpa using h⟩⟩) (λk x m _ hd hx hk h=>by
   simp only;rw [rl hk,AL,AF,AJ hx,By];by_cases e:x=r.1
   ·rw [if_pos e];exact .inr ⟨_,rfl,.inr ⟨rfl,by rw [h,e];simp,rfl⟩⟩
   ·rw [if_neg e];exact .inl ⟨(),by rw [A6 hx (by omega)],by rw [h,List.mem_cons];exact ⟨λu=>u.elim (λe2=>absurd e2.symm e) id,.inr⟩⟩)
 refine BC q1 ?_;rw [CR];rcases q2 with ⟨q2,q3⟩ | ⟨q2,q3,q4⟩
 ·rw [if_neg (show ¬ q.1=0 by omega),if_neg q3]
 ·rw [if_pos q2,if_pos q3,q4]
theorem Ur (L:AM) (hb:L.2.length<=1048576) (hr : ∀ rs∈L.2,rs.length<=1048576 /\ ∀ r∈rs,r.2.length<=9223372036854775807):DQ L=some (EY L):=by
 unfold DQ EY;simp only [AX,AR];rw [BB,Ap,Ap];by_cases hB1:L.1<1
 ·rw [if_pos hB1,if_pos (.inl hB1)]
 rw [if_neg hB1];by_cases hB2:L.1>16
 ·rw [if_pos hB2,if_pos (.inr hB2)]
 rw [if_neg hB2,if_neg (show ¬ (L.1<1\/L.1>16) by omega)];by_cases hl:(L.2.length:Int)>12
 ·rw [if_pos hl,if_pos (by omega)]
 rw [if_neg hl,if_neg (by omega)];have hl2:L.2.length<=12:=by omega
 obtain ⟨T,hT⟩ : ∃ T,T=Kk L.1 0 [] L.2:=⟨_,rfl⟩;rw [<- hT]
 have hlast:T=none->(br (Bv (L.2.length:Int) 0) (λ_=>AO (A9 .i64 (L.2.length:Int) 1) λk15=>ix L.2 k15 λx16=>br (Bh (x16.length:Int) 0) (λ_=>some ((A9 .i64 (L.2.length:Int) 1,((0:Int),(6:Int))))) λ_=>some ((0,(0,0)))) λ_=>some ((0,(0,0))))=some (if L.2.getLast? = some [] then (((L.2.length-1:Nat):Int),(0,6)) else (0,(0,0))):=by
  intro _;rw [Ap];by_cases hn:L.2=[]
  ·rw [hn];rfl
  ·have hp:=List.length_pos_iff.2 hn;rw [if_pos (by omega),show A9 .i64 (L.2.length:Int) 1=((L.2.length-1:Nat):Int) by rw [CH (by omega)];omega,AF,List.getLast?_eq_getElem?];have hx:L.2[L.2.length-1]? = some (L.2[L.2.length-1]'(by omega)):=by simp
   rw [AJ hx,hx,By];by_cases he:L.2[L.2.length-1]'(by omega)=[]
   ·rw [he];simp
   ·rw [if_neg (by have:=List.length_pos_iff.2 he;omega),if_neg (by simp [he])]
 obtain ⟨r,q1,q2⟩:=D1 (l:=L.2) (σ:=List Int) (s:=((0:Int),(([]:List Int),((0:Int),((0:Int),(0:Int)))))) (λi ids=>((0:Int),(ids,((0:Int),((0:Int),(i:Int))))))
  (λm i ids=>Kk L.1 i ids m=T/\ids.length<=2*i) (λ(r:Nat×((Int×(List Int×(Int×(Int×Int))))×Unit))=>(r.1=1/\T=none)\/(r.1=0/\Q1 T r.2.1.1 r.2.1.2.2.1 r.2.1.2.2.2.1/\T≠none))
  (f:=λ(s0:(Int×((List Int)×(Int×(Int×Int)))))=>br (Ag s0.2.2.2.2 (L.2.length:Int)) (λ_=>AO s0.2.2.2.2 λk1=>ix L.2 k1 λx2=>br (Bv (x2.length:Int) 2) (λ_=>some (.dn ((0,((0,(s0.2.1,(s0.2.2.2.2,(3,s0.2.2.2.2)))),()))))) λ_=>bd (loop (λ(s3:(Int×((List Int)×(Int×(Int×Int)))))=>br (Ag s3.2.2.2.2 (x2.length:Int)) (λ_=>AO s3.2.2.2.2 λk4=>ix x2 k4 λx5=>bd (D2 (L.1,s0.2.2.2.2)) λr6=>bd (D3 ((x5,(r6,s3.2.1)))) λr7=>br (Aq r7 0) (λ_=>some (.dn ((0,((s3.2.2.2.2,(s3.2.1,(s0.2.2.2.2,(r7,s3.2.2.2.2)))),()))))) λ_=>AO s3.2.2.2.2 λk8=>ix x2 k8 λx9=>gd (A0 (AK s3.2.1.length [x9.1].length) 1048576) λ_=>some (.nx ((s3.1,(CC s3.2.1 [x9.1],(s3.2.2.1,(s3.2.2.2.1,AH .i64 s3.2.2.2.2 1))))))) λ_=>some (.dn ((1,(s3,()))))) ((s0.1,(s0.2.1,(s0.2.2.1,(s0.2.2.2.1,0)))))) λr10=>br (neq r10.1 0) (λ_=>some (.dn ((0,((r10.2.1.1,(r10.2.1.2.1,(r10.2.1.2.2.1,(r10.2.1.2.2.2.1,s0.2.2.2.2)))),()))))) λ_=>some (.nx ((r10.2.1.1,(r10.2.1.2.1,(r10.2.1.2.2.1,(r10.2.1.2.2.2.1,AH .i64 s0.2.2.2.2 1))))))) λ_=>some (.dn ((1,(s0,())))))
  [] rfl (by omega) ⟨hT.symm,by simp⟩ (λids h=>by
   refine ⟨_,by simp only;rw [re];rfl,.inl ⟨rfl,?_⟩⟩;rw [<- h.1];rfl) (λi rs m ids hd hx hi h=>by
   obtain ⟨h,hids⟩:=h;simp only;obtain ⟨hrs1,hrs2⟩:=hr rs (List.mem_of_getElem? hx);rw [rl hi,AL,AF,AJ hx,Ap];unfold Kk at h;by_cases h3:rs.length>2
   ·rw [if_pos (by omega)];rw [if_pos h3] at h;refine .inr ⟨_,rfl,.inr ⟨rfl,?_,by rw [<- h];simp⟩⟩;rw [<- h];exact ⟨rfl,rfl,rfl⟩
   rw [if_neg (by omega)];rw [if_neg h3] at h;obtain ⟨U,hU⟩ : ∃ U,U=Kj (C8 L.1 i) 0 ids rs:=⟨_,rfl⟩;rw [<- hU] at h
   obtain ⟨r,q1,q2⟩:=D1 (l:=rs) (σ:=Unit) (s:=((0:Int),(ids,((0:Int),((0:Int),(0:Int)))))) (λk _=>((0:Int),(ids++(rs.take k).map (·.1),((0:Int),((0:Int),(k:Int))))))
    (λm k _=>Kj (C8 L.1 i) k (ids++(rs.take k).map (·.1)) m=U) (λ(r:Nat×((Int×(List Int×(Int×(Int×Int))))×Unit))=>(r.1=1/\U=none/\r.2.1=(0,(ids++rs.map (·.1),(0,(0,(rs.length:Int))))))\/(r.1=0 /\ ∃ k e,U=some (k,e)/\r.2.1.1=(k:Int)/\r.2.1.2.2.1=(i:Int)/\r.2.1.2.2.2.1=e))
    (f:=λ(s3:(Int×((List Int)×(Int×(Int×Int)))))=>br (Ag s3.2.2.2.2 (rs.length:Int)) (λ_=>AO s3.2.2.2.2 λk4=>ix rs k4 λx5=>bd (D2 (L.1,(i:Int))) λr6=>bd (D3 ((x5,(r6,s3.2.1)))) λr7=>br (Aq r7 0) (λ_=>some (.dn ((0,((s3.2.2.2.2,(s3.2.1,((i:Int),(r7,s3.2.2.2.2)))),()))))) λ_=>AO s3.2.2.2.2 λk8=>ix rs k8 λx9=>gd (A0 (AK s3.2.1.length [x9.1].length) 1048576) λ_=>some (.nx ((s3.1,(CC s3.2.1 [x9.1],(s3.2.2.1,(s3.2.2.2.1,AH .i64 s3.2.2.2.2 1))))))) λ_=>some (.dn ((1,(s3,())))))
    () (by simp) (by omega) (by simp [hU]) (λ_ h=>by
     refine ⟨_,by simp only;rw [re];rfl,.inl ⟨rfl,by rw [<- h];rfl,by simp⟩⟩) (λk r m _ hd hx hk h=>by
     simp only;have hr2:=hrs2 r (List.mem_of_getElem? hx);have htk:(rs.take (k+1)).map (·.1)=(rs.take k).map (·.1)++[r.1]:=by rw [List.take_add_one,hx];simp
     have hlen:(ids++(rs.take k).map (·.1)).length<=100:=by simp;omega
     rw [rl hk,AL,AF,AJ hx,aY (by omega) (by omega) (by omega),AD,aZ _ _ _ (by omega) (by omega),AD,AT];unfold Kj at h;by_cases h0:kR (ids++(rs.take k).map (·.1)) (C8 L.1 i) r=0
     ·rw [if_neg (λhh:kR (ids++(rs.take k).map (·.1)) (C8 L.1 i) r≠0=>hh h0)] at h;rw [if_pos h0,AF,AJ hx,Bt (by simp only [AK,List.length_cons,List.length_nil];omega)];refine .inl ⟨(),?_,?_⟩
      ·rw [A6 hx (by omega),htk,<- List.append_assoc];rfl
      ·rw [htk,<- List.append_assoc];exact h
     ·rw [if_pos h0] at h;rw [if_neg h0]
      exact .inr ⟨_,rfl,.inr ⟨rfl,_,_,h.symm,rfl,rfl,rfl⟩⟩)
   rw [q1,AD,CR];rcases q2 with ⟨q2,q3,q4⟩ | ⟨q2,k,e,q3,q4,q5,q6⟩
   ·rw [if_neg (show ¬ r.1=0 by omega),q4,A6 hx (by omega)];rw [q3] at h;exact .inl ⟨ids++rs.map (·.1),rfl,h,by simp;omega⟩
   ·rw [if_pos q2];rw [q3] at h;refine .inr ⟨_,rfl,.inr ⟨rfl,?_,by rw [<- h];simp⟩⟩;rw [<- h]
    exact ⟨q4,q5,q6⟩)
 refine BC q1 ?_;rw [CR];rcases q2 with ⟨q2,q3⟩ | ⟨q2,q3,q4⟩
 ·rw [if_neg (show ¬ r.1=0 by omega),q3];exact hlast q3
 ·rw [if_pos q2];cases hTc:T with
  | none=>exact absurd hTc q4
  | some t =>
   obtain ⟨i,k,e⟩:=t;rw [hTc] at q3;rw [q3.1,q3.2.1,q3.2.2]
def Fa (ls:List (List BI)):List BI:=ls.flatMap List.reverse
theorem VLev.small {L:AM} (v:VLev L):L.2.length<=1048576 /\ ∀ rs∈L.2,rs.length<=1048576 /\ ∀ r∈rs,r.2.length<=9223372036854775807:=by
 refine ⟨by have:=v.len;omega,λrs hrs => ?_⟩;obtain ⟨i,hi⟩:=List.getElem?_of_mem hrs;obtain ⟨h1,h2⟩:=v.lev i rs hi;exact ⟨by omega,λr hr=>by have:=(h2 r hr).vl.len;omega⟩
theorem Nj : ∀ (ls:List (List BI)),(∀ rs∈ls,rs.length<=2)->(Fa ls).length<=2*ls.length
 | [],_=>by simp [Fa]
 | rs::ls,h=>by
  have h1:=Nj ls λr hr=>h r (by simp [hr]);have h2:=h rs (by simp);unfold Fa at h1 ⊢;rw [List.flatMap_cons,List.length_append,List.length_reverse,List.length_cons];omega
theorem VLev.two {L:AM} (v:VLev L) : ∀ rs∈L.2,rs.length<=2:=λrs hrs=>by
 obtain ⟨i,hi⟩:=List.getElem?_of_mem hrs;exact (v.lev i rs hi).1
theorem Us {L:AM} (v:VLev L):En L=some (Fa L.2,0):=by
 obtain ⟨hb,hr⟩:=v.small;have hl:=v.len;unfold En;simp only [AX,AR];rw [Ur _ hb hr,JK v,AD,AT,if_pos rfl]
 rw [GB (l:=L.2) (σ:=List BI) (s:=(([]:List BI),(0:Int))) (λi m=>(m,(i:Int))) (λls i m=>(∀ rs∈ls,rs.length<=2)/\m.length<=2*i) (λls _ m=>(0,((m++Fa ls,(L.2.length:Int)),()))) [] rfl (by omega) ⟨v.two,by simp⟩ (λm _=>by
  simp only;rw [re,Aa];simp [Fa]) (λi rs ls m hd hx hi h=>by
   refine ⟨m++rs.reverse,?_,⟨λr hr=>h.1 r (by simp [hr]),by have:=h.1 rs (by simp);simp;omega⟩,by simp [Fa]⟩;have h2:=h.1 rs (by simp);have hm:m.length<=24:=by have:=h.2;omega
   simp only;rw [rl hi,AL,AF,AJ hx];have gg : ∀ {β:Type} (z:List BI) (x:BI) (k:Unit->Option β),z.length<=100->gd (A0 (AK z.length [x].length) 1048576) k=k ():=λz x k hz=>Bt (by simp only [AK,List.length_cons,List.length_nil];omega) k
   match rs,h2,hx with
   | [],_,hx =>
    refine BC (x:=(0,((m,-1),()))) (Dd (n:=1) (by omega) (Bo rfl)) ?_;rw [A6 hx (by omega)];simp
   | [r0],_,hx =>
    refine BC (x:=(0,((m++[r0],-1),()))) (Dd (n:=2) (by omega) ((BX (s':=(m++[r0],-1)) ?_).trans (Bo rfl))) ?_
    ·show br (Iu (0:Int) 0) _ _=_;rw [G3,if_pos (by omega),AF,AJ hx];refine (El 0 rfl (x:=r0) rfl).trans ?_;rw [gg m _ _ (by omega)];rfl
    ·rw [A6 hx (by omega)];simp
   | [r0,r1],_,hx =>
    refine BC (x:=(0,((m++[r1]++[r0],-1),()))) (Dd (n:=3) (by omega) ((BX (s':=(m++[r1],0)) ?_).trans ((BX (s':=(m++[r1]++[r0],-1)) ?_).trans (Bo rfl)))) ?_
    ·show br (Iu (1:Int) 0) _ _=_;rw [G3,if_pos (by omega),AF,AJ hx];refine (El 1 rfl (x:=r1) rfl).trans ?_;rw [gg m _ _ (by omega)];rfl
    ·show br (Iu (0:Int) 0) _ _=_;rw [G3,if_pos (by omega),AF,AJ hx];refine (El 0 rfl (x:=r0) rfl).trans ?_;rw [gg (m++[r1]) _ _ (by simp;omega)];rfl
    ·rw [A6 hx (by omega)];simp),AD]
 simp
theorem JN (a b:Int):Nl a b=max a b:=by unfold Nl;split<;>omega
theorem FP : ∀ (l:List BI) (m:Int),0<=m->l.foldl (λm r=>Nl m r.1) m=max m (l.foldl (λm r=>Nl m r.1) 0)
 | [],m,h=>by simp;omega
 | r::l,m,h=>by
  have h1:=FP l (Nl m r.1) (by rw [JN];omega);have h2:=FP l (Nl 0 r.1) (by rw [JN];omega);simp only [List.foldl_cons];rw [h1,h2,JN,JN];omega
theorem Pf (l:List BI) (m:Int) (h:0<=m):l.reverse.foldl (λm r=>Nl m r.1) m=l.foldl (λm r=>Nl m r.1) m:=by
 induction l generalizing m with
 | nil=>rfl
 | cons r l ih =>
  rw [List.reverse_cons,List.foldl_append,ih m h,List.foldl_cons];simp only [List.foldl_cons,List.foldl_nil];rw [FP l m h,FP l (Nl m r.1) (by rw [JN];omega),JN,JN];omega
theorem Ri (l:List BI) (m:Int) (h:0<=m):0<=l.foldl (λm r=>Nl m r.1) m:=by
 rw [FP l m h];omega
theorem JX : ∀ (ls:List (List BI)) (m:Int),0<=m->(Fa ls).foldl (λm r=>Nl m r.1) m=ls.foldl (λm rs=>rs.foldl (λm r=>Nl m r.1) m) m
 | [],m,_=>rfl
 | rs::ls,m,h=>by
  have h1:=JX ls (rs.foldl (λm r=>Nl m r.1) m) (Ri _ _ h);unfold Fa at h1 ⊢;rw [List.flatMap_cons,List.foldl_append,Pf rs m h,List.foldl_cons,h1]
theorem Rj {L:AM} (v:VLev L):Cu L=some (Fk L.2):=by
 have hl:=v.len;have hn:=Nj L.2 v.two;unfold Cu;simp only [AX,AR];rw [Us v,AD]
 rw [GB (l:=Fa L.2) (σ:=Int) (s:=((0:Int),(0:Int))) (λi m=>(m,(i:Int))) (λ_ _ _=>True) (λl _ m=>(0,((l.foldl (λm r=>Nl m r.1) m,((Fa L.2).length:Int)),()))) 0 rfl (by omega) trivial (λm _=>by
  simp only;rw [re,Aa];rfl) (λk r l m hd hx hk _=>⟨Nl m r.1,by
   simp only
   rw [rl hk,AL,AF,AJ hx,A6 hx (by omega)],trivial,rfl⟩),AD]
 rw [JX _ _ (by omega)];rfl
theorem gx {L:AM} (hl:L.2.length<=1000):Dr L=some (Co 0 L.2):=by
 unfold Dr;simp only [AX,AR]
 rw [GB (l:=L.2) (σ:=List Int) (s:=(([]:List Int),(0:Int))) (λi m=>(m,(i:Int))) (λls i m=>m++Co i ls=Co 0 L.2) (λ_ _ _=>(0,((Co 0 L.2,(L.2.length:Int)),()))) [] rfl (by omega) rfl (λm h=>by
  simp only;rw [re,Aa,<- h];simp [Co]) (λi rs ls m hd hx hi h=>by
   refine ⟨m++(if rs.length=2 then [(i:Int)] else []),?_,?_,rfl⟩
   ·simp only;rw [rl hi,AL,AF,AJ hx,By]
    have hm:m.length<=1000:=by
     have h4:=congrArg List.length h;have h5:=HT L.2 0;rw [List.length_append] at h4;omega
    by_cases h4:rs.length=2
    ·rw [if_pos (by omega),if_pos h4,Bt (by simp only [AK,List.length_cons,List.length_nil];omega),A6 hx (by omega)];rfl
    ·rw [if_neg (by omega),if_neg h4,List.append_nil,A6 hx (by omega)]
   ·rw [List.append_assoc];exact h),AD]
theorem jT {L:AM} (v:VLev L) (k:Int):Hl (L,k)=some (if k<0\/k>=12 then 7 else 0):=by
 obtain ⟨hb,hr⟩:=v.small;unfold Hl;rw [Ur _ hb hr,JK v,AD,By,if_pos rfl,BB,G3];by_cases h1:k<0
 ·rw [if_pos h1,if_pos (.inl h1)]
 ·rw [if_neg h1];by_cases h2:k>=12
  ·rw [if_pos h2,if_pos (.inr h2)]
  ·rw [if_neg h2,if_neg (by omega)]
theorem Ut {L:AM} (v:VLev L) {n:Nat} (hn:n<L.2.length):B9 (L,(n:Int))=some (decide ((n:Int)=(L.2.length:Int)-1)):=by
 have hl:=v.len;unfold B9 Gu;simp only [AX,AR];rw [jT v,AD,if_neg (by omega),AT,if_pos rfl,AD,Ac (by omega)];unfold Bv;rw [CQ];by_cases h:(n:Int)=(L.2.length:Int)-1
 ·simp [h]
 ·simp [h];omega
theorem Uu {a b:List AB} (va:VL a) (vb:VL b) (bt:Bool):FM ([a,b],bt)=some (EZ a b bt 0,(0,0)):=by
 unfold FM Gv Cq;rw [Lc va vb,AD,AT,if_pos rfl];refine Eq.trans (b:=bd (bd (Cp ([a,b],[((0:Nat):Int),((0:Nat):Int)])) _) _) rfl ?_;rw [JM va vb (Nat.zero_le _) (Nat.zero_le _)];rfl
theorem Xr {L:AM} {n:Nat} {r0 r1:BI} (bt:Bool) (h:L.2[n]? = some [r0,r1]) (v0:VL r0.2) (v1:VL r1.2):BH (L,((n:Int),bt))=some ((n:Int),EZ r1.2 r0.2 bt 0):=by
 have hn:=(List.getElem?_eq_some_iff.1 h).1;unfold BH;simp only [AX,AR];rw [G3,if_neg (by omega),AF,AJ h,AJ (x:=r1) rfl,AJ (x:=r0) rfl,Uu v1 v0];rfl
theorem gy {L:AM} {n:Nat} {r0 r1:BI} {j:Rr} (h:L.2[n]? = some [r0,r1]) (v0:VL r0.2) (v1:VL r1.2) {β:Type} (A B:Option β) :
  (bd (BH (L,((n:Int),j.2.2.1.2.2))) λr16=>bd (BE r16.2) λr17=>br (Ag j.2.2.2.2 0) (λ_=>A) λ_=>br (Bv j.2.2.2.2 r17.1) (λ_=>A) λ_=>bd (BQ (r16.2,j.2.2.2.2)) λr18=>bd (BK (r18.1,j.2)) λr19=>br (AV r19) (λ_=>A) λ_=>B)
  = if j.2.2.2.2<0\/j.2.2.2.2>((r1.2.length+r0.2.length:Nat):Int) then A else if EZ r1.2 r0.2 j.2.2.1.2.2 j.2.2.2.2.toNat=j.2 then B else A:=by
 rw [Xr _ h v0 v1,AD,Ld v1 v0 _ (Nat.zero_le _),AD,BB,Ap,Nat.sub_zero];by_cases h1:j.2.2.2.2<0
 ·rw [if_pos h1,if_pos (.inl h1)]
 rw [if_neg h1];by_cases h2:j.2.2.2.2>((r1.2.length+r0.2.length:Nat):Int)
 ·rw [if_pos h2,if_pos (.inr h2)]
 rw [if_neg h2,if_neg (show ¬ (j.2.2.2.2<0\/j.2.2.2.2>((r1.2.length+r0.2.length:Nat):Int)) by omega)];obtain ⟨k,hk⟩ : ∃ k:Nat,j.2.2.2.2=(k:Int):=⟨j.2.2.2.2.toNat,by omega⟩;rw [hk,Uq v1 v0 _ (Nat.zero_le _),AD,Nat.sub_zero,Nat.zero_add,Nat.min_eq_left (by omega),Int.toNat_natCast];obtain ⟨s1,s2,s3,s4,s5,s6⟩:=NF v1 v0 j.2.2.1.2.2 (n:=k) (by omega);rw [PA _ _ s1 s2 s3 s4 s5 s6,AD,CQ,Cj];by_cases he:EZ r1.2 r0.2 j.2.2.1.2.2 k=j.2
 ·rw [if_neg (by simp [he]),if_pos he]
 ·rw [if_pos he,if_neg he]
end Go.Proofs.YthpkjfabdccpdaaGreat.Pl
namespace Go.Proofs.YthpkjfabdccpdaaGreat.Pl
open Go Go.Proofs.YthpkjfabdccpdaaGreat.Sv
theorem TG (s:CM) (hb:s.1.2.length<=1048576) (hr : ∀ rs∈s.1.2,rs.length<=1048576 /\ ∀ r∈rs,r.2.length<=9223372036854775807) (hj:s.2.1.length<=1048576):EN s=some (Bs s):=by
 unfold EN Bs;simp only [AX,AR];rw [Ur _ hb hr,AD,By];by_cases h0:(EY s.1).2.2=0;rotate_left
 ·rw [if_neg h0,if_pos h0,By,if_neg h0,AT,if_neg h0]
 rw [if_pos h0,if_neg (show ¬ (EY s.1).2.2≠0 by simp [h0]),BB,Ap];have v:=H6.1 h0;by_cases h1:s.2.2<1
 ·rw [if_pos h1,if_pos (.inl h1)]
 rw [if_neg h1];by_cases h2:s.2.2>1000001
 ·rw [if_pos h2,if_pos (.inr h2)]
 rw [if_neg h2,if_neg (show ¬ (s.2.2<1\/s.2.2>1000001) by omega),By,if_pos h0,Rj v,AD,im];by_cases h3:s.2.2<=Fk s.1.2
 ·rw [if_pos h3,if_pos h3]
 rw [if_neg h3,if_neg h3,AT,if_pos h0,gx (by have:=v.len;omega),AD];obtain ⟨due,hdue⟩ : ∃ due,due=Co 0 s.1.2:=⟨_,rfl⟩;have hdl:due.length<=12:=by have:=HT s.1.2 0;have:=v.len;rw [hdue];omega
 rw [<- hdue];obtain ⟨T,hT⟩ : ∃ T,T=Fg s.1 due 0 s.2.1:=⟨_,rfl⟩;rw [<- hT]
 obtain ⟨r,q1,q2⟩:=D1 (l:=s.2.1) (σ:=Unit) (λi _=>((0:Int),((0:Int),(i:Int)))) (λjs i _=>Fg s.1 due i js=T) (λ(r:Nat×((Int×(Int×Int))×Unit))=>(T=none/\r.1=1)\/(∃ i:Nat,T=some i/\r.1=0/\r.2.1.1=6/\r.2.1.2.1=(i:Int)))
  (f:=λs6=>br (Ag s6.2.2 (s.2.1.length:Int)) (λ_=>AO s6.2.2 λk7=>ix s.2.1 k7 λx8=>br (Iu s6.2.2 (due.length:Int)) (λ_=>some (.dn ((0,((6,(s6.2.2,s6.2.2)),()))))) λ_=>AO s6.2.2 λk9=>ix due k9 λx10=>br (Aq x8.1 x10) (λ_=>some (.dn ((0,((6,(s6.2.2,s6.2.2)),()))))) λ_=>br x8.2.2.1.2.2 (λ_=>bd (B9 (s.1,x8.1)) λr11=>br (AV r11) (λ_=>some (.dn ((0,((6,(s6.2.2,s6.2.2)),()))))) λ_=>bd (BH ((s.1,(x8.1,x8.2.2.1.2.2)))) λr12=>bd (BE r12.2) λr13=>br (Ag x8.2.2.2.2 0) (λ_=>some (.dn ((0,((6,(s6.2.2,s6.2.2)),()))))) λ_=>br (Bv x8.2.2.2.2 r13.1) (λ_=>some (.dn ((0,((6,(s6.2.2,s6.2.2)),()))))) λ_=>bd (BQ (r12.2,x8.2.2.2.2)) λr14=>bd (BK (r14.1,x8.2)) λr15=>br (AV r15) (λ_=>some (.dn ((0,((6,(s6.2.2,s6.2.2)),()))))) λ_=>some (.nx ((s6.1,(s6.2.1,AH .i64 s6.2.2 1))))) λ_=>bd (BH ((s.1,(x8.1,x8.2.2.1.2.2)))) λr16=>bd (BE r16.2) λr17=>br (Ag x8.2.2.2.2 0) (λ_=>some (.dn ((0,((6,(s6.2.2,s6.2.2)),()))))) λ_=>br (Bv x8.2.2.2.2 r17.1) (λ_=>some (.dn ((0,((6,(s6.2.2,s6.2.2)),()))))) λ_=>bd (BQ (r16.2,x8.2.2.2.2)) λr18=>bd (BK (r18.1,x8.2)) λr19=>br (AV r19) (λ_=>some (.dn ((0,((6,(s6.2.2,s6.2.2)),()))))) λ_=>some (.nx ((s6.1,(s6.2.1,AH .i64 s6.2.2 1))))) λ_=>some (.dn ((1,(s6,())))))
  (s:=(0,(0,0))) () rfl (by omega) hT.symm (λ_ h=>by
   refine ⟨_,by simp only;rw [re];rfl,.inl ⟨by rw [<- h];rfl,rfl⟩⟩) (λi j js _ hd hx hi h=>by
   simp only;rw [rl hi,AL,AF,AJ hx,G3];unfold Fg at h
   have hbad:Kl s.1 due i j=true -> ∃ r:Nat×((Int×(Int×Int))×Unit),(some (LR.dn ((0,((6,((i:Int),(i:Int))),()))):LR (Int×(Int×Int)) _))=some (.dn r)/\((T=none/\r.1=1)\/(∃ i:Nat,T=some i/\r.1=0/\r.2.1.1=6/\r.2.1.2.1=(i:Int))):=λhb=>by
    rw [if_pos hb] at h;exact ⟨_,rfl,.inr ⟨i,h.symm,rfl,rfl,rfl⟩⟩
   have hgood:Kl s.1 due i j=false -> ∃ st':Unit,(some (LR.nx ((0:Int),((0:Int),AH .i64 (i:Int) 1))):Option (LR _ (Nat×((Int×(Int×Int))×Unit))))=some (.nx ((0:Int),((0:Int),((i+1:Nat):Int))))/\Fg s.1 due (i+1) js=T:=λhg=>by
    rw [if_neg (by simp [hg])] at h;exact ⟨(),by rw [A6 hx (by omega)],h⟩
   by_cases h1:(i:Int)>=(due.length:Int)
   ·rw [if_pos h1];exact .inr (hbad (by unfold Kl;rw [List.getElem?_eq_none (by omega)]))
   rw [if_neg h1,AF];have hd2:due[i]? = some (due[i]'(by omega)):=by simp
   rw [AJ hd2,AT];obtain ⟨n,hn,r0,r1,hlv⟩:=Iq (ls:=s.1.2) (i:=0) (k:=i) (d:=due[i]'(by omega)) (by rw [<- hdue];exact hd2);rw [Nat.zero_add] at hn
   have hE:Kl s.1 due i j=(if j.1≠(due[i]'(by omega)) then true else if j.2.2.1.2.2=true/\j.1≠(s.1.2.length:Int)-1 then true else if j.2.2.2.2<0\/j.2.2.2.2>((r1.2.length+r0.2.length:Nat):Int) then true else decide (EZ r1.2 r0.2 j.2.2.1.2.2 j.2.2.2.2.toNat≠j.2)):=by
    unfold Kl;rw [hd2];simp only;rw [hn,Int.toNat_natCast,hlv]
   by_cases h2:j.1=(due[i]'(by omega));rotate_left
   ·rw [if_neg h2];exact .inr (hbad (by rw [hE,if_pos h2]))
   rw [if_pos h2];rw [if_neg (by simp [h2])] at hE;have hjn:j.1=(n:Int):=by rw [h2,hn]
   have hv:=(v.lev n _ hlv).2;have v0:=(hv r0 (by simp)).vl;have v1:=(hv r1 (by simp)).vl;have hnl:=(List.getElem?_eq_some_iff.1 hlv).1;rw [hjn,Ut v hnl,AD,CQ,Cj,gy hlv v0 v1,HL];rw [hjn] at hE;by_cases h3:j.2.2.1.2.2=true/\(n:Int)≠(s.1.2.length:Int)-1
   ·rw [if_pos h3.1,if_pos h3.2];exact .inr (hbad (by rw [hE,if_pos h3]))
   rw [if_neg h3] at hE
   have h4 : ∀ {γ:Type} (A B:γ),(if j.2.2.1.2.2=true then if ¬(n:Int)=(s.1.2.length:Int)-1 then A else B else B)=B:=by
    intro γ A B;by_cases h5:j.2.2.1.2.2=true
    ·rw [if_pos h5,if_neg (λh6=>h3 ⟨h5,h6⟩)]
    ·rw [if_neg h5]
   rw [h4];by_cases h5:j.2.2.2.2<0\/j.2.2.2.2>((r1.2.length+r0.2.length:Nat):Int)
   ·rw [if_pos h5];exact .inr (hbad (by rw [hE,if_pos h5]))
   rw [if_neg h5];rw [if_neg h5] at hE;by_cases h6:EZ r1.2 r0.2 j.2.2.1.2.2 j.2.2.2.2.toNat=j.2
   ·rw [if_pos h6];exact .inl (hgood (by rw [hE];simp [h6]))
   ·rw [if_neg h6]
    exact .inr (hbad (by rw [hE];simp [h6])))
 refine BC q1 ?_;rw [CR];rcases q2 with ⟨q2,q3⟩ | ⟨i,q2,q3,q4,q5⟩
 ·rw [if_neg (show ¬ r.1=0 by omega),q2,BB];simp only;by_cases h7:s.2.1.length<due.length
  ·rw [if_pos (by omega),if_pos h7]
  ·rw [if_neg (by omega),if_neg h7]
 ·rw [if_pos q3,q2,q4,q5]
end Go.Proofs.YthpkjfabdccpdaaGreat.Pl
