/- Functions of the program and of the specification as plain functions, and laws about them. No condition. -/
import Derived.Test.YthpkjfabdccpdaaGreatPl2
set_option linter.all false
namespace Go.Proofs.YthpkjfabdccpdaaGreat.Pl
open Go Go.Proofs.YthpkjfabdccpdaaGreat.Sv
set_option linter.unusedVariables false
end Go.Proofs.YthpkjfabdccpdaaGreat.Pl
namespace Go.Proofs.YthpkjfabdccpdaaGreat.Pl
open Go Go.Proofs.YthpkjfabdccpdaaGreat.Sv
set_option linter.unusedVariables false
def CW (x:(AJ×(Int×(List BL)))):Option AJ :=
 bd (loop (λ(s0:(Int×AJ))=>br (Ah s0.1 (AY (AA x.1.2))) (λ_=>br (G5 s0.1 (AY (AA x.1.2))) (λ_=>br (BP s0.1 x.2.1) (λ_=>gd (BO (AA x.2.2) 1048576) λ_=>gd (BO (Ar (AA s0.2.2) (AA [x.2.2])) 1048576) λ_=>some (.nx ((AI .i64 s0.1 1,(s0.2.1,B3 s0.2.2 [x.2.2]))))) λ_=>gd (BO (Ar (AA s0.2.2) (AA ([[]]:(List (List BL))))) 1048576) λ_=>some (.nx ((AI .i64 s0.1 1,(s0.2.1,B3 s0.2.2 [[]]))))) λ_=>AS s0.1 λk1=>ix x.1.2 k1 λx2=>br (BP s0.1 x.2.1) (λ_=>gd (BO (AA x.2.2) 1048576) λ_=>gd (BO (Ar (AA s0.2.2) (AA [x.2.2])) 1048576) λ_=>some (.nx ((AI .i64 s0.1 1,(s0.2.1,B3 s0.2.2 [x.2.2]))))) λ_=>gd (BO (AA x2) 1048576) λ_=>gd (BO (Ar (AA s0.2.2) (AA [x2])) 1048576) λ_=>some (.nx ((AI .i64 s0.1 1,(s0.2.1,B3 s0.2.2 [x2]))))) λ_=>br (fh s0.1 x.2.1) (λ_=>br (G5 s0.1 (AY (AA x.1.2))) (λ_=>br (BP s0.1 x.2.1) (λ_=>gd (BO (AA x.2.2) 1048576) λ_=>gd (BO (Ar (AA s0.2.2) (AA [x.2.2])) 1048576) λ_=>some (.nx ((AI .i64 s0.1 1,(s0.2.1,B3 s0.2.2 [x.2.2]))))) λ_=>gd (BO (Ar (AA s0.2.2) (AA ([[]]:(List (List BL))))) 1048576) λ_=>some (.nx ((AI .i64 s0.1 1,(s0.2.1,B3 s0.2.2 [[]]))))) λ_=>AS s0.1 λk3=>ix x.1.2 k3 λx4=>br (BP s0.1 x.2.1) (λ_=>gd (BO (AA x.2.2) 1048576) λ_=>gd (BO (Ar (AA s0.2.2) (AA [x.2.2])) 1048576) λ_=>some (.nx ((AI .i64 s0.1 1,(s0.2.1,B3 s0.2.2 [x.2.2]))))) λ_=>gd (BO (AA x4) 1048576) λ_=>gd (BO (Ar (AA s0.2.2) (AA [x4])) 1048576) λ_=>some (.nx ((AI .i64 s0.1 1,(s0.2.1,B3 s0.2.2 [x4]))))) λ_=>some (.dn ((0,(s0,()))))) ((0,(x.1.1,[])))) λr5=>bd (loop (λ(s6:AJ)=>br (B8 (AY (AA s6.2)) 0) (λ_=>AS (CE .i64 (AY (AA s6.2)) 1) λk7=>ix s6.2 k7 λx8=>br (BP (AY (AA x8)) 0) (λ_=>AS (CE .i64 (AY (AA s6.2)) 1) λk9=>gd (BO k9 (AA s6.2)) λ_=>gd (BO 0 k9) λ_=>some (.nx (s6.1,ER s6.2 0 k9))) λ_=>some (.dn ((0,(s6,()))))) λ_=>some (.dn ((0,(s6,()))))) r5.2.1.2) λr10=>some r10.2.1
def EA (x:(AJ×Int)):Option (List BL) :=
 br (G5 x.2 (AY (AA x.1.2))) (λ_=>some []) λ_=>AS x.2 λk0=>ix x.1.2 k0 λx1=>some x1
def Br (x:(AJ×Int)):Option ((Int×(AL×((Bool×AM)×((List AD)×Int))))×Int) :=
 bd (CU x.1) λr0=>br (BP r0.2.2 0) (λ_=>br (Ah x.2 0) (λ_=>some (((0,(([],([],([],([],0)))),((false,([],false)),([],0)))),7))) λ_=>br (G5 x.2 12) (λ_=>some (((0,(([],([],([],([],0)))),((false,([],false)),([],0)))),7))) λ_=>br (BP r0.2.2 0) (λ_=>br (G5 x.2 (AY (AA x.1.2))) (λ_=>some (((0,(([],([],([],([],0)))),((false,([],false)),([],0)))),4))) λ_=>AS x.2 λk1=>ix x.1.2 k1 λx2=>br (Ah (AY (AA x2)) 2) (λ_=>some (((0,(([],([],([],([],0)))),((false,([],false)),([],0)))),4))) λ_=>br (A7 r0.2.2 0) (λ_=>some (((0,(([],([],([],([],0)))),((false,([],false)),([],0)))),r0.2.2))) λ_=>bd (BJ x) λr3=>bd (Ap ((x.1,(x.2,r3)))) λr4=>some (r4,0)) λ_=>br (A7 r0.2.2 0) (λ_=>some (((0,(([],([],([],([],0)))),((false,([],false)),([],0)))),r0.2.2))) λ_=>bd (BJ x) λr5=>bd (Ap ((x.1,(x.2,r5)))) λr6=>some (r6,0)) λ_=>br (BP r0.2.2 0) (λ_=>br (G5 x.2 (AY (AA x.1.2))) (λ_=>some (((0,(([],([],([],([],0)))),((false,([],false)),([],0)))),4))) λ_=>AS x.2 λk7=>ix x.1.2 k7 λx8=>br (Ah (AY (AA x8)) 2) (λ_=>some (((0,(([],([],([],([],0)))),((false,([],false)),([],0)))),4))) λ_=>br (A7 r0.2.2 0) (λ_=>some (((0,(([],([],([],([],0)))),((false,([],false)),([],0)))),r0.2.2))) λ_=>bd (BJ x) λr9=>bd (Ap ((x.1,(x.2,r9)))) λr10=>some (r10,0)) λ_=>br (A7 r0.2.2 0) (λ_=>some (((0,(([],([],([],([],0)))),((false,([],false)),([],0)))),r0.2.2))) λ_=>bd (BJ x) λr11=>bd (Ap ((x.1,(x.2,r11)))) λr12=>some (r12,0)
def Cm (x:((AJ×((List (Int×(AL×((Bool×AM)×((List AD)×Int)))))×Int))×Int)):Option ((AJ×((List (Int×(AL×((Bool×AM)×((List AD)×Int)))))×Int))×Int) :=
 bd (Ep x) λr0=>br (A7 r0.2 0) (λ_=>some ((((0,[]),([],0)),r0.2))) λ_=>bd (Bu x) λr1=>AS r1.1 λk2=>ix x.1.2.1 k2 λx3=>bd (Fq x) λr4=>br (Ab r4.1) (λ_=>some ((((0,[]),([],0)),9))) λ_=>br (B8 x.1.2.2 1000000) (λ_=>br (B8 (AY (AA x3.2.2.2.1)) 0) (λ_=>some ((((0,[]),([],0)),5))) λ_=>bd (CW ((x.1.1,(x.2,[])))) λr5=>br (B8 (AY (AA x3.2.2.2.1)) 0) (λ_=>bd (EA (r5,r0.1)) λr6=>gd (BO (AA r6) 1048576) λ_=>gd (BO (Ar (AA r6) (AA ([(x.1.2.2,x3.2.2.2.1)]))) 1048576) λ_=>bd (CW ((r5,(r0.1,B3 r6 ([(x.1.2.2,x3.2.2.2.1)]))))) λr7=>bd (Bj r7) λr8=>bd (loop (λ(s9:(Int×(Int×((List (List BL))×((List (Int×(AL×((Bool×AM)×((List AD)×Int)))))×Int)))))=>br (Ah s9.1 (AY (AA r8))) (λ_=>AS s9.1 λk10=>ix r8 k10 λx11=>bd (Br (((s9.2.1,s9.2.2.1),x11))) λr12=>bd (loop (λ(s13:(Int×(Int×((List (List AD))×((List Int)×((List AM)×((List Int)×(Int×(Bool×((List UInt8)×(Bool×((List AD)×Int))))))))))))=>br (Ah s13.1 (AY (AA x.1.2.1))) (λ_=>AS s13.1 λk14=>ix x.1.2.1 k14 λx15=>AS s9.1 λk16=>ix r8 k16 λx17=>br (BP x15.1 x17) (λ_=>AS s9.1 λk18=>ix r8 k18 λx19=>br (A7 x19 x.2) (λ_=>AS s13.1 λk20=>ix x.1.2.1 k20 λx21=>some (.nx ((AI .i64 s13.1 1,(x21.1,(x21.2.1.1,(x21.2.1.2.1,(x21.2.1.2.2.1,(x21.2.1.2.2.2.1,(x21.2.1.2.2.2.2,(x21.2.2.1.1,(x21.2.2.1.2.1,(x21.2.2.1.2.2,x21.2.2.2))))))))))))) λ_=>some (.nx (AI .i64 s13.1 1,s13.2))) λ_=>some (.nx (AI .i64 s13.1 1,s13.2))) λ_=>some (.dn ((0,(s13,()))))) ((0,(r12.1.1,(r12.1.2.1.1,(r12.1.2.1.2.1,(r12.1.2.1.2.2.1,(r12.1.2.1.2.2.2.1,(r12.1.2.1.2.2.2.2,(r12.1.2.2.1.1,(r12.1.2.2.1.2.1,(r12.1.2.2.1.2.2,r12.1.2.2.2)))))))))))) λr22=>gd (BO (Ar (AA s9.2.2.2.1) (AA ([(r22.2.1.2.1,((r22.2.1.2.2.1,(r22.2.1.2.2.2.1,(r22.2.1.2.2.2.2.1,(r22.2.1.2.2.2.2.2.1,r22.2.1.2.2.2.2.2.2.1)))),((r22.2.1.2.2.2.2.2.2.2.1,(r22.2.1.2.2.2.2.2.2.2.2.1,r22.2.1.2.2.2.2.2.2.2.2.2.1)),r22.2.1.2.2.2.2.2.2.2.2.2.2)))]))) 1048576) λ_=>some (.nx ((AI .i64 s9.1 1,(s9.2.1,(s9.2.2.1,(B3 s9.2.2.2.1 ([(r22.2.1.2.1,((r22.2.1.2.2.1,(r22.2.1.2.2.2.1,(r22.2.1.2.2.2.2.1,(r22.2.1.2.2.2.2.2.1,r22.2.1.2.2.2.2.2.2.1)))),((r22.2.1.2.2.2.2.2.2.2.1,(r22.2.1.2.2.2.2.2.2.2.2.1,r22.2.1.2.2.2.2.2.2.2.2.2.1)),r22.2.1.2.2.2.2.2.2.2.2.2.2)))]),s9.2.2.2.2))))))) λ_=>some (.dn ((0,(s9,()))))) ((0,(r7.1,(r7.2,([],AI .i64 x.1.2.2 1)))))) λr23=>some ((((r23.2.1.2.1,r23.2.1.2.2.1),r23.2.1.2.2.2),0))) λ_=>bd (Bj r5) λr24=>bd (loop (λ(s25:(Int×(Int×((List (List BL))×((List (Int×(AL×((Bool×AM)×((List AD)×Int)))))×Int)))))=>br (Ah s25.1 (AY (AA r24))) (λ_=>AS s25.1 λk26=>ix r24 k26 λx27=>bd (Br (((s25.2.1,s25.2.2.1),x27))) λr28=>bd (loop (λ(s29:(Int×(Int×((List (List AD))×((List Int)×((List AM)×((List Int)×(Int×(Bool×((List UInt8)×(Bool×((List AD)×Int))))))))))))=>br (Ah s29.1 (AY (AA x.1.2.1))) (λ_=>AS s29.1 λk30=>ix x.1.2.1 k30 λx31=>AS s25.1 λk32=>ix r24 k32 λx33=>br (BP x31.1 x33) (λ_=>AS s25.1 λk34=>ix r24 k34 λx35=>br (A7 x35 x.2) (λ_=>AS s29.1 λk36=>ix x.1.2.1 k36 λx37=>some (.nx ((AI .i64 s29.1 1,(x37.1,(x37.2.1.1,(x37.2.1.2.1,(x37.2.1.2.2.1,(x37.2.1.2.2.2.1,(x37.2.1.2.2.2.2,(x37.2.2.1.1,(x37.2.2.1.2.1,(x37.2.2.1.2.2,x37.2.2.2))))))))))))) λ_=>some (.nx (AI .i64 s29.1 1,s29.2))) λ_=>some (.nx (AI .i64 s29.1 1,s29.2))) λ_=>some (.dn ((0,(s29,()))))) ((0,(r28.1.1,(r28.1.2.1.1,(r28.1.2.1.2.1,(r28.1.2.1.2.2.1,(r28.1.2.1.2.2.2.1,(r28.1.2.1.2.2.2.2,(r28.1.2.2.1.1,(r28.1.2.2.1.2.1,(r28.1.2.2.1.2.2,r28.1.2.2.2)))))))))))) λr38=>gd (BO (Ar (AA s25.2.2.2.1) (AA ([(r38.2.1.2.1,((r38.2.1.2.2.1,(r38.2.1.2.2.2.1,(r38.2.1.2.2.2.2.1,(r38.2.1.2.2.2.2.2.1,r38.2.1.2.2.2.2.2.2.1)))),((r38.2.1.2.2.2.2.2.2.2.1,(r38.2.1.2.2.2.2.2.2.2.2.1,r38.2.1.2.2.2.2.2.2.2.2.2.1)),r38.2.1.2.2.2.2.2.2.2.2.2.2)))]))) 1048576) λ_=>some (.nx ((AI .i64 s25.1 1,(s25.2.1,(s25.2.2.1,(B3 s25.2.2.2.1 ([(r38.2.1.2.1,((r38.2.1.2.2.1,(r38.2.1.2.2.2.1,(r38.2.1.2.2.2.2.1,(r38.2.1.2.2.2.2.2.1,r38.2.1.2.2.2.2.2.2.1)))),((r38.2.1.2.2.2.2.2.2.2.1,(r38.2.1.2.2.2.2.2.2.2.2.1,r38.2.1.2.2.2.2.2.2.2.2.2.1)),r38.2.1.2.2.2.2.2.2.2.2.2.2)))]),s25.2.2.2.2))))))) λ_=>some (.dn ((0,(s25,()))))) ((0,(r5.1,(r5.2,([],x.1.2.2)))))) λr39=>some ((((r39.2.1.2.1,r39.2.1.2.2.1),r39.2.1.2.2.2),0))) λ_=>bd (CW ((x.1.1,(x.2,[])))) λr40=>br (B8 (AY (AA x3.2.2.2.1)) 0) (λ_=>bd (EA (r40,r0.1)) λr41=>gd (BO (AA r41) 1048576) λ_=>gd (BO (Ar (AA r41) (AA ([(x.1.2.2,x3.2.2.2.1)]))) 1048576) λ_=>bd (CW ((r40,(r0.1,B3 r41 ([(x.1.2.2,x3.2.2.2.1)]))))) λr42=>bd (Bj r42) λr43=>bd (loop (λ(s44:(Int×(Int×((List (List BL))×((List (Int×(AL×((Bool×AM)×((List AD)×Int)))))×Int)))))=>br (Ah s44.1 (AY (AA r43))) (λ_=>AS s44.1 λk45=>ix r43 k45 λx46=>bd (Br (((s44.2.1,s44.2.2.1),x46))) λr47=>bd (loop (λ(s48:(Int×(Int×((List (List AD))×((List Int)×((List AM)×((List Int)×(Int×(Bool×((List UInt8)×(Bool×((List AD)×Int))))))))))))=>br (Ah s48.1 (AY (AA x.1.2.1))) (λ_=>AS s48.1 λk49=>ix x.1.2.1 k49 λx50=>AS s44.1 λk51=>ix r43 k51 λx52=>br (BP x50.1 x52) (λ_=>AS s44.1 λk53=>ix r43 k53 λx54=>br (A7 x54 x.2) (λ_=>AS s48.1 λk55=>ix x.1.2.1 k55 λx56=>some (.nx ((AI .i64 s48.1 1,(x56.1,(x56.2.1.1,(x56.2.1.2.1,(x56.2.1.2.2.1,(x56.2.1.2.2.2.1,(x56.2.1.2.2.2.2,(x56.2.2.1.1,(x56.2.2.1.2.1,(x56.2.2.1.2.2,x56.2.2.2))))))))))))) λ_=>some (.nx (AI .i64 s48.1 1,s48.2))) λ_=>some (.nx (AI .i64 s48.1 1,s48.2))) λ_=>some (.dn ((0,(s48,()))))) ((0,(r47.1.1,(r47.1.2.1.1,(r47.1.2.1.2.1,(r47.1.2.1.2.2.1,(r47.1.2.1.2.2.2.1,(r47.1.2.1.2.2.2.2,(r47.1.2.2.1.1,(r47.1.2.2.1.2.1,(r47.1.2.2.1.2.2,r47.1.2.2.2)))))))))))) λr57=>gd (BO (Ar (AA s44.2.2.2.1) (AA ([(r57.2.1.2.1,((r57.2.1.2.2.1,(r57.2.1.2.2.2.1,(r57.2.1.2.2.2.2.1,(r57.2.1.2.2.2.2.2.1,r57.2.1.2.2.2.2.2.2.1)))),((r57.2.1.2.2.2.2.2.2.2.1,(r57.2.1.2.2.2.2.2.2.2.2.1,r57.2.1.2.2.2.2.2.2.2.2.2.1)),r57.2.1.2.2.2.2.2.2.2.2.2.2)))]))) 1048576) λ_=>some (.nx ((AI .i64 s44.1 1,(s44.2.1,(s44.2.2.1,(B3 s44.2.2.2.1 ([(r57.2.1.2.1,((r57.2.1.2.2.1,(r57.2.1.2.2.2.1,(r57.2.1.2.2.2.2.1,(r57.2.1.2.2.2.2.2.1,r57.2.1.2.2.2.2.2.2.1)))),((r57.2.1.2.2.2.2.2.2.2.1,(r57.2.1.2.2.2.2.2.2.2.2.1,r57.2.1.2.2.2.2.2.2.2.2.2.1)),r57.2.1.2.2.2.2.2.2.2.2.2.2)))]),s44.2.2.2.2))))))) λ_=>some (.dn ((0,(s44,()))))) ((0,(r42.1,(r42.2,([],AI .i64 x.1.2.2 1)))))) λr58=>some ((((r58.2.1.2.1,r58.2.1.2.2.1),r58.2.1.2.2.2),0))) λ_=>bd (Bj r40) λr59=>bd (loop (λ(s60:(Int×(Int×((List (List BL))×((List (Int×(AL×((Bool×AM)×((List AD)×Int)))))×Int)))))=>br (Ah s60.1 (AY (AA r59))) (λ_=>AS s60.1 λk61=>ix r59 k61 λx62=>bd (Br (((s60.2.1,s60.2.2.1),x62))) λr63=>bd (loop (λ(s64:(Int×(Int×((List (List AD))×((List Int)×((List AM)×((List Int)×(Int×(Bool×((List UInt8)×(Bool×((List AD)×Int))))))))))))=>br (Ah s64.1 (AY (AA x.1.2.1))) (λ_=>AS s64.1 λk65=>ix x.1.2.1 k65 λx66=>AS s60.1 λk67=>ix r59 k67 λx68=>br (BP x66.1 x68) (λ_=>AS s60.1 λk69=>ix r59 k69 λx70=>br (A7 x70 x.2) (λ_=>AS s64.1 λk71=>ix x.1.2.1 k71 λx72=>some (.nx ((AI .i64 s64.1 1,(x72.1,(x72.2.1.1,(x72.2.1.2.1,(x72.2.1.2.2.1,(x72.2.1.2.2.2.1,(x72.2.1.2.2.2.2,(x72.2.2.1.1,(x72.2.2.1.2.1,(x72.2.2.1.2.2,x72.2.2.2))))))))))))) λ_=>some (.nx (AI .i64 s64.1 1,s64.2))) λ_=>some (.nx (AI .i64 s64.1 1,s64.2))) λ_=>some (.dn ((0,(s64,()))))) ((0,(r63.1.1,(r63.1.2.1.1,(r63.1.2.1.2.1,(r63.1.2.1.2.2.1,(r63.1.2.1.2.2.2.1,(r63.1.2.1.2.2.2.2,(r63.1.2.2.1.1,(r63.1.2.2.1.2.1,(r63.1.2.2.1.2.2,r63.1.2.2.2)))))))))))) λr73=>gd (BO (Ar (AA s60.2.2.2.1) (AA ([(r73.2.1.2.1,((r73.2.1.2.2.1,(r73.2.1.2.2.2.1,(r73.2.1.2.2.2.2.1,(r73.2.1.2.2.2.2.2.1,r73.2.1.2.2.2.2.2.2.1)))),((r73.2.1.2.2.2.2.2.2.2.1,(r73.2.1.2.2.2.2.2.2.2.2.1,r73.2.1.2.2.2.2.2.2.2.2.2.1)),r73.2.1.2.2.2.2.2.2.2.2.2.2)))]))) 1048576) λ_=>some (.nx ((AI .i64 s60.1 1,(s60.2.1,(s60.2.2.1,(B3 s60.2.2.2.1 ([(r73.2.1.2.1,((r73.2.1.2.2.1,(r73.2.1.2.2.2.1,(r73.2.1.2.2.2.2.1,(r73.2.1.2.2.2.2.2.1,r73.2.1.2.2.2.2.2.2.1)))),((r73.2.1.2.2.2.2.2.2.2.1,(r73.2.1.2.2.2.2.2.2.2.2.1,r73.2.1.2.2.2.2.2.2.2.2.2.1)),r73.2.1.2.2.2.2.2.2.2.2.2.2)))]),s60.2.2.2.2))))))) λ_=>some (.dn ((0,(s60,()))))) ((0,(r40.1,(r40.2,([],x.1.2.2)))))) λr74=>some ((((r74.2.1.2.1,r74.2.1.2.2.1),r74.2.1.2.2.2),0))
def Dw (x:((List AD)×(List AD))):Option Bool :=
 bd (loop (λs0=>br (Ah s0.1 (AY (AA x.1))) (λ_=>br (Ah s0.1 (AY (AA x.2))) (λ_=>AS s0.1 λk1=>ix x.1 k1 λx2=>AS s0.1 λk3=>ix x.2 k3 λx4=>br (Ab (Bn (seq x2.1 x4.1) (Bn (seq x2.2.1 x4.2.1) (Bn (beq x2.2.2.1 x4.2.2.1) (Bn (BP x2.2.2.2 x4.2.2.2) true))))) (λ_=>some (.dn ((0,((s0.1,false),()))))) λ_=>some (.nx (AI .i64 s0.1 1,s0.2))) λ_=>some (.dn ((1,(s0,()))))) λ_=>some (.dn ((1,(s0,()))))) (0,false)) λr5=>br (neq r5.1 0) (λ_=>some r5.2.1.2) λ_=>some (BP (AY (AA x.1)) (AY (AA x.2)))
def EJ (x:(BL×BL)):Option Bool :=
 br (BP x.1.1 x.2.1) (λ_=>bd (Dw (x.1.2,x.2.2)) λr0=>some r0) λ_=>some false
def Dx (x:((List BL)×(List BL))):Option Bool :=
 br (A7 (AY (AA x.1)) (AY (AA x.2))) (λ_=>some false) λ_=>bd (loop (λs0=>br (Ah s0.1 (AY (AA x.1))) (λ_=>AS s0.1 λk1=>ix x.1 k1 λx2=>AS s0.1 λk3=>ix x.2 k3 λx4=>bd (EJ (x2,x4)) λr5=>br (Ab r5) (λ_=>some (.dn ((0,((s0.1,false),()))))) λ_=>some (.nx (AI .i64 s0.1 1,s0.2))) λ_=>some (.dn ((1,(s0,()))))) (0,false)) λr6=>br (neq r6.1 0) (λ_=>some r6.2.1.2) λ_=>some true
def GT (x:(AJ×AJ)):Option Bool :=
 br (A7 x.1.1 x.2.1) (λ_=>some false) λ_=>br (A7 (AY (AA x.1.2)) (AY (AA x.2.2))) (λ_=>some false) λ_=>bd (loop (λs0=>br (Ah s0.1 (AY (AA x.1.2))) (λ_=>AS s0.1 λk1=>ix x.1.2 k1 λx2=>AS s0.1 λk3=>ix x.2.2 k3 λx4=>bd (Dx (x2,x4)) λr5=>br (Ab r5) (λ_=>some (.dn ((0,((s0.1,false),()))))) λ_=>some (.nx (AI .i64 s0.1 1,s0.2))) λ_=>some (.dn ((1,(s0,()))))) (0,false)) λr6=>br (neq r6.1 0) (λ_=>some r6.2.1.2) λ_=>some true
def EK (x:((Int×(AL×((Bool×AM)×((List AD)×Int))))×(Int×(AL×((Bool×AM)×((List AD)×Int)))))):Option Bool :=
 br (BP x.1.1 x.2.1) (λ_=>bd (BS (x.1.2,x.2.2)) λr0=>some r0) λ_=>some false
def DN (x:((AJ×((List (Int×(AL×((Bool×AM)×((List AD)×Int)))))×Int))×(AJ×((List (Int×(AL×((Bool×AM)×((List AD)×Int)))))×Int)))):Option Bool :=
 bd (GT (x.1.1,x.2.1)) λr0=>br (Ab r0) (λ_=>some false) λ_=>br (A7 (AY (AA x.1.2.1)) (AY (AA x.2.2.1))) (λ_=>some false) λ_=>br (A7 x.1.2.2 x.2.2.2) (λ_=>some false) λ_=>bd (loop (λs1=>br (Ah s1.1 (AY (AA x.1.2.1))) (λ_=>AS s1.1 λk2=>ix x.1.2.1 k2 λx3=>AS s1.1 λk4=>ix x.2.2.1 k4 λx5=>bd (EK (x3,x5)) λr6=>br (Ab r6) (λ_=>some (.dn ((0,((s1.1,false),()))))) λ_=>some (.nx (AI .i64 s1.1 1,s1.2))) λ_=>some (.dn ((1,(s1,()))))) (0,false)) λr7=>br (neq r7.1 0) (λ_=>some r7.2.1.2) λ_=>some true
def E8 (x:((AJ×((List (Int×(AL×((Bool×AM)×((List AD)×Int)))))×Int))×(Int×Int))):Option ((AJ×((List (Int×(AL×((Bool×AM)×((List AD)×Int)))))×Int))×(Int×Int)) :=
 bd (Db x.1) λr0=>br (BP r0.2 0) (λ_=>br (Ah x.2.2 0) (λ_=>some ((((0,[]),([],0)),(0,7)))) λ_=>br (A7 r0.2 0) (λ_=>some ((((0,[]),([],0)),(0,r0.2)))) λ_=>bd (CV (x.1,x.2.1)) λr1=>br (BP r1.2 0) (λ_=>br (BP r1.1 0) (λ_=>some ((((0,[]),([],0)),(0,9)))) λ_=>br (A7 r1.2 0) (λ_=>some ((((0,[]),([],0)),(0,r1.2)))) λ_=>bd (Bu (x.1,x.2.1)) λr2=>AS r2.1 λk3=>ix x.1.2.1 k3 λx4=>bd (A5 (x4.2,x.2.2)) λr5=>gd (BO (AA x.1.2.1) 1048576) λ_=>AS r2.1 λk6=>gd (Df k6 (AA x.1.2.1)) λ_=>ix x.1.2.1 k6 λx7=>some (((x.1.1,(lset x.1.2.1 k6 (x.2.1,r5.1),x.1.2.2)),(r5.2.1,0)))) λ_=>br (A7 r1.2 0) (λ_=>some ((((0,[]),([],0)),(0,r1.2)))) λ_=>bd (Bu (x.1,x.2.1)) λr8=>AS r8.1 λk9=>ix x.1.2.1 k9 λx10=>bd (A5 (x10.2,x.2.2)) λr11=>gd (BO (AA x.1.2.1) 1048576) λ_=>AS r8.1 λk12=>gd (Df k12 (AA x.1.2.1)) λ_=>ix x.1.2.1 k12 λx13=>some (((x.1.1,(lset x.1.2.1 k12 (x.2.1,r11.1),x.1.2.2)),(r11.2.1,0)))) λ_=>br (A7 r0.2 0) (λ_=>some ((((0,[]),([],0)),(0,r0.2)))) λ_=>bd (CV (x.1,x.2.1)) λr14=>br (BP r14.2 0) (λ_=>br (BP r14.1 0) (λ_=>some ((((0,[]),([],0)),(0,9)))) λ_=>br (A7 r14.2 0) (λ_=>some ((((0,[]),([],0)),(0,r14.2)))) λ_=>bd (Bu (x.1,x.2.1)) λr15=>AS r15.1 λk16=>ix x.1.2.1 k16 λx17=>bd (A5 (x17.2,x.2.2)) λr18=>gd (BO (AA x.1.2.1) 1048576) λ_=>AS r15.1 λk19=>gd (Df k19 (AA x.1.2.1)) λ_=>ix x.1.2.1 k19 λx20=>some (((x.1.1,(lset x.1.2.1 k19 (x.2.1,r18.1),x.1.2.2)),(r18.2.1,0)))) λ_=>br (A7 r14.2 0) (λ_=>some ((((0,[]),([],0)),(0,r14.2)))) λ_=>bd (Bu (x.1,x.2.1)) λr21=>AS r21.1 λk22=>ix x.1.2.1 k22 λx23=>bd (A5 (x23.2,x.2.2)) λr24=>gd (BO (AA x.1.2.1) 1048576) λ_=>AS r21.1 λk25=>gd (Df k25 (AA x.1.2.1)) λ_=>ix x.1.2.1 k25 λx26=>some (((x.1.1,(lset x.1.2.1 k25 (x.2.1,r24.1),x.1.2.2)),(r24.2.1,0)))
def GU (x:((AJ×((List (Int×(AL×((Bool×AM)×((List AD)×Int)))))×Int))×Int)):Option ((AJ×((List (Int×(AL×((Bool×AM)×((List AD)×Int)))))×Int))×(Bool×Int)) :=
 bd (Fq x) λr0=>br (BP r0.2 0) (λ_=>br (Ab r0.1) (λ_=>some ((((0,[]),([],0)),(false,9)))) λ_=>br (A7 r0.2 0) (λ_=>some ((((0,[]),([],0)),(false,r0.2)))) λ_=>bd (CV x) λr1=>br (B8 r1.1 0) (λ_=>bd (E8 ((x.1,(x.2,1)))) λr2=>some ((r2.1,(false,r2.2.2)))) λ_=>bd (Cm x) λr3=>some ((r3.1,(BP r3.2 0,r3.2)))) λ_=>br (A7 r0.2 0) (λ_=>some ((((0,[]),([],0)),(false,r0.2)))) λ_=>bd (CV x) λr4=>br (B8 r4.1 0) (λ_=>bd (E8 ((x.1,(x.2,1)))) λr5=>some ((r5.1,(false,r5.2.2)))) λ_=>bd (Cm x) λr6=>some ((r6.1,(BP r6.2 0,r6.2)))
def DO (x:((AJ×((List (Int×(AL×((Bool×AM)×((List AD)×Int)))))×Int))×Int)):Option Bool :=
 bd (GO x.1) λr0=>br r0 (λ_=>bd (FW ()) λr1=>some r1) λ_=>bd (Ck x) λr2=>bd (Cm x) λr3=>bd (DN (r2.1,r3.1)) λr4=>br (Ab r4) (λ_=>some false) λ_=>br (A7 r2.2 r3.2) (λ_=>some false) λ_=>bd (C6 x) λr5=>bd (GU x) λr6=>bd (DN (r5.1,r6.1)) λr7=>br r7 (λ_=>br (beq r5.2.1 r6.2.1) (λ_=>br (BP r5.2.2 r6.2.2) (λ_=>bd (FW ()) λr8=>some r8) λ_=>some false) λ_=>some false) λ_=>some false
end Go.Proofs.YthpkjfabdccpdaaGreat.Pl
namespace Go.Proofs.YthpkjfabdccpdaaGreat.Pl
open Go Go.Proofs.YthpkjfabdccpdaaGreat.Sv
theorem iN {B:Int} {M:List (List BL)} {f:(Int×List (List BL))->Option (LR (Int×List (List BL)) (Nat×((Int×List (List BL))×Unit)))} (h0:f (B,[])=some (.dn (0,((B,[]),())))) (hs : ∀ k,k<M.length->f (B,M.take (k+1))=if As M k=[] then some (.nx (B,M.take k)) else some (.dn (0,((B,M.take (k+1)),())))) : ∀ k,k<=M.length->Dk (k+1) f (B,M.take k)=some (0,((B,M.take (JH M k)),()))
 | 0,_=>by rw [List.take_zero];exact BN h0
 | k+1,hk=>by
  have h:=hs k (by omega);unfold JH;by_cases he:As M k=[]
  ·rw [if_pos he] at h ⊢;rw [BF h];exact iN h0 hs k (by omega)
  ·rw [if_neg he] at h ⊢;exact BN h
theorem ae {M:List (List BL)} {k:Nat} (h:k<M.length):M.take (k+1)=M.take k++[As M k]:=by
 rw [List.take_add_one,E7 h];rfl
theorem Ta {L:AJ} (h1:L.2.length<=1000) {n:Nat} (hn:n<1000) {r:List BL} (hr:r.length<=1048576) (ho : ∀ i,(As L.2 i).length<=1048576):CW (L,((n:Int),r))=some (Cd L n r):=by
 have hM:(Fj L.2 n r).length=max L.2.length (n+1):=by unfold Fj;rw [List.length_set,J6]
 unfold CW;simp only [AW,AP];refine BC (Hd (r:=(0,((((max L.2.length (n+1):Nat):Int),(L.1,Fj L.2 n r)),()))) (λk=>((k:Int),(L.1,(Fj L.2 n r).take k))) (max L.2.length (n+1)) (by simp) (by omega) (λk hk => ?_) ?_) ?_
 ·have hl:((Fj L.2 n r).take k).length=k:=by rw [List.length_take];omega
  simp only [hl];rw [ae (by omega),TU,Ac (by omega),BB];by_cases hkl:k<L.2.length
  ·rw [if_pos (by omega),Dz,if_neg (by omega),AE,AK (E7 hkl),Bc];by_cases hkn:k=n
   ·rw [if_pos (by omega),if_pos hkn,Bl hr,Bl (by simp only [Ar,List.length_cons,List.length_nil];omega)];rfl
   ·rw [if_neg (by omega),if_neg hkn,Bl (ho k),Bl (by simp only [Ar,List.length_cons,List.length_nil];omega)];rfl
  ·rw [if_neg (by omega),WZ,if_pos (by omega),Dz,if_pos (by omega),Bc];by_cases hkn:k=n
   ·rw [if_pos (by omega),if_pos hkn,Bl hr,Bl (by simp only [Ar,List.length_cons,List.length_nil];omega)];rfl
   ·rw [if_neg (by omega),if_neg hkn,Bl (by simp only [Ar,List.length_cons,List.length_nil];omega)];have:As L.2 k=[]:=by unfold As;rw [List.getElem?_eq_none (by omega)];rfl
    rw [this];rfl
 ·have hl:(Fj L.2 n r).take (max L.2.length (n+1))=Fj L.2 n r:=List.take_of_length_le (by omega);simp only;rw [BB,if_neg (by omega),WZ,if_neg (by omega),hl]
 ·have hlo:=iN (B:=L.1) (M:=Fj L.2 n r) (f:=λs6=>br (B8 (s6.2.length:Int) 0) (λ_=>AS (CE .i64 (s6.2.length:Int) 1) λk7=>ix s6.2 k7 λx8=>br (BP (x8.length:Int) 0) (λ_=>AS (CE .i64 (s6.2.length:Int) 1) λk9=>gd (BO k9 s6.2.length) λ_=>gd (BO 0 k9) λ_=>some (.nx (s6.1,ER s6.2 0 k9))) λ_=>some (.dn ((0,(s6,()))))) λ_=>some (.dn ((0,(s6,()))))) rfl (λk hk=>by
   have hl:((Fj L.2 n r).take (k+1)).length=k+1:=by rw [List.length_take];omega
   have hi:CE .i64 ((k+1:Nat):Int) 1=(k:Int):=by rw [CF (by omega)];omega
   have hg:((Fj L.2 n r).take (k+1))[k]? = some (As (Fj L.2 n r) k):=by rw [List.getElem?_take,if_pos (by omega),E7 hk]
   simp only [hl,hi];rw [Ao,if_pos (by omega),AE,AK hg,Ry];by_cases he:As (Fj L.2 n r) k=[]
   ·rw [if_pos he,if_pos he,AE,Bl (by omega),Bl (by omega)]
    have:ER ((Fj L.2 n r).take (k+1)) 0 k=(Fj L.2 n r).take k:=by
     unfold ER;rw [List.drop_zero,Nat.sub_zero,List.take_take];congr 1;omega
    rw [this]
   ·rw [if_neg he,if_neg he]) _ (Nat.le_refl _)
  rw [List.take_of_length_le (Nat.le_refl _)] at hlo;exact BC (CT (by omega) hlo) rfl
end Go.Proofs.YthpkjfabdccpdaaGreat.Pl
namespace Go.Proofs.YthpkjfabdccpdaaGreat.Pl
open Go Go.Proofs.YthpkjfabdccpdaaGreat.Sv
theorem Xw {s:AT} (m:Sm s) (v:VSt s) {level:Int} {i:Nat} (hf:MW level 0 (Az 0 s.1.2)=some i) {j:Job} (hj:s.2.1[i]? = some j) (h0:0<BX s.1 j):E8 (s,(level,1))=some (PK s j,(1,0)):=by
 obtain ⟨j',n,hj',hl,hjn,ha,hn⟩:=v.at hf;rw [hj] at hj';cases hj';subst hl;have hz:(AV s).2=0:=BY.2 v
 have hfs:Il s (n:Int)=((i:Int),0):=by
  unfold Il;rw [if_neg (show ¬ (AV s).2≠0 by simp [hz]),hf]
 have hls:Hl (0:Int) (λs j=>((BX s.1 j:Int),0)) s (n:Int)=((BX s.1 j:Int),0):=by
  unfold Hl U3;rw [if_neg (show ¬ (AV s).2≠0 by simp [hz]),hf];simp only [hj]
 have hjs:=v.jsmall;have hi:=(List.getElem?_eq_some_iff.1 hj).1;unfold E8;rw [jj m,AB,Bc,if_pos hz,BB,if_neg (show ¬ ((1:Int)<0) by omega),AN,if_pos hz,Kc m,hls,AB,Bc,if_pos rfl,Bc,if_neg (show ¬ ((BX s.1 j:Int)=0) by omega),AN,if_pos rfl,J5 m,hfs,AB,AE,AK hj];obtain ⟨r0,r1,bt,k,h1,rfl,hk,hb,v0,v1⟩:=ha;have ho:As s.1.2 n=[r0,r1]:=by unfold As;rw [h1];rfl
 have hle:BX s.1 ((n:Int),Dg r1.2 r0.2 bt k)=r1.2.length+r0.2.length-k:=by
  unfold BX;simp only [Int.toNat_natCast,h1];show r1.2.length+r0.2.length-((k:Int)).toNat=_;rw [Int.toNat_natCast]
 rw [hle] at h0;have hst:=PA v1 v0 bt hk (k:=1);rw [show min 1 (r1.2.length+r0.2.length-k)=1 by omega] at hst;show (bd (A5 (Dg r1.2 r0.2 bt k,((1:Nat):Int))) λr7=>_)=_;rw [hst,AB];simp only;rw [Bl (by simp only [AA];omega),AE,Jx,if_pos (by simp only [AA];exact hi),AK hj];unfold PK Qk;simp only [Int.toNat_natCast,ho,hf,Option.getD_some];have e1:(Dg r1.2 r0.2 bt k).2.1.2.2=bt:=Rv _ _ _ _;have e2:(Dg r1.2 r0.2 bt k).2.2.2.toNat=k:=by show ((k:Int)).toNat=k;rw [Int.toNat_natCast]
 rw [e1,e2];rfl
theorem Xx {L:AJ} (v:VLev L) {n:Nat} (h:(As L.2 n).length=2):Br (L,(n:Int))=some (GS L n,0):=by
 have hn:n<L.2.length:=by
  by_cases h0:n<L.2.length
  ·exact h0
  ·unfold As at h;rw [List.getElem?_eq_none (by omega)] at h;cases h
 have hl:=v.len;obtain ⟨hb,hr⟩:=v.small;unfold Br;simp only [AW,AP];rw [Rs _ hb hr,GF v,AB,Bc,if_pos rfl,BB,if_neg (by omega),Dz,if_neg (by omega),Bc,if_pos rfl,Dz,if_neg (by omega),AE,AK (E7 hn),BB,if_neg (by omega),AN,if_pos rfl,PB v hn,AB]
 obtain ⟨r0,r1,hrr⟩ : ∃ r0 r1,As L.2 n=[r0,r1]:=by
  match hq:As L.2 n with
  | [r0,r1]=>exact ⟨r0,r1,rfl⟩
  | []=>rw [hq] at h;cases h
  | [_]=>rw [hq] at h;cases h
  | _::_::_::_=>rw [hq] at h;simp at h
 rw [QY _ (by rw [E7 hn,hrr]) (VR.vl' v (n:=n) (by rw [hrr];simp)) (VR.vl' v (n:=n) (by rw [hrr];simp)),AB];unfold GS;rw [Int.toNat_natCast,hrr]
theorem Rz (l:List AD) (hl:l.length<=9223372036854775807):Dw (l,l)=some true:=by
 unfold Dw;simp only [AW,AP];refine BC (Hd (r:=(1,(((l.length:Int),false),()))) (λk=>((k:Int),false)) l.length rfl (by omega) (λk hk => ?_) (by simp only;rw [re];rfl)) ?_
 ·have hx:l[k]? = some l[k]:=List.getElem?_eq_getElem hk;simp only;rw [rl hk,AR,AR,AE,AK hx,AE,AK hx,O5,if_pos rfl,Ac (by omega)]
 ·rw [CX,if_neg (show ¬ (1=0) by omega)];unfold BP;simp
theorem Tb (r:BL) (hl:r.2.length<=9223372036854775807):EJ (r,r)=some true:=by
 unfold EJ;rw [Bc,if_pos rfl,Rz _ hl];rfl
theorem R0 (l:List BL) (hl:l.length<=1048576) (h : ∀ r∈l,r.2.length<=9223372036854775807):Dx (l,l)=some true:=by
 unfold Dx;simp only [AW,AP];rw [AN,if_pos rfl];refine BC (Hd (r:=(1,(((l.length:Int),false),()))) (λk=>((k:Int),false)) l.length rfl (by omega) (λk hk => ?_) (by simp only;rw [re];rfl)) rfl;have hx:l[k]? = some l[k]:=List.getElem?_eq_getElem hk;simp only;rw [rl hk,AR,AE,AK hx,AE,AK hx,Tb _ (h _ (List.getElem_mem hk)),AB,J0,Al,Ac (by omega)]
theorem Tc (L:AJ) (hb:L.2.length<=1048576) (hr : ∀ rs∈L.2,rs.length<=1048576 /\ ∀ r∈rs,r.2.length<=9223372036854775807):GT (L,L)=some true:=by
 unfold GT;simp only [AW,AP];rw [AN,if_pos rfl,AN,if_pos rfl];refine BC (Hd (r:=(1,(((L.2.length:Int),false),()))) (λk=>((k:Int),false)) L.2.length rfl (by omega) (λk hk => ?_) (by simp only;rw [re];rfl)) rfl;have hx:L.2[k]? = some L.2[k]:=List.getElem?_eq_getElem hk;have hk2:=hr _ (List.getElem_mem hk);simp only;rw [rl hk,AR,AE,AK hx,AE,AK hx,R0 _ hk2.1 hk2.2,AB,J0,Al,Ac (by omega)]
theorem Td {L:AJ} {n:Nat} {j:Job} (h:JobAt L n j):EK (j,j)=some true:=by
 obtain ⟨r0,r1,bt,k,_,rfl,hk,_,v0,v1⟩:=h;obtain ⟨s1,s2,s3,s4,s5,s6⟩:=NK v1 v0 bt hk;unfold EK;rw [Bc,if_pos rfl,O9 _ _ s1 s2 s3 s4 s5 s6];simp [AB]
theorem VA {t:AT} (v:VSt t):DN (t,t)=some true:=by
 have m:=v.sm;have hj:=v.jsmall;unfold DN;simp only [AW,AP];rw [Tc _ m.lv m.rs,AB,J0,Al,AN,if_pos rfl,AN,if_pos rfl];refine BC (Hd (r:=(1,(((t.2.1.length:Int),false),()))) (λk=>((k:Int),false)) t.2.1.length rfl (by omega) (λk hk => ?_) (by simp only;rw [re];rfl)) rfl;have hx:t.2.1[k]? = some t.2.1[k]:=List.getElem?_eq_getElem hk;obtain ⟨n,ha⟩:=v.job _ (List.getElem_mem hk);simp only;rw [rl hk,AR,AE,AK hx,AE,AK hx,Td ha,AB,J0,Al,Ac (by omega)]
theorem jk:DN (zS,zS)=some true:=by decide +kernel
end Go.Proofs.YthpkjfabdccpdaaGreat.Pl
namespace Go.Proofs.YthpkjfabdccpdaaGreat.Pl
open Go Go.Proofs.YthpkjfabdccpdaaGreat.Sv
def jl:List AD->AD->List AD
 | [],x=>[x]
 | y::l,x=>if DC y.1 x.1=true then y::jl l x else if y.1=x.1 then y::l else x::y::l
def lQ (rs:List BL) (l:List AD):List AD:=rs.foldl (λout r=>r.2.foldl jl out) l
def gp (x:AD):Bool := !x.2.2.1
def P5 (L:AJ):List AD:=(lQ (Ff L.2) []).filter gp
end Go.Proofs.YthpkjfabdccpdaaGreat.Pl
namespace Go.Proofs.YthpkjfabdccpdaaGreat.Pl
open Go Go.Proofs.YthpkjfabdccpdaaGreat.Sv
end Go.Proofs.YthpkjfabdccpdaaGreat.Pl
namespace Go.Proofs.YthpkjfabdccpdaaGreat.Pl
open Go Go.Proofs.YthpkjfabdccpdaaGreat.Sv
abbrev af:=(Int×((List (List AD))×((List Int)×((List AM)×((List Int)×(Int×(Bool×((List UInt8)×(Bool×((List AD)×Int))))))))))
def Te (j:Job):af:=(j.1,(j.2.1.1,(j.2.1.2.1,(j.2.1.2.2.1,(j.2.1.2.2.2.1,(j.2.1.2.2.2.2,(j.2.2.1.1,(j.2.2.1.2.1,(j.2.2.1.2.2,(j.2.2.2.1,j.2.2.2.2))))))))))
theorem Xy (p:List Job) (x:Job) (d:Int):FB (p++[x]) d=(FB p d).or (if x.1=d then some x else none):=by
 unfold FB;rw [List.find?_append]
 congr 1
 rw [List.find?_cons];unfold Xt;rw [Ej];by_cases h:x.1=d
 ·rw [if_pos h,show decide (d=x.1)=true by simp [h]]
 ·rw [if_neg h,show decide (d=x.1)=false by simp;exact λe=>h e.symm];rfl
theorem ah {s:AT} (hj:(s.2.1.map (·.1)).Nodup) (hl:s.2.1.length<=1000) (L:AJ) (ended:Int) {D:List Int} {i:Nat} {d:Int} (hi:D[i]? = some d):(loop (λ(s13:Int×af)=>br (Ah s13.1 (s.2.1.length:Int)) (λ_=>AS s13.1 λk14=>ix s.2.1 k14 λx15=>AS (i:Int) λk16=>ix D k16 λx17=>br (BP x15.1 x17) (λ_=>AS (i:Int) λk18=>ix D k18 λx19=>br (A7 x19 ended) (λ_=>AS s13.1 λk20=>ix s.2.1 k20 λx21=>some (.nx ((AI .i64 s13.1 1,(x21.1,(x21.2.1.1,(x21.2.1.2.1,(x21.2.1.2.2.1,(x21.2.1.2.2.2.1,(x21.2.1.2.2.2.2,(x21.2.2.1.1,(x21.2.2.1.2.1,(x21.2.2.1.2.2,x21.2.2.2))))))))))))) λ_=>some (.nx (AI .i64 s13.1 1,s13.2))) λ_=>some (.nx (AI .i64 s13.1 1,s13.2))) λ_=>some (.dn (((0:Nat),(s13,()))))) ((0:Int),Te (GS L d)))=some (0,(((s.2.1.length:Int),Te (G4 s L ended d)),())):=by
 refine DL (l:=s.2.1) (σ:=Job) (s:=((0:Int),Te (GS L d))) (λk j=>((k:Int),Te j)) (λls k j => ∃ p,s.2.1=p++ls/\j=(if d=ended then none else FB p d).getD (GS L d)) (λ_ _ _=>(0,(((s.2.1.length:Int),Te (G4 s L ended d)),()))) (GS L d) rfl (by omega) ⟨[],rfl,by split<;>rfl⟩ (λj h => ?_) (λk x ls j hd hx hk h => ?_)
 ·obtain ⟨p,h1,rfl⟩:=h;rw [List.append_nil] at h1;simp only;rw [re,Al,<- h1];rfl
 ·obtain ⟨p,h1,rfl⟩:=h
  have hp:x.1 ∉ p.map (·.1):=λhm=>by
   rw [h1,List.map_append,List.nodup_append] at hj;exact hj.2.2 _ hm x.1 (by simp) rfl
  refine ⟨(if d=ended then none else FB (p++[x]) d).getD (GS L d),?_,⟨p++[x],by rw [h1];simp,rfl⟩,rfl⟩
  simp only;rw [rl hk,AR,AE,AK hx,AE,AK hi,Bc,Ac (by omega),Xy];by_cases h2:x.1=d
  ·rw [if_pos h2,AE,AK hi,AN,AE,AK hx,if_pos h2];by_cases h3:d=ended
   ·rw [if_pos h3,if_pos h3,if_pos h3]
   ·rw [if_neg h3,if_neg h3,PH (by rw [<- h2];exact hp)];rfl
  ·rw [if_neg h2,if_neg h2];have:(FB p d).or none=FB p d:=by cases FB p d<;>rfl
   rw [this]
theorem PN {s:AT} (hj:(s.2.1.map (·.1)).Nodup) (hl:s.2.1.length<=1000) {L:AJ} (v:VLev L) (next ended:Int):loop (λ(s9:(Int×(Int×((List (List BL))×((List Job)×Int)))))=>br (Ah s9.1 ((Az 0 L.2).length:Int)) (λ_=>AS s9.1 λk10=>ix (Az 0 L.2) k10 λx11=>bd (Br (((s9.2.1,s9.2.2.1),x11))) λr12=>bd (loop (λ(s13:Int×af)=>br (Ah s13.1 (s.2.1.length:Int)) (λ_=>AS s13.1 λk14=>ix s.2.1 k14 λx15=>AS s9.1 λk16=>ix (Az 0 L.2) k16 λx17=>br (BP x15.1 x17) (λ_=>AS s9.1 λk18=>ix (Az 0 L.2) k18 λx19=>br (A7 x19 ended) (λ_=>AS s13.1 λk20=>ix s.2.1 k20 λx21=>some (.nx ((AI .i64 s13.1 1,(x21.1,(x21.2.1.1,(x21.2.1.2.1,(x21.2.1.2.2.1,(x21.2.1.2.2.2.1,(x21.2.1.2.2.2.2,(x21.2.2.1.1,(x21.2.2.1.2.1,(x21.2.2.1.2.2,x21.2.2.2))))))))))))) λ_=>some (.nx (AI .i64 s13.1 1,s13.2))) λ_=>some (.nx (AI .i64 s13.1 1,s13.2))) λ_=>some (.dn (((0:Nat),(s13,()))))) (((0:Int),(r12.1.1,(r12.1.2.1.1,(r12.1.2.1.2.1,(r12.1.2.1.2.2.1,(r12.1.2.1.2.2.2.1,(r12.1.2.1.2.2.2.2,(r12.1.2.2.1.1,(r12.1.2.2.1.2.1,(r12.1.2.2.1.2.2,r12.1.2.2.2)))))))))))) λr22=>gd (BO (Ar s9.2.2.2.1.length [((r22.2.1.2.1,((r22.2.1.2.2.1,(r22.2.1.2.2.2.1,(r22.2.1.2.2.2.2.1,(r22.2.1.2.2.2.2.2.1,r22.2.1.2.2.2.2.2.2.1)))),((r22.2.1.2.2.2.2.2.2.2.1,(r22.2.1.2.2.2.2.2.2.2.2.1,r22.2.1.2.2.2.2.2.2.2.2.2.1)),r22.2.1.2.2.2.2.2.2.2.2.2.2))):Job)].length) 1048576) λ_=>some (.nx ((AI .i64 s9.1 1,(s9.2.1,(s9.2.2.1,(B3 s9.2.2.2.1 ([(r22.2.1.2.1,((r22.2.1.2.2.1,(r22.2.1.2.2.2.1,(r22.2.1.2.2.2.2.1,(r22.2.1.2.2.2.2.2.1,r22.2.1.2.2.2.2.2.2.1)))),((r22.2.1.2.2.2.2.2.2.2.1,(r22.2.1.2.2.2.2.2.2.2.2.1,r22.2.1.2.2.2.2.2.2.2.2.2.1)),r22.2.1.2.2.2.2.2.2.2.2.2.2)))]),s9.2.2.2.2))))))) λ_=>some (.dn (((0:Nat),(s9,()))))) (((0:Int),(L.1,(L.2,(([]:List Job),next)))))=some (0,((((Az 0 L.2).length:Int),(L.1,(L.2,((Az 0 L.2).map (G4 s L ended),next)))),())):=by
 have hv:=v.len;have hd:=Fo L.2 0;refine DL (l:=Az 0 L.2) (σ:=List Job) (λi js=>((i:Int),(L.1,(L.2,(js,next))))) (λls i js=>js++ls.map (G4 s L ended)=(Az 0 L.2).map (G4 s L ended)) (λ_ _ _=>(0,((((Az 0 L.2).length:Int),(L.1,(L.2,((Az 0 L.2).map (G4 s L ended),next)))),()))) [] rfl (by omega) rfl (λjs h => ?_) (λi d ls js hdr hi hk h => ?_)
 ·simp only;rw [re,Al,<- h];simp
 ·refine ⟨js++[G4 s L ended d],?_,by rw [<- h];simp,rfl⟩;obtain ⟨n,r0,r1,hdn,hn⟩:=Wq (List.mem_of_getElem? hi);have hb:=Xx v (n:=n) (by rw [OA.1 hn];rfl);rw [<- hdn] at hb
  have hm:js.length<=1000:=by
   have h4:=congrArg List.length h;rw [List.length_append,List.length_map,List.length_map] at h4;omega
  simp only;rw [rl hk,AR,AE,AK hi];have hb':Br ((L.1,L.2),d)=some (GS L d,0):=hb;rw [hb',AB];refine BC (ah hj hl L ended hi) ?_;rw [Bl (by simp only [Ar,List.length_cons,List.length_nil];omega),Ac (by omega)];rfl
end Go.Proofs.YthpkjfabdccpdaaGreat.Pl
namespace Go.Proofs.YthpkjfabdccpdaaGreat.Pl
open Go Go.Proofs.YthpkjfabdccpdaaGreat.Sv
theorem ai (L:AJ) (n:Nat):EA (L,(n:Int))=some (As L.2 n):=by
 unfold EA;simp only [AW,AP];rw [Dz];by_cases h:n<L.2.length
 ·rw [if_neg (by omega),AE,AK (E7 h)]
 ·rw [if_pos (by omega)];unfold As;rw [List.getElem?_eq_none (by omega)];rfl
theorem PO {s:AT} (v:VSt s) (hf:Yr s.1) {n:Nat} {j:Job} (ha:JobAt s.1 n j) (h0 : ¬ 0<BX s.1 j) (hc:II s.1 j=true) (h5:Dv j≠[]->s.2.2<=1000000) {to:Int} (hto:to=(NO s j:Int)) :
  (bd (CW ((s.1,((n:Int),[])))) λr40=>br (B8 (AY (AA j.2.2.2.1)) 0) (λ_=>bd (EA (r40,to)) λr41=>gd (BO (AA r41) 1048576) λ_=>gd (BO (Ar (AA r41) (AA ([(s.2.2,j.2.2.2.1)]))) 1048576) λ_=>bd (CW ((r40,(to,B3 r41 ([(s.2.2,j.2.2.2.1)]))))) λr42=>bd (Bj r42) λr43=>bd (loop (λ(s44:(Int×(Int×((List (List BL))×((List (Int×(AL×((Bool×AM)×((List AD)×Int)))))×Int)))))=>br (Ah s44.1 (AY (AA r43))) (λ_=>AS s44.1 λk45=>ix r43 k45 λx46=>bd (Br (((s44.2.1,s44.2.2.1),x46))) λr47=>bd (loop (λ(s48:(Int×(Int×((List (List AD))×((List Int)×((List AM)×((List Int)×(Int×(Bool×((List UInt8)×(Bool×((List AD)×Int))))))))))))=>br (Ah s48.1 (AY (AA s.2.1))) (λ_=>AS s48.1 λk49=>ix s.2.1 k49 λx50=>AS s44.1 λk51=>ix r43 k51 λx52=>br (BP x50.1 x52) (λ_=>AS s44.1 λk53=>ix r43 k53 λx54=>br (A7 x54 (n:Int)) (λ_=>AS s48.1 λk55=>ix s.2.1 k55 λx56=>some (.nx ((AI .i64 s48.1 1,(x56.1,(x56.2.1.1,(x56.2.1.2.1,(x56.2.1.2.2.1,(x56.2.1.2.2.2.1,(x56.2.1.2.2.2.2,(x56.2.2.1.1,(x56.2.2.1.2.1,(x56.2.2.1.2.2,x56.2.2.2))))))))))))) λ_=>some (.nx (AI .i64 s48.1 1,s48.2))) λ_=>some (.nx (AI .i64 s48.1 1,s48.2))) λ_=>some (.dn ((0,(s48,()))))) ((0,(r47.1.1,(r47.1.2.1.1,(r47.1.2.1.2.1,(r47.1.2.1.2.2.1,(r47.1.2.1.2.2.2.1,(r47.1.2.1.2.2.2.2,(r47.1.2.2.1.1,(r47.1.2.2.1.2.1,(r47.1.2.2.1.2.2,r47.1.2.2.2)))))))))))) λr57=>gd (BO (Ar (AA s44.2.2.2.1) (AA ([(r57.2.1.2.1,((r57.2.1.2.2.1,(r57.2.1.2.2.2.1,(r57.2.1.2.2.2.2.1,(r57.2.1.2.2.2.2.2.1,r57.2.1.2.2.2.2.2.2.1)))),((r57.2.1.2.2.2.2.2.2.2.1,(r57.2.1.2.2.2.2.2.2.2.2.1,r57.2.1.2.2.2.2.2.2.2.2.2.1)),r57.2.1.2.2.2.2.2.2.2.2.2.2)))]))) 1048576) λ_=>some (.nx ((AI .i64 s44.1 1,(s44.2.1,(s44.2.2.1,(B3 s44.2.2.2.1 ([(r57.2.1.2.1,((r57.2.1.2.2.1,(r57.2.1.2.2.2.1,(r57.2.1.2.2.2.2.1,(r57.2.1.2.2.2.2.2.1,r57.2.1.2.2.2.2.2.2.1)))),((r57.2.1.2.2.2.2.2.2.2.1,(r57.2.1.2.2.2.2.2.2.2.2.1,r57.2.1.2.2.2.2.2.2.2.2.2.1)),r57.2.1.2.2.2.2.2.2.2.2.2.2)))]),s44.2.2.2.2))))))) λ_=>some (.dn ((0,(s44,()))))) ((0,(r42.1,(r42.2,([],AI .i64 s.2.2 1)))))) λr58=>some ((((r58.2.1.2.1,r58.2.1.2.2.1),r58.2.1.2.2.2),0))) λ_=>bd (Bj r40) λr59=>bd (loop (λ(s60:(Int×(Int×((List (List BL))×((List (Int×(AL×((Bool×AM)×((List AD)×Int)))))×Int)))))=>br (Ah s60.1 (AY (AA r59))) (λ_=>AS s60.1 λk61=>ix r59 k61 λx62=>bd (Br (((s60.2.1,s60.2.2.1),x62))) λr63=>bd (loop (λ(s64:(Int×(Int×((List (List AD))×((List Int)×((List AM)×((List Int)×(Int×(Bool×((List UInt8)×(Bool×((List AD)×Int))))))))))))=>br (Ah s64.1 (AY (AA s.2.1))) (λ_=>AS s64.1 λk65=>ix s.2.1 k65 λx66=>AS s60.1 λk67=>ix r59 k67 λx68=>br (BP x66.1 x68) (λ_=>AS s60.1 λk69=>ix r59 k69 λx70=>br (A7 x70 (n:Int)) (λ_=>AS s64.1 λk71=>ix s.2.1 k71 λx72=>some (.nx ((AI .i64 s64.1 1,(x72.1,(x72.2.1.1,(x72.2.1.2.1,(x72.2.1.2.2.1,(x72.2.1.2.2.2.1,(x72.2.1.2.2.2.2,(x72.2.2.1.1,(x72.2.2.1.2.1,(x72.2.2.1.2.2,x72.2.2.2))))))))))))) λ_=>some (.nx (AI .i64 s64.1 1,s64.2))) λ_=>some (.nx (AI .i64 s64.1 1,s64.2))) λ_=>some (.dn ((0,(s64,()))))) ((0,(r63.1.1,(r63.1.2.1.1,(r63.1.2.1.2.1,(r63.1.2.1.2.2.1,(r63.1.2.1.2.2.2.1,(r63.1.2.1.2.2.2.2,(r63.1.2.2.1.1,(r63.1.2.2.1.2.1,(r63.1.2.2.1.2.2,r63.1.2.2.2)))))))))))) λr73=>gd (BO (Ar (AA s60.2.2.2.1) (AA ([(r73.2.1.2.1,((r73.2.1.2.2.1,(r73.2.1.2.2.2.1,(r73.2.1.2.2.2.2.1,(r73.2.1.2.2.2.2.2.1,r73.2.1.2.2.2.2.2.2.1)))),((r73.2.1.2.2.2.2.2.2.2.1,(r73.2.1.2.2.2.2.2.2.2.2.1,r73.2.1.2.2.2.2.2.2.2.2.2.1)),r73.2.1.2.2.2.2.2.2.2.2.2.2)))]))) 1048576) λ_=>some (.nx ((AI .i64 s60.1 1,(s60.2.1,(s60.2.2.1,(B3 s60.2.2.2.1 ([(r73.2.1.2.1,((r73.2.1.2.2.1,(r73.2.1.2.2.2.1,(r73.2.1.2.2.2.2.1,(r73.2.1.2.2.2.2.2.1,r73.2.1.2.2.2.2.2.2.1)))),((r73.2.1.2.2.2.2.2.2.2.1,(r73.2.1.2.2.2.2.2.2.2.2.1,r73.2.1.2.2.2.2.2.2.2.2.2.1)),r73.2.1.2.2.2.2.2.2.2.2.2.2)))]),s60.2.2.2.2))))))) λ_=>some (.dn ((0,(s60,()))))) ((0,(r40.1,(r40.2,([],s.2.2)))))) λr74=>some ((((r74.2.1.2.1,r74.2.1.2.2.1),r74.2.1.2.2.2),0)):Option (AT×Int))=some (Qe s (JI s j) (Kh s j) j.1,0):=by
 have F:=aY v hf ha h0 hc h5;obtain ⟨o1,o2,o3,o4,o5⟩:=ha.out v.lev (hf n);have hj:j.1.toNat=n:=by rw [o3];simp
 have hn2:=v.n2;have hn1:=v.n1;have hjs:=v.jsmall;have hlev:=F.lev;have hl:=v.lev.len;have hl1:=F.l1.len;have small : ∀ {M:AJ},VLev M -> ∀ i,(As M.2 i).length<=1048576:=λvM i=>by have:=(vM.own i).1;omega
 rw [Ta (by omega) (by omega) (by simp) (small v.lev),AB];simp only [AW,AP];rw [Ao];by_cases ho:Dv j=[]
 ·rw [if_neg (show ¬ ((j.2.2.2.1.length:Int)>0) by rw [show j.2.2.2.1=[] from ho];simp)];have hL:JI s j=Cd s.1 n []:=by unfold JI;rw [if_pos ho,hj]
  have hN:Kh s j=s.2.2:=by unfold Kh;rw [if_pos ho]
  rw [<- hL,N9 (by have:=hlev.len;omega),AB];refine BC (PN v.nodup (by omega) hlev s.2.2 (n:Int)) ?_;rw [hN,o3];rfl
 ·rw [if_pos (show ((j.2.2.2.1.length:Int)>0) by have:=List.length_pos_iff.2 ho;have h:(Dv j).length=j.2.2.2.1.length:=rfl;omega),hto,ai,AB];have hro:=F.room ho;have ht:=F.to12 ho
  have hL:JI s j=Cd (Cd s.1 n []) (NO s j) (As (Cd s.1 n []).2 (NO s j)++[(s.2.2,Dv j)]):=by
   unfold JI;rw [if_neg ho,hj]
  have hN:Kh s j=s.2.2+1:=by unfold Kh;rw [if_neg ho]
  rw [Bl (by omega),Bl (by simp only [Ar,List.length_cons,List.length_nil];omega)];have hW:=Ta (L:=Cd s.1 n []) (n:=NO s j) (r:=As (Cd s.1 n []).2 (NO s j)++[(s.2.2,Dv j)]) (by omega) (by omega) (by simp;omega) (small F.l1);rw [<- hL] at hW;refine BC (x:=JI s j) hW ?_;rw [N9 (by have:=hlev.len;omega),AB,D5 (by omega)];refine BC (PN v.nodup (by omega) hlev (s.2.2+1) (n:Int)) ?_;rw [hN,o3];rfl
theorem Nl {s:AT} (m:Sm s) (hf:Yr s.1) (level:Int):Cm (s,level)=some (Hl zS JR s level):=by
 unfold Cm;rw [U5 m,AB,J5 m,Wm m];unfold Hl;by_cases h0:(AV s).2=0;rotate_left
 ·rw [if_pos h0,AN,if_neg h0,if_pos h0];rfl
 rw [if_neg (show ¬ (AV s).2≠0 by simp [h0]),if_neg (show ¬ (AV s).2≠0 by simp [h0]),if_neg (show ¬ (AV s).2≠0 by simp [h0])];have v:=BY.1 h0;unfold U3 Il;rw [if_neg (show ¬ (AV s).2≠0 by simp [h0])];cases hq:MW level 0 (Az 0 s.1.2) with
 | none=>rfl
 | some i =>
  obtain ⟨j,n,hj,hl,hjn,ha,hn⟩:=v.at hq;have:=v.lev.len;subst hl;simp only [hj];unfold JR MT;by_cases h1:0<BX s.1 j
  ·rw [if_pos h1,if_pos (.inl h1)];rfl
  rw [if_neg h1]
  have hto:(if ES s.1 j=true then (j.1,(0:Int)) else (j.1+1,0))=((NO s j:Int),0):=by
   unfold NO;split<;>rw [hjn]<;>simp
  rw [hto,AN,if_pos rfl,AB,AE,AK hj,AB,BW,FG];by_cases hc:II s.1 j=true;rotate_left
  ·rw [if_neg hc,if_pos (.inr (by simpa using hc))];rfl
  rw [if_pos hc,if_neg (show ¬ (0<BX s.1 j\/II s.1 j=false) by rw [hc];simp;omega),Ao];by_cases h2:s.2.2>1000000
  ·rw [if_pos h2,Ao];by_cases ho:Dv j=[]
   ·rw [if_neg (show ¬ (AY (AA j.2.2.2.1)>0) by rw [show j.2.2.2.1=[] from ho];simp [AW,AP]),if_neg (by simp [ho])];dsimp only;exact PO v hf ha h1 hc (λh=>absurd ho h) rfl
   ·rw [if_pos (show AY (AA j.2.2.2.1)>0 by have:=List.length_pos_iff.2 ho;have h:(Dv j).length=j.2.2.2.1.length:=rfl;rw [AW,AP];omega),if_pos ⟨h2,ho⟩];rfl
  ·rw [if_neg h2,if_neg (by simp [h2])];dsimp only;exact PO v hf ha h1 hc (λh=>by omega) rfl
theorem Xz {s:AT} (m:Sm s) (hf:Yr s.1) (level:Int):GU (s,level)=some (PL s level):=by
 unfold GU;rw [Wm m,AB,Kc m,Nl m hf];unfold Hl PL;by_cases h0:(AV s).2=0;rotate_left
 ·rw [if_pos h0,if_pos h0,Bc,if_neg h0];rw [AN,if_neg h0,if_pos h0];rfl
 rw [if_neg (show ¬ (AV s).2≠0 by simp [h0]),if_neg (show ¬ (AV s).2≠0 by simp [h0]),if_neg (show ¬ (AV s).2≠0 by simp [h0]),if_neg (show ¬ (AV s).2≠0 by simp [h0])];have v:=BY.1 h0;unfold U3;cases hq:MW level 0 (Az 0 s.1.2) with
 | none =>
  simp only;rw [Bc,if_neg (by omega),AN,if_neg (by omega)];rfl
 | some i =>
  obtain ⟨j,n,hj,hl,hjn,ha,hn⟩:=v.at hq;simp only [hj];unfold Wp;rw [Bc,if_pos rfl,BW,FG];by_cases hc:II s.1 j=true;rotate_left
  ·rw [if_neg hc,if_pos (by simpa using hc)];rfl
  rw [if_pos hc,if_neg (by simp [hc]),AN,if_pos rfl,AB,Ao];by_cases h1:0<BX s.1 j
  ·rw [if_pos (show ((BX s.1 j:Int))>0 by omega),if_pos h1,Xw m v hq hj h1];rfl
  ·rw [if_neg (show ¬ ((BX s.1 j:Int))>0 by omega),if_neg h1];rfl
end Go.Proofs.YthpkjfabdccpdaaGreat.Pl
namespace Go.Proofs.YthpkjfabdccpdaaGreat.Pl
open Go Go.Proofs.YthpkjfabdccpdaaGreat.Sv
theorem i9 {L:AJ} (h : ∀ rs∈L.2,∀ r∈rs,r.2.length<=30):Yr L:=λi r hr=>by
 unfold As at hr;cases hi:L.2[i]? with
 | none=>rw [hi] at hr;cases hr
 | some rs =>
  rw [hi] at hr;have:=h rs (List.mem_of_getElem? hi) r hr;omega
theorem Ql {s:AT} (v:VSt s) (hf:Yr s.1) {n:Nat} {j:Job} (ha:JobAt s.1 n j):(JR s j).1=zS\/VSt (JR s j).1:=by
 unfold JR;by_cases h1:0<BX s.1 j\/II s.1 j=false
 ·rw [if_pos h1];exact .inl rfl
 rw [if_neg h1];by_cases h2:s.2.2>1000000/\Dv j≠[]
 ·rw [if_pos h2];exact .inl rfl
 rw [if_neg h2];refine .inr (ac v hf ha (λh=>h1 (.inl h)) (by cases hc:II s.1 j with | true=>rfl | false=>exact absurd (.inr hc) h1) λho => ?_)
 by_cases h3:s.2.2>1000000
 ·exact absurd ⟨h3,ho⟩ h2
 ·omega
theorem aj {s:AT} (hf:Yr s.1) (level:Int):(Hl zS JR s level).1=zS\/VSt (Hl zS JR s level).1:=by
 unfold Hl;by_cases h0:(AV s).2=0;rotate_left
 ·rw [if_pos h0];exact .inl rfl
 rw [if_neg (show ¬ (AV s).2≠0 by simp [h0])];have v:=BY.1 h0;unfold U3;cases hq:MW level 0 (Az 0 s.1.2) with
 | none=>exact .inl rfl
 | some i =>
  obtain ⟨j,n,hj,hl,hjn,ha,hn⟩:=v.at hq;simp only [hj];exact Ql v hf ha
theorem X2 {s:AT} (hf:Yr s.1) (level:Int):(PL s level).1=zS\/VSt (PL s level).1:=by
 unfold PL;by_cases h0:(AV s).2=0;rotate_left
 ·rw [if_pos h0];exact .inl rfl
 rw [if_neg (show ¬ (AV s).2≠0 by simp [h0])];have v:=BY.1 h0;unfold U3;cases hq:MW level 0 (Az 0 s.1.2) with
 | none=>exact .inl rfl
 | some i =>
  obtain ⟨j,n,hj,hl,hjn,ha,hn⟩:=v.at hq;simp only [hj];unfold Wp;by_cases hc:II s.1 j=false
  ·rw [if_pos hc];exact .inl rfl
  rw [if_neg hc];by_cases h1:0<BX s.1 j
  ·rw [if_pos h1];exact .inr (ad v (by rw [hjn,<- hl];exact hq) hj ha h1)
  ·rw [if_neg h1];exact Ql v hf ha
theorem Qm {t:AT} (h:t=zS\/VSt t):DN (t,t)=some true:=by
 rcases h with h | h
 ·rw [h];exact jk
 ·exact VA h
theorem installSteps (x:AT×Int):DO x=some true:=by
 obtain ⟨s,level⟩:=x;unfold DO;obtain ⟨b,e,hb⟩:=Xq s;rw [e,AB,gj];cases b with
 | true=>rfl
 | false =>
  obtain ⟨m,hs⟩:=hb rfl;have hf:=i9 hs;rw [Al,PJ m hf,AB,Nl m hf,AB,Qm (aj hf level),AB,J0,Al,AN,if_pos rfl,gm m hf,AB,Xz m hf,AB,Qm (X2 hf level),AB,AR,HL,AR,gk,AR];rfl
end Go.Proofs.YthpkjfabdccpdaaGreat.Pl
