/- Functions of the program and of the specification as plain functions, and laws about them. No condition. -/
import Derived.Test.YthpkjfabdccpdaaGreatPl2
import Derived.KernelRfl
set_option linter.all false
namespace Go.Proofs.YthpkjfabdccpdaaGreat.Pl
open Go Go.Proofs.YthpkjfabdccpdaaGreat.Sv
set_option linter.unusedVariables false
def BU (x:Ao):Option (Int×Int) :=
 br (Ae x.1 1) (λ_=>some (0,7)) λ_=>br (B6 x.1 16) (λ_=>some (0,7)) λ_=>br (B6 (AW (AA x.2)) x.1) (λ_=>some (0,3)) λ_=>bd (loop (λs0=>br (Ae s0.2.2 (AW (AA x.2))) (λ_=>AP s0.2.2 λk1=>ix x.2 k1 λx2=>bd (Aw x2) λr3=>br (Ai r3 0) (λ_=>some (.dn ((0,((r3,(s0.2.2,s0.2.2)),()))))) λ_=>br (B6 s0.2.2 0) (λ_=>AP (BF .i64 s0.2.2 1) λk4=>ix x.2 k4 λx5=>br (AY (B3 x5.1 x2.1)) (λ_=>some (.dn ((0,((6,(s0.2.2,s0.2.2)),()))))) λ_=>some (.nx ((s0.1,(s0.2.1,AH .i64 s0.2.2 1))))) λ_=>some (.nx ((s0.1,(s0.2.1,AH .i64 s0.2.2 1))))) λ_=>some (.dn ((1,(s0,()))))) ((0,(0,0)))) λr6=>br (neq r6.1 0) (λ_=>some (r6.2.1.2.1,r6.2.1.1)) λ_=>some (0,0)
def Eb (x:Ao):Option (Int×Int) :=
 br (Ae x.1 1) (λ_=>some (0,7)) λ_=>br (B6 x.1 16) (λ_=>some (0,7)) λ_=>br (B6 (AW (AA x.2)) x.1) (λ_=>some (0,3)) λ_=>bd (loop (λs0=>br (Ae s0.2.2 (AW (AA x.2))) (λ_=>AP s0.2.2 λk1=>ix x.2 k1 λx2=>bd (A1 x2) λr3=>br (Ai r3 0) (λ_=>some (.dn ((0,((r3,(s0.2.2,s0.2.2)),()))))) λ_=>br (B6 s0.2.2 0) (λ_=>AP s0.2.2 λk4=>ix x.2 k4 λx5=>AP (BF .i64 s0.2.2 1) λk6=>ix x.2 k6 λx7=>br (AY (B3 x7.1 x5.1)) (λ_=>some (.dn ((0,((6,(s0.2.2,s0.2.2)),()))))) λ_=>some (.nx ((s0.1,(s0.2.1,AH .i64 s0.2.2 1))))) λ_=>some (.nx ((s0.1,(s0.2.1,AH .i64 s0.2.2 1))))) λ_=>some (.dn ((1,(s0,()))))) ((0,(0,0)))) λr8=>br (neq r8.1 0) (λ_=>some (r8.2.1.2.1,r8.2.1.1)) λ_=>some (0,0)
def Ec (x:(Ao×(AL×((List (Int×(AT×((Bool×AR)×((List AB)×Int)))))×Int)))):Option Int :=
 bd (Eb x.1) λr0=>br (BJ r0.2 0) (λ_=>bd (Dk x.2) λr1=>br (BJ r1.2 0) (λ_=>br (Ai x.1.1 x.2.1.1) (λ_=>some 6) λ_=>some r1.2) λ_=>some r1.2) λ_=>br (BJ r0.2 0) (λ_=>br (Ai x.1.1 x.2.1.1) (λ_=>some 6) λ_=>some r0.2) λ_=>some r0.2
end Go.Proofs.YthpkjfabdccpdaaGreat.Pl
namespace Go.Proofs.YthpkjfabdccpdaaGreat.Pl
open Go Go.Proofs.YthpkjfabdccpdaaGreat.Sv
set_option linter.unusedVariables false
def Dc (x:(AL×(Int×(List Ao)))):Option AL :=
 bd (loop (λ(s0:(Int×AL))=>br (Ae s0.1 (AW (AA x.1.2))) (λ_=>br (Hf s0.1 (AW (AA x.1.2))) (λ_=>br (BJ s0.1 x.2.1) (λ_=>gd (Aj (AA x.2.2) 1048576) λ_=>gd (Aj (AK (AA s0.2.2) (AA [x.2.2])) 1048576) λ_=>some (.nx ((AH .i64 s0.1 1,(s0.2.1,Bl s0.2.2 [x.2.2]))))) λ_=>gd (Aj (AK (AA s0.2.2) (AA ([[]]:(List (List Ao))))) 1048576) λ_=>some (.nx ((AH .i64 s0.1 1,(s0.2.1,Bl s0.2.2 [[]]))))) λ_=>AP s0.1 λk1=>ix x.1.2 k1 λx2=>br (BJ s0.1 x.2.1) (λ_=>gd (Aj (AA x.2.2) 1048576) λ_=>gd (Aj (AK (AA s0.2.2) (AA [x.2.2])) 1048576) λ_=>some (.nx ((AH .i64 s0.1 1,(s0.2.1,Bl s0.2.2 [x.2.2]))))) λ_=>gd (Aj (AA x2) 1048576) λ_=>gd (Aj (AK (AA s0.2.2) (AA [x2])) 1048576) λ_=>some (.nx ((AH .i64 s0.1 1,(s0.2.1,Bl s0.2.2 [x2]))))) λ_=>br (Pu s0.1 x.2.1) (λ_=>br (Hf s0.1 (AW (AA x.1.2))) (λ_=>br (BJ s0.1 x.2.1) (λ_=>gd (Aj (AA x.2.2) 1048576) λ_=>gd (Aj (AK (AA s0.2.2) (AA [x.2.2])) 1048576) λ_=>some (.nx ((AH .i64 s0.1 1,(s0.2.1,Bl s0.2.2 [x.2.2]))))) λ_=>gd (Aj (AK (AA s0.2.2) (AA ([[]]:(List (List Ao))))) 1048576) λ_=>some (.nx ((AH .i64 s0.1 1,(s0.2.1,Bl s0.2.2 [[]]))))) λ_=>AP s0.1 λk3=>ix x.1.2 k3 λx4=>br (BJ s0.1 x.2.1) (λ_=>gd (Aj (AA x.2.2) 1048576) λ_=>gd (Aj (AK (AA s0.2.2) (AA [x.2.2])) 1048576) λ_=>some (.nx ((AH .i64 s0.1 1,(s0.2.1,Bl s0.2.2 [x.2.2]))))) λ_=>gd (Aj (AA x4) 1048576) λ_=>gd (Aj (AK (AA s0.2.2) (AA [x4])) 1048576) λ_=>some (.nx ((AH .i64 s0.1 1,(s0.2.1,Bl s0.2.2 [x4]))))) λ_=>some (.dn ((0,(s0,()))))) ((0,(x.1.1,[])))) λr5=>bd (loop (λ(s6:AL)=>br (B6 (AW (AA s6.2)) 0) (λ_=>AP (BF .i64 (AW (AA s6.2)) 1) λk7=>ix s6.2 k7 λx8=>br (BJ (AW (AA x8)) 0) (λ_=>AP (BF .i64 (AW (AA s6.2)) 1) λk9=>gd (Aj k9 (AA s6.2)) λ_=>gd (Aj 0 k9) λ_=>some (.nx (s6.1,B0 s6.2 0 k9))) λ_=>some (.dn ((0,(s6,()))))) λ_=>some (.dn ((0,(s6,()))))) r5.2.1.2) λr10=>some r10.2.1
def Dd (x:(AL×Int)):Option (List Ao) :=
 br (Hf x.2 (AW (AA x.1.2))) (λ_=>some []) λ_=>AP x.2 λk0=>ix x.1.2 k0 λx1=>some x1
def Dm (x:(AL×Int)):Option ((Int×(AT×((Bool×AR)×((List AB)×Int))))×Int) :=
 bd (Cw x.1) λr0=>br (BJ r0.2.2 0) (λ_=>br (Ae x.2 0) (λ_=>some (((0,(([],([],([],([],0)))),((false,([],false)),([],0)))),7))) λ_=>br (Hf x.2 12) (λ_=>some (((0,(([],([],([],([],0)))),((false,([],false)),([],0)))),7))) λ_=>br (BJ r0.2.2 0) (λ_=>br (Hf x.2 (AW (AA x.1.2))) (λ_=>some (((0,(([],([],([],([],0)))),((false,([],false)),([],0)))),4))) λ_=>AP x.2 λk1=>ix x.1.2 k1 λx2=>br (Ae (AW (AA x2)) 2) (λ_=>some (((0,(([],([],([],([],0)))),((false,([],false)),([],0)))),4))) λ_=>br (Ai r0.2.2 0) (λ_=>some (((0,(([],([],([],([],0)))),((false,([],false)),([],0)))),r0.2.2))) λ_=>bd (BT x) λr3=>bd (A2 ((x.1,(x.2,r3)))) λr4=>some (r4,0)) λ_=>br (Ai r0.2.2 0) (λ_=>some (((0,(([],([],([],([],0)))),((false,([],false)),([],0)))),r0.2.2))) λ_=>bd (BT x) λr5=>bd (A2 ((x.1,(x.2,r5)))) λr6=>some (r6,0)) λ_=>br (BJ r0.2.2 0) (λ_=>br (Hf x.2 (AW (AA x.1.2))) (λ_=>some (((0,(([],([],([],([],0)))),((false,([],false)),([],0)))),4))) λ_=>AP x.2 λk7=>ix x.1.2 k7 λx8=>br (Ae (AW (AA x8)) 2) (λ_=>some (((0,(([],([],([],([],0)))),((false,([],false)),([],0)))),4))) λ_=>br (Ai r0.2.2 0) (λ_=>some (((0,(([],([],([],([],0)))),((false,([],false)),([],0)))),r0.2.2))) λ_=>bd (BT x) λr9=>bd (A2 ((x.1,(x.2,r9)))) λr10=>some (r10,0)) λ_=>br (Ai r0.2.2 0) (λ_=>some (((0,(([],([],([],([],0)))),((false,([],false)),([],0)))),r0.2.2))) λ_=>bd (BT x) λr11=>bd (A2 ((x.1,(x.2,r11)))) λr12=>some (r12,0)
def C5 (x:((List AB)×(List AB))):Option Bool :=
 bd (loop (λs0=>br (Ae s0.1 (AW (AA x.1))) (λ_=>br (Ae s0.1 (AW (AA x.2))) (λ_=>AP s0.1 λk1=>ix x.1 k1 λx2=>AP s0.1 λk3=>ix x.2 k3 λx4=>br (AY (Bo (seq x2.1 x4.1) (Bo (seq x2.2.1 x4.2.1) (Bo (beq x2.2.2.1 x4.2.2.1) (Bo (BJ x2.2.2.2 x4.2.2.2) true))))) (λ_=>some (.dn ((0,((s0.1,false),()))))) λ_=>some (.nx (AH .i64 s0.1 1,s0.2))) λ_=>some (.dn ((1,(s0,()))))) λ_=>some (.dn ((1,(s0,()))))) (0,false)) λr5=>br (neq r5.1 0) (λ_=>some r5.2.1.2) λ_=>some (BJ (AW (AA x.1)) (AW (AA x.2)))
def ER (x:(Ao×Ao)):Option Bool :=
 br (BJ x.1.1 x.2.1) (λ_=>bd (C5 (x.1.2,x.2.2)) λr0=>some r0) λ_=>some false
def D5 (x:((List Ao)×(List Ao))):Option Bool :=
 br (Ai (AW (AA x.1)) (AW (AA x.2))) (λ_=>some false) λ_=>bd (loop (λs0=>br (Ae s0.1 (AW (AA x.1))) (λ_=>AP s0.1 λk1=>ix x.1 k1 λx2=>AP s0.1 λk3=>ix x.2 k3 λx4=>bd (ER (x2,x4)) λr5=>br (AY r5) (λ_=>some (.dn ((0,((s0.1,false),()))))) λ_=>some (.nx (AH .i64 s0.1 1,s0.2))) λ_=>some (.dn ((1,(s0,()))))) (0,false)) λr6=>br (neq r6.1 0) (λ_=>some r6.2.1.2) λ_=>some true
def Gn (x:(AL×AL)):Option Bool :=
 br (Ai x.1.1 x.2.1) (λ_=>some false) λ_=>br (Ai (AW (AA x.1.2)) (AW (AA x.2.2))) (λ_=>some false) λ_=>bd (loop (λs0=>br (Ae s0.1 (AW (AA x.1.2))) (λ_=>AP s0.1 λk1=>ix x.1.2 k1 λx2=>AP s0.1 λk3=>ix x.2.2 k3 λx4=>bd (D5 (x2,x4)) λr5=>br (AY r5) (λ_=>some (.dn ((0,((s0.1,false),()))))) λ_=>some (.nx (AH .i64 s0.1 1,s0.2))) λ_=>some (.dn ((1,(s0,()))))) (0,false)) λr6=>br (neq r6.1 0) (λ_=>some r6.2.1.2) λ_=>some true
def ES (x:((Int×(AT×((Bool×AR)×((List AB)×Int))))×(Int×(AT×((Bool×AR)×((List AB)×Int)))))):Option Bool :=
 br (BJ x.1.1 x.2.1) (λ_=>bd (BO (x.1.2,x.2.2)) λr0=>some r0) λ_=>some false
def EI (x:((AL×((List (Int×(AT×((Bool×AR)×((List AB)×Int)))))×Int))×(AL×((List (Int×(AT×((Bool×AR)×((List AB)×Int)))))×Int)))):Option Bool :=
 bd (Gn (x.1.1,x.2.1)) λr0=>br (AY r0) (λ_=>some false) λ_=>br (Ai (AW (AA x.1.2.1)) (AW (AA x.2.2.1))) (λ_=>some false) λ_=>br (Ai x.1.2.2 x.2.2.2) (λ_=>some false) λ_=>bd (loop (λs1=>br (Ae s1.1 (AW (AA x.1.2.1))) (λ_=>AP s1.1 λk2=>ix x.1.2.1 k2 λx3=>AP s1.1 λk4=>ix x.2.2.1 k4 λx5=>bd (ES (x3,x5)) λr6=>br (AY r6) (λ_=>some (.dn ((0,((s1.1,false),()))))) λ_=>some (.nx (AH .i64 s1.1 1,s1.2))) λ_=>some (.dn ((1,(s1,()))))) (0,false)) λr7=>br (neq r7.1 0) (λ_=>some r7.2.1.2) λ_=>some true
end Go.Proofs.YthpkjfabdccpdaaGreat.Pl
namespace Go.Proofs.YthpkjfabdccpdaaGreat.Pl
open Go Go.Proofs.YthpkjfabdccpdaaGreat.Sv
set_option linter.unusedVariables false
def C6 (x:((AL×((List (Int×(AT×((Bool×AR)×((List AB)×Int)))))×Int))×(List AB))):Option ((AL×((List (Int×(AT×((Bool×AR)×((List AB)×Int)))))×Int))×Int) :=
 bd (Bv x.1) λr0=>br (Ai r0.2 0) (λ_=>some ((((0,[]),([],0)),r0.2))) λ_=>bd (CF (x.1.1,0)) λr1=>br (Ai r1.2 0) (λ_=>some ((((0,[]),([],0)),r1.2))) λ_=>br (B6 x.1.2.2 1000000) (λ_=>some ((((0,[]),([],0)),5))) λ_=>br (AY r1.1) (λ_=>some ((((0,[]),([],0)),5))) λ_=>gd (Aj (AA x.2) 1048576) λ_=>bd (FK (x.1.2.2,x.2)) λr2=>br (Ai r2.2 0) (λ_=>some ((((0,[]),([],0)),r2.2))) λ_=>bd (DT ((x.1.1,(0,(x.1.2.2,x.2))))) λr3=>br (Ai r3.2 0) (λ_=>some ((((0,[]),([],0)),r3.2))) λ_=>bd (D4 ((x.1,(r3.1,(AH .i64 x.1.2.2 1,(-1)))))) λr4=>some r4
def E5 (x:(AL×(Int×Ao))):Option (AL×Int) :=
 bd (G7 (x.1,x.2.1)) λr0=>br (Ai r0 0) (λ_=>some (((0,[]),r0))) λ_=>bd (D3 x.1) λr1=>bd (loop (λ(s2:((List Int)×Int))=>br (Ae s2.2 (AW (AA r1.1))) (λ_=>AP s2.2 λk3=>ix r1.1 k3 λx4=>gd (Aj (AK (AA s2.1) (AA [x4.1])) 1048576) λ_=>some (.nx (Bl s2.1 [x4.1],AH .i64 s2.2 1))) λ_=>some (.dn ((0,(s2,()))))) ([],0)) λr5=>bd (DY (x.1.1,x.2.1)) λr6=>bd (DZ ((x.2.2,(r6,r5.2.1.1)))) λr7=>br (BJ r7 0) (λ_=>br (Hf x.2.1 (AW (AA x.1.2))) (λ_=>br (Ai r7 0) (λ_=>some (((0,[]),r7))) λ_=>bd (Dd (x.1,x.2.1)) λr8=>gd (Aj (AA r8) 1048576) λ_=>gd (Aj (AK (AA r8) (AA [x.2.2])) 1048576) λ_=>bd (Dc ((x.1,(x.2.1,Bl r8 [x.2.2])))) λr9=>some (r9,0)) λ_=>AP x.2.1 λk10=>ix x.1.2 k10 λx11=>br (BJ (AW (AA x11)) 2) (λ_=>some (((0,[]),5))) λ_=>br (Ai r7 0) (λ_=>some (((0,[]),r7))) λ_=>bd (Dd (x.1,x.2.1)) λr12=>gd (Aj (AA r12) 1048576) λ_=>gd (Aj (AK (AA r12) (AA [x.2.2])) 1048576) λ_=>bd (Dc ((x.1,(x.2.1,Bl r12 [x.2.2])))) λr13=>some (r13,0)) λ_=>br (Ai r7 0) (λ_=>some (((0,[]),r7))) λ_=>bd (Dd (x.1,x.2.1)) λr14=>gd (Aj (AA r14) 1048576) λ_=>gd (Aj (AK (AA r14) (AA [x.2.2])) 1048576) λ_=>bd (Dc ((x.1,(x.2.1,Bl r14 [x.2.2])))) λr15=>some (r15,0)
def E6 (x:((AL×((List (Int×(AT×((Bool×AR)×((List AB)×Int)))))×Int))×(List AB))):Option ((AL×((List (Int×(AT×((Bool×AR)×((List AB)×Int)))))×Int))×Int) :=
 bd (Dk x.1) λr0=>jn (γ:=(Nat×(Int×Unit))) (λs1=>jn (γ:=(Nat×(Bool×Unit))) (λs2=>br (BJ s1 0) (λ_=>br (B6 x.1.2.2 1000000) (λ_=>some (.nx true)) λ_=>br (Hf 0 (AW (AA x.1.1.2))) (λ_=>some (.nx false)) λ_=>ix x.1.1.2 0 λx3=>some (.nx (BJ (AW (AA x3)) 2))) λ_=>some (.nx false)) () (λs4=>br s4 (λ_=>some (.nx 5)) λ_=>some (.nx s1)) λr5=>none) r0.2 (λs6=>br (Ai s6 0) (λ_=>some ((((0,[]),([],0)),s6))) λ_=>bd (EY (x.1.2.2,x.2)) λr7=>jn (γ:=(Nat×(Int×Unit))) (λs8=>jn (γ:=(Nat×(Bool×Unit))) (λs9=>br (BJ s8 0) (λ_=>some (.nx (BJ (AW (AA x.2)) 0))) λ_=>some (.nx false)) () (λs10=>br s10 (λ_=>some (.nx 4)) λ_=>some (.nx s8)) λr11=>none) r7.2 (λs12=>br (Ai s12 0) (λ_=>some ((((0,[]),([],0)),s12))) λ_=>bd (E5 ((x.1.1,(0,(x.1.2.2,x.2))))) λr13=>br (Ai r13.2 0) (λ_=>some ((((0,[]),([],0)),r13.2))) λ_=>bd (Cy r13.1) λr14=>bd (loop (λ(s15:(Int×(Int×((List (List Ao))×((List (Int×(AT×((Bool×AR)×((List AB)×Int)))))×Int)))))=>br (Ae s15.1 (AW (AA r14))) (λ_=>AP s15.1 λk16=>ix r14 k16 λx17=>bd (Dm (((s15.2.1,s15.2.2.1),x17))) λr18=>bd (loop (λ(s19:(Int×(Int×((List (List AB))×((List Int)×((List AR)×((List Int)×(Int×(Bool×((List UInt8)×(Bool×((List AB)×Int))))))))))))=>br (Ae s19.1 (AW (AA x.1.2.1))) (λ_=>AP s19.1 λk20=>ix x.1.2.1 k20 λx21=>AP s15.1 λk22=>ix r14 k22 λx23=>br (BJ x21.1 x23) (λ_=>AP s15.1 λk24=>ix r14 k24 λx25=>br (Ai x25 (-1)) (λ_=>AP s19.1 λk26=>ix x.1.2.1 k26 λx27=>some (.nx ((AH .i64 s19.1 1,(x27.1,(x27.2.1.1,(x27.2.1.2.1,(x27.2.1.2.2.1,(x27.2.1.2.2.2.1,(x27.2.1.2.2.2.2,(x27.2.2.1.1,(x27.2.2.1.2.1,(x27.2.2.1.2.2,x27.2.2.2))))))))))))) λ_=>some (.nx (AH .i64 s19.1 1,s19.2))) λ_=>some (.nx (AH .i64 s19.1 1,s19.2))) λ_=>some (.dn ((0,(s19,()))))) ((0,(r18.1.1,(r18.1.2.1.1,(r18.1.2.1.2.1,(r18.1.2.1.2.2.1,(r18.1.2.1.2.2.2.1,(r18.1.2.1.2.2.2.2,(r18.1.2.2.1.1,(r18.1.2.2.1.2.1,(r18.1.2.2.1.2.2,r18.1.2.2.2)))))))))))) λr28=>gd (Aj (AK (AA s15.2.2.2.1) (AA ([(r28.2.1.2.1,((r28.2.1.2.2.1,(r28.2.1.2.2.2.1,(r28.2.1.2.2.2.2.1,(r28.2.1.2.2.2.2.2.1,r28.2.1.2.2.2.2.2.2.1)))),((r28.2.1.2.2.2.2.2.2.2.1,(r28.2.1.2.2.2.2.2.2.2.2.1,r28.2.1.2.2.2.2.2.2.2.2.2.1)),r28.2.1.2.2.2.2.2.2.2.2.2.2)))]))) 1048576) λ_=>some (.nx ((AH .i64 s15.1 1,(s15.2.1,(s15.2.2.1,(Bl s15.2.2.2.1 ([(r28.2.1.2.1,((r28.2.1.2.2.1,(r28.2.1.2.2.2.1,(r28.2.1.2.2.2.2.1,(r28.2.1.2.2.2.2.2.1,r28.2.1.2.2.2.2.2.2.1)))),((r28.2.1.2.2.2.2.2.2.2.1,(r28.2.1.2.2.2.2.2.2.2.2.1,r28.2.1.2.2.2.2.2.2.2.2.2.1)),r28.2.1.2.2.2.2.2.2.2.2.2.2)))]),s15.2.2.2.2))))))) λ_=>some (.dn ((0,(s15,()))))) ((0,(r13.1.1,(r13.1.2,([],AH .i64 x.1.2.2 1)))))) λr29=>some ((((r29.2.1.2.1,r29.2.1.2.2.1),r29.2.1.2.2.2),0))) λr30=>none) λr31=>none
end Go.Proofs.YthpkjfabdccpdaaGreat.Pl
namespace Go.Proofs.YthpkjfabdccpdaaGreat.Pl
open Go Go.Proofs.YthpkjfabdccpdaaGreat.Sv
set_option linter.unusedVariables false
end Go.Proofs.YthpkjfabdccpdaaGreat.Pl
namespace Go.Proofs.YthpkjfabdccpdaaGreat.Pl
open Go Go.Proofs.YthpkjfabdccpdaaGreat.Sv
set_option linter.unusedVariables false
def D6 (x:(Ao×(List AB))):Option Int :=
 bd (BU x.1) λr0=>br (Ai r0.2 0) (λ_=>some r0.2) λ_=>br (B6 (AW (AA x.2)) 16) (λ_=>some 3) λ_=>bd (loop (λs1=>br (Ae s1.1 (AW (AA x.2))) (λ_=>AP s1.1 λk2=>ix x.2 k2 λx3=>bd (Aw x3) λr4=>br (Ai r4 0) (λ_=>some (.dn ((0,((s1.1,r4),()))))) λ_=>some (.nx (AH .i64 s1.1 1,s1.2))) λ_=>some (.dn ((1,(s1,()))))) (0,0)) λr5=>br (neq r5.1 0) (λ_=>some r5.2.1.2) λ_=>some 0
def Dn (x:((List AB)×(List UInt8))):Option (Int×Bool) :=
 bd (loop (λs0=>br (Ae s0.1 s0.2) (λ_=>AP (ST .i64 (Rg .u64 (ST .u64 (AH .i64 s0.1 s0.2)) 1)) λk1=>ix x.1 k1 λx2=>br (AY (AY (B3 x2.1 x.2))) (λ_=>some (.nx ((AH .i64 (ST .i64 (Rg .u64 (ST .u64 (AH .i64 s0.1 s0.2)) 1)) 1,s0.2)))) λ_=>some (.nx ((s0.1,ST .i64 (Rg .u64 (ST .u64 (AH .i64 s0.1 s0.2)) 1))))) λ_=>some (.dn ((0,(s0,()))))) ((0,AW (AA x.1)))) λr3=>br (Ae r3.2.1.1 (AW (AA x.1))) (λ_=>AP r3.2.1.1 λk4=>ix x.1 k4 λx5=>some (r3.2.1.1,seq x5.1 x.2)) λ_=>some (r3.2.1.1,false)
def DE (x:(Ao×(List AB))):Option ((List AB)×(Int×Bool)) :=
 AP (AH .i64 x.1.1 1) λk0=>gd (Aj 0 k0) λ_=>gd (Aj k0 1048576) λ_=>gd (Aj (AK 0 (AA x.1.2)) 1048576) λ_=>gd (Aj (AK 0 0) (AA (CO k0 ((([],([],(false,0))):AB))))) λ_=>br (neq (AA x.1.2) 0) (λ_=>bd (loop (λ(s1:(Int×(((List AB)×Nat)×(Int×Bool))))=>br (Ae s1.2.2.1 (AW (AA x.2))) (λ_=>AP s1.2.2.1 λk2=>ix x.2 k2 λx3=>gd (Aj (AK 0 s1.2.1.2) (AA s1.2.1.1)) λ_=>bd (Dn ((B0 s1.2.1.1 0 (AK 0 s1.2.1.2),x3.1))) λr4=>br r4.2 (λ_=>AP r4.1 λk5=>gd (CD k5 s1.2.1.2) λ_=>gd (CD (AK 0 k5) (AA s1.2.1.1)) λ_=>ix s1.2.1.1 (AK 0 k5) λx6=>some (.nx ((BF .i64 (AH .i64 s1.1 (AH .i64 (BF .i64 (AW s1.2.1.2) r4.1) 1)) 1,((lset s1.2.1.1 (AK 0 k5) x3,s1.2.1.2),(AH .i64 s1.2.2.1 1,s1.2.2.2)))))) λ_=>br (BJ (AW s1.2.1.2) x.1.1) (λ_=>some (.dn ((0,((AH .i64 s1.1 (AH .i64 (BF .i64 (AW s1.2.1.2) r4.1) 1),(s1.2.1,(s1.2.2.1,false))),()))))) λ_=>AP (AH .i64 (AW s1.2.1.2) 1) λk7=>AP (AW (CL (AA s1.2.1.1) 0)) λk8=>gd (Aj k7 k8) λ_=>gd (neq (AK 0 k8) (AA s1.2.1.1)) λ_=>gd (CD 0 (AA s1.2.1.1)) λ_=>AP (AH .i64 r4.1 1) λk9=>gd (Aj (AK 0 k7) (AA s1.2.1.1)) λ_=>gd (Aj k9 k7) λ_=>br (CD (AK 0 k9) (AA s1.2.1.1)) (λ_=>AP r4.1 λk10=>gd (Aj (AK 0 k7) (AA s1.2.1.1)) λ_=>gd (Aj k10 k7) λ_=>br (CD (AK 0 k10) (AA s1.2.1.1)) (λ_=>gd (Aj (AK (AK 0 k10) (CL k7 k10)) (AA s1.2.1.1)) λ_=>gd (Aj (AK (AK 0 k9) (CL k7 k9)) (AA s1.2.1.1)) λ_=>AP r4.1 λk11=>gd (CD k11 k7) λ_=>gd (CD (AK 0 k11) (AA (DJ s1.2.1.1 (AK 0 k9) (B0 s1.2.1.1 (AK 0 k10) (AK (AK 0 k10) (CL k7 k10))) (CL k7 k9)))) λ_=>ix (DJ s1.2.1.1 (AK 0 k9) (B0 s1.2.1.1 (AK 0 k10) (AK (AK 0 k10) (CL k7 k10))) (CL k7 k9)) (AK 0 k11) λx12=>some (.nx ((AH .i64 s1.1 (AH .i64 (BF .i64 (AW s1.2.1.2) r4.1) 1),((lset (DJ s1.2.1.1 (AK 0 k9) (B0 s1.2.1.1 (AK 0 k10) (AK (AK 0 k10) (CL k7 k10))) (CL k7 k9)) (AK 0 k11) x3,k7),(AH .i64 s1.2.2.1 1,s1.2.2.2)))))) λ_=>gd (Aj (AK (AK 0 k9) (CL k7 k9)) (AA s1.2.1.1)) λ_=>AP r4.1 λk13=>gd (CD k13 k7) λ_=>gd (CD (AK 0 k13) (AA (DJ s1.2.1.1 (AK 0 k9) [] (CL k7 k9)))) λ_=>ix (DJ s1.2.1.1 (AK 0 k9) [] (CL k7 k9)) (AK 0 k13) λx14=>some (.nx ((AH .i64 s1.1 (AH .i64 (BF .i64 (AW s1.2.1.2) r4.1) 1),((lset (DJ s1.2.1.1 (AK 0 k9) [] (CL k7 k9)) (AK 0 k13) x3,k7),(AH .i64 s1.2.2.1 1,s1.2.2.2)))))) λ_=>AP r4.1 λk15=>gd (Aj (AK 0 k7) (AA s1.2.1.1)) λ_=>gd (Aj k15 k7) λ_=>br (CD (AK 0 k15) (AA s1.2.1.1)) (λ_=>gd (Aj (AK (AK 0 k15) (CL k7 k15)) (AA s1.2.1.1)) λ_=>none) λ_=>none) λ_=>some (.dn ((0,(s1,()))))) ((0,((CO k0 ((([],([],(false,0))):AB)),0),(0,true))))) λr16=>gd (Aj (AK 0 r16.2.1.2.1.2) (AA r16.2.1.2.1.1)) λ_=>some ((B0 r16.2.1.2.1.1 0 (AK 0 r16.2.1.2.1.2),(r16.2.1.1,r16.2.1.2.2.2)))) λ_=>br (Aj (AK (AK 0 0) (AA x.1.2)) (AA (CO k0 ((([],([],(false,0))):AB))))) (λ_=>bd (loop (λ(s17:(Int×(((List AB)×Nat)×(Int×Bool))))=>br (Ae s17.2.2.1 (AW (AA x.2))) (λ_=>AP s17.2.2.1 λk18=>ix x.2 k18 λx19=>gd (Aj (AK 0 s17.2.1.2) (AA s17.2.1.1)) λ_=>bd (Dn ((B0 s17.2.1.1 0 (AK 0 s17.2.1.2),x19.1))) λr20=>br r20.2 (λ_=>AP r20.1 λk21=>gd (CD k21 s17.2.1.2) λ_=>gd (CD (AK 0 k21) (AA s17.2.1.1)) λ_=>ix s17.2.1.1 (AK 0 k21) λx22=>some (.nx ((BF .i64 (AH .i64 s17.1 (AH .i64 (BF .i64 (AW s17.2.1.2) r20.1) 1)) 1,((lset s17.2.1.1 (AK 0 k21) x19,s17.2.1.2),(AH .i64 s17.2.2.1 1,s17.2.2.2)))))) λ_=>br (BJ (AW s17.2.1.2) x.1.1) (λ_=>some (.dn ((0,((AH .i64 s17.1 (AH .i64 (BF .i64 (AW s17.2.1.2) r20.1) 1),(s17.2.1,(s17.2.2.1,false))),()))))) λ_=>AP (AH .i64 (AW s17.2.1.2) 1) λk23=>AP (AW (CL (AA s17.2.1.1) 0)) λk24=>gd (Aj k23 k24) λ_=>gd (neq (AK 0 k24) (AA s17.2.1.1)) λ_=>gd (CD 0 (AA s17.2.1.1)) λ_=>AP (AH .i64 r20.1 1) λk25=>gd (Aj (AK 0 k23) (AA s17.2.1.1)) λ_=>gd (Aj k25 k23) λ_=>br (CD (AK 0 k25) (AA s17.2.1.1)) (λ_=>AP r20.1 λk26=>gd (Aj (AK 0 k23) (AA s17.2.1.1)) λ_=>gd (Aj k26 k23) λ_=>br (CD (AK 0 k26) (AA s17.2.1.1)) (λ_=>gd (Aj (AK (AK 0 k26) (CL k23 k26)) (AA s17.2.1.1)) λ_=>gd (Aj (AK (AK 0 k25) (CL k23 k25)) (AA s17.2.1.1)) λ_=>AP r20.1 λk27=>gd (CD k27 k23) λ_=>gd (CD (AK 0 k27) (AA (DJ s17.2.1.1 (AK 0 k25) (B0 s17.2.1.1 (AK 0 k26) (AK (AK 0 k26) (CL k23 k26))) (CL k23 k25)))) λ_=>ix (DJ s17.2.1.1 (AK 0 k25) (B0 s17.2.1.1 (AK 0 k26) (AK (AK 0 k26) (CL k23 k26))) (CL k23 k25)) (AK 0 k27) λx28=>some (.nx ((AH .i64 s17.1 (AH .i64 (BF .i64 (AW s17.2.1.2) r20.1) 1),((lset (DJ s17.2.1.1 (AK 0 k25) (B0 s17.2.1.1 (AK 0 k26) (AK (AK 0 k26) (CL k23 k26))) (CL k23 k25)) (AK 0 k27) x19,k23),(AH .i64 s17.2.2.1 1,s17.2.2.2)))))) λ_=>gd (Aj (AK (AK 0 k25) (CL k23 k25)) (AA s17.2.1.1)) λ_=>AP r20.1 λk29=>gd (CD k29 k23) λ_=>gd (CD (AK 0 k29) (AA (DJ s17.2.1.1 (AK 0 k25) [] (CL k23 k25)))) λ_=>ix (DJ s17.2.1.1 (AK 0 k25) [] (CL k23 k25)) (AK 0 k29) λx30=>some (.nx ((AH .i64 s17.1 (AH .i64 (BF .i64 (AW s17.2.1.2) r20.1) 1),((lset (DJ s17.2.1.1 (AK 0 k25) [] (CL k23 k25)) (AK 0 k29) x19,k23),(AH .i64 s17.2.2.1 1,s17.2.2.2)))))) λ_=>AP r20.1 λk31=>gd (Aj (AK 0 k23) (AA s17.2.1.1)) λ_=>gd (Aj k31 k23) λ_=>br (CD (AK 0 k31) (AA s17.2.1.1)) (λ_=>gd (Aj (AK (AK 0 k31) (CL k23 k31)) (AA s17.2.1.1)) λ_=>none) λ_=>none) λ_=>some (.dn ((0,(s17,()))))) ((0,((DJ (CO k0 ((([],([],(false,0))):AB))) (AK 0 0) x.1.2 (AA x.1.2),AK 0 (AA x.1.2)),(0,true))))) λr32=>gd (Aj (AK 0 r32.2.1.2.1.2) (AA r32.2.1.2.1.1)) λ_=>some ((B0 r32.2.1.2.1.1 0 (AK 0 r32.2.1.2.1.2),(r32.2.1.1,r32.2.1.2.2.2)))) λ_=>none
def DG (x:(Ao×(List AB))):Option (Ao×(Int×Int)) :=
 bd (D6 x) λr0=>br (Ai r0 0) (λ_=>some (((0,[]),(0,r0)))) λ_=>bd (DE x) λr1=>br (AY r1.2.2) (λ_=>some (((0,[]),(0,5)))) λ_=>some (((x.1.1,r1.1),(r1.2.1,0)))
end Go.Proofs.YthpkjfabdccpdaaGreat.Pl
namespace Go.Proofs.YthpkjfabdccpdaaGreat.Pl
open Go Go.Proofs.YthpkjfabdccpdaaGreat.Sv
set_option linter.unusedVariables false
def Gp (x:(Ao×(AL×((List (Int×(AT×((Bool×AR)×((List AB)×Int)))))×Int)))):Option Bool :=
 bd (Db x.1.2) λr0=>br r0 (λ_=>some true) λ_=>bd (Gk x.2) λr1=>some r1
def Jd (x:Int):Option (Ao×Int) :=
 br (Ae x 1) (λ_=>some (((0,[]),7))) λ_=>br (B6 x 16) (λ_=>some (((0,[]),7))) λ_=>some (((x,[]),0))
def Je (x:Int):Option (AL×Int) :=
 br (Ae x 1) (λ_=>some (((0,[]),7))) λ_=>br (B6 x 16) (λ_=>some (((0,[]),7))) λ_=>some (((x,[]),0))
def Lx (x:Int):Option ((AL×((List (Int×(AT×((Bool×AR)×((List AB)×Int)))))×Int))×Int) :=
 bd (Je x) λr0=>br (Ai r0.2 0) (λ_=>some ((((0,[]),([],0)),r0.2))) λ_=>some (((r0.1,([],1)),0))
def H8 (x:Int):Option ((Ao×(AL×((List (Int×(AT×((Bool×AR)×((List AB)×Int)))))×Int)))×Int) :=
 bd (Jd x) λr0=>br (Ai r0.2 0) (λ_=>some ((((0,[]),((0,[]),([],0))),r0.2))) λ_=>bd (Lx x) λr1=>br (Ai r1.2 0) (λ_=>some ((((0,[]),((0,[]),([],0))),r1.2))) λ_=>some (((r0.1,r1.1),0))
def HZ (x:(Ao×(AL×((List (Int×(AT×((Bool×AR)×((List AB)×Int)))))×Int)))):Option (Int×Int) :=
 bd (BU x.1) λr0=>br (Ai r0.2 0) (λ_=>some (0,r0.2)) λ_=>bd (Bv x.2) λr1=>br (Ai r1.2 0) (λ_=>some (0,r1.2)) λ_=>br (Ai x.1.1 x.2.1.1) (λ_=>some (0,6)) λ_=>br (B6 (AW (AA x.2.1.2)) 0) (λ_=>ix x.2.1.2 0 λx2=>some ((AH .i64 (BF .i64 x.1.1 (AW (AA x.1.2))) (NF .i64 x.1.1 (BF .i64 2 (AW (AA x2)))),0))) λ_=>some ((AH .i64 (BF .i64 x.1.1 (AW (AA x.1.2))) (NF .i64 x.1.1 2),0))
def D8 (x:((List UInt8)×Int)):Option AB :=
 some ((x.1,([(118:UInt8)],(false,x.2))))
def Do (x:(Ao×(List AB))):Option (Bool×Int) :=
 bd (D6 x) λr0=>br (Ai r0 0) (λ_=>some (false,r0)) λ_=>bd (DE x) λr1=>some (r1.2.2,0)
def Bb (x:(Ao×(AL×((List (Int×(AT×((Bool×AR)×((List AB)×Int)))))×Int)))):Option (Ao×(AL×((List (Int×(AT×((Bool×AR)×((List AB)×Int)))))×Int))) :=
 some x
def BV (x:((Ao×(AL×((List (Int×(AT×((Bool×AR)×((List AB)×Int)))))×Int)))×(List AB))):Option ((Ao×(AL×((List (Int×(AT×((Bool×AR)×((List AB)×Int)))))×Int)))×(Int×Int)) :=
 bd (BU x.1.1) λr0=>br (Ai r0.2 0) (λ_=>some ((((0,[]),((0,[]),([],0))),(0,r0.2)))) λ_=>bd (Bv x.1.2) λr1=>br (Ai r1.2 0) (λ_=>some ((((0,[]),((0,[]),([],0))),(0,r1.2)))) λ_=>br (Ai x.1.1.1 x.1.2.1.1) (λ_=>some ((((0,[]),((0,[]),([],0))),(0,6)))) λ_=>br (Ae (AW (AA x.2)) 1) (λ_=>some ((((0,[]),((0,[]),([],0))),(0,2)))) λ_=>br (B6 (AW (AA x.2)) 8) (λ_=>some ((((0,[]),((0,[]),([],0))),(0,2)))) λ_=>br (B6 (AW (AA x.2)) x.1.1.1) (λ_=>some ((((0,[]),((0,[]),([],0))),(0,2)))) λ_=>bd (loop (λs2=>br (Ae s2 (AW (AA x.2))) (λ_=>AP s2 λk3=>ix x.2 k3 λx4=>bd (Aw x4) λr5=>br (Ai r5 0) (λ_=>some (.dn ((0,(s2,r5))))) λ_=>some (.nx (AH .i64 s2 1))) λ_=>some (.dn ((1,(s2,0))))) 0) λr6=>br (neq r6.1 0) (λ_=>some ((((0,[]),((0,[]),([],0))),(0,r6.2.2)))) λ_=>bd (loop (λs7=>br (Ae s7 (BF .i64 (AW (AA x.2)) 1)) (λ_=>AP (AH .i64 s7 1) λk8=>ix x.2 k8 λx9=>AP s7 λk10=>ix x.2 k10 λx11=>br (Pu x9.2.2.2 x11.2.2.2) (λ_=>some (.dn ((0,(s7,6))))) λ_=>some (.nx (AH .i64 s7 1))) λ_=>some (.dn ((1,(s7,0))))) 0) λr12=>br (neq r12.1 0) (λ_=>some ((((0,[]),((0,[]),([],0))),(0,r12.2.2)))) λ_=>bd (Do (x.1.1,x.2)) λr13=>br (Ai r13.2 0) (λ_=>some ((((0,[]),((0,[]),([],0))),(0,r13.2)))) λ_=>br (AY r13.1) (λ_=>br (BJ (AW (AA x.1.1.2)) 0) (λ_=>bd (DG (x.1.1,x.2)) λr14=>br (Ai r14.2.2 0) (λ_=>some ((((0,[]),((0,[]),([],0))),(0,r14.2.2)))) λ_=>bd (Bb (r14.1,x.1.2)) λr15=>some ((r15,(AH .i64 r14.2.1 0,0)))) λ_=>bd (CF (x.1.2.1,0)) λr16=>br (Ai r16.2 0) (λ_=>some ((((0,[]),((0,[]),([],0))),(0,r16.2)))) λ_=>br (AY r16.1) (λ_=>some ((((0,[]),((0,[]),([],0))),(0,10)))) λ_=>bd (C6 (x.1.2,x.1.1.2)) λr17=>br (Ai r17.2 0) (λ_=>some ((((0,[]),((0,[]),([],0))),(0,r17.2)))) λ_=>bd (DG (((x.1.1.1,[]),x.2))) λr18=>br (Ai r18.2.2 0) (λ_=>some ((((0,[]),((0,[]),([],0))),(0,r18.2.2)))) λ_=>bd (Bb (r18.1,r17.1)) λr19=>some ((r19,(AH .i64 r18.2.1 (AW (AA x.1.1.2)),0)))) λ_=>bd (DG (x.1.1,x.2)) λr20=>br (Ai r20.2.2 0) (λ_=>some ((((0,[]),((0,[]),([],0))),(0,r20.2.2)))) λ_=>bd (Bb (r20.1,x.1.2)) λr21=>some ((r21,(AH .i64 r20.2.1 0,0)))
def G9 (x:((Ao×(AL×((List (Int×(AT×((Bool×AR)×((List AB)×Int)))))×Int)))×(List AB))):Option (Bool×Int) :=
 bd (BU x.1.1) λr0=>br (Ai r0.2 0) (λ_=>some (false,r0.2)) λ_=>bd (Bv x.1.2) λr1=>br (Ai r1.2 0) (λ_=>some (false,r1.2)) λ_=>br (Ai x.1.1.1 x.1.2.1.1) (λ_=>some (false,6)) λ_=>br (Ae (AW (AA x.2)) 1) (λ_=>some (false,2)) λ_=>br (B6 (AW (AA x.2)) 8) (λ_=>some (false,2)) λ_=>br (B6 (AW (AA x.2)) x.1.1.1) (λ_=>some (false,2)) λ_=>bd (loop (λs2=>br (Ae s2 (AW (AA x.2))) (λ_=>AP s2 λk3=>ix x.2 k3 λx4=>bd (Aw x4) λr5=>br (Ai r5 0) (λ_=>some (.dn ((0,(s2,r5))))) λ_=>some (.nx (AH .i64 s2 1))) λ_=>some (.dn ((1,(s2,0))))) 0) λr6=>br (neq r6.1 0) (λ_=>some (false,r6.2.2)) λ_=>bd (loop (λs7=>br (Ae s7 (BF .i64 (AW (AA x.2)) 1)) (λ_=>AP (AH .i64 s7 1) λk8=>ix x.2 k8 λx9=>AP s7 λk10=>ix x.2 k10 λx11=>br (Pu x9.2.2.2 x11.2.2.2) (λ_=>some (.dn ((0,(s7,6))))) λ_=>some (.nx (AH .i64 s7 1))) λ_=>some (.dn ((1,(s7,0))))) 0) λr12=>br (neq r12.1 0) (λ_=>some (false,r12.2.2)) λ_=>bd (Do (x.1.1,x.2)) λr13=>br (Ai r13.2 0) (λ_=>some (false,r13.2)) λ_=>some (AY r13.1,0)
def Ha (x:((Ao×(AL×((List (Int×(AT×((Bool×AR)×((List AB)×Int)))))×Int)))×(List AB))):Option (Bool×Int) :=
 bd (BU x.1.1) λr0=>br (Ai r0.2 0) (λ_=>some (false,r0.2)) λ_=>bd (Bv x.1.2) λr1=>br (Ai r1.2 0) (λ_=>some (false,r1.2)) λ_=>br (Ai x.1.1.1 x.1.2.1.1) (λ_=>some (false,6)) λ_=>br (Ae (AW (AA x.2)) 1) (λ_=>some (false,2)) λ_=>br (B6 (AW (AA x.2)) 8) (λ_=>some (false,2)) λ_=>br (B6 (AW (AA x.2)) x.1.1.1) (λ_=>some (false,2)) λ_=>bd (loop (λs2=>br (Ae s2 (AW (AA x.2))) (λ_=>AP s2 λk3=>ix x.2 k3 λx4=>bd (Aw x4) λr5=>br (Ai r5 0) (λ_=>some (.dn ((0,(s2,r5))))) λ_=>some (.nx (AH .i64 s2 1))) λ_=>some (.dn ((1,(s2,0))))) 0) λr6=>br (neq r6.1 0) (λ_=>some (false,r6.2.2)) λ_=>bd (loop (λs7=>br (Ae s7 (BF .i64 (AW (AA x.2)) 1)) (λ_=>AP (AH .i64 s7 1) λk8=>ix x.2 k8 λx9=>AP s7 λk10=>ix x.2 k10 λx11=>br (Pu x9.2.2.2 x11.2.2.2) (λ_=>some (.dn ((0,(s7,6))))) λ_=>some (.nx (AH .i64 s7 1))) λ_=>some (.dn ((1,(s7,0))))) 0) λr12=>br (neq r12.1 0) (λ_=>some (false,r12.2.2)) λ_=>bd (Do (x.1.1,x.2)) λr13=>br (Ai r13.2 0) (λ_=>some (false,r13.2)) λ_=>br (AY r13.1) (λ_=>bd (CF (x.1.2.1,0)) λr14=>br (Ai r14.2 0) (λ_=>some (false,r14.2)) λ_=>some (AY r14.1,0)) λ_=>some (false,0)
def Ed (x:Unit):Option Bool :=
 bd (H8 1) λr0=>bd (HZ r0.1) λr1=>jn (γ:=(Nat×(Bool×Unit))) (λs2=>br (Ai r0.2 0) (λ_=>some (.nx true)) λ_=>br (Ai r1.2 0) (λ_=>some (.nx true)) λ_=>some (.nx (Ai r1.1 3))) () (λs3=>br s3 (λ_=>some false) λ_=>bd (loop (λ(s4:(Bool×(Int×(Int×((List AB)×(Int×((List (List Ao))×((List (Int×(AT×((Bool×AR)×((List AB)×Int)))))×Int))))))))=>br (Ae s4.2.1 3) (λ_=>jn (γ:=(Nat×((Bool×(Int×((List AB)×(Int×((List (List Ao))×((List (Int×(AT×((Bool×AR)×((List AB)×Int)))))×Int))))))×Unit))) (λs5=>AP s4.2.1 λk6=>br (neq k6 0) (λ_=>bd (D8 (([(97:UInt8)],AH .i64 s4.2.1 1))) λr7=>bd (BV ((((s5.2.1,s5.2.2.1),((s5.2.2.2.1,s5.2.2.2.2.1),s5.2.2.2.2.2)),[r7]))) λr8=>jn (γ:=(Nat×(Bool×Unit))) (λs9=>br (Ai r8.2.2 0) (λ_=>some (.nx true)) λ_=>AP s4.2.1 λk10=>br (neq k10 0) (λ_=>some (.nx (Ai r8.2.1 1))) λ_=>br (neq k10 1) (λ_=>some (.nx (Ai r8.2.1 2))) λ_=>gd (neq k10 2) λ_=>some (.nx (Ai r8.2.1 2))) () (λs11=>br s11 (λ_=>some (.dn ((0,((false,s5.2),()))))) λ_=>some (.nx ((s5.1,(r8.1.1.1,(r8.1.1.2,(r8.1.2.1.1,(r8.1.2.1.2,r8.1.2.2)))))))) λr12=>none) λ_=>br (neq k6 1) (λ_=>bd (D8 (([(98:UInt8)],AH .i64 s4.2.1 1))) λr13=>bd (BV ((((s5.2.1,s5.2.2.1),((s5.2.2.2.1,s5.2.2.2.2.1),s5.2.2.2.2.2)),[r13]))) λr14=>jn (γ:=(Nat×(Bool×Unit))) (λs15=>br (Ai r14.2.2 0) (λ_=>some (.nx true)) λ_=>AP s4.2.1 λk16=>br (neq k16 0) (λ_=>some (.nx (Ai r14.2.1 1))) λ_=>br (neq k16 1) (λ_=>some (.nx (Ai r14.2.1 2))) λ_=>gd (neq k16 2) λ_=>some (.nx (Ai r14.2.1 2))) () (λs17=>br s17 (λ_=>some (.dn ((0,((false,s5.2),()))))) λ_=>some (.nx ((s5.1,(r14.1.1.1,(r14.1.1.2,(r14.1.2.1.1,(r14.1.2.1.2,r14.1.2.2)))))))) λr18=>none) λ_=>br (neq k6 2) (λ_=>bd (D8 (([(99:UInt8)],AH .i64 s4.2.1 1))) λr19=>bd (BV ((((s5.2.1,s5.2.2.1),((s5.2.2.2.1,s5.2.2.2.2.1),s5.2.2.2.2.2)),[r19]))) λr20=>jn (γ:=(Nat×(Bool×Unit))) (λs21=>br (Ai r20.2.2 0) (λ_=>some (.nx true)) λ_=>AP s4.2.1 λk22=>br (neq k22 0) (λ_=>some (.nx (Ai r20.2.1 1))) λ_=>br (neq k22 1) (λ_=>some (.nx (Ai r20.2.1 2))) λ_=>gd (neq k22 2) λ_=>some (.nx (Ai r20.2.1 2))) () (λs23=>br s23 (λ_=>some (.dn ((0,((false,s5.2),()))))) λ_=>some (.nx ((s5.1,(r20.1.1.1,(r20.1.1.2,(r20.1.2.1.1,(r20.1.2.1.2,r20.1.2.2)))))))) λr24=>none) λ_=>gd (neq k6 3) λ_=>bd (D8 (([(100:UInt8)],AH .i64 s4.2.1 1))) λr25=>bd (BV ((((s5.2.1,s5.2.2.1),((s5.2.2.2.1,s5.2.2.2.2.1),s5.2.2.2.2.2)),[r25]))) λr26=>jn (γ:=(Nat×(Bool×Unit))) (λs27=>br (Ai r26.2.2 0) (λ_=>some (.nx true)) λ_=>AP s4.2.1 λk28=>br (neq k28 0) (λ_=>some (.nx (Ai r26.2.1 1))) λ_=>br (neq k28 1) (λ_=>some (.nx (Ai r26.2.1 2))) λ_=>gd (neq k28 2) λ_=>some (.nx (Ai r26.2.1 2))) () (λs29=>br s29 (λ_=>some (.dn ((0,((false,s5.2),()))))) λ_=>some (.nx ((s5.1,(r26.1.1.1,(r26.1.1.2,(r26.1.2.1.1,(r26.1.2.1.2,r26.1.2.2)))))))) λr30=>none) (s4.1,s4.2.2) (λs31=>some (.nx ((s31.1,(AH .i64 s4.2.1 1,s31.2))))) λr32=>some (.dn ((1,((r32.2.1.1,(s4.2.1,r32.2.1.2)),()))))) λ_=>some (.dn ((0,(s4,()))))) ((false,(0,(r0.1.1.1,(r0.1.1.2,(r0.1.2.1.1,(r0.1.2.1.2,r0.1.2.2)))))))) λr33=>br (neq r33.1 0) (λ_=>bd (D8 (([(100:UInt8)],4))) λr34=>bd (G9 ((((r33.2.1.2.2.1,r33.2.1.2.2.2.1),((r33.2.1.2.2.2.2.1,r33.2.1.2.2.2.2.2.1),r33.2.1.2.2.2.2.2.2)),[r34]))) λr35=>bd (Ha ((((r33.2.1.2.2.1,r33.2.1.2.2.2.1),((r33.2.1.2.2.2.2.1,r33.2.1.2.2.2.2.2.1),r33.2.1.2.2.2.2.2.2)),[r34]))) λr36=>bd (BV ((((r33.2.1.2.2.1,r33.2.1.2.2.2.1),((r33.2.1.2.2.2.2.1,r33.2.1.2.2.2.2.2.1),r33.2.1.2.2.2.2.2.2)),[r34]))) λr37=>bd (D8 (([(99:UInt8)],4))) λr38=>bd (BV ((((r33.2.1.2.2.1,r33.2.1.2.2.2.1),((r33.2.1.2.2.2.2.1,r33.2.1.2.2.2.2.2.1),r33.2.1.2.2.2.2.2.2)),[r38]))) λr39=>br r35.1 (λ_=>br (BJ r35.2 0) (λ_=>br r36.1 (λ_=>br (BJ r36.2 0) (λ_=>br (BJ r37.2.2 10) (λ_=>br (BJ r39.2.2 0) (λ_=>br (BJ (AW (AA r39.1.1.2)) 1) (λ_=>some (BJ (AW (AA r33.2.1.2.2.2.2.2.2.1)) 1)) λ_=>some false) λ_=>some false) λ_=>some false) λ_=>some false) λ_=>some false) λ_=>some false) λ_=>some false) λ_=>some r33.2.1.1) λr40=>none
def Hk (x:(Ao×Ao)):Option Bool :=
 br (BJ x.1.1 x.2.1) (λ_=>bd (C5 (x.1.2,x.2.2)) λr0=>some r0) λ_=>some false
def FQ (x:((Ao×(AL×((List (Int×(AT×((Bool×AR)×((List AB)×Int)))))×Int)))×(Ao×(AL×((List (Int×(AT×((Bool×AR)×((List AB)×Int)))))×Int))))):Option Bool :=
 bd (Hk (x.1.1,x.2.1)) λr0=>br r0 (λ_=>bd (EI (x.1.2,x.2.2)) λr1=>some r1) λ_=>some false
def Fl (x:((Ao×(AL×((List (Int×(AT×((Bool×AR)×((List AB)×Int)))))×Int)))×(List AB))):Option Int :=
 bd (Ec x.1) λr0=>br (BJ r0 0) (λ_=>br (Ae (AW (AA x.2)) 1) (λ_=>bd (loop (λs1=>br (Ae s1.2 (AW (AA x.2))) (λ_=>br (BJ s1.1 0) (λ_=>AP s1.2 λk2=>ix x.2 k2 λx3=>bd (A1 x3) λr4=>some (.nx (r4,AH .i64 s1.2 1))) λ_=>some (.dn ((0,(s1,()))))) λ_=>some (.dn ((0,(s1,()))))) (2,0)) λr5=>bd (loop (λs6=>br (Ae s6.1 (AW (AA x.2))) (λ_=>br (BJ s6.2 0) (λ_=>AP s6.1 λk7=>ix x.2 k7 λx8=>AP (BF .i64 s6.1 1) λk9=>ix x.2 k9 λx10=>br (Pu x8.2.2.2 x10.2.2.2) (λ_=>some (.nx (AH .i64 s6.1 1,6))) λ_=>some (.nx (AH .i64 s6.1 1,s6.2))) λ_=>some (.dn ((0,(s6,()))))) λ_=>some (.dn ((0,(s6,()))))) (1,r5.2.1.1)) λr11=>some r11.2.1.2) λ_=>br (B6 (AW (AA x.2)) 8) (λ_=>bd (loop (λs12=>br (Ae s12.2 (AW (AA x.2))) (λ_=>br (BJ s12.1 0) (λ_=>AP s12.2 λk13=>ix x.2 k13 λx14=>bd (A1 x14) λr15=>some (.nx (r15,AH .i64 s12.2 1))) λ_=>some (.dn ((0,(s12,()))))) λ_=>some (.dn ((0,(s12,()))))) (2,0)) λr16=>bd (loop (λs17=>br (Ae s17.1 (AW (AA x.2))) (λ_=>br (BJ s17.2 0) (λ_=>AP s17.1 λk18=>ix x.2 k18 λx19=>AP (BF .i64 s17.1 1) λk20=>ix x.2 k20 λx21=>br (Pu x19.2.2.2 x21.2.2.2) (λ_=>some (.nx (AH .i64 s17.1 1,6))) λ_=>some (.nx (AH .i64 s17.1 1,s17.2))) λ_=>some (.dn ((0,(s17,()))))) λ_=>some (.dn ((0,(s17,()))))) (1,r16.2.1.1)) λr22=>some r22.2.1.2) λ_=>br (B6 (AW (AA x.2)) x.1.1.1) (λ_=>bd (loop (λs23=>br (Ae s23.2 (AW (AA x.2))) (λ_=>br (BJ s23.1 0) (λ_=>AP s23.2 λk24=>ix x.2 k24 λx25=>bd (A1 x25) λr26=>some (.nx (r26,AH .i64 s23.2 1))) λ_=>some (.dn ((0,(s23,()))))) λ_=>some (.dn ((0,(s23,()))))) (2,0)) λr27=>bd (loop (λs28=>br (Ae s28.1 (AW (AA x.2))) (λ_=>br (BJ s28.2 0) (λ_=>AP s28.1 λk29=>ix x.2 k29 λx30=>AP (BF .i64 s28.1 1) λk31=>ix x.2 k31 λx32=>br (Pu x30.2.2.2 x32.2.2.2) (λ_=>some (.nx (AH .i64 s28.1 1,6))) λ_=>some (.nx (AH .i64 s28.1 1,s28.2))) λ_=>some (.dn ((0,(s28,()))))) λ_=>some (.dn ((0,(s28,()))))) (1,r27.2.1.1)) λr33=>some r33.2.1.2) λ_=>bd (loop (λs34=>br (Ae s34.2 (AW (AA x.2))) (λ_=>br (BJ s34.1 0) (λ_=>AP s34.2 λk35=>ix x.2 k35 λx36=>bd (A1 x36) λr37=>some (.nx (r37,AH .i64 s34.2 1))) λ_=>some (.dn ((0,(s34,()))))) λ_=>some (.dn ((0,(s34,()))))) (r0,0)) λr38=>bd (loop (λs39=>br (Ae s39.1 (AW (AA x.2))) (λ_=>br (BJ s39.2 0) (λ_=>AP s39.1 λk40=>ix x.2 k40 λx41=>AP (BF .i64 s39.1 1) λk42=>ix x.2 k42 λx43=>br (Pu x41.2.2.2 x43.2.2.2) (λ_=>some (.nx (AH .i64 s39.1 1,6))) λ_=>some (.nx (AH .i64 s39.1 1,s39.2))) λ_=>some (.dn ((0,(s39,()))))) λ_=>some (.dn ((0,(s39,()))))) (1,r38.2.1.1)) λr44=>some r44.2.1.2) λ_=>bd (loop (λs45=>br (Ae s45.2 (AW (AA x.2))) (λ_=>br (BJ s45.1 0) (λ_=>AP s45.2 λk46=>ix x.2 k46 λx47=>bd (A1 x47) λr48=>some (.nx (r48,AH .i64 s45.2 1))) λ_=>some (.dn ((0,(s45,()))))) λ_=>some (.dn ((0,(s45,()))))) (r0,0)) λr49=>bd (loop (λs50=>br (Ae s50.1 (AW (AA x.2))) (λ_=>br (BJ s50.2 0) (λ_=>AP s50.1 λk51=>ix x.2 k51 λx52=>AP (BF .i64 s50.1 1) λk53=>ix x.2 k53 λx54=>br (Pu x52.2.2.2 x54.2.2.2) (λ_=>some (.nx (AH .i64 s50.1 1,6))) λ_=>some (.nx (AH .i64 s50.1 1,s50.2))) λ_=>some (.dn ((0,(s50,()))))) λ_=>some (.dn ((0,(s50,()))))) (1,r49.2.1.1)) λr55=>some r55.2.1.2
def Fm (x:(Ao×(List AB))):Option Int :=
 bd (Eb x.1) λr0=>br (BJ r0.2 0) (λ_=>br (B6 (AW (AA x.2)) 16) (λ_=>bd (loop (λs1=>br (Ae s1.1 (AW (AA x.2))) (λ_=>br (BJ s1.2 0) (λ_=>AP s1.1 λk2=>ix x.2 k2 λx3=>bd (A1 x3) λr4=>some (.nx (AH .i64 s1.1 1,r4))) λ_=>some (.dn ((0,(s1,()))))) λ_=>some (.dn ((0,(s1,()))))) (0,3)) λr5=>some r5.2.1.2) λ_=>bd (loop (λs6=>br (Ae s6.1 (AW (AA x.2))) (λ_=>br (BJ s6.2 0) (λ_=>AP s6.1 λk7=>ix x.2 k7 λx8=>bd (A1 x8) λr9=>some (.nx (AH .i64 s6.1 1,r9))) λ_=>some (.dn ((0,(s6,()))))) λ_=>some (.dn ((0,(s6,()))))) (0,r0.2)) λr10=>some r10.2.1.2) λ_=>bd (loop (λs11=>br (Ae s11.1 (AW (AA x.2))) (λ_=>br (BJ s11.2 0) (λ_=>AP s11.1 λk12=>ix x.2 k12 λx13=>bd (A1 x13) λr14=>some (.nx (AH .i64 s11.1 1,r14))) λ_=>some (.dn ((0,(s11,()))))) λ_=>some (.dn ((0,(s11,()))))) (0,r0.2)) λr15=>some r15.2.1.2
def GA (x:((List AB)×AB)):Option ((List AB)×Int) :=
 bd (loop (λ(s0:(Int×(Int×(Bool×(List AB)))))=>br (Ae s0.2.1 (AW (AA x.1))) (λ_=>AP s0.2.1 λk1=>ix x.1 k1 λx2=>br (B3 x.2.1 x2.1) (λ_=>AP s0.2.1 λk3=>ix x.1 k3 λx4=>br (AY (B3 x4.1 x.2.1)) (λ_=>br (AY s0.2.2.1) (λ_=>gd (Aj (AK (AA s0.2.2.2) (AA [x.2])) 1048576) λ_=>AP s0.2.1 λk5=>ix x.1 k5 λx6=>br (AY (seq x6.1 x.2.1)) (λ_=>AP s0.2.1 λk7=>ix x.1 k7 λx8=>gd (Aj (AK (AA (Bl s0.2.2.2 [x.2])) (AA [x8])) 1048576) λ_=>some (.nx ((AH .i64 s0.1 1,(AH .i64 s0.2.1 1,(true,Bl (Bl s0.2.2.2 [x.2]) [x8])))))) λ_=>some (.nx ((AH .i64 s0.1 1,(AH .i64 s0.2.1 1,(true,Bl s0.2.2.2 [x.2])))))) λ_=>AP s0.2.1 λk9=>ix x.1 k9 λx10=>br (AY (seq x10.1 x.2.1)) (λ_=>AP s0.2.1 λk11=>ix x.1 k11 λx12=>gd (Aj (AK (AA s0.2.2.2) (AA [x12])) 1048576) λ_=>some (.nx ((AH .i64 s0.1 1,(AH .i64 s0.2.1 1,(s0.2.2.1,Bl s0.2.2.2 [x12])))))) λ_=>some (.nx ((AH .i64 s0.1 1,(AH .i64 s0.2.1 1,s0.2.2))))) λ_=>AP s0.2.1 λk13=>ix x.1 k13 λx14=>br (AY (seq x14.1 x.2.1)) (λ_=>AP s0.2.1 λk15=>ix x.1 k15 λx16=>gd (Aj (AK (AA s0.2.2.2) (AA [x16])) 1048576) λ_=>some (.nx ((AH .i64 s0.1 1,(AH .i64 s0.2.1 1,(s0.2.2.1,Bl s0.2.2.2 [x16])))))) λ_=>some (.nx ((AH .i64 s0.1 1,(AH .i64 s0.2.1 1,s0.2.2))))) λ_=>AP s0.2.1 λk17=>ix x.1 k17 λx18=>br (AY (B3 x18.1 x.2.1)) (λ_=>br (AY s0.2.2.1) (λ_=>gd (Aj (AK (AA s0.2.2.2) (AA [x.2])) 1048576) λ_=>AP s0.2.1 λk19=>ix x.1 k19 λx20=>br (AY (seq x20.1 x.2.1)) (λ_=>AP s0.2.1 λk21=>ix x.1 k21 λx22=>gd (Aj (AK (AA (Bl s0.2.2.2 [x.2])) (AA [x22])) 1048576) λ_=>some (.nx ((s0.1,(AH .i64 s0.2.1 1,(true,Bl (Bl s0.2.2.2 [x.2]) [x22])))))) λ_=>some (.nx ((s0.1,(AH .i64 s0.2.1 1,(true,Bl s0.2.2.2 [x.2])))))) λ_=>AP s0.2.1 λk23=>ix x.1 k23 λx24=>br (AY (seq x24.1 x.2.1)) (λ_=>AP s0.2.1 λk25=>ix x.1 k25 λx26=>gd (Aj (AK (AA s0.2.2.2) (AA [x26])) 1048576) λ_=>some (.nx ((s0.1,(AH .i64 s0.2.1 1,(s0.2.2.1,Bl s0.2.2.2 [x26])))))) λ_=>some (.nx ((s0.1,(AH .i64 s0.2.1 1,s0.2.2))))) λ_=>AP s0.2.1 λk27=>ix x.1 k27 λx28=>br (AY (seq x28.1 x.2.1)) (λ_=>AP s0.2.1 λk29=>ix x.1 k29 λx30=>gd (Aj (AK (AA s0.2.2.2) (AA [x30])) 1048576) λ_=>some (.nx ((s0.1,(AH .i64 s0.2.1 1,(s0.2.2.1,Bl s0.2.2.2 [x30])))))) λ_=>some (.nx ((s0.1,(AH .i64 s0.2.1 1,s0.2.2))))) λ_=>some (.dn ((0,(s0,()))))) ((1,(0,(false,[]))))) λr31=>br (AY r31.2.1.2.2.1) (λ_=>gd (Aj (AK (AA r31.2.1.2.2.2) (AA [x.2])) 1048576) λ_=>some (Bl r31.2.1.2.2.2 [x.2],r31.2.1.1)) λ_=>some (r31.2.1.2.2.2,r31.2.1.1)
def E7 (x:(Ao×(List AB))):Option ((List AB)×Int) :=
 gd (Aj (AA x.1.2) 1048576) λ_=>bd (loop (λ(s0:(Int×Ao))=>br (Ae s0.2.1 (AW (AA x.2))) (λ_=>AP s0.2.1 λk1=>ix x.2 k1 λx2=>bd (GA (s0.2.2,x2)) λr3=>some (.nx ((AH .i64 s0.1 r3.2,(AH .i64 s0.2.1 1,r3.1))))) λ_=>some (.dn ((0,(s0,()))))) ((0,(0,x.1.2)))) λr4=>some (r4.2.1.2.2,r4.2.1.1)
def FS (x:(Ao×(List AB))):Option (Bool×Int) :=
 bd (Fm x) λr0=>br (Ai r0 0) (λ_=>some (false,r0)) λ_=>bd (E7 x) λr1=>some ((Pu (AW (AA r1.1)) x.1.1,0))
def Fo (x:((Ao×(AL×((List (Int×(AT×((Bool×AR)×((List AB)×Int)))))×Int)))×(List AB))):Option (Bool×Int) :=
 bd (Fl x) λr0=>br (Ai r0 0) (λ_=>some (false,r0)) λ_=>bd (FS (x.1.1,x.2)) λr1=>some (AY r1.1,r1.2)
def Gq (x:(Ao×(AL×((List (Int×(AT×((Bool×AR)×((List AB)×Int)))))×Int)))):Option Bool :=
 br (Hf 0 (AW (AA x.2.1.2))) (λ_=>some false) λ_=>ix x.2.1.2 0 λx0=>some (BJ (AW (AA x0)) 2)
def FT (x:(Ao×(AL×((List (Int×(AT×((Bool×AR)×((List AB)×Int)))))×Int)))):Option ((Ao×(AL×((List (Int×(AT×((Bool×AR)×((List AB)×Int)))))×Int)))×Int) :=
 bd (Ec x) λr0=>br (Ai r0 0) (λ_=>some ((((0,[]),((0,[]),([],0))),r0))) λ_=>br (BJ (AW (AA x.1.2)) 0) (λ_=>some (x,0)) λ_=>bd (Gq x) λr1=>br r1 (λ_=>some ((((0,[]),((0,[]),([],0))),10))) λ_=>bd (E6 (x.2,x.1.2)) λr2=>br (Ai r2.2 0) (λ_=>some ((((0,[]),((0,[]),([],0))),r2.2))) λ_=>some ((((x.1.1,[]),r2.1),0))
def Ee (x:(Ao×(List AB))):Option (Ao×(Int×Int)) :=
 bd (FS x) λr0=>br (BJ r0.2 0) (λ_=>br (AY r0.1) (λ_=>some (((0,[]),(0,5)))) λ_=>br (Ai r0.2 0) (λ_=>some (((0,[]),(0,r0.2)))) λ_=>bd (E7 x) λr1=>some (((x.1.1,r1.1),(r1.2,0)))) λ_=>br (Ai r0.2 0) (λ_=>some (((0,[]),(0,r0.2)))) λ_=>bd (E7 x) λr2=>some (((x.1.1,r2.1),(r2.2,0)))
def Fp (x:((Ao×(AL×((List (Int×(AT×((Bool×AR)×((List AB)×Int)))))×Int)))×(List AB))):Option ((Ao×(AL×((List (Int×(AT×((Bool×AR)×((List AB)×Int)))))×Int)))×(Int×Int)) :=
 bd (Fo x) λr0=>br (Ai r0.2 0) (λ_=>some ((((0,[]),((0,[]),([],0))),(0,r0.2)))) λ_=>br r0.1 (λ_=>bd (FT x.1) λr1=>br (Ai r1.2 0) (λ_=>some ((((0,[]),((0,[]),([],0))),(0,r1.2)))) λ_=>bd (Ee (r1.1.1,x.2)) λr2=>br (Ai r2.2.2 0) (λ_=>some ((((0,[]),((0,[]),([],0))),(0,r2.2.2)))) λ_=>some (((r2.1,r1.1.2),(AH .i64 r2.2.1 (AW (AA x.1.1.2)),0)))) λ_=>bd (Ee (x.1.1,x.2)) λr3=>br (Ai r3.2.2 0) (λ_=>some ((((0,[]),((0,[]),([],0))),(0,r3.2.2)))) λ_=>some (((r3.1,x.1.2),(AH .i64 r3.2.1 0,0)))
def ET (x:(Ao×(AL×((List (Int×(AT×((Bool×AR)×((List AB)×Int)))))×Int)))):Option ((Ao×(AL×((List (Int×(AT×((Bool×AR)×((List AB)×Int)))))×Int)))×Int) :=
 bd (BU x.1) λr0=>br (Ai r0.2 0) (λ_=>some ((((0,[]),((0,[]),([],0))),r0.2))) λ_=>bd (Bv x.2) λr1=>br (Ai r1.2 0) (λ_=>some ((((0,[]),((0,[]),([],0))),r1.2))) λ_=>br (Ai x.1.1 x.2.1.1) (λ_=>some ((((0,[]),((0,[]),([],0))),6))) λ_=>br (BJ (AW (AA x.1.2)) 0) (λ_=>bd (Bb x) λr2=>some (r2,0)) λ_=>bd (CF (x.2.1,0)) λr3=>br (Ai r3.2 0) (λ_=>some ((((0,[]),((0,[]),([],0))),r3.2))) λ_=>br (AY r3.1) (λ_=>some ((((0,[]),((0,[]),([],0))),10))) λ_=>bd (C6 (x.2,x.1.2)) λr4=>br (Ai r4.2 0) (λ_=>some ((((0,[]),((0,[]),([],0))),r4.2))) λ_=>bd (Bb (((x.1.1,[]),r4.1))) λr5=>some (r5,0)
def Cs (x:((Ao×(AL×((List (Int×(AT×((Bool×AR)×((List AB)×Int)))))×Int)))×(List AB))):Option Bool :=
 bd (Gp x.1) λr0=>br r0 (λ_=>bd (Ed ()) λr1=>some r1) λ_=>bd (Db x.2) λr2=>br r2 (λ_=>bd (Ed ()) λr3=>some r3) λ_=>bd (BV x) λr4=>bd (Fp x) λr5=>bd (FQ (r4.1,r5.1)) λr6=>br (AY r6) (λ_=>some false) λ_=>br (Ai r4.2.1 r5.2.1) (λ_=>some false) λ_=>br (Ai r4.2.2 r5.2.2) (λ_=>some false) λ_=>bd (ET x.1) λr7=>bd (FT x.1) λr8=>bd (FQ (r7.1,r8.1)) λr9=>br r9 (λ_=>br (BJ r7.2 r8.2) (λ_=>bd (Ed ()) λr10=>some r10) λ_=>some false) λ_=>some false
end Go.Proofs.YthpkjfabdccpdaaGreat.Pl
namespace Go.Proofs.YthpkjfabdccpdaaGreat.Pl
open Go Go.Proofs.YthpkjfabdccpdaaGreat.Sv
theorem j0 {B:Int} {M:List (List Ao)} {f:(Int×List (List Ao))->Option (LR (Int×List (List Ao)) (Nat×((Int×List (List Ao))×Unit)))} (h0:f (B,[])=some (.dn (0,((B,[]),())))) (hs : ∀ k,k<M.length->f (B,M.take (k+1))=if Ar M k=[] then some (.nx (B,M.take k)) else some (.dn (0,((B,M.take (k+1)),())))) : ∀ k,k<=M.length->Dp (k+1) f (B,M.take k)=some (0,((B,M.take (Jc M k)),()))
 | 0,_=>by rw [List.take_zero];exact BX h0
 | k+1,hk=>by
  have h:=hs k (by omega);unfold Jc;by_cases he:Ar M k=[]
  ·rw [if_pos he] at h ⊢;rw [BS h];exact j0 h0 hs k (by omega)
  ·rw [if_neg he] at h ⊢;exact BX h
theorem cI {M:List (List Ao)} {k:Nat} (h:k<M.length):M.take (k+1)=M.take k++[Ar M k]:=by
 rw [List.take_add_one,Dr h];rfl
theorem cJ {L:AL} (h1:L.2.length<=1000) {n:Nat} (hn:n<1000) {r:List Ao} (hr:r.length<=1048576) (ho : ∀ i,(Ar L.2 i).length<=1048576):Dc (L,((n:Int),r))=some (E4 L n r):=by
 have hM:(F4 L.2 n r).length=max L.2.length (n+1):=by unfold F4;rw [List.length_set,KW]
 unfold Dc;simp only [AU,AO];refine A7 (H2 (r:=(0,((((max L.2.length (n+1):Nat):Int),(L.1,F4 L.2 n r)),()))) (λk=>((k:Int),(L.1,(F4 L.2 n r).take k))) (max L.2.length (n+1)) (by simp) (by omega) (λk hk => ?_) ?_) ?_
 ·have hl:((F4 L.2 n r).take k).length=k:=by rw [List.length_take];omega
  simp only [hl];rw [cI (by omega),UG,AZ (by omega),BD];by_cases hkl:k<L.2.length
  ·rw [if_pos (by omega),D0,if_neg (by omega),AE,AI (Dr hkl),BI];by_cases hkn:k=n
   ·rw [if_pos (by omega),if_pos hkn,BE hr,BE (by simp only [AK,List.length_cons,List.length_nil];omega)];rfl
   ·rw [if_neg (by omega),if_neg hkn,BE (ho k),BE (by simp only [AK,List.length_cons,List.length_nil];omega)];rfl
  ·rw [if_neg (by omega),XR,if_pos (by omega),D0,if_pos (by omega),BI];by_cases hkn:k=n
   ·rw [if_pos (by omega),if_pos hkn,BE hr,BE (by simp only [AK,List.length_cons,List.length_nil];omega)];rfl
   ·rw [if_neg (by omega),if_neg hkn,BE (by simp only [AK,List.length_cons,List.length_nil];omega)];have:Ar L.2 k=[]:=by unfold Ar;rw [List.getElem?_eq_none (by omega)];rfl
    rw [this];rfl
 ·have hl:(F4 L.2 n r).take (max L.2.length (n+1))=F4 L.2 n r:=List.take_of_length_le (by omega);simp only;rw [BD,if_neg (by omega),XR,if_neg (by omega),hl]
 ·have hlo:=j0 (B:=L.1) (M:=F4 L.2 n r) (f:=λs6=>br (B6 (s6.2.length:Int) 0) (λ_=>AP (BF .i64 (s6.2.length:Int) 1) λk7=>ix s6.2 k7 λx8=>br (BJ (x8.length:Int) 0) (λ_=>AP (BF .i64 (s6.2.length:Int) 1) λk9=>gd (Aj k9 s6.2.length) λ_=>gd (Aj 0 k9) λ_=>some (.nx (s6.1,B0 s6.2 0 k9))) λ_=>some (.dn ((0,(s6,()))))) λ_=>some (.dn ((0,(s6,()))))) rfl (λk hk=>by
   have hl:((F4 L.2 n r).take (k+1)).length=k+1:=by rw [List.length_take];omega
   have hi:BF .i64 ((k+1:Nat):Int) 1=(k:Int):=by rw [Bu (by omega)];omega
   have hg:((F4 L.2 n r).take (k+1))[k]? = some (Ar (F4 L.2 n r) k):=by rw [List.getElem?_take,if_pos (by omega),Dr hk]
   simp only [hl,hi];rw [Av,if_pos (by omega),AE,AI hg,Xi];by_cases he:Ar (F4 L.2 n r) k=[]
   ·rw [if_pos he,if_pos he,AE,BE (by omega),BE (by omega)]
    have:B0 ((F4 L.2 n r).take (k+1)) 0 k=(F4 L.2 n r).take k:=by
     unfold B0;rw [List.drop_zero,Nat.sub_zero,List.take_take];congr 1;omega
    rw [this]
   ·rw [if_neg he,if_neg he]) _ (Nat.le_refl _)
  rw [List.take_of_length_le (Nat.le_refl _)] at hlo;exact A7 (Cq (by omega) hlo) rfl
end Go.Proofs.YthpkjfabdccpdaaGreat.Pl
namespace Go.Proofs.YthpkjfabdccpdaaGreat.Pl
open Go Go.Proofs.YthpkjfabdccpdaaGreat.Sv
theorem Yx {L:AL} (v:VLev L) {n:Nat} (h:(Ar L.2 n).length=2):Dm (L,(n:Int))=some (Gm L n,0):=by
 have hn:n<L.2.length:=by
  by_cases h0:n<L.2.length
  ·exact h0
  ·unfold Ar at h;rw [List.getElem?_eq_none (by omega)] at h;cases h
 have hl:=v.len;obtain ⟨hb,hr⟩:=v.small;unfold Dm;simp only [AU,AO];rw [SK _ hb hr,Ga v,AC,BI,if_pos rfl,BD,if_neg (by omega),D0,if_neg (by omega),BI,if_pos rfl,D0,if_neg (by omega),AE,AI (Dr hn),BD,if_neg (by omega),AN,if_pos rfl,Pj v hn,AC]
 obtain ⟨r0,r1,hrr⟩ : ∃ r0 r1,Ar L.2 n=[r0,r1]:=by
  match hq:Ar L.2 n with
  | [r0,r1]=>exact ⟨r0,r1,rfl⟩
  | []=>rw [hq] at h;cases h
  | [_]=>rw [hq] at h;cases h
  | _::_::_::_=>rw [hq] at h;simp at h
 rw [Qz _ (by rw [Dr hn,hrr]) (VR.vl' v (n:=n) (by rw [hrr];simp)) (VR.vl' v (n:=n) (by rw [hrr];simp)),AC];unfold Gm;rw [Int.toNat_natCast,hrr]
theorem Mr (l:List AB) (hl:l.length<=9223372036854775807):C5 (l,l)=some true:=by
 unfold C5;simp only [AU,AO];refine A7 (H2 (r:=(1,(((l.length:Int),false),()))) (λk=>((k:Int),false)) l.length rfl (by omega) (λk hk => ?_) (by simp only;rw [re];rfl)) ?_
 ·have hx:l[k]? = some l[k]:=List.getElem?_eq_getElem hk;simp only;rw [rl hk,AM,AM,AE,AI hx,AE,AI hx,Pc,if_pos rfl,AZ (by omega)]
 ·rw [CS,if_neg (show ¬ (1=0) by omega)];unfold BJ;simp
theorem UO (r:Ao) (hl:r.2.length<=9223372036854775807):ER (r,r)=some true:=by
 unfold ER;rw [BI,if_pos rfl,Mr _ hl];rfl
theorem SP (l:List Ao) (hl:l.length<=1048576) (h : ∀ r∈l,r.2.length<=9223372036854775807):D5 (l,l)=some true:=by
 unfold D5;simp only [AU,AO];rw [AN,if_pos rfl];refine A7 (H2 (r:=(1,(((l.length:Int),false),()))) (λk=>((k:Int),false)) l.length rfl (by omega) (λk hk => ?_) (by simp only;rw [re];rfl)) rfl;have hx:l[k]? = some l[k]:=List.getElem?_eq_getElem hk;simp only;rw [rl hk,AM,AE,AI hx,AE,AI hx,UO _ (h _ (List.getElem_mem hk)),AC,DM,AV,AZ (by omega)]
theorem UP (L:AL) (hb:L.2.length<=1048576) (hr : ∀ rs∈L.2,rs.length<=1048576 /\ ∀ r∈rs,r.2.length<=9223372036854775807):Gn (L,L)=some true:=by
 unfold Gn;simp only [AU,AO];rw [AN,if_pos rfl,AN,if_pos rfl];refine A7 (H2 (r:=(1,(((L.2.length:Int),false),()))) (λk=>((k:Int),false)) L.2.length rfl (by omega) (λk hk => ?_) (by simp only;rw [re];rfl)) rfl;have hx:L.2[k]? = some L.2[k]:=List.getElem?_eq_getElem hk;have hk2:=hr _ (List.getElem_mem hk);simp only;rw [rl hk,AM,AE,AI hx,AE,AI hx,SP _ hk2.1 hk2.2,AC,DM,AV,AZ (by omega)]
theorem UQ {L:AL} {n:Nat} {j:Hj} (h:JobAt L n j):ES (j,j)=some true:=by
 obtain ⟨r0,r1,bt,k,_,rfl,hk,_,v0,v1⟩:=h;obtain ⟨s1,s2,s3,s4,s5,s6⟩:=Nh v1 v0 bt hk;unfold ES;rw [BI,if_pos rfl,Pg _ _ s1 s2 s3 s4 s5 s6];simp [AC]
theorem Vn {t:BC} (v:VSt t):EI (t,t)=some true:=by
 have m:=v.sm;have hj:=v.jsmall;unfold EI;simp only [AU,AO];rw [UP _ m.lv m.rs,AC,DM,AV,AN,if_pos rfl,AN,if_pos rfl];refine A7 (H2 (r:=(1,(((t.2.1.length:Int),false),()))) (λk=>((k:Int),false)) t.2.1.length rfl (by omega) (λk hk => ?_) (by simp only;rw [re];rfl)) rfl;have hx:t.2.1[k]? = some t.2.1[k]:=List.getElem?_eq_getElem hk;obtain ⟨n,ha⟩:=v.job _ (List.getElem_mem hk);simp only;rw [rl hk,AM,AE,AI hx,AE,AI hx,UQ ha,AC,DM,AV,AZ (by omega)]
theorem lz:EI (zS,zS)=some true:=by decide +kernel
end Go.Proofs.YthpkjfabdccpdaaGreat.Pl
namespace Go.Proofs.YthpkjfabdccpdaaGreat.Pl
open Go Go.Proofs.YthpkjfabdccpdaaGreat.Sv
def UR (s:BC) (l:List AB):AL:=E4 s.1 0 (Ar s.1.2 0++[(s.2.2,l)])
def Jf (s:BC) (l:List AB):BC×Int :=
 if (Bj s).2≠0 then (zS,(Bj s).2) else if s.2.2>1000000\/2<=(Ar s.1.2 0).length then (zS,5) else if (Cd l).2≠0 then (zS,(Cd l).2)
 else if kR [] (Bn s.1.1 0) (s.2.2,l)≠0 then (zS,kR [] (Bn s.1.1 0) (s.2.2,l)) else (Xj s (UR s l) (s.2.2+1) (-1),0)
theorem Pp {s:BC} (v:VSt s) : ∀ y∈s.1.2.flatten,y.1≠s.2.2:=λy hy=>by
 have:=Mo hy;have:=v.n3;omega
theorem Oa {s:BC} (v:VSt s) {l:List AB} (h1:(Ar s.1.2 0).length<2) (h2:kR [] (Bn s.1.1 0) (s.2.2,l)=0):VLev (UR s l) :=
 v.lev.arrive (by omega) h1 (bo.1 h2).1 (Pp v)
theorem SQ (s:BC) (l:List AB) (i:Nat):Ar (UR s l).2 i=if i=0 then Ar s.1.2 0++[(s.2.2,l)] else Ar s.1.2 i:=by
 unfold UR;rw [Q6]
theorem jQ {s:BC} (v:VSt s) {l:List AB} (h1:(Ar s.1.2 0).length<2) (h2:kR [] (Bn s.1.1 0) (s.2.2,l)=0) (h3:s.2.2<=1000000):VSt (Xj s (UR s l) (s.2.2+1) (-1)):=by
 have hn1:=v.n1;refine cG v (Oa v h1 h2) (by omega) (by omega) (λx hx => ?_) (λn r0 r1 hn _ _ => ?_)
 ·obtain ⟨i,hi⟩:=UH.1 hx
  have hold : ∀ {y:Ao} {k:Nat},y∈Ar s.1.2 k->y.1<s.2.2+1:=fun {y k} hy=>by
   have:=Mo (UH.2 ⟨k,hy⟩);have:=v.n3;omega
  rw [SQ] at hi;by_cases h0:i=0
  ·rw [if_pos h0] at hi;rcases List.mem_append.1 hi with hi | hi
   ·exact hold hi
   ·rw [List.mem_singleton.1 hi];show s.2.2<s.2.2+1;omega
  ·rw [if_neg h0] at hi;exact hold hi
 ·have hms:=SO.1 hn;have hn0:n≠0:=λe=>by rw [e] at hms;rw [hms] at h1;simp at h1
  have hown:Ar (UR s l).2 n=[r0,r1]:=by rw [SQ,if_neg hn0,hms]
  refine ⟨SO.2 hown,λhl=>(jP (Oa v h1 h2).last (by rw [hown];simp) λi hi => ?_).symm⟩;rw [SQ,if_neg (by omega)];unfold Ar;rw [List.getElem?_eq_none (by omega)];rfl
theorem l7 {s:BC} (v:VSt s) (h:s.2.2<=1000000) (l:List AB):kR [] (Bn s.1.1 0) (s.2.2,l)=if (Cd l).2≠0 then (Cd l).2 else if l.length=0 then 4 else if (l.length:Int)>Bn s.1.1 0 then 3 else 0:=by
 have:=v.n1;unfold kR;rw [if_neg (by simp only;omega)];simp
theorem RF {s:BC} (m:Sm s) {l:List AB} (hl:l.length<=1000):C6 (s,l)=some (Jf s l):=by
 unfold C6 Jf;rw [nk m,AC,AN];by_cases h0:(Bj s).2=0;rotate_left
 ·rw [if_neg h0,if_pos h0];rfl
 have v:=IW.1 h0;have hn1:=v.n1;have hr:=Q0 v.lev (n:=0) (by omega);rw [if_pos h0,if_neg (by simp [h0])];show (bd (CF (s.1,((0:Nat):Int))) λr1=>_)=_;rw [hr,AC];simp only;rw [if_neg (show ¬ (0>=12) by omega),AN,if_pos rfl,Av];by_cases h1:s.2.2>1000000
 ·rw [if_pos h1,if_pos (.inl h1)];rfl
 have hrm:UD s.1 0=decide ((Ar s.1.2 0).length<2):=by unfold UD Ar;simp
 rw [if_neg h1,Bp,hrm,Cn];by_cases h2:2<=(Ar s.1.2 0).length
 ·rw [if_neg (by omega),if_pos (.inr h2)];rfl
 rw [if_pos (by omega),if_neg (show ¬ (s.2.2>1000000\/2<=(Ar s.1.2 0).length) by omega)];rw [BE (by simp only [AA];omega),Mn _ (by simp only;omega),AC,if_neg (show ¬ (s.2.2<1\/s.2.2>1000000) by omega),AN];by_cases h3:(Cd l).2=0;rotate_left
 ·rw [if_neg h3,if_pos h3];rfl
 rw [if_pos h3,if_neg (by simp [h3])];have hA:=UL v.lev (n:=0) (by omega) (x:=(s.2.2,l)) (by simp only;omega) (Pp v) (by omega);show (bd (DT (s.1,(((0:Nat):Int),(s.2.2,l)))) λr3=>_)=_;rw [hA,AC];by_cases h4:kR [] (Bn s.1.1 0) (s.2.2,l)=0;rotate_left
 ·rw [if_pos h4,if_pos h4,AN,if_neg h4];rfl
 rw [if_neg (by simp [h4]),if_neg (by simp [h4]),AN,if_pos rfl];have hjs:=v.jsmall;have hW:=UI v.nodup (by omega) (Oa v (by omega) h4) (s.2.2+1) (-1);rw [CV (by omega)];show (bd (D4 (s,(UR s l,(s.2.2+1,(-1))))) λr4=>_)=_;rw [hW];rfl
end Go.Proofs.YthpkjfabdccpdaaGreat.Pl
namespace Go.Proofs.YthpkjfabdccpdaaGreat.Pl
open Go Go.Proofs.YthpkjfabdccpdaaGreat.Sv
def BP (b:Ao):Int×Int:=if b.1<1\/b.1>16 then (0,7) else if (b.2.length:Int)>b.1 then (0,3) else Jt none 0 b.2
theorem Jg (b:Ao):BU b=some (BP b):=by
 unfold BU BP;rw [BD,Av,Av];by_cases h1:b.1<1
 ·rw [if_pos h1,if_pos (.inl h1)]
 rw [if_neg h1];by_cases h2:b.1>16
 ·rw [if_pos h2,if_pos (.inr h2)]
 rw [if_neg h2,if_neg (show ¬ (b.1<1\/b.1>16) by omega),AU,AO];by_cases h3:(b.2.length:Int)>b.1
 ·rw [if_pos h3,if_pos h3]
 rw [if_neg h3,if_neg h3];have h4:=Ez b.2 (by omega);unfold BH Cd at h4;rw [Av,AU,AO,if_neg (show ¬ (b.2.length:Int)>5000 by omega),if_neg (show ¬ b.2.length>5000 by omega)] at h4;exact h4
theorem OH (b:Ao):Eb b=some (BP b):=by
 rw [<- Jg];unfold Eb BU
 congr 1
 funext _
 congr 1
 funext _
 congr 1
 funext _
 congr 2
 funext s0
 by_cases h:0<=s0.2.2
 ·simp only [XS h];cases hx:b.2[s0.2.2.toNat]? with
  | none=>unfold ix;simp only [hx]
  | some x=>simp only [AI hx,Gh,C2,AC]
 ·have hn : ∀ {β:Type} (k:Nat->Option β),AP s0.2.2 k=none:=λk=>by unfold AP;simp [h]
  simp only [hn]
def BM (f:CB):Int:=if (BP f.1).2≠0 then (BP f.1).2 else if (Bj f.2).2≠0 then (Bj f.2).2 else if f.1.1≠f.2.1.1 then 6 else 0
theorem OI {f:CB} (m:Sm f.2):Ec f=some (BM f):=by
 unfold Ec BM;rw [OH,AC,BI];by_cases h1:(BP f.1).2=0;rotate_left
 ·rw [if_neg h1,BI,if_neg h1,if_pos h1]
 rw [if_pos h1,if_neg (show ¬ (BP f.1).2≠0 by simp [h1]),lx m,AC,BI];by_cases h2:(Bj f.2).2=0;rotate_left
 ·rw [if_neg h2,if_pos h2]
 rw [if_pos h2,if_neg (show ¬ (Bj f.2).2≠0 by simp [h2]),AN];by_cases h3:f.1.1=f.2.1.1
 ·rw [if_pos h3,if_neg (show ¬ f.1.1≠f.2.1.1 by simp [h3]),h2]
 ·rw [if_neg h3,if_pos h3]
end Go.Proofs.YthpkjfabdccpdaaGreat.Pl
namespace Go.Proofs.YthpkjfabdccpdaaGreat.Pl
open Go Go.Proofs.YthpkjfabdccpdaaGreat.Sv
def rN (b w:Int):Nat->Nat
 | 0=>0
 | k+1=>rN b w k+if b*2 ^ k<w then 1 else 0
end Go.Proofs.YthpkjfabdccpdaaGreat.Pl
namespace Go.Proofs.YthpkjfabdccpdaaGreat.Pl
open Go Go.Proofs.YthpkjfabdccpdaaGreat.Sv
end Go.Proofs.YthpkjfabdccpdaaGreat.Pl
namespace Go.Proofs.YthpkjfabdccpdaaGreat.Pl
open Go Go.Proofs.YthpkjfabdccpdaaGreat.Sv
theorem Nv {f:CB} (h:BM f=0):(Bj f.2).2=0:=by
 unfold BM at h;by_cases h1:(BP f.1).2=0
 ·rw [if_neg (show ¬ (BP f.1).2≠0 by simp [h1])] at h;by_cases h2:(Bj f.2).2=0
  ·exact h2
  ·rw [if_pos h2] at h;exact absurd h h2
 ·rw [if_pos h1] at h;exact absurd h h1
def ks (B w:Int):Int:=if w=0 then 0 else (rN B w 11:Int)+1
end Go.Proofs.YthpkjfabdccpdaaGreat.Pl
namespace Go.Proofs.YthpkjfabdccpdaaGreat.Pl
open Go Go.Proofs.YthpkjfabdccpdaaGreat.Sv
end Go.Proofs.YthpkjfabdccpdaaGreat.Pl
namespace Go.Proofs.YthpkjfabdccpdaaGreat.Pl
open Go Go.Proofs.YthpkjfabdccpdaaGreat.Sv
theorem Nk : ∀ {l:List AB} {q:H1},Asc (some q) l -> ∀ x∈l,B3 q x.1=true
 | x::l,q,⟨h1,h2⟩,y,hy=>by
  rcases List.mem_cons.1 hy with e | hy
  ·rw [e];exact h1 q rfl
  ·exact DS (h1 q rfl) (Nk h2 y hy)
def l8:List AB->AB->List AB
 | [],x=>[x]
 | y::l,x=>if B3 y.1 x.1=true then y::l8 l x else if y.1=x.1 then y::l else x::y::l
def np (rs:List Ao) (l:List AB):List AB:=rs.foldl (λout r=>r.2.foldl l8 out) l
def jR (x:AB):Bool := !x.2.2.1
def QW (L:AL):List AB:=(np (DI L.2) []).filter jR
end Go.Proofs.YthpkjfabdccpdaaGreat.Pl
namespace Go.Proofs.YthpkjfabdccpdaaGreat.Pl
open Go Go.Proofs.YthpkjfabdccpdaaGreat.Sv
end Go.Proofs.YthpkjfabdccpdaaGreat.Pl
namespace Go.Proofs.YthpkjfabdccpdaaGreat.Pl
open Go Go.Proofs.YthpkjfabdccpdaaGreat.Sv
abbrev cK:=(Int×((List (List AB))×((List Int)×((List AR)×((List Int)×(Int×(Bool×((List UInt8)×(Bool×((List AB)×Int))))))))))
def US (j:Hj):cK:=(j.1,(j.2.1.1,(j.2.1.2.1,(j.2.1.2.2.1,(j.2.1.2.2.2.1,(j.2.1.2.2.2.2,(j.2.2.1.1,(j.2.2.1.2.1,(j.2.2.1.2.2,(j.2.2.2.1,j.2.2.2.2))))))))))
theorem Yy (p:List Hj) (x:Hj) (d:Int):FX (p++[x]) d=(FX p d).or (if x.1=d then some x else none):=by
 unfold FX;rw [List.find?_append]
 congr 1
 rw [List.find?_cons];unfold Yu;rw [DN];by_cases h:x.1=d
 ·rw [if_pos h,show decide (d=x.1)=true by simp [h]]
 ·rw [if_neg h,show decide (d=x.1)=false by simp;exact λe=>h e.symm];rfl
theorem cL {s:BC} (hj:(s.2.1.map (·.1)).Nodup) (hl:s.2.1.length<=1000) (L:AL) (ended:Int) {D:List Int} {i:Nat} {d:Int} (hi:D[i]? = some d):(loop (λ(s13:Int×cK)=>br (Ae s13.1 (s.2.1.length:Int)) (λ_=>AP s13.1 λk14=>ix s.2.1 k14 λx15=>AP (i:Int) λk16=>ix D k16 λx17=>br (BJ x15.1 x17) (λ_=>AP (i:Int) λk18=>ix D k18 λx19=>br (Ai x19 ended) (λ_=>AP s13.1 λk20=>ix s.2.1 k20 λx21=>some (.nx ((AH .i64 s13.1 1,(x21.1,(x21.2.1.1,(x21.2.1.2.1,(x21.2.1.2.2.1,(x21.2.1.2.2.2.1,(x21.2.1.2.2.2.2,(x21.2.2.1.1,(x21.2.2.1.2.1,(x21.2.2.1.2.2,x21.2.2.2))))))))))))) λ_=>some (.nx (AH .i64 s13.1 1,s13.2))) λ_=>some (.nx (AH .i64 s13.1 1,s13.2))) λ_=>some (.dn (((0:Nat),(s13,()))))) ((0:Int),US (Gm L d)))=some (0,(((s.2.1.length:Int),US (HR s L ended d)),())):=by
 refine DC (l:=s.2.1) (σ:=Hj) (s:=((0:Int),US (Gm L d))) (λk j=>((k:Int),US j)) (λls k j => ∃ p,s.2.1=p++ls/\j=(if d=ended then none else FX p d).getD (Gm L d)) (λ_ _ _=>(0,(((s.2.1.length:Int),US (HR s L ended d)),()))) (Gm L d) rfl (by omega) ⟨[],rfl,by split<;>rfl⟩ (λj h => ?_) (λk x ls j hd hx hk h => ?_)
 ·obtain ⟨p,h1,rfl⟩:=h;rw [List.append_nil] at h1;simp only;rw [re,AV,<- h1];rfl
 ·obtain ⟨p,h1,rfl⟩:=h
  have hp:x.1 ∉ p.map (·.1):=λhm=>by
   rw [h1,List.map_append,List.nodup_append] at hj;exact hj.2.2 _ hm x.1 (by simp) rfl
  refine ⟨(if d=ended then none else FX (p++[x]) d).getD (Gm L d),?_,⟨p++[x],by rw [h1];simp,rfl⟩,rfl⟩
  simp only;rw [rl hk,AM,AE,AI hx,AE,AI hi,BI,AZ (by omega),Yy];by_cases h2:x.1=d
  ·rw [if_pos h2,AE,AI hi,AN,AE,AI hx,if_pos h2];by_cases h3:d=ended
   ·rw [if_pos h3,if_pos h3,if_pos h3]
   ·rw [if_neg h3,if_neg h3,Pn (by rw [<- h2];exact hp)];rfl
  ·rw [if_neg h2,if_neg h2];have:(FX p d).or none=FX p d:=by cases FX p d<;>rfl
   rw [this]
theorem Vo {s:BC} (hj:(s.2.1.map (·.1)).Nodup) (hl:s.2.1.length<=1000) {L:AL} (v:VLev L) (next ended:Int):loop (λ(s9:(Int×(Int×((List (List Ao))×((List Hj)×Int)))))=>br (Ae s9.1 ((Bc 0 L.2).length:Int)) (λ_=>AP s9.1 λk10=>ix (Bc 0 L.2) k10 λx11=>bd (Dm (((s9.2.1,s9.2.2.1),x11))) λr12=>bd (loop (λ(s13:Int×cK)=>br (Ae s13.1 (s.2.1.length:Int)) (λ_=>AP s13.1 λk14=>ix s.2.1 k14 λx15=>AP s9.1 λk16=>ix (Bc 0 L.2) k16 λx17=>br (BJ x15.1 x17) (λ_=>AP s9.1 λk18=>ix (Bc 0 L.2) k18 λx19=>br (Ai x19 ended) (λ_=>AP s13.1 λk20=>ix s.2.1 k20 λx21=>some (.nx ((AH .i64 s13.1 1,(x21.1,(x21.2.1.1,(x21.2.1.2.1,(x21.2.1.2.2.1,(x21.2.1.2.2.2.1,(x21.2.1.2.2.2.2,(x21.2.2.1.1,(x21.2.2.1.2.1,(x21.2.2.1.2.2,x21.2.2.2))))))))))))) λ_=>some (.nx (AH .i64 s13.1 1,s13.2))) λ_=>some (.nx (AH .i64 s13.1 1,s13.2))) λ_=>some (.dn (((0:Nat),(s13,()))))) (((0:Int),(r12.1.1,(r12.1.2.1.1,(r12.1.2.1.2.1,(r12.1.2.1.2.2.1,(r12.1.2.1.2.2.2.1,(r12.1.2.1.2.2.2.2,(r12.1.2.2.1.1,(r12.1.2.2.1.2.1,(r12.1.2.2.1.2.2,r12.1.2.2.2)))))))))))) λr22=>gd (Aj (AK s9.2.2.2.1.length [((r22.2.1.2.1,((r22.2.1.2.2.1,(r22.2.1.2.2.2.1,(r22.2.1.2.2.2.2.1,(r22.2.1.2.2.2.2.2.1,r22.2.1.2.2.2.2.2.2.1)))),((r22.2.1.2.2.2.2.2.2.2.1,(r22.2.1.2.2.2.2.2.2.2.2.1,r22.2.1.2.2.2.2.2.2.2.2.2.1)),r22.2.1.2.2.2.2.2.2.2.2.2.2))):Hj)].length) 1048576) λ_=>some (.nx ((AH .i64 s9.1 1,(s9.2.1,(s9.2.2.1,(Bl s9.2.2.2.1 ([(r22.2.1.2.1,((r22.2.1.2.2.1,(r22.2.1.2.2.2.1,(r22.2.1.2.2.2.2.1,(r22.2.1.2.2.2.2.2.1,r22.2.1.2.2.2.2.2.2.1)))),((r22.2.1.2.2.2.2.2.2.2.1,(r22.2.1.2.2.2.2.2.2.2.2.1,r22.2.1.2.2.2.2.2.2.2.2.2.1)),r22.2.1.2.2.2.2.2.2.2.2.2.2)))]),s9.2.2.2.2))))))) λ_=>some (.dn (((0:Nat),(s9,()))))) (((0:Int),(L.1,(L.2,(([]:List Hj),next)))))=some (0,((((Bc 0 L.2).length:Int),(L.1,(L.2,((Bc 0 L.2).map (HR s L ended),next)))),())):=by
 have hv:=v.len;have hd:=F8 L.2 0;refine DC (l:=Bc 0 L.2) (σ:=List Hj) (λi js=>((i:Int),(L.1,(L.2,(js,next))))) (λls i js=>js++ls.map (HR s L ended)=(Bc 0 L.2).map (HR s L ended)) (λ_ _ _=>(0,((((Bc 0 L.2).length:Int),(L.1,(L.2,((Bc 0 L.2).map (HR s L ended),next)))),()))) [] rfl (by omega) rfl (λjs h => ?_) (λi d ls js hdr hi hk h => ?_)
 ·simp only;rw [re,AV,<- h];simp
 ·refine ⟨js++[HR s L ended d],?_,by rw [<- h];simp,rfl⟩;obtain ⟨n,r0,r1,hdn,hn⟩:=Xl (List.mem_of_getElem? hi);have hb:=Yx v (n:=n) (by rw [SO.1 hn];rfl);rw [<- hdn] at hb
  have hm:js.length<=1000:=by
   have h4:=congrArg List.length h;rw [List.length_append,List.length_map,List.length_map] at h4;omega
  simp only;rw [rl hk,AM,AE,AI hi];have hb':Dm ((L.1,L.2),d)=some (Gm L d,0):=hb;rw [hb',AC];refine A7 (cL hj hl L ended hi) ?_;rw [BE (by simp only [AK,List.length_cons,List.length_nil];omega),AZ (by omega)];rfl
end Go.Proofs.YthpkjfabdccpdaaGreat.Pl
namespace Go.Proofs.YthpkjfabdccpdaaGreat.Pl
open Go Go.Proofs.YthpkjfabdccpdaaGreat.Sv
theorem cM (L:AL) (n:Nat):Dd (L,(n:Int))=some (Ar L.2 n):=by
 unfold Dd;simp only [AU,AO];rw [D0];by_cases h:n<L.2.length
 ·rw [if_neg (by omega),AE,AI (Dr h)]
 ·rw [if_pos (by omega)];unfold Ar;rw [List.getElem?_eq_none (by omega)];rfl
end Go.Proofs.YthpkjfabdccpdaaGreat.Pl
namespace Go.Proofs.YthpkjfabdccpdaaGreat.Pl
open Go Go.Proofs.YthpkjfabdccpdaaGreat.Sv
theorem Yz {t:BC} (h:t=zS\/VSt t):EI (t,t)=some true:=by
 rcases h with h | h
 ·rw [h];exact lz
 ·exact Vn h
end Go.Proofs.YthpkjfabdccpdaaGreat.Pl
namespace Go.Proofs.YthpkjfabdccpdaaGreat.Pl
open Go Go.Proofs.YthpkjfabdccpdaaGreat.Sv
theorem Jq {α β γ δ:Type} {f:α->Option (LR δ γ)} {s:α} {k:δ->Option β} {k2:γ->Option β} {x:δ} (h:f s=some (.nx x)):jn f s k k2=k x:=by
 unfold jn;rw [h]
theorem jS {L:AL} (v:VLev L) {n:Nat} (hn:n<12) {x:Ao} (hx:x.2.length<=1048576) (hid : ∀ y∈L.2.flatten,y.1≠x.1) (hl:(Ar L.2 n).length<2) :
  E5 (L,((n:Int),x))=some (if kR [] (Bn L.1 n) x≠0 then ((0,[]),kR [] (Bn L.1 n) x) else (E4 L n (Ar L.2 n++[x]),0)):=by
 have hv:=v.len;have hnl:=KU L.2 v.two;unfold E5;simp only [AU,AO];rw [cA v,AC,if_neg (by omega),AN,if_pos rfl,Ph v,AC];refine A7 (DC (l:=DI L.2) (σ:=List Int) (s:=(([]:List Int),(0:Int))) (λi m=>(m,(i:Int))) (λls i m=>m++ls.map Xa=(DI L.2).map Xa) (λ_ _ _=>(0,(((DI L.2).map Xa,((DI L.2).length:Int)),()))) [] rfl (by omega) rfl (λm h => ?_) (λi r ls m hd hi hlt h => ?_)) ?_
 ·simp only;rw [re,AV,<- h];simp
 ·refine ⟨m++[Xa r],?_,by rw [<- h];simp,rfl⟩
  have hm:m.length<=1000:=by
   have h4:=congrArg List.length h;rw [List.length_append,List.length_map,List.length_map] at h4;omega
  simp only;rw [rl hlt,AM,AE,AI hi,BE (by simp only [AK,List.length_cons,List.length_nil];omega),AZ (by omega)];rfl
 have hni:x.1 ∉ (DI L.2).map Xa:=λhm=>by
  obtain ⟨y,hy,e⟩:=List.mem_map.1 hm;obtain ⟨rs,h1,h2⟩:=List.mem_flatMap.1 hy;exact hid y (List.mem_flatten.2 ⟨rs,h1,List.mem_reverse.1 h2⟩) e
 have hk:kR ((DI L.2).map Xa) (Bn L.1 n) x=kR [] (Bn L.1 n) x:=by
  rw [bn,if_neg hni];split
  ·rename_i h;exact h.symm
  ·rfl
 have small : ∀ i,(Ar L.2 i).length<=1048576:=λi=>by have:=(v.own i).1;omega
 have hW:=cJ (L:=L) (n:=n) (r:=Ar L.2 n++[x]) (by omega) (by omega) (by simp;omega) small;rw [Tz v.B1 v.B2 (by omega),AC,UA _ _ _ (by omega) (by simp;omega),hk,AC,BI];by_cases h0:kR [] (Bn L.1 n) x=0;rotate_left
 ·rw [if_neg h0,if_pos h0,AN,if_neg h0]
 rw [if_pos h0,if_neg (by simp [h0]),D0]
 have fin:(bd (Dd (L,(n:Int))) λr8=>gd (Aj r8.length 1048576) λ_=>gd (Aj (AK r8.length [x].length) 1048576) λ_=>bd (Dc (L,((n:Int),Bl r8 [x]))) λr9=>some (r9,(0:Int)))=some (E4 L n (Ar L.2 n++[x]),0):=by
  rw [cM,AC,BE (by omega),BE (by simp only [AK,List.length_cons,List.length_nil];omega)];exact A7 hW rfl
 by_cases h3:n<L.2.length
 ·rw [if_neg (by omega),AE,AI (Dr h3),BI,if_neg (by omega),AN,if_pos h0];exact fin
 ·rw [if_pos (by omega),AN,if_pos h0];exact fin
theorem Vp {s:BC} (m:Sm s) {l:List AB} (hl:l.length<=1000):E6 (s,l)=some (Jf s l):=by
 unfold E6 Jf;rw [lx m,AC];simp only [AU,AO];by_cases h0:(Bj s).2=0;rotate_left
 ·rw [if_pos h0];refine (Jq (x:=(Bj s).2) (Jq (x:=false) (by rw [BI,if_neg h0]) |>.trans rfl)).trans ?_;rw [AN,if_neg h0];rfl
 have v:=IW.1 h0;have hn1:=v.n1;have hlv:=v.lev.len;rw [if_neg (by simp [h0])];have h2le:=(v.lev.own 0).1;by_cases h1:s.2.2>1000000\/2<=(Ar s.1.2 0).length
 ·rw [if_pos h1]
  refine (Jq (x:=(5:Int)) (Jq (x:=true) (by
   rw [BI,if_pos h0,Av];by_cases h2:s.2.2>1000000
   ·rw [if_pos h2]
   ·rw [if_neg h2];have h3:2<=(Ar s.1.2 0).length:=by omega
    have h4:0<s.1.2.length:=by
     by_cases h:0<s.1.2.length
     ·exact h
     ·unfold Ar at h3;rw [List.getElem?_eq_none (by omega)] at h3;simp at h3
    rw [D0,if_neg (by omega),AI (Dr h4)]
    rw [show BJ ((Ar s.1.2 0).length:Int) 2=true by rw [DN];simp;omega]) |>.trans rfl)).trans ?_
  rfl
 rw [if_neg h1]
 refine (Jq (x:=(Bj s).2) (Jq (x:=false) (by
   rw [BI,if_pos h0,Av,if_neg (by omega),D0];by_cases h4:0<s.1.2.length
   ·rw [if_neg (by omega),AI (Dr h4)];rw [show BJ ((Ar s.1.2 0).length:Int) 2=false by rw [DN];simp;omega]
   ·rw [if_pos (by omega)]) |>.trans rfl)).trans ?_
 rw [AN,if_pos h0,Xe _ (by simp only;omega),AC,if_neg (show ¬ (s.2.2<1\/s.2.2>1000000) by omega)];have hkr:=l7 v (by omega:s.2.2<=1000000) l;by_cases h3:(Cd l).2=0;rotate_left
 ·rw [if_pos h3];refine (Jq (x:=(Cd l).2) (Jq (x:=false) (by rw [BI,if_neg h3]) |>.trans rfl)).trans ?_;rw [AN,if_neg h3];rfl
 rw [if_neg (by simp [h3])];rw [if_neg (by simp [h3])] at hkr;by_cases h4:l.length=0
 ·rw [if_pos h4] at hkr;rw [if_pos (by rw [hkr];decide),hkr]
  refine (Jq (x:=(4:Int)) (Jq (x:=true) (by
   rw [BI,if_pos h3,show BJ (l.length:Int) 0=true by rw [DN];simp;exact List.length_eq_zero_iff.1 h4]) |>.trans rfl)).trans ?_
  rfl
 refine (Jq (x:=(Cd l).2) (Jq (x:=false) (by
   rw [BI,if_pos h3,show BJ (l.length:Int) 0=false by rw [DN];simp;exact λe=>h4 (by rw [e];rfl)]) |>.trans rfl)).trans ?_
 have hA:=jS v.lev (n:=0) (by omega) (x:=(s.2.2,l)) (by simp only;omega) (Pp v) (by omega);rw [AN,if_pos h3];refine A7 hA ?_;by_cases h5:kR [] (Bn s.1.1 0) (s.2.2,l)=0;rotate_left
 ·rw [if_pos h5,if_pos h5,AN,if_neg h5];rfl
 rw [if_neg (by simp [h5]),if_neg (by simp [h5]),AN,if_pos rfl];have hlev:=Oa v (by omega) h5;have hjs:=v.jsmall;have hdl:=hlev.len;rw [CV (by omega)];show (bd (Cy (UR s l)) λr14=>_)=_;rw [Xf (by omega),AC];exact A7 (Vo v.nodup (by omega) hlev (s.2.2+1) (-1)) rfl
theorem UT {s:BC} (l:List AB):(Jf s l).1=zS\/VSt (Jf s l).1:=by
 unfold Jf;by_cases h0:(Bj s).2=0;rotate_left
 ·rw [if_pos h0];exact .inl rfl
 rw [if_neg (by simp [h0])];by_cases h1:s.2.2>1000000\/2<=(Ar s.1.2 0).length
 ·rw [if_pos h1];exact .inl rfl
 rw [if_neg h1];by_cases h3:(Cd l).2=0;rotate_left
 ·rw [if_pos h3];exact .inl rfl
 rw [if_neg (by simp [h3])];by_cases h5:kR [] (Bn s.1.1 0) (s.2.2,l)=0;rotate_left
 ·rw [if_pos h5];exact .inl rfl
 rw [if_neg (by simp [h5])];exact .inr (jQ (IW.1 h0) (by omega) h5 (by omega))
end Go.Proofs.YthpkjfabdccpdaaGreat.Pl
namespace Go.Proofs.YthpkjfabdccpdaaGreat.Pl
open Go Go.Proofs.YthpkjfabdccpdaaGreat.Sv
end Go.Proofs.YthpkjfabdccpdaaGreat.Pl
namespace Go.Proofs.YthpkjfabdccpdaaGreat.Pl
open Go Go.Proofs.YthpkjfabdccpdaaGreat.Sv
end Go.Proofs.YthpkjfabdccpdaaGreat.Pl
namespace Go.Proofs.YthpkjfabdccpdaaGreat.Pl
open Go Go.Proofs.YthpkjfabdccpdaaGreat.Sv
theorem Y5 {α:Type} (l:List α) (k:Nat):B0 l 0 k=l.take k:=by unfold B0;simp
end Go.Proofs.YthpkjfabdccpdaaGreat.Pl
namespace Go.Proofs.YthpkjfabdccpdaaGreat.Pl
open Go Go.Proofs.YthpkjfabdccpdaaGreat.Sv
end Go.Proofs.YthpkjfabdccpdaaGreat.Pl
namespace Go.Proofs.YthpkjfabdccpdaaGreat.Pl
open Go Go.Proofs.YthpkjfabdccpdaaGreat.Sv
theorem ku {a:Int} (h : -9223372036854775808<=a/\a<=9223372036854775807):ST .i64 a=a:=by
 have:=CV (a:=a) (b:=0) (by omega);unfold AH at this;rw [Int.add_zero] at this;exact this
end Go.Proofs.YthpkjfabdccpdaaGreat.Pl
