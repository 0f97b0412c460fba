/- Functions of the program and of the specification as plain functions, and laws about them. No condition. -/
import Derived.Test.YtfipnhjfbebeiabGreatDoorPs3
set_option linter.all false
open List renaming getElem?_eq_getElem->eg, getElem?_eq_none->a9, getElem?_eq_some_iff->a8, getElem_mem->ym, head?->xk, head?_drop->sr, mem_cons->ey, mem_of_getElem?->bo, tail->tT, tail_drop->rY
open Nat renaming lt_of_not_le->nP
open Bool renaming and_eq_true->ya, false_eq_true->ll, or_eq_true->yo
namespace Go.Proofs.YtfipnhjfbebeiabGreatDoor.Pl
section
open Go Sv
abbrev Tj:=((List UInt8)×((List UInt8)×(Bool×Int)))
abbrev UN:=(Int×(List Tj))
abbrev Tl:=(Int×(List (List UN)))
abbrev UG:=((List UInt8)×Bool)
abbrev Vz:=((List UG)×((List Int)×Int))
abbrev Va:=((List (List Tj))×((List Int)×Vz))
abbrev qW:=(Va×((Bool×UG)×((List Tj)×Int)))
abbrev qJ:=(Int×qW)
abbrev qS:=(Tl×((List qJ)×Int))
abbrev qF:=(UN×qS)
abbrev qL:=(Int×((List (List UN))×((List qJ)×Int)))
abbrev qM:=((List (List Tj))×((List Int)×((List UG)×((List Int)×(Int×(Bool×((List UInt8)×(Bool×((List Tj)×Int)))))))))
abbrev Uk:=(Bool×((List UInt8)×Bool))
abbrev Xi:=(Va×(Uk×((List Tj)×Int)))
abbrev Job:=(Int×Xi)
abbrev Th:=(Tl×((List Job)×Int))
abbrev jW:=(Int×(Int×(Int×(Int×(Int×(Int×(Int×(Int×(Int×(Int×(Int×Int)))))))))))
abbrev Wz:=(UN×Th)
def W3 (x:(List UInt8)):Option Int :=
 br (S6 (Ki (Mj x)) 32) (λ_=>some 3) λ_=>some 0
def U1 (x:Tj):Option Int :=
 bd (W3 x.1) λa=>br (Ry a 0) (λ_=>some 3) λ_=>br (S6 (Ki (Mj x.2.1)) 64) (λ_=>some 3) λ_=>br x.2.2.1 (λ_=>br (Hg (seq x.2.1 [])) (λ_=>some 6) λ_=>br (S8 x.2.2.2 1) (λ_=>some 7) λ_=>br (S6 x.2.2.2 1000000000) (λ_=>some 7) λ_=>some 0) λ_=>br (S8 x.2.2.2 1) (λ_=>some 7) λ_=>br (S6 x.2.2.2 1000000000) (λ_=>some 7) λ_=>some 0
def UT (x:(List Tj)):Option (Int×Int) :=
 br (S6 (Ki (AS x)) 5000) (λ_=>some (((-1),3))) λ_=>bd (loop (λs0=>br (S8 s0.2.2 (Ki (AS x))) (λ_=>R1 s0.2.2 λd=>ix x d λc=>bd (U1 c) λb=>br (Ry b 0) (λ_=>some (.dn ((0,((b,(s0.2.2,s0.2.2)),()))))) λ_=>br (S6 s0.2.2 0) (λ_=>R1 (SK .i64 s0.2.2 1) λe=>ix x e λf=>br (Hg (SV f.1 c.1)) (λ_=>some (.dn ((0,((6,(s0.2.2,s0.2.2)),()))))) λ_=>some (.nx ((s0.1,(s0.2.1,SF .i64 s0.2.2 1))))) λ_=>some (.nx ((s0.1,(s0.2.1,SF .i64 s0.2.2 1))))) λ_=>some (.dn ((1,(s0,()))))) ((0,(0,0)))) λa=>br (neq a.1 0) (λ_=>some (a.2.1.2.1,a.2.1.1)) λ_=>some (0,0)
def Xs (x:UN):Option (Int×Int) :=
 br (S8 x.1 1) (λ_=>some (((-1),7))) λ_=>br (S6 x.1 1000000) (λ_=>some (((-1),7))) λ_=>bd (UT x.2) λa=>some a
def Vn (x:(UN×Int)):Option Int :=
 bd (Xs x.1) λa=>br (Ry a.2 0) (λ_=>some a.2) λ_=>br (Oa (Ki (AS x.1.2)) 0) (λ_=>some 4) λ_=>br (S6 (Ki (AS x.1.2)) x.2) (λ_=>some 3) λ_=>some 0
def VW (x:Tl):Option (Int×(Int×Int)) :=
 br (S8 x.1 1) (λ_=>some ((0,(0,7)))) λ_=>br (S6 x.1 16) (λ_=>some ((0,(0,7)))) λ_=>br (S6 (Ki (AS x.2)) 12) (λ_=>some ((0,(0,3)))) λ_=>bd (loop (λs0=>br (S8 s0.2.2.2.1 (Ki (AS x.2))) (λ_=>R1 s0.2.2.2.1 λo=>ix x.2 o λk=>br (S6 (Ki (AS k)) 2) (λ_=>some (.dn ((0,((0,(s0.2.2.2.1,(3,s0.2.2.2))),()))))) λ_=>bd (loop (λa=>br (S8 a.2.1 (Ki (AS k))) (λ_=>R1 a.2.1 λp=>ix k p λe=>gd (Rx s0.2.2.2.1 0) λ_=>bd (Vn (e,Rb .i64 x.1 s0.2.2.2.1)) λd=>br (Oa d 0) (λ_=>br (SO (MU ((λl=>(λm=>Oa l m))) a.2.2.2 e.1) false) (λ_=>some (.dn ((0,((a.2.1,(a.2.1,(8,a.2.2.2))),()))))) λ_=>br (Ry d 0) (λ_=>some (.dn ((0,((a.2.1,(a.2.1,(d,a.2.2.2))),()))))) λ_=>some (.nx ((a.2.1,(SF .i64 a.2.1 1,(d,IT ((λn=>(λf=>Oa n f))) a.2.2.2 e.1 true)))))) λ_=>br (Ry d 0) (λ_=>some (.dn ((0,((a.2.1,(a.2.1,(d,a.2.2.2))),()))))) λ_=>some (.nx ((a.2.1,(SF .i64 a.2.1 1,(d,IT ((λg=>(λh=>Oa g h))) a.2.2.2 e.1 true)))))) λ_=>some (.dn ((1,(a,()))))) ((0,(0,(s0.2.2.1,s0.2.2.2.2))))) λb=>br (neq b.1 0) (λ_=>some (.dn ((0,((b.2.1.1,(s0.2.2.2.1,(b.2.1.2.2.1,(s0.2.2.2.1,b.2.1.2.2.2)))),()))))) λ_=>some (.nx ((b.2.1.1,(s0.2.2.2.1,(b.2.1.2.2.1,(SF .i64 s0.2.2.2.1 1,b.2.1.2.2.2))))))) λ_=>some (.dn ((0,(s0,()))))) ((0,(0,(0,(0,[])))))) λc=>br (Ry c.2.1.2.2.1 0) (λ_=>some ((c.2.1.2.1,(c.2.1.1,c.2.1.2.2.1)))) λ_=>br (S6 (Ki (AS x.2)) 0) (λ_=>R1 (SK .i64 (Ki (AS x.2)) 1) λi=>ix x.2 i λj=>br (Oa (Ki (AS j)) 0) (λ_=>some ((SK .i64 (Ki (AS x.2)) 1,(0,6)))) λ_=>some ((0,(0,0)))) λ_=>some ((0,(0,0)))
def Wo (x:Tl):Option Int :=
 bd (loop (λs0=>br (S8 s0.2 (Ki (AS x.2))) (λ_=>R1 s0.2 λc=>ix x.2 c λb=>bd (loop (λa=>br (S8 a.1 (Ki (AS b))) (λ_=>R1 a.1 λd=>ix b d λg=>some (.nx (SF .i64 a.1 1,TY a.2 g.1))) λ_=>some (.dn ((0,(a,()))))) (0,s0.1)) λe=>some (.nx (e.2.1.2,SF .i64 s0.2 1))) λ_=>some (.dn ((0,(s0,()))))) (0,0)) λf=>some f.2.1.1
def Vm (x:(Tl×Int)):Option Bool :=
 some (Oa x.2 (SK .i64 (Ki (AS x.1.2)) 1))
def V9 (x:(List (List Tj))):Option (Int×Int) :=
 br (Oa (Ki (AS x)) 0) (λ_=>some (((-1),6))) λ_=>br (S6 (Ki (AS x)) 32) (λ_=>some (((-1),3))) λ_=>bd (loop (λs0=>br (S8 s0.2.2 (Ki (AS x))) (λ_=>R1 s0.2.2 λc=>ix x c λd=>bd (UT d) λb=>br (Ry b.2 0) (λ_=>some (.dn ((0,((b.2,(s0.2.2,s0.2.2)),()))))) λ_=>some (.nx ((s0.1,(s0.2.1,SF .i64 s0.2.2 1))))) λ_=>some (.dn ((1,(s0,()))))) ((0,(0,0)))) λa=>br (neq a.1 0) (λ_=>some (a.2.1.2.1,a.2.1.1)) λ_=>some (0,0)
def VY (x:Bool):Option (Bool×UG) :=
 some ((false,([],x)))
def Tw (x:(List (List Tj))):Option (List (List Tj)) :=
 gd (CF (AS x) 1048576) λ_=>some x
def UU (x:((List Tj)×Int)):Option UG :=
 br (Oa x.2 (Ki (AS x.1))) (λ_=>some ([],true)) λ_=>R1 x.2 λa=>ix x.1 a λb=>some (b.1,false)
def V3 (x:UG):Option Bool :=
 br x.2 (λ_=>some (Hg (seq x.1 []))) λ_=>some false
def V7 (x:(List UG)):Option Int :=
 br (Oa (Ki (AS x)) 0) (λ_=>some 6) λ_=>br (S6 (Ki (AS x)) 32) (λ_=>some 3) λ_=>bd (loop (λs0=>br (S8 s0.2 (Ki (AS x))) (λ_=>R1 s0.2 λb=>ix x b λd=>bd (V3 d) λc=>br c (λ_=>some (.dn ((0,((s0.2,s0.2),()))))) λ_=>some (.nx (s0.1,SF .i64 s0.2 1))) λ_=>some (.dn ((1,(s0,()))))) (0,0)) λa=>br (neq a.1 0) (λ_=>br (Rx a.2.1.1 0) (λ_=>some 2) λ_=>some 0) λ_=>br (Rx (-1) 0) (λ_=>some 2) λ_=>some 0
def Tx (x:(List UG)):Option (List UG) :=
 gd (CF (AS x) 1048576) λ_=>some x
def W5 (x:(List UG)):Option Vz :=
 R1 (SG .i64 2 (Ki (AS x))) λS=>R1 (SG .i64 2 (Ki (AS x))) λz=>gd (CF z 1048576) λ_=>bd (Tx x) λC=>R1 (Ki (AS x)) λU=>R1 (Ki (AS x)) λA=>gd (CF A 1048576) λ_=>bd (loop (λa=>br (S6 a.1 0) (λ_=>br (Rx a.1 (Ki (AS x))) (λ_=>R1 a.1 λw=>gd (KJ w (AS a.2.1)) λ_=>ix a.2.1 w λW=>some (.nx ((SK .i64 a.1 1,(lset a.2.1 w (SK .i64 a.1 (Ki (AS x))),a.2.2))))) λ_=>R1 (SG .i64 2 a.1) λB=>gd (KJ B (AS a.2.1)) λ_=>ix a.2.1 B λe=>R1 (SF .i64 (SG .i64 2 a.1) 1) λs=>gd (KJ s (AS a.2.1)) λ_=>ix a.2.1 s λb=>R1 e λt=>ix x t λr=>R1 b λu=>ix x u λd=>br (Hg (beq r.2 d.2)) (λ_=>br (Hg d.2) (λ_=>R1 a.1 λf=>gd (KJ f (AS a.2.1)) λ_=>ix a.2.1 f λD=>R1 a.1 λg=>gd (KJ g (AS a.2.2.2.1)) λ_=>ix a.2.2.2.1 g λE=>some (.nx ((SK .i64 a.1 1,(lset a.2.1 f b,(a.2.2.1,(lset a.2.2.2.1 g e,a.2.2.2.2))))))) λ_=>R1 a.1 λh=>gd (KJ h (AS a.2.1)) λ_=>ix a.2.1 h λF=>R1 a.1 λi=>gd (KJ i (AS a.2.2.2.1)) λ_=>ix a.2.2.2.1 i λG=>some (.nx ((SK .i64 a.1 1,(lset a.2.1 h e,(a.2.2.1,(lset a.2.2.2.1 i b,a.2.2.2.2))))))) λ_=>br (Hg (seq r.1 d.1)) (λ_=>br (Hg (SV r.1 d.1)) (λ_=>R1 a.1 λj=>gd (KJ j (AS a.2.1)) λ_=>ix a.2.1 j λI=>R1 a.1 λk=>gd (KJ k (AS a.2.2.2.1)) λ_=>ix a.2.2.2.1 k λJ=>some (.nx ((SK .i64 a.1 1,(lset a.2.1 j b,(a.2.2.1,(lset a.2.2.2.1 k e,a.2.2.2.2))))))) λ_=>R1 a.1 λl=>gd (KJ l (AS a.2.1)) λ_=>ix a.2.1 l λK=>R1 a.1 λm=>gd (KJ m (AS a.2.2.2.1)) λ_=>ix a.2.2.2.1 m λL=>some (.nx ((SK .i64 a.1 1,(lset a.2.1 l e,(a.2.2.1,(lset a.2.2.2.1 m b,a.2.2.2.2))))))) λ_=>br (Hg (S8 e b)) (λ_=>R1 a.1 λn=>gd (KJ n (AS a.2.1)) λ_=>ix a.2.1 n λM=>R1 a.1 λo=>gd (KJ o (AS a.2.2.2.1)) λ_=>ix a.2.2.2.1 o λN=>some (.nx ((SK .i64 a.1 1,(lset a.2.1 n b,(a.2.2.1,(lset a.2.2.2.1 o e,a.2.2.2.2))))))) λ_=>R1 a.1 λp=>gd (KJ p (AS a.2.1)) λ_=>ix a.2.1 p λO=>R1 a.1 λq=>gd (KJ q (AS a.2.2.2.1)) λ_=>ix a.2.2.2.1 q λP=>some (.nx ((SK .i64 a.1 1,(lset a.2.1 p e,(a.2.2.1,(lset a.2.2.2.1 q b,a.2.2.2.2))))))) λ_=>some (.dn ((0,(a,()))))) ((SK .i64 (SG .i64 2 (Ki (AS x))) 1,(Rd z 0,(C,(Rd A 0,(0:Int))))))) λc=>gd (KJ 1 (AS c.2.1.2.1)) λ_=>ix c.2.1.2.1 1 λy=>some ((c.2.1.2.2.1,(c.2.1.2.2.2.1,y)))
def VQ (x:(List UG)):Option (Vz×Int) :=
 bd (V7 x) λa=>br (Ry a 0) (λ_=>some ((([],([],0)),a))) λ_=>bd (W5 x) λb=>some (b,0)
def XE (x:((List (List Tj))×Bool)):Option (qW×(Int×Int)) :=
 bd (V9 x.1) λe=>br (Ry e.2 0) (λ_=>br (Ry e.2 0) (λ_=>some (((([],([],([],([],0)))),((false,([],false)),([],0))),e))) λ_=>bd (VY x.2) λm=>some (((([],([],([],([],0)))),(m,([],0))),(0,0)))) λ_=>R1 (Ki (AS x.1)) λq=>R1 (Ki (AS x.1)) λd=>gd (CF d 1048576) λ_=>bd (Tw x.1) λn=>R1 (Ki (AS x.1)) λr=>R1 (Ki (AS x.1)) λk=>gd (CF k 1048576) λ_=>bd (loop (λa=>br (S8 a.1 (Ki (AS x.1))) (λ_=>R1 a.1 λl=>ix x.1 l λp=>R1 a.1 λc=>gd (KJ c (AS (Rd d (0:Int)))) λ_=>ix (Rd d 0) c λj=>bd (UU (p,j)) λf=>R1 a.1 λb=>gd (KJ b (AS a.2)) λ_=>ix a.2 b λo=>some (.nx (SF .i64 a.1 1,lset a.2 b f))) λ_=>some (.dn ((0,(a,()))))) ((0,Rd k ([],false)))) λg=>bd (VQ g.2.1.2) λh=>bd (VY x.2) λi=>some ((((n,(Rd d 0,h.1)),(i,([],0))),(0,0)))
def VN (x:(Tl×(Int×Bool))):Option qJ :=
 R1 x.2.1 λb=>ix x.1.2 b λa=>ix a 1 λd=>ix a 0 λe=>bd (XE ([d.2,e.2],x.2.2)) λc=>some (x.2.1,c.1)
def W6 (x:((List (List Tj))×(List Int))):Option Vz :=
 R1 (Ki (AS x.1)) λj=>R1 (Ki (AS x.1)) λd=>gd (CF d 1048576) λ_=>bd (loop (λs2=>br (S8 s2.1 (Ki (AS x.1))) (λ_=>R1 s2.1 λe=>ix x.1 e λh=>R1 s2.1 λf=>ix x.2 f λi=>bd (UU (h,i)) λg=>R1 s2.1 λa=>gd (KJ a (AS s2.2)) λ_=>ix s2.2 a λk=>some (.nx (SF .i64 s2.1 1,lset s2.2 a g))) λ_=>some (.dn ((0,(s2,()))))) ((0,Rd d ([],false)))) λb=>bd (VQ b.2.1.2) λc=>some c.1
def UF (x:((List UG)×(List UG))):Option Bool :=
 br (Ry (Ki (AS x.1)) (Ki (AS x.2))) (λ_=>some false) λ_=>bd (loop (λs0=>br (S8 s0.1 (Ki (AS x.1))) (λ_=>R1 s0.1 λd=>ix x.1 d λb=>R1 s0.1 λe=>ix x.2 e λc=>br (Hg (Nm (seq b.1 c.1) (Nm (beq b.2 c.2) true))) (λ_=>some (.dn ((0,((s0.1,false),()))))) λ_=>some (.nx (SF .i64 s0.1 1,s0.2))) λ_=>some (.dn ((1,(s0,()))))) (0,false)) λa=>br (neq a.1 0) (λ_=>some a.2.1.2) λ_=>some true
def Tz (x:((List Int)×(List Int))):Option Bool :=
 br (Ry (Ki (AS x.1)) (Ki (AS x.2))) (λ_=>some false) λ_=>bd (loop (λs0=>br (S8 s0.1 (Ki (AS x.1))) (λ_=>R1 s0.1 λb=>ix x.1 b λd=>R1 s0.1 λc=>ix x.2 c λe=>br (Ry d e) (λ_=>some (.dn ((0,((s0.1,false),()))))) λ_=>some (.nx (SF .i64 s0.1 1,s0.2))) λ_=>some (.dn ((1,(s0,()))))) (0,false)) λa=>br (neq a.1 0) (λ_=>some a.2.1.2) λ_=>some true
def Wi (x:(Vz×Vz)):Option Bool :=
 br (Oa x.1.2.2 x.2.2.2) (λ_=>bd (UF (x.1.1,x.2.1)) λa=>br a (λ_=>bd (Tz (x.1.2.1,x.2.2.1)) λb=>some b) λ_=>some false) λ_=>some false
def XU (x:Vz):Option (Int×Int) :=
 bd (V7 x.1) λc=>br (Ry c 0) (λ_=>some (0,c)) λ_=>br (Ry (Ki (AS x.2.1)) (Ki (AS x.1))) (λ_=>some (0,6)) λ_=>bd (W5 x.1) λa=>bd (loop (λs2=>br (S8 s2.2.1 (Ki (AS a.2.1))) (λ_=>R1 s2.2.1 λd=>ix a.2.1 d λf=>R1 s2.2.1 λe=>ix x.2.1 e λg=>br (Ry g f) (λ_=>some (.dn ((0,((6,(s2.2.1,s2.2.1)),()))))) λ_=>some (.nx ((s2.1,(SF .i64 s2.2.1 1,s2.2.2))))) λ_=>some (.dn ((1,(s2,()))))) ((0,(0,0)))) λb=>br (neq b.1 0) (λ_=>some (b.2.1.2.2,b.2.1.1)) λ_=>br (Ry x.2.2 a.2.2) (λ_=>some (0,6)) λ_=>some (0,0)
def W4 (x:Vz):Option Int :=
 bd (XU x) λa=>br (Ry a.2 0) (λ_=>some a.2) λ_=>R1 x.2.2 λb=>ix x.1 b λc=>br c.2 (λ_=>some 12) λ_=>some 0
def VX (x:Vz):Option (Int×((List UInt8)×Int)) :=
 bd (W4 x) λa=>br (Ry a 0) (λ_=>some ((0,([],a)))) λ_=>R1 x.2.2 λb=>ix x.1 b λc=>some ((x.2.2,(c.1,0)))
def V0 (x:(List UInt8)):Option Bool :=
 some (Hg (seq x x))
def Vg (x:((List UInt8)×(List UInt8))):Option Int :=
 bd (V0 x.1) λb=>bd (V0 x.2) λa=>br b (λ_=>br a (λ_=>some 0) λ_=>some (-1)) λ_=>br a (λ_=>some 1) λ_=>br (SV x.1 x.2) (λ_=>some (-1)) λ_=>br (SV x.2 x.1) (λ_=>some 1) λ_=>some 0
def Wn (x:Int):Option Bool :=
 some (Ry x x)
def VE (x:(Int×Int)):Option Int :=
 bd (Wn x.1) λb=>bd (Wn x.2) λa=>br b (λ_=>br a (λ_=>some 0) λ_=>some (-1)) λ_=>br a (λ_=>some 1) λ_=>br (S8 x.1 x.2) (λ_=>some (-1)) λ_=>br (S6 x.1 x.2) (λ_=>some 1) λ_=>some 0
def Xj (x:(List Int)):Option Int :=
 bd (loop (λs0=>br (S8 s0.2 (Ki (AS x))) (λ_=>R1 s0.2 λc=>ix x c λb=>br (Ry b 0) (λ_=>some (.dn ((0,((b,s0.2),()))))) λ_=>some (.nx (s0.1,SF .i64 s0.2 1))) λ_=>some (.dn ((1,(s0,()))))) (0,0)) λa=>br (neq a.1 0) (λ_=>some a.2.1.1) λ_=>some 0
def V8 (x:Va):Option (Int×Int) :=
 bd (V9 x.1) λn=>br (Ry n.2 0) (λ_=>some n) λ_=>br (Ry (Ki (AS x.2.1)) (Ki (AS x.1))) (λ_=>some (((-1),6))) λ_=>bd (loop (λs1=>br (S8 s1.2.2 (Ki (AS x.2.1))) (λ_=>R1 s1.2.2 λp=>ix x.2.1 p λo=>br (S8 o 0) (λ_=>some (.dn ((0,((6,(s1.2.2,s1.2.2)),()))))) λ_=>R1 s1.2.2 λq=>ix x.1 q λt=>br (S6 o (Ki (AS t))) (λ_=>some (.dn ((0,((6,(s1.2.2,s1.2.2)),()))))) λ_=>some (.nx ((s1.1,(s1.2.1,SF .i64 s1.2.2 1))))) λ_=>some (.dn ((1,(s1,()))))) ((0,(0,0)))) λe=>br (neq e.1 0) (λ_=>some (e.2.1.2.1,e.2.1.1)) λ_=>bd (W6 (x.1,x.2.1)) λr=>bd (Wi (x.2.2,r)) λs=>br (Hg s) (λ_=>some (((-1),6))) λ_=>bd (VX x.2.2) λc=>br (Ry c.2.2 0) (λ_=>some (0,0)) λ_=>bd (loop (λa=>br (S8 a.2.2 (Ki (AS x.2.1))) (λ_=>R1 a.2.2 λf=>ix x.2.1 f λd=>br (S6 d 0) (λ_=>R1 a.2.2 λg=>ix x.1 g λl=>R1 (SK .i64 d 1) λh=>ix l h λm=>bd (Vg (m.1,c.2.1)) λi=>bd (VE (a.2.2,c.1)) λj=>bd (Xj ([i,j])) λk=>br (S6 k 0) (λ_=>some (.dn ((0,((6,(c.1,a.2.2)),()))))) λ_=>some (.nx ((a.1,(a.2.1,SF .i64 a.2.2 1))))) λ_=>some (.nx ((a.1,(a.2.1,SF .i64 a.2.2 1))))) λ_=>some (.dn ((1,(a,()))))) ((c.2.2,(e.2.1.2.1,0)))) λb=>br (neq b.1 0) (λ_=>some (b.2.1.2.1,b.2.1.1)) λ_=>some (0,0)
def UE (x:(List Int)):Option (List Int) :=
 gd (CF (AS x) 1048576) λ_=>some x
def UZ (x:(Int×(Int×((List UG)×Unit)))):Option Bool :=
 R1 x.1 λc=>ix x.2.2.1 c λb=>R1 x.2.1 λd=>ix x.2.2.1 d λa=>br (Hg (beq b.2 a.2)) (λ_=>some a.2) λ_=>br (Hg (seq b.1 a.1)) (λ_=>some (SV b.1 a.1)) λ_=>some (S8 x.1 x.2.1)
def VI (x:(Vz×UG)):Option (Vz×(Int×Int)) :=
 bd (W4 x.1) λw=>br (Ry w 0) (λ_=>some ((([],([],0)),(0,w)))) λ_=>bd (V7 [x.2]) λy=>br (Ry y 0) (λ_=>some ((([],([],0)),(0,y)))) λ_=>br (Hg x.2.2) (λ_=>R1 x.1.2.2 λz=>ix x.1.1 z λE=>br (SV x.2.1 E.1) (λ_=>some ((([],([],0)),(0,6)))) λ_=>bd (Tx x.1.1) λm=>bd (UE x.1.2.1) λA=>R1 x.1.2.2 λj=>gd (KJ j (AS m)) λ_=>ix m j λF=>bd (loop (λb=>br (Oa (S9 .i64 b.2.1 2) 0) (λ_=>some (.dn ((0,((b.1,(S9 .i64 b.2.1 2,((),b.2.2.2))),()))))) λ_=>R1 (S9 .i64 b.2.1 2) λu=>gd (KJ u (AS b.2.2.2.1)) λ_=>ix b.2.2.2.1 u λq=>bd (UZ ((q,(b.2.2.2.2,(lset m j x.2,()))))) λn=>br n (λ_=>R1 (S9 .i64 b.2.1 2) λg=>gd (KJ g (AS b.2.2.2.1)) λ_=>ix b.2.2.2.1 g λr=>R1 (S9 .i64 b.2.1 2) λe=>gd (KJ e (AS b.2.2.2.1)) λ_=>ix b.2.2.2.1 e λB=>some (.nx ((SF .i64 b.1 1,(S9 .i64 b.2.1 2,((),(lset b.2.2.2.1 e b.2.2.2.2,r))))))) λ_=>some (.nx ((SF .i64 b.1 1,(S9 .i64 b.2.1 2,((),b.2.2.2)))))) ((0,(SF .i64 (Ki (AS (lset m j x.2))) x.1.2.2,((),(A,x.1.2.2)))))) λk=>some (((lset m j x.2,k.2.1.2.2.2),(k.2.1.1,0)))) λ_=>bd (Tx x.1.1) λd=>bd (UE x.1.2.1) λo=>R1 x.1.2.2 λc=>gd (KJ c (AS d)) λ_=>ix d c λC=>bd (loop (λa=>br (Oa (S9 .i64 a.2.1 2) 0) (λ_=>some (.dn ((0,((a.1,(S9 .i64 a.2.1 2,((),a.2.2.2))),()))))) λ_=>R1 (S9 .i64 a.2.1 2) λh=>gd (KJ h (AS a.2.2.2.1)) λ_=>ix a.2.2.2.1 h λs=>bd (UZ ((s,(a.2.2.2.2,(lset d c x.2,()))))) λp=>br p (λ_=>R1 (S9 .i64 a.2.1 2) λi=>gd (KJ i (AS a.2.2.2.1)) λ_=>ix a.2.2.2.1 i λt=>R1 (S9 .i64 a.2.1 2) λf=>gd (KJ f (AS a.2.2.2.1)) λ_=>ix a.2.2.2.1 f λD=>some (.nx ((SF .i64 a.1 1,(S9 .i64 a.2.1 2,((),(lset a.2.2.2.1 f a.2.2.2.2,t))))))) λ_=>some (.nx ((SF .i64 a.1 1,(S9 .i64 a.2.1 2,((),a.2.2.2)))))) ((0,(SF .i64 (Ki (AS (lset d c x.2))) x.1.2.2,((),(o,x.1.2.2)))))) λl=>some (((lset d c x.2,l.2.1.2.2.2),(l.2.1.1,0)))
def YD (x:(List (List Tj))):Option ((List Tj)×((List Int)×Int)) :=
 bd (V9 x) λt=>br (Ry t.2 0) (λ_=>br (Ry t.2 0) (λ_=>some (([],([],t.2)))) λ_=>bd (loop (λs1=>bd (VX (([],([],0)))) λz=>br (Ry z.2.2 0) (λ_=>br (Ry z.2.2 0) (λ_=>some (.dn ((0,(s1,()))))) λ_=>gd (CF (BF (AS s1.1) (AS ([(([],([],(false,0))):Tj)]))) 1048576) λ_=>gd (CF (BF (AS s1.2) (AS [0])) 1048576) λ_=>none) λ_=>R1 z.1 λW=>none) ([],[])) λO=>some ((O.2.1.1,(O.2.1.2,0)))) λ_=>R1 (Ki (AS x)) λX=>R1 (Ki (AS x)) λq=>gd (CF q 1048576) λ_=>bd (Tw x) λh=>R1 (Ki (AS x)) λY=>R1 (Ki (AS x)) λN=>gd (CF N 1048576) λ_=>bd (loop (λc=>br (S8 c.1 (Ki (AS x))) (λ_=>R1 c.1 λr=>ix x r λE=>R1 c.1 λi=>gd (KJ i (AS (Rd q (0:Int)))) λ_=>ix (Rd q 0) i λF=>bd (UU (E,F)) λu=>R1 c.1 λe=>gd (KJ e (AS c.2)) λ_=>ix c.2 e λP=>some (.nx (SF .i64 c.1 1,lset c.2 e u))) λ_=>some (.dn ((0,(c,()))))) ((0,Rd N ([],false)))) λw=>bd (VQ w.2.1.2) λy=>bd (loop (λa=>bd (VX a.2.2.2.2) λb=>br (Ry b.2.2 0) (λ_=>br (Ry b.2.2 0) (λ_=>some (.dn ((0,((a.1,(a.2.1,((),a.2.2.2))),()))))) λ_=>gd (CF (BF (AS a.1) (AS ([(([],([],(false,0))):Tj)]))) 1048576) λ_=>gd (CF (BF (AS a.2.1) (AS [0])) 1048576) λ_=>gd (KJ 0 (AS a.2.2.2.1)) λ_=>ix a.2.2.2.1 0 λf=>gd (KJ 0 (AS a.2.2.2.1)) λ_=>ix a.2.2.2.1 0 λS=>gd (KJ 0 (AS h)) λ_=>ix h 0 λG=>gd (KJ 0 (AS (lset a.2.2.2.1 0 (SF .i64 f 1)))) λ_=>ix (lset a.2.2.2.1 0 (SF .i64 f 1)) 0 λI=>bd (UU (G,I)) λA=>bd (VI (a.2.2.2.2,A)) λB=>some (.nx ((Il a.1 ([(([],([],(false,0))):Tj)]),(Il a.2.1 [0],((),(lset a.2.2.2.1 0 (SF .i64 f 1),B.1))))))) λ_=>R1 b.1 λj=>gd (KJ j (AS h)) λ_=>ix h j λJ=>R1 b.1 λk=>gd (KJ k (AS a.2.2.2.1)) λ_=>ix a.2.2.2.1 k λK=>R1 K λs=>ix J s λp=>gd (CF (BF (AS a.1) (AS [p])) 1048576) λ_=>gd (CF (BF (AS a.2.1) (AS [b.1])) 1048576) λ_=>R1 b.1 λl=>gd (KJ l (AS a.2.2.2.1)) λ_=>ix a.2.2.2.1 l λg=>R1 b.1 λd=>gd (KJ d (AS a.2.2.2.1)) λ_=>ix a.2.2.2.1 d λU=>R1 b.1 λm=>gd (KJ m (AS h)) λ_=>ix h m λL=>R1 b.1 λn=>gd (KJ n (AS (lset a.2.2.2.1 d (SF .i64 g 1)))) λ_=>ix (lset a.2.2.2.1 d (SF .i64 g 1)) n λM=>bd (UU (L,M)) λC=>bd (VI (a.2.2.2.2,C)) λD=>some (.nx ((Il a.1 [p],(Il a.2.1 [b.1],((),(lset a.2.2.2.1 d (SF .i64 g 1),D.1))))))) (([],([],((),(Rd q 0,y.1)))))) λo=>some ((o.2.1.1,(o.2.1.2.1,0)))
def WS (x:(Bool×UG)):Option Int :=
 bd (W3 x.2.1) λa=>br (Ry a 0) (λ_=>some a) λ_=>br (Hg x.1) (λ_=>br (Hg (seq x.2.1 [])) (λ_=>some 6) λ_=>some 0) λ_=>some 0
def UP (x:Tj):Option Tj :=
 some x
def Wq (x:((List Tj)×Bool)):Option ((List Tj)×(Int×Int)) :=
 br (S6 (Ki (AS x.1)) 20000) (λ_=>some (([],((-1),3)))) λ_=>bd (VY x.2) λn=>bd (loop (λs1=>br (S8 s1.2.1 (Ki (AS x.1))) (λ_=>R1 s1.2.1 λm=>ix x.1 m λa=>bd (WS s1.2.2.2.1) λg=>br (Ry g 0) (λ_=>br (Ry g 0) (λ_=>some (.dn ((0,((g,(s1.2.1,(s1.2.1,s1.2.2.2))),()))))) λ_=>some (.nx ((s1.1,(SF .i64 s1.2.1 1,(s1.2.2.1,((false,([],false)),s1.2.2.2.2))))))) λ_=>bd (U1 a) λh=>br (Ry h 0) (λ_=>br (Ry h 0) (λ_=>some (.dn ((0,((h,(s1.2.1,(s1.2.1,s1.2.2.2))),()))))) λ_=>some (.nx ((s1.1,(SF .i64 s1.2.1 1,(s1.2.2.1,((false,([],false)),s1.2.2.2.2))))))) λ_=>br s1.2.2.2.1.1 (λ_=>br (SV a.1 s1.2.2.2.1.2.1) (λ_=>some (.dn ((0,((6,(s1.2.1,(s1.2.1,s1.2.2.2))),()))))) λ_=>br s1.2.2.2.1.1 (λ_=>br (seq a.1 s1.2.2.2.1.2.1) (λ_=>some (.nx ((s1.1,(SF .i64 s1.2.1 1,(s1.2.2.1,((true,(a.1,s1.2.2.2.1.2.2)),s1.2.2.2.2))))))) λ_=>br s1.2.2.2.1.2.2 (λ_=>br a.2.2.1 (λ_=>some (.nx ((s1.1,(SF .i64 s1.2.1 1,(s1.2.2.1,((true,(a.1,s1.2.2.2.1.2.2)),s1.2.2.2.2))))))) λ_=>bd (UP a) λi=>gd (CF (BF (AS s1.2.2.2.2) (AS [i])) 1048576) λ_=>some (.nx ((s1.1,(SF .i64 s1.2.1 1,(s1.2.2.1,((true,(a.1,s1.2.2.2.1.2.2)),Il s1.2.2.2.2 [i]))))))) λ_=>bd (UP a) λj=>gd (CF (BF (AS s1.2.2.2.2) (AS [j])) 1048576) λ_=>some (.nx ((s1.1,(SF .i64 s1.2.1 1,(s1.2.2.1,((true,(a.1,s1.2.2.2.1.2.2)),Il s1.2.2.2.2 [j]))))))) λ_=>br s1.2.2.2.1.2.2 (λ_=>br a.2.2.1 (λ_=>some (.nx ((s1.1,(SF .i64 s1.2.1 1,(s1.2.2.1,((true,(a.1,s1.2.2.2.1.2.2)),s1.2.2.2.2))))))) λ_=>bd (UP a) λk=>gd (CF (BF (AS s1.2.2.2.2) (AS [k])) 1048576) λ_=>some (.nx ((s1.1,(SF .i64 s1.2.1 1,(s1.2.2.1,((true,(a.1,s1.2.2.2.1.2.2)),Il s1.2.2.2.2 [k]))))))) λ_=>bd (UP a) λl=>gd (CF (BF (AS s1.2.2.2.2) (AS [l])) 1048576) λ_=>some (.nx ((s1.1,(SF .i64 s1.2.1 1,(s1.2.2.1,((true,(a.1,s1.2.2.2.1.2.2)),Il s1.2.2.2.2 [l]))))))) λ_=>br s1.2.2.2.1.1 (λ_=>br (seq a.1 s1.2.2.2.1.2.1) (λ_=>some (.nx ((s1.1,(SF .i64 s1.2.1 1,(s1.2.2.1,((true,(a.1,s1.2.2.2.1.2.2)),s1.2.2.2.2))))))) λ_=>br s1.2.2.2.1.2.2 (λ_=>br a.2.2.1 (λ_=>some (.nx ((s1.1,(SF .i64 s1.2.1 1,(s1.2.2.1,((true,(a.1,s1.2.2.2.1.2.2)),s1.2.2.2.2))))))) λ_=>bd (UP a) λc=>gd (CF (BF (AS s1.2.2.2.2) (AS [c])) 1048576) λ_=>some (.nx ((s1.1,(SF .i64 s1.2.1 1,(s1.2.2.1,((true,(a.1,s1.2.2.2.1.2.2)),Il s1.2.2.2.2 [c]))))))) λ_=>bd (UP a) λd=>gd (CF (BF (AS s1.2.2.2.2) (AS [d])) 1048576) λ_=>some (.nx ((s1.1,(SF .i64 s1.2.1 1,(s1.2.2.1,((true,(a.1,s1.2.2.2.1.2.2)),Il s1.2.2.2.2 [d]))))))) λ_=>br s1.2.2.2.1.2.2 (λ_=>br a.2.2.1 (λ_=>some (.nx ((s1.1,(SF .i64 s1.2.1 1,(s1.2.2.1,((true,(a.1,s1.2.2.2.1.2.2)),s1.2.2.2.2))))))) λ_=>bd (UP a) λe=>gd (CF (BF (AS s1.2.2.2.2) (AS [e])) 1048576) λ_=>some (.nx ((s1.1,(SF .i64 s1.2.1 1,(s1.2.2.1,((true,(a.1,s1.2.2.2.1.2.2)),Il s1.2.2.2.2 [e]))))))) λ_=>bd (UP a) λf=>gd (CF (BF (AS s1.2.2.2.2) (AS [f])) 1048576) λ_=>some (.nx ((s1.1,(SF .i64 s1.2.1 1,(s1.2.2.1,((true,(a.1,s1.2.2.2.1.2.2)),Il s1.2.2.2.2 [f]))))))) λ_=>some (.dn ((1,(s1,()))))) ((0,(0,(0,(n,[])))))) λb=>br (neq b.1 0) (λ_=>br (Ry b.2.1.1 0) (λ_=>some (([],(b.2.1.2.2.1,b.2.1.1)))) λ_=>some ((b.2.1.2.2.2.2,(0,0)))) λ_=>some ((b.2.1.2.2.2.2,(0,0)))
def WT (x:((List Tj)×(List Tj))):Option Bool :=
 br (Ry (Ki (AS x.1)) (Ki (AS x.2))) (λ_=>some false) λ_=>bd (loop (λs0=>br (S8 s0.2 (Ki (AS x.1))) (λ_=>R1 s0.2 λd=>ix x.1 d λa=>R1 s0.2 λe=>ix x.2 e λb=>br (Hg (Nm (seq a.1 b.1) (Nm (seq a.2.1 b.2.1) (Nm (beq a.2.2.1 b.2.2.1) (Nm (Oa a.2.2.2 b.2.2.2) true))))) (λ_=>some (.dn ((0,((false,s0.2),()))))) λ_=>some (.nx (s0.1,SF .i64 s0.2 1))) λ_=>some (.dn ((1,(s0,()))))) (false,0)) λc=>br (neq c.1 0) (λ_=>some c.2.1.1) λ_=>some true
def XF (x:qW):Option Int :=
 bd (V8 x.1) λi=>br (Ry i.2 0) (λ_=>some i.2) λ_=>bd (loop (λs1=>br (S8 s1.1 (Ki (AS x.1.2.1))) (λ_=>R1 s1.1 λj=>ix x.1.2.1 j λl=>some (.nx (SF .i64 s1.1 1,SF .i64 s1.2 l))) λ_=>some (.dn ((0,(s1,()))))) (0,0)) λa=>br (S6 (Ki (AS x.2.2.1)) 20000) (λ_=>some 3) λ_=>br (S6 a.2.1.2 20000) (λ_=>some 3) λ_=>br (Ry x.2.2.2 a.2.1.2) (λ_=>some 7) λ_=>bd (YD x.1.1) λb=>br (Ry b.2.2 0) (λ_=>some b.2.2) λ_=>R1 a.2.1.2 λe=>gd (CF e (AS b.1)) λ_=>gd (CF 0 e) λ_=>bd (Wq (D0 b.1 0 e,x.2.1.2.2)) λc=>br (Ry c.2.2 0) (λ_=>some c.2.2) λ_=>bd (VY x.2.1.2.2) λd=>br (S6 a.2.1.2 0) (λ_=>R1 (SK .i64 a.2.1.2 1) λk=>ix b.1 k λh=>bd (WT (x.2.2.1,c.1)) λf=>br (Hg f) (λ_=>some 6) λ_=>br (Hg (Nm (beq x.2.1.1 true) (Nm (seq x.2.1.2.1 h.1) (Nm (beq x.2.1.2.2 d.2.2) true)))) (λ_=>some 6) λ_=>some 0) λ_=>bd (WT (x.2.2.1,c.1)) λg=>br (Hg g) (λ_=>some 6) λ_=>br (Hg (Nm (beq x.2.1.1 d.1) (Nm (seq x.2.1.2.1 d.2.1) (Nm (beq x.2.1.2.2 d.2.2) true)))) (λ_=>some 6) λ_=>some 0
def Xl (x:Va):Option (Int×Int) :=
 bd (V8 x) λa=>br (Ry a.2 0) (λ_=>some (0,a.2)) λ_=>bd (loop (λs1=>br (S8 s1.1 (Ki (AS x.1))) (λ_=>R1 s1.1 λb=>ix x.1 b λe=>R1 s1.1 λc=>ix x.2.1 c λf=>some (.nx ((SF .i64 s1.1 1,SF .i64 s1.2 (SK .i64 (Ki (AS e)) f))))) λ_=>some (.dn ((0,(s1,()))))) (0,0)) λd=>some (d.2.1.2,0)
def Uc (x:qW):Option (Int×Int) :=
 bd (XF x) λa=>br (Ry a 0) (λ_=>some (0,a)) λ_=>bd (Xl x.1) λb=>some b
def Uz (x:Va):Option (Tj×(Int×(Va×Int))) :=
 bd (V8 x) λl=>br (Ry l.2 0) (λ_=>br (Ry l.2 0) (λ_=>some (((([],([],(false,0))):Tj),(0,(([],([],([],([],0)))),l.2))))) λ_=>none) λ_=>bd (Tw x.1) λd=>bd (UE x.2.1) λa=>bd (VX x.2.2) λc=>br (Ry c.2.2 0) (λ_=>br (Ry c.2.2 0) (λ_=>some (((([],([],(false,0))):Tj),(0,(([],([],([],([],0)))),c.2.2))))) λ_=>gd (KJ 0 (AS a)) λ_=>ix a 0 λt=>gd (KJ 0 (AS a)) λ_=>ix a 0 λB=>gd (KJ 0 (AS d)) λ_=>ix d 0 λz=>gd (KJ 0 (AS (lset a 0 (SF .i64 t 1)))) λ_=>ix (lset a 0 (SF .i64 t 1)) 0 λA=>bd (UU (z,A)) λu=>bd (VI (x.2.2,u)) λw=>some (((([],([],(false,0))):Tj),(0,((d,(lset a 0 (SF .i64 t 1),w.1)),0))))) λ_=>R1 c.1 λf=>gd (KJ f (AS d)) λ_=>ix d f λo=>R1 c.1 λg=>gd (KJ g (AS a)) λ_=>ix a g λp=>R1 p λk=>ix o k λq=>R1 c.1 λh=>gd (KJ h (AS a)) λ_=>ix a h λe=>R1 c.1 λb=>gd (KJ b (AS a)) λ_=>ix a b λy=>R1 c.1 λi=>gd (KJ i (AS d)) λ_=>ix d i λr=>R1 c.1 λj=>gd (KJ j (AS (lset a b (SF .i64 e 1)))) λ_=>ix (lset a b (SF .i64 e 1)) j λs=>bd (UU (r,s)) λm=>bd (VI (x.2.2,m)) λn=>some ((q,(c.1,((d,(lset a b (SF .i64 e 1),n.1)),0))))
def U9 (x:((Bool×UG)×Tj)):Option (Bool×((Bool×UG)×Int)) :=
 bd (WS x.1) λa=>br (Ry a 0) (λ_=>some ((false,((false,([],false)),a)))) λ_=>bd (U1 x.2) λb=>br (Ry b 0) (λ_=>some ((false,((false,([],false)),b)))) λ_=>br x.1.1 (λ_=>br (SV x.2.1 x.1.2.1) (λ_=>some ((false,((false,([],false)),6)))) λ_=>br x.1.1 (λ_=>br (seq x.2.1 x.1.2.1) (λ_=>some ((false,((true,(x.2.1,x.1.2.2)),0)))) λ_=>br x.1.2.2 (λ_=>br x.2.2.2.1 (λ_=>some ((false,((true,(x.2.1,x.1.2.2)),0)))) λ_=>some ((true,((true,(x.2.1,x.1.2.2)),0)))) λ_=>some ((true,((true,(x.2.1,x.1.2.2)),0)))) λ_=>br x.1.2.2 (λ_=>br x.2.2.2.1 (λ_=>some ((false,((true,(x.2.1,x.1.2.2)),0)))) λ_=>some ((true,((true,(x.2.1,x.1.2.2)),0)))) λ_=>some ((true,((true,(x.2.1,x.1.2.2)),0)))) λ_=>br x.1.1 (λ_=>br (seq x.2.1 x.1.2.1) (λ_=>some ((false,((true,(x.2.1,x.1.2.2)),0)))) λ_=>br x.1.2.2 (λ_=>br x.2.2.2.1 (λ_=>some ((false,((true,(x.2.1,x.1.2.2)),0)))) λ_=>some ((true,((true,(x.2.1,x.1.2.2)),0)))) λ_=>some ((true,((true,(x.2.1,x.1.2.2)),0)))) λ_=>br x.1.2.2 (λ_=>br x.2.2.2.1 (λ_=>some ((false,((true,(x.2.1,x.1.2.2)),0)))) λ_=>some ((true,((true,(x.2.1,x.1.2.2)),0)))) λ_=>some ((true,((true,(x.2.1,x.1.2.2)),0)))
def Ux (x:(qW×Int)):Option (qW×(Int×Int)) :=
 bd (Uc x.1) λh=>br (Ry h.2 0) (λ_=>some (((([],([],([],([],0)))),((false,([],false)),([],0))),(0,h.2)))) λ_=>br (S8 x.2 0) (λ_=>some (((([],([],([],([],0)))),((false,([],false)),([],0))),(0,7)))) λ_=>br (S6 (SF .i64 x.1.2.2.2 (TX x.2 h.1)) 20000) (λ_=>some (((([],([],([],([],0)))),((false,([],false)),([],0))),(0,3)))) λ_=>gd (CF (AS x.1.2.2.1) 1048576) λ_=>gd (CF (AS x.1.1.2.1) 1048576) λ_=>br (S8 0 (TX x.2 h.1)) (λ_=>bd (Uz x.1.1) λe=>br (Ry e.2.2.2 0) (λ_=>br (Ry e.2.2.2 0) (λ_=>br (Ry e.2.2.2 0) (λ_=>some (((([],([],([],([],0)))),((false,([],false)),([],0))),(0,e.2.2.2)))) λ_=>some ((x.1,(TX x.2 h.1,0)))) λ_=>none) λ_=>bd (U9 (x.1.2.1,e.1)) λi=>br (Ry i.2.2 0) (λ_=>br (Ry i.2.2 0) (λ_=>br (Ry i.2.2 0) (λ_=>some (((([],([],([],([],0)))),((false,([],false)),([],0))),(0,i.2.2)))) λ_=>some ((x.1,(TX x.2 h.1,0)))) λ_=>none) λ_=>br i.1 (λ_=>gd (CF (BF (AS x.1.2.2.1) (AS [e.1])) 1048576) λ_=>bd (loop (λb=>br (S8 b.1 (TX x.2 h.1)) (λ_=>bd (Uz ((b.2.2.1,(b.2.2.2.1,(b.2.2.2.2.1,(b.2.2.2.2.2.1,b.2.2.2.2.2.2.1)))))) λf=>br (Ry f.2.2.2 0) (λ_=>br (Ry f.2.2.2 0) (λ_=>some (.dn ((0,((b.1,(f.2.2.2,b.2.2)),()))))) λ_=>some (.nx (SF .i64 b.1 1,b.2))) λ_=>bd (U9 (((b.2.2.2.2.2.2.2.1,(b.2.2.2.2.2.2.2.2.1,b.2.2.2.2.2.2.2.2.2.1)),f.1))) λj=>br (Ry j.2.2 0) (λ_=>br (Ry j.2.2 0) (λ_=>some (.dn ((0,((b.1,(j.2.2,b.2.2)),()))))) λ_=>some (.nx (SF .i64 b.1 1,b.2))) λ_=>br j.1 (λ_=>gd (CF (BF (AS b.2.2.2.2.2.2.2.2.2.2.1) (AS [f.1])) 1048576) λ_=>some (.nx ((SF .i64 b.1 1,(b.2.1,(f.2.2.1.1,(f.2.2.1.2.1,(f.2.2.1.2.2.1,(f.2.2.1.2.2.2.1,(f.2.2.1.2.2.2.2,(j.2.1.1,(j.2.1.2.1,(j.2.1.2.2,(Il b.2.2.2.2.2.2.2.2.2.2.1 [f.1],SF .i64 b.2.2.2.2.2.2.2.2.2.2.2 1)))))))))))))) λ_=>some (.nx ((SF .i64 b.1 1,(b.2.1,(f.2.2.1.1,(f.2.2.1.2.1,(f.2.2.1.2.2.1,(f.2.2.1.2.2.2.1,(f.2.2.1.2.2.2.2,(j.2.1.1,(j.2.1.2.1,(j.2.1.2.2,(b.2.2.2.2.2.2.2.2.2.2.1,SF .i64 b.2.2.2.2.2.2.2.2.2.2.2 1)))))))))))))) λ_=>some (.dn ((1,(b,()))))) ((1,(0,(e.2.2.1.1,(e.2.2.1.2.1,(e.2.2.1.2.2.1,(e.2.2.1.2.2.2.1,(e.2.2.1.2.2.2.2,(i.2.1.1,(i.2.1.2.1,(i.2.1.2.2,(Il x.1.2.2.1 [e.1],SF .i64 x.1.2.2.2 1))))))))))))) λd=>br (neq d.1 0) (λ_=>br (Ry d.2.1.2.1 0) (λ_=>some (((([],([],([],([],0)))),((false,([],false)),([],0))),(0,d.2.1.2.1)))) λ_=>some ((((d.2.1.2.2.1,(d.2.1.2.2.2.1,(d.2.1.2.2.2.2.1,(d.2.1.2.2.2.2.2.1,d.2.1.2.2.2.2.2.2.1)))),((d.2.1.2.2.2.2.2.2.2.1,(d.2.1.2.2.2.2.2.2.2.2.1,d.2.1.2.2.2.2.2.2.2.2.2.1)),d.2.1.2.2.2.2.2.2.2.2.2.2)),(TX x.2 h.1,0)))) λ_=>some ((((d.2.1.2.2.1,(d.2.1.2.2.2.1,(d.2.1.2.2.2.2.1,(d.2.1.2.2.2.2.2.1,d.2.1.2.2.2.2.2.2.1)))),((d.2.1.2.2.2.2.2.2.2.1,(d.2.1.2.2.2.2.2.2.2.2.1,d.2.1.2.2.2.2.2.2.2.2.2.1)),d.2.1.2.2.2.2.2.2.2.2.2.2)),(TX x.2 h.1,0)))) λ_=>bd (loop (λc=>br (S8 c.1 (TX x.2 h.1)) (λ_=>bd (Uz ((c.2.2.1,(c.2.2.2.1,(c.2.2.2.2.1,(c.2.2.2.2.2.1,c.2.2.2.2.2.2.1)))))) λg=>br (Ry g.2.2.2 0) (λ_=>br (Ry g.2.2.2 0) (λ_=>some (.dn ((0,((c.1,(g.2.2.2,c.2.2)),()))))) λ_=>some (.nx (SF .i64 c.1 1,c.2))) λ_=>bd (U9 (((c.2.2.2.2.2.2.2.1,(c.2.2.2.2.2.2.2.2.1,c.2.2.2.2.2.2.2.2.2.1)),g.1))) λk=>br (Ry k.2.2 0) (λ_=>br (Ry k.2.2 0) (λ_=>some (.dn ((0,((c.1,(k.2.2,c.2.2)),()))))) λ_=>some (.nx (SF .i64 c.1 1,c.2))) λ_=>br k.1 (λ_=>gd (CF (BF (AS c.2.2.2.2.2.2.2.2.2.2.1) (AS [g.1])) 1048576) λ_=>some (.nx ((SF .i64 c.1 1,(c.2.1,(g.2.2.1.1,(g.2.2.1.2.1,(g.2.2.1.2.2.1,(g.2.2.1.2.2.2.1,(g.2.2.1.2.2.2.2,(k.2.1.1,(k.2.1.2.1,(k.2.1.2.2,(Il c.2.2.2.2.2.2.2.2.2.2.1 [g.1],SF .i64 c.2.2.2.2.2.2.2.2.2.2.2 1)))))))))))))) λ_=>some (.nx ((SF .i64 c.1 1,(c.2.1,(g.2.2.1.1,(g.2.2.1.2.1,(g.2.2.1.2.2.1,(g.2.2.1.2.2.2.1,(g.2.2.1.2.2.2.2,(k.2.1.1,(k.2.1.2.1,(k.2.1.2.2,(c.2.2.2.2.2.2.2.2.2.2.1,SF .i64 c.2.2.2.2.2.2.2.2.2.2.2 1)))))))))))))) λ_=>some (.dn ((1,(c,()))))) ((1,(0,(e.2.2.1.1,(e.2.2.1.2.1,(e.2.2.1.2.2.1,(e.2.2.1.2.2.2.1,(e.2.2.1.2.2.2.2,(i.2.1.1,(i.2.1.2.1,(i.2.1.2.2,(x.1.2.2.1,SF .i64 x.1.2.2.2 1))))))))))))) λa=>br (neq a.1 0) (λ_=>br (Ry a.2.1.2.1 0) (λ_=>some (((([],([],([],([],0)))),((false,([],false)),([],0))),(0,a.2.1.2.1)))) λ_=>some ((((a.2.1.2.2.1,(a.2.1.2.2.2.1,(a.2.1.2.2.2.2.1,(a.2.1.2.2.2.2.2.1,a.2.1.2.2.2.2.2.2.1)))),((a.2.1.2.2.2.2.2.2.2.1,(a.2.1.2.2.2.2.2.2.2.2.1,a.2.1.2.2.2.2.2.2.2.2.2.1)),a.2.1.2.2.2.2.2.2.2.2.2.2)),(TX x.2 h.1,0)))) λ_=>some ((((a.2.1.2.2.1,(a.2.1.2.2.2.1,(a.2.1.2.2.2.2.1,(a.2.1.2.2.2.2.2.1,a.2.1.2.2.2.2.2.2.1)))),((a.2.1.2.2.2.2.2.2.2.1,(a.2.1.2.2.2.2.2.2.2.2.1,a.2.1.2.2.2.2.2.2.2.2.2.1)),a.2.1.2.2.2.2.2.2.2.2.2.2)),(TX x.2 h.1,0)))) λ_=>some ((x.1,(TX x.2 h.1,0)))
def Ui (x:((List Tj)×(List Tj))):Option Bool :=
 br (Ry (Ki (AS x.1)) (Ki (AS x.2))) (λ_=>some false) λ_=>bd (loop (λs0=>br (S8 s0.1 (Ki (AS x.1))) (λ_=>R1 s0.1 λd=>ix x.1 d λa=>R1 s0.1 λe=>ix x.2 e λb=>br (Hg (Nm (seq a.1 b.1) (Nm (seq a.2.1 b.2.1) (Nm (beq a.2.2.1 b.2.2.1) (Nm (Oa a.2.2.2 b.2.2.2) true))))) (λ_=>some (.dn ((0,((s0.1,false),()))))) λ_=>some (.nx (SF .i64 s0.1 1,s0.2))) λ_=>some (.dn ((1,(s0,()))))) (0,false)) λc=>br (neq c.1 0) (λ_=>some c.2.1.2) λ_=>some true
def Us (x:((List Tj)×(List Tj))):Option Bool :=
 bd (Ui x) λa=>some a
def Vy (x:(qW×qW)):Option Bool :=
 br (Ry (Ki (AS x.1.1.1)) (Ki (AS x.2.1.1))) (λ_=>some false) λ_=>bd (loop (λs0=>br (S8 s0.1 (Ki (AS x.1.1.1))) (λ_=>R1 s0.1 λg=>ix x.1.1.1 g λm=>R1 s0.1 λh=>ix x.2.1.1 h λn=>bd (Us (m,n)) λi=>br (Hg i) (λ_=>some (.dn ((0,((s0.1,false),()))))) λ_=>some (.nx (SF .i64 s0.1 1,s0.2))) λ_=>some (.dn ((1,(s0,()))))) (0,false)) λf=>br (neq f.1 0) (λ_=>br f.2.1.2 (λ_=>bd (Tz (x.1.1.2.1,x.2.1.2.1)) λj=>br j (λ_=>bd (UF (x.1.1.2.2.1,x.2.1.2.2.1)) λk=>br k (λ_=>bd (Tz (x.1.1.2.2.2.1,x.2.1.2.2.2.1)) λl=>br l (λ_=>br (Oa x.1.1.2.2.2.2 x.2.1.2.2.2.2) (λ_=>br (Nm (beq x.1.2.1.1 x.2.2.1.1) (Nm (seq x.1.2.1.2.1 x.2.2.1.2.1) (Nm (beq x.1.2.1.2.2 x.2.2.1.2.2) true))) (λ_=>bd (Us (x.1.2.2.1,x.2.2.2.1)) λa=>br a (λ_=>some (Oa x.1.2.2.2 x.2.2.2.2)) λ_=>some false) λ_=>some false) λ_=>some false) λ_=>some false) λ_=>some false) λ_=>some false) λ_=>some false) λ_=>bd (Tz (x.1.1.2.1,x.2.1.2.1)) λb=>br b (λ_=>bd (UF (x.1.1.2.2.1,x.2.1.2.2.1)) λc=>br c (λ_=>bd (Tz (x.1.1.2.2.2.1,x.2.1.2.2.2.1)) λd=>br d (λ_=>br (Oa x.1.1.2.2.2.2 x.2.1.2.2.2.2) (λ_=>br (Nm (beq x.1.2.1.1 x.2.2.1.1) (Nm (seq x.1.2.1.2.1 x.2.2.1.2.1) (Nm (beq x.1.2.1.2.2 x.2.2.1.2.2) true))) (λ_=>bd (Us (x.1.2.2.1,x.2.2.2.1)) λe=>br e (λ_=>some (Oa x.1.2.2.2 x.2.2.2.2)) λ_=>some false) λ_=>some false) λ_=>some false) λ_=>some false) λ_=>some false) λ_=>some false
def VM (x:qS):Option (Int×Int) :=
 bd (VW x.1) λg=>br (Ry g.2.2 0) (λ_=>some (((-1),g.2.2))) λ_=>br (S8 x.2.2 1) (λ_=>some (((-1),7))) λ_=>br (S6 x.2.2 1000001) (λ_=>some (((-1),7))) λ_=>bd (Wo x.1) λs=>br (S7 x.2.2 s) (λ_=>some (((-1),6))) λ_=>bd (loop (λs2=>br (S8 s2.1 (Ki (AS x.1.2))) (λ_=>R1 s2.1 λq=>ix x.1.2 q λt=>br (Oa (Ki (AS t)) 2) (λ_=>gd (CF (BF (AS s2.2) (AS [s2.1])) 1048576) λ_=>some (.nx (SF .i64 s2.1 1,Il s2.2 [s2.1]))) λ_=>some (.nx (SF .i64 s2.1 1,s2.2))) λ_=>some (.dn ((0,(s2,()))))) (0,[])) λf=>bd (loop (λa=>br (S8 a.2.2 (Ki (AS x.2.1))) (λ_=>R1 a.2.2 λr=>ix x.2.1 r λb=>br (Rx a.2.2 (Ki (AS f.2.1.2))) (λ_=>some (.dn ((0,((6,(a.2.2,a.2.2)),()))))) λ_=>R1 a.2.2 λp=>gd (KJ p (AS f.2.1.2)) λ_=>ix f.2.1.2 p λo=>br (Ry b.1 o) (λ_=>some (.dn ((0,((6,(a.2.2,a.2.2)),()))))) λ_=>br b.2.2.1.2.2 (λ_=>bd (Vm (x.1,b.1)) λh=>br (Hg h) (λ_=>some (.dn ((0,((6,(a.2.2,a.2.2)),()))))) λ_=>bd (VN ((x.1,(b.1,b.2.2.1.2.2)))) λd=>bd (Uc d.2) λi=>br (S8 b.2.2.2.2 0) (λ_=>some (.dn ((0,((6,(a.2.2,a.2.2)),()))))) λ_=>br (S6 b.2.2.2.2 i.1) (λ_=>some (.dn ((0,((6,(a.2.2,a.2.2)),()))))) λ_=>bd (Ux (d.2,b.2.2.2.2)) λj=>bd (Vy (j.1,b.2)) λk=>br (Hg k) (λ_=>some (.dn ((0,((6,(a.2.2,a.2.2)),()))))) λ_=>some (.nx ((a.1,(a.2.1,SF .i64 a.2.2 1))))) λ_=>bd (VN ((x.1,(b.1,b.2.2.1.2.2)))) λe=>bd (Uc e.2) λl=>br (S8 b.2.2.2.2 0) (λ_=>some (.dn ((0,((6,(a.2.2,a.2.2)),()))))) λ_=>br (S6 b.2.2.2.2 l.1) (λ_=>some (.dn ((0,((6,(a.2.2,a.2.2)),()))))) λ_=>bd (Ux (e.2,b.2.2.2.2)) λm=>bd (Vy (m.1,b.2)) λn=>br (Hg n) (λ_=>some (.dn ((0,((6,(a.2.2,a.2.2)),()))))) λ_=>some (.nx ((a.1,(a.2.1,SF .i64 a.2.2 1))))) λ_=>some (.dn ((1,(a,()))))) ((g.2.2,(0,0)))) λc=>br (neq c.1 0) (λ_=>some (c.2.1.2.1,c.2.1.1)) λ_=>br (S8 (Ki (AS x.2.1)) (Ki (AS f.2.1.2))) (λ_=>some (((-1),4))) λ_=>some (0,0)
end
section
open Go Sv
def V1 (x:(Int×Int)):Option Int :=
 bd (loop (λs0=>br (S8 s0.2 x.2) (λ_=>some (.nx (SG .i64 2 s0.1,SF .i64 s0.2 1))) λ_=>some (.dn ((0,(s0,()))))) (x.1,0)) λa=>some a.2.1.1
def WA (x:Tj):Option Int :=
 br (S6 (Ki (Mj x.1)) 32) (λ_=>some 3) λ_=>br (S6 (Ki (Mj x.2.1)) 64) (λ_=>some 3) λ_=>br x.2.2.1 (λ_=>br (Hg (seq x.2.1 [])) (λ_=>some 6) λ_=>br (S8 x.2.2.2 1) (λ_=>some 7) λ_=>br (S6 x.2.2.2 1000000000) (λ_=>some 7) λ_=>some 0) λ_=>br (S8 x.2.2.2 1) (λ_=>some 7) λ_=>br (S6 x.2.2.2 1000000000) (λ_=>some 7) λ_=>some 0
def W7 (x:((List UInt8)×(List UInt8))):Option Int :=
 bd (loop (λs0=>br (S8 s0 (Ki (Mj x.1))) (λ_=>br (S8 s0 (Ki (Mj x.2))) (λ_=>R1 s0 λa=>ix x.1 a λd=>R1 s0 λb=>ix x.2 b λe=>br (Oa (Tc d) (Tc e)) (λ_=>some (.nx (SF .i64 s0 1))) λ_=>some (.dn ((0,(s0,()))))) λ_=>some (.dn ((0,(s0,()))))) λ_=>some (.dn ((0,(s0,()))))) 0) λc=>some c.2.1
def Wj (x:((List UInt8)×(List UInt8))):Option Int :=
 bd (W7 x) λa=>br (Oa a (Ki (Mj x.1))) (λ_=>br (Oa a (Ki (Mj x.2))) (λ_=>some 0) λ_=>br (Oa a (Ki (Mj x.1))) (λ_=>some (-1)) λ_=>br (S8 a (Ki (Mj x.2))) (λ_=>R1 a λb=>ix x.1 b λf=>R1 a λc=>ix x.2 c λg=>br (S8 (Tc f) (Tc g)) (λ_=>some (-1)) λ_=>some 1) λ_=>some 1) λ_=>br (Oa a (Ki (Mj x.1))) (λ_=>some (-1)) λ_=>br (S8 a (Ki (Mj x.2))) (λ_=>R1 a λd=>ix x.1 d λh=>R1 a λe=>ix x.2 e λi=>br (S8 (Tc h) (Tc i)) (λ_=>some (-1)) λ_=>some 1) λ_=>some 1
def Vi (x:(List Tj)):Option (Int×Int) :=
 br (S6 (Ki (AS x)) 5000) (λ_=>some (((-1),3))) λ_=>bd (loop (λs0=>br (S8 s0.2.2 (Ki (AS x))) (λ_=>R1 s0.2.2 λc=>ix x c λg=>bd (WA g) λa=>br (Oa a 0) (λ_=>br (S6 s0.2.2 0) (λ_=>R1 (SK .i64 s0.2.2 1) λd=>ix x d λh=>R1 s0.2.2 λe=>ix x e λi=>bd (Wj (h.1,i.1)) λf=>br (Rx f 0) (λ_=>some (.dn ((0,((6,(s0.2.2,s0.2.2)),()))))) λ_=>br (Ry a 0) (λ_=>some (.dn ((0,((a,(s0.2.2,s0.2.2)),()))))) λ_=>some (.nx ((s0.1,(s0.2.1,SF .i64 s0.2.2 1))))) λ_=>br (Ry a 0) (λ_=>some (.dn ((0,((a,(s0.2.2,s0.2.2)),()))))) λ_=>some (.nx ((s0.1,(s0.2.1,SF .i64 s0.2.2 1))))) λ_=>br (Ry a 0) (λ_=>some (.dn ((0,((a,(s0.2.2,s0.2.2)),()))))) λ_=>some (.nx ((s0.1,(s0.2.1,SF .i64 s0.2.2 1))))) λ_=>some (.dn ((1,(s0,()))))) ((0,(0,0)))) λb=>br (neq b.1 0) (λ_=>some (b.2.1.2.1,b.2.1.1)) λ_=>some (0,0)
def XV (x:UN):Option (Int×Int) :=
 br (S8 x.1 1) (λ_=>some (((-1),7))) λ_=>br (S6 x.1 1000000) (λ_=>some (((-1),7))) λ_=>bd (Vi x.2) λa=>some a
def WY (x:(UN×(Int×(List Int)))):Option Int :=
 bd (XV x.1) λa=>br (Ry a.2 0) (λ_=>some a.2) λ_=>br (Oa (Ki (AS x.1.2)) 0) (λ_=>some 4) λ_=>br (S6 (Ki (AS x.1.2)) x.2.1) (λ_=>some 3) λ_=>bd (loop (λs1=>br (S8 s1.1 (Ki (AS x.2.2))) (λ_=>R1 s1.1 λc=>ix x.2.2 c λd=>br (Oa d x.1.1) (λ_=>some (.dn ((0,((s1.1,8),()))))) λ_=>some (.nx (SF .i64 s1.1 1,s1.2))) λ_=>some (.dn ((1,(s1,()))))) (0,0)) λb=>br (neq b.1 0) (λ_=>some b.2.1.2) λ_=>some 0
def U7 (x:Tl):Option (Int×(Int×Int)) :=
 br (S8 x.1 1) (λ_=>some ((0,(0,7)))) λ_=>br (S6 x.1 16) (λ_=>some ((0,(0,7)))) λ_=>br (S6 (Ki (AS x.2)) 12) (λ_=>some ((0,(0,3)))) λ_=>bd (loop (λ(s0:(Int×((List Int)×(Int×(Int×Int)))))=>br (S8 s0.2.2.2.2 (Ki (AS x.2))) (λ_=>R1 s0.2.2.2.2 λi=>ix x.2 i λd=>br (S6 (Ki (AS d)) 2) (λ_=>some (.dn ((0,((0,(s0.2.1,(s0.2.2.2.2,(3,s0.2.2.2.2)))),()))))) λ_=>bd (loop (λ(b:(Int×((List Int)×(Int×(Int×Int)))))=>br (S8 b.2.2.2.2 (Ki (AS d))) (λ_=>R1 b.2.2.2.2 λj=>ix d j λm=>bd (V1 (x.1,s0.2.2.2.2)) λl=>bd (WY ((m,(l,b.2.1)))) λg=>br (Ry g 0) (λ_=>some (.dn ((0,((b.2.2.2.2,(b.2.1,(s0.2.2.2.2,(g,b.2.2.2.2)))),()))))) λ_=>R1 b.2.2.2.2 λk=>ix d k λh=>gd (CF (BF (AS b.2.1) (AS [h.1])) 1048576) λ_=>some (.nx ((b.1,(Il b.2.1 [h.1],(b.2.2.1,(b.2.2.2.1,SF .i64 b.2.2.2.2 1))))))) λ_=>some (.dn ((1,(b,()))))) ((s0.1,(s0.2.1,(s0.2.2.1,(s0.2.2.2.1,0)))))) λa=>br (neq a.1 0) (λ_=>some (.dn ((0,((a.2.1.1,(a.2.1.2.1,(a.2.1.2.2.1,(a.2.1.2.2.2.1,s0.2.2.2.2)))),()))))) λ_=>some (.nx ((a.2.1.1,(a.2.1.2.1,(a.2.1.2.2.1,(a.2.1.2.2.2.1,SF .i64 s0.2.2.2.2 1))))))) λ_=>some (.dn ((1,(s0,()))))) ((0,([],(0,(0,0)))))) λc=>br (neq c.1 0) (λ_=>some ((c.2.1.2.2.1,(c.2.1.1,c.2.1.2.2.2.1)))) λ_=>br (S6 (Ki (AS x.2)) 0) (λ_=>R1 (SK .i64 (Ki (AS x.2)) 1) λe=>ix x.2 e λf=>br (Oa (Ki (AS f)) 0) (λ_=>some ((SK .i64 (Ki (AS x.2)) 1,(0,6)))) λ_=>some ((0,(0,0)))) λ_=>some ((0,(0,0)))
def WR (x:Tl):Option ((List UN)×Int) :=
 bd (U7 x) λc=>br (Ry c.2.2 0) (λ_=>some ([],c.2.2)) λ_=>bd (loop (λs1=>br (S8 s1.2 (Ki (AS x.2))) (λ_=>R1 s1.2 λe=>ix x.2 e λi=>bd (loop (λa=>br (Rx a.2 0) (λ_=>R1 s1.2 λf=>ix x.2 f λj=>R1 a.2 λg=>ix j g λd=>gd (CF (BF (AS a.1) (AS [d])) 1048576) λ_=>some (.nx (Il a.1 [d],SK .i64 a.2 1))) λ_=>some (.dn ((0,(a,()))))) ((s1.1,SK .i64 (Ki (AS i)) 1))) λh=>some (.nx (h.2.1.1,SF .i64 s1.2 1))) λ_=>some (.dn ((0,(s1,()))))) ([],0)) λb=>some (b.2.1.1,0)
def VU (x:Tl):Option Int :=
 bd (WR x) λa=>bd (loop (λs1=>br (S8 s1.2 (Ki (AS a.1))) (λ_=>R1 s1.2 λb=>ix a.1 b λd=>some (.nx (TY s1.1 d.1,SF .i64 s1.2 1))) λ_=>some (.dn ((0,(s1,()))))) (0,0)) λc=>some c.2.1.1
def Uh (x:Tl):Option (List Int) :=
 bd (loop (λs0=>br (S8 s0.2 (Ki (AS x.2))) (λ_=>R1 s0.2 λa=>ix x.2 a λc=>br (Oa (Ki (AS c)) 2) (λ_=>gd (CF (BF (AS s0.1) (AS [s0.2])) 1048576) λ_=>some (.nx (Il s0.1 [s0.2],SF .i64 s0.2 1))) λ_=>some (.nx (s0.1,SF .i64 s0.2 1))) λ_=>some (.dn ((0,(s0,()))))) ([],0)) λb=>some b.2.1.1
def Yi (x:(Tl×Int)):Option Int :=
 bd (U7 x.1) λa=>br (Oa a.2.2 0) (λ_=>br (S8 x.2 0) (λ_=>some 7) λ_=>br (Rx x.2 12) (λ_=>some 7) λ_=>some a.2.2) λ_=>some a.2.2
def YK (x:(Tl×Int)):Option (Bool×Int) :=
 bd (Yi x) λa=>br (Ry a 0) (λ_=>some (false,a)) λ_=>some ((S6 (Ki (AS x.1.2)) (SF .i64 x.2 1),0))
def UV (x:(Tl×Int)):Option Bool :=
 bd (YK x) λa=>some (Hg a.1)
def WD (x:(List (List Tj))):Option (Int×Int) :=
 br (Oa (Ki (AS x)) 0) (λ_=>some (((-1),6))) λ_=>br (S6 (Ki (AS x)) 32) (λ_=>some (((-1),3))) λ_=>bd (loop (λs0=>br (S8 s0.2.2 (Ki (AS x))) (λ_=>R1 s0.2.2 λc=>ix x c λd=>bd (Vi d) λb=>br (Ry b.2 0) (λ_=>some (.dn ((0,((b.2,(s0.2.2,s0.2.2)),()))))) λ_=>some (.nx ((s0.1,(s0.2.1,SF .i64 s0.2.2 1))))) λ_=>some (.dn ((1,(s0,()))))) ((0,(0,0)))) λa=>br (neq a.1 0) (λ_=>some (a.2.1.2.1,a.2.1.1)) λ_=>some (0,0)
def XW (x:(List UG)):Option Int :=
 br (Oa (Ki (AS x)) 0) (λ_=>some 6) λ_=>br (S6 (Ki (AS x)) 32) (λ_=>some 3) λ_=>bd (loop (λs0=>br (S8 s0.1 (Ki (AS x))) (λ_=>R1 s0.1 λb=>ix x b λd=>br d.2 (λ_=>R1 s0.1 λc=>ix x c λe=>br (Hg (seq e.1 [])) (λ_=>some (.dn ((0,((s0.1,2),()))))) λ_=>some (.nx (SF .i64 s0.1 1,s0.2))) λ_=>some (.nx (SF .i64 s0.1 1,s0.2))) λ_=>some (.dn ((1,(s0,()))))) (0,0)) λa=>br (neq a.1 0) (λ_=>some a.2.1.2) λ_=>some 0
def XB (x:((List UG)×(Int×Int))):Option Bool :=
 R1 x.2.1 λc=>ix x.1 c λa=>R1 x.2.2 λd=>ix x.1 d λb=>br (Hg (beq a.2 b.2)) (λ_=>some b.2) λ_=>br (Hg a.2) (λ_=>br (Hg (seq a.1 b.1)) (λ_=>some (SV a.1 b.1)) λ_=>some (S8 x.2.1 x.2.2)) λ_=>some (S8 x.2.1 x.2.2)
def UC (rec:((List UG)×Int)->Option (Int×Int)) (x:((List UG)×Int)):Option (Int×Int) :=
 br (Rx x.2 (Ki (AS x.1))) (λ_=>some ((SK .i64 x.2 (Ki (AS x.1)),0))) λ_=>bd (rec (x.1,SG .i64 2 x.2)) λa=>bd (rec ((x.1,SF .i64 (SG .i64 2 x.2) 1))) λb=>bd (XB ((x.1,(a.1,b.1)))) λc=>br c (λ_=>some (a.1,b.1)) λ_=>some (b.1,a.1)
def W9:((List UG)×Int)->Option (Int×Int):=NE UC 100
def Xn (x:(List UG)):Option Vz :=
 gd (CF (AS x) 1048576) λ_=>R1 (Ki (AS x)) λf=>R1 (Ki (AS x)) λb=>gd (CF b 1048576) λ_=>bd (loop (λs2=>br (S8 s2.1 (Ki (AS x))) (λ_=>bd (W9 (x,s2.1)) λd=>R1 s2.1 λa=>gd (KJ a (AS s2.2.2.1)) λ_=>ix s2.2.2.1 a λg=>some (.nx ((SF .i64 s2.1 1,(s2.2.1,(lset s2.2.2.1 a d.2,s2.2.2.2)))))) λ_=>some (.dn ((0,(s2,()))))) ((1,(x,(Rd b 0,(0:Int)))))) λc=>bd (W9 (x,1)) λe=>some ((c.2.1.2.1,(c.2.1.2.2.1,e.1)))
def Wk (x:(List UG)):Option (Vz×Int) :=
 bd (XW x) λa=>br (Ry a 0) (λ_=>some ((([],([],0)),a))) λ_=>bd (Xn x) λb=>some (b,0)
def Vo (x:((List (List Tj))×(List Int))):Option Va :=
 gd (CF (AS x.1) 1048576) λ_=>gd (CF (AS x.2) 1048576) λ_=>bd (loop (λs0=>br (S8 s0.1 (Ki (AS x.1))) (λ_=>R1 s0.1 λf=>ix x.2 f λb=>R1 s0.1 λg=>ix x.1 g λc=>br (Hg (Oa b (Ki (AS c)))) (λ_=>R1 s0.1 λh=>ix x.1 h λk=>R1 s0.1 λi=>ix x.2 i λl=>R1 l λj=>ix k j λa=>gd (CF (BF (AS s0.2) (AS ([(a.1,Oa b (Ki (AS c)))]))) 1048576) λ_=>some (.nx ((SF .i64 s0.1 1,Il s0.2 ([(a.1,Oa b (Ki (AS c)))]))))) λ_=>gd (CF (BF (AS s0.2) (AS ([(([]:List UInt8),Oa b (Ki (AS c)))]))) 1048576) λ_=>some (.nx ((SF .i64 s0.1 1,Il s0.2 ([([],Oa b (Ki (AS c)))]))))) λ_=>some (.dn ((0,(s0,()))))) (0,[])) λd=>bd (Wk d.2.1.2) λe=>some ((x.1,(x.2,e.1)))
def YJ (x:(List (List Tj))):Option (Va×(Int×Int)) :=
 bd (WD x) λb=>br (Ry b.2 0) (λ_=>some ((([],([],([],([],0)))),b))) λ_=>R1 (Ki (AS x)) λd=>R1 (Ki (AS x)) λa=>gd (CF a 1048576) λ_=>bd (Vo (x,Rd a 0)) λc=>some ((c,(0,0)))
def Vp (x:Bool):Option (Bool×UG) :=
 some ((false,([],x)))
def XY (x:((List (List Tj))×Bool)):Option (qW×(Int×Int)) :=
 bd (YJ x.1) λa=>br (Ry a.2.2 0) (λ_=>some (((([],([],([],([],0)))),((false,([],false)),([],0))),a.2))) λ_=>bd (Vp x.2) λb=>some (((a.1,(b,([],0))),(0,0)))
def UD (x:(Tl×(Int×Bool))):Option qJ :=
 br (Rx x.2.1 (Ki (AS x.1.2))) (λ_=>none) λ_=>R1 x.2.1 λb=>ix x.1.2 b λa=>ix a 1 λd=>ix a 0 λe=>bd (XY ([d.2,e.2],x.2.2)) λc=>some (x.2.1,c.1)
def Xm (x:((List Int)×(List Int))):Option Bool :=
 br (Ry (Ki (AS x.1)) (Ki (AS x.2))) (λ_=>some false) λ_=>bd (loop (λs0=>br (S8 s0.1 (Ki (AS x.1))) (λ_=>R1 s0.1 λb=>ix x.1 b λd=>R1 s0.1 λc=>ix x.2 c λe=>br (Ry d e) (λ_=>some (.dn ((0,((s0.1,false),()))))) λ_=>some (.nx (SF .i64 s0.1 1,s0.2))) λ_=>some (.dn ((1,(s0,()))))) (0,false)) λa=>br (neq a.1 0) (λ_=>some a.2.1.2) λ_=>some true
def W8 (x:(Vz×Vz)):Option Bool :=
 br (Ry (Ki (AS x.1.1)) (Ki (AS x.2.1))) (λ_=>some false) λ_=>br (Ry x.1.2.2 x.2.2.2) (λ_=>some false) λ_=>bd (Xm (x.1.2.1,x.2.2.1)) λf=>br (Hg f) (λ_=>some false) λ_=>bd (loop (λs1=>br (S8 s1.1 (Ki (AS x.1.1))) (λ_=>R1 s1.1 λd=>ix x.1.1 d λb=>R1 s1.1 λe=>ix x.2.1 e λc=>br (Hg (Nm (seq b.1 c.1) (Nm (beq b.2 c.2) true))) (λ_=>some (.dn ((0,((s1.1,false),()))))) λ_=>some (.nx (SF .i64 s1.1 1,s1.2))) λ_=>some (.dn ((1,(s1,()))))) (0,false)) λa=>br (neq a.1 0) (λ_=>some a.2.1.2) λ_=>some true
def WC (x:((List (List Tj))×(List Int))):Option Int :=
 bd (loop (λs0=>br (S8 s0.2 (Ki (AS x.1))) (λ_=>R1 s0.2 λi=>ix x.2 i λn=>R1 s0.2 λj=>ix x.1 j λo=>br (S8 n (Ki (AS o))) (λ_=>br (S8 s0.1 0) (λ_=>some (.nx (s0.2,SF .i64 s0.2 1))) λ_=>R1 s0.2 λk=>ix x.1 k λp=>R1 s0.2 λl=>ix x.2 l λq=>R1 q λm=>ix p m λe=>R1 s0.1 λa=>ix x.1 a λf=>R1 s0.1 λb=>ix x.2 b λg=>R1 g λc=>ix f c λh=>br (SV e.1 h.1) (λ_=>some (.nx (s0.2,SF .i64 s0.2 1))) λ_=>some (.nx (s0.1,SF .i64 s0.2 1))) λ_=>some (.nx (s0.1,SF .i64 s0.2 1))) λ_=>some (.dn ((0,(s0,()))))) (((-1),0))) λd=>some d.2.1.1
def WB (x:Va):Option (Int×Int) :=
 bd (WD x.1) λt=>br (Ry t.2 0) (λ_=>some t) λ_=>br (Ry (Ki (AS x.2.1)) (Ki (AS x.1))) (λ_=>some (((-1),6))) λ_=>bd (loop (λs1=>br (S8 s1.2.2 (Ki (AS x.2.1))) (λ_=>R1 s1.2.2 λu=>ix x.2.1 u λA=>br (S8 A 0) (λ_=>some (.dn ((0,((6,(s1.2.2,s1.2.2)),()))))) λ_=>R1 s1.2.2 λw=>ix x.2.1 w λB=>R1 s1.2.2 λy=>ix x.1 y λC=>br (S6 B (Ki (AS C))) (λ_=>some (.dn ((0,((6,(s1.2.2,s1.2.2)),()))))) λ_=>some (.nx ((s1.1,(s1.2.1,SF .i64 s1.2.2 1))))) λ_=>some (.dn ((1,(s1,()))))) ((0,(0,0)))) λd=>br (neq d.1 0) (λ_=>some (d.2.1.2.1,d.2.1.1)) λ_=>bd (Vo (x.1,x.2.1)) λz=>bd (W8 (x.2.2,z.2.2)) λn=>br (Hg n) (λ_=>some (((-1),6))) λ_=>bd (WC (x.1,x.2.1)) λb=>bd (loop (λa=>br (S8 a.2.2 (Ki (AS x.1))) (λ_=>br (Rx b 0) (λ_=>R1 a.2.2 λg=>ix x.2.1 g λo=>br (Oa o 0) (λ_=>some (.nx ((a.1,(a.2.1,SF .i64 a.2.2 1))))) λ_=>R1 a.2.2 λh=>ix x.1 h λp=>R1 a.2.2 λi=>ix x.2.1 i λq=>R1 (SK .i64 q 1) λj=>ix p j λe=>R1 b λk=>ix x.1 k λr=>R1 b λl=>ix x.2.1 l λs=>R1 s λm=>ix r m λf=>br (SV f.1 e.1) (λ_=>some (.dn ((0,((6,(b,a.2.2)),()))))) λ_=>br (seq e.1 f.1) (λ_=>br (S6 a.2.2 b) (λ_=>some (.dn ((0,((6,(b,a.2.2)),()))))) λ_=>some (.nx ((a.1,(a.2.1,SF .i64 a.2.2 1))))) λ_=>some (.nx ((a.1,(a.2.1,SF .i64 a.2.2 1))))) λ_=>some (.dn ((1,(a,()))))) λ_=>some (.dn ((1,(a,()))))) ((d.2.1.1,(d.2.1.2.1,0)))) λc=>br (neq c.1 0) (λ_=>some (c.2.1.2.1,c.2.1.1)) λ_=>some (0,0)
def WX (x:qW):Option Int :=
 bd (loop (λs0=>br (S8 s0.2 (Ki (AS x.1.2.1))) (λ_=>R1 s0.2 λa=>ix x.1.2.1 a λc=>some (.nx (SF .i64 s0.1 c,SF .i64 s0.2 1))) λ_=>some (.dn ((0,(s0,()))))) (0,0)) λb=>some b.2.1.1
def Ww (x:(List (List Tj))):Option ((List Tj)×((List Int)×Int)) :=
 bd (WD x) λj=>br (Ry j.2 0) (λ_=>some (([],([],j.2)))) λ_=>R1 (Ki (AS x)) λp=>R1 (Ki (AS x)) λh=>gd (CF h 1048576) λ_=>bd (loop (λ(a:((List Int)×((List Tj)×((List Tj)×(Int×((List Int)×(List Int)))))))=>bd (WC (x,a.2.2.2.2.2)) λd=>br (S8 d 0) (λ_=>some (.dn ((0,((a.2.2.2.2.1,(a.2.1,0)),()))))) λ_=>R1 d λk=>ix x k λn=>R1 d λi=>gd (KJ i (AS a.2.2.2.2.2)) λ_=>ix a.2.2.2.2.2 i λo=>R1 o λl=>ix n l λf=>gd (CF (BF (AS a.2.1) (AS [f])) 1048576) λ_=>gd (CF (BF (AS a.2.2.2.2.1) (AS [d])) 1048576) λ_=>R1 d λe=>gd (KJ e (AS a.2.2.2.2.2)) λ_=>ix a.2.2.2.2.2 e λg=>R1 d λb=>gd (KJ b (AS a.2.2.2.2.2)) λ_=>ix a.2.2.2.2.2 b λm=>some (.nx ((a.1,(Il a.2.1 [f],(a.2.2.1,(a.2.2.2.1,(Il a.2.2.2.2.1 [d],lset a.2.2.2.2.2 b (SF .i64 g 1))))))))) (([],([],([],(0,([],Rd h 0))))))) λc=>some ((c.2.1.2.1,(c.2.1.1,c.2.1.2.2)))
def XX (x:(Bool×UG)):Option Int :=
 br (S6 (Ki (Mj x.2.1)) 32) (λ_=>some 3) λ_=>br (Hg x.1) (λ_=>br (Hg (seq x.2.1 [])) (λ_=>some 6) λ_=>some 0) λ_=>some 0
def Xq (x:((Bool×UG)×Tj)):Option (Bool×((Bool×UG)×Int)) :=
 bd (XX x.1) λa=>br (Oa a 0) (λ_=>bd (WA x.2) λb=>br (Oa b 0) (λ_=>br x.1.1 (λ_=>br (SV x.2.1 x.1.2.1) (λ_=>some ((false,((false,([],false)),6)))) λ_=>br (Ry b 0) (λ_=>some ((false,((false,([],false)),b)))) λ_=>br (Hg x.1.1) (λ_=>br x.1.2.2 (λ_=>some ((Hg x.2.2.2.1,((true,(x.2.1,x.1.2.2)),0)))) λ_=>some ((true,((true,(x.2.1,x.1.2.2)),0)))) λ_=>br (Hg (seq x.2.1 x.1.2.1)) (λ_=>br x.1.2.2 (λ_=>some ((Hg x.2.2.2.1,((true,(x.2.1,x.1.2.2)),0)))) λ_=>some ((true,((true,(x.2.1,x.1.2.2)),0)))) λ_=>some ((false,((true,(x.2.1,x.1.2.2)),0)))) λ_=>br (Ry b 0) (λ_=>some ((false,((false,([],false)),b)))) λ_=>br (Hg x.1.1) (λ_=>br x.1.2.2 (λ_=>some ((Hg x.2.2.2.1,((true,(x.2.1,x.1.2.2)),0)))) λ_=>some ((true,((true,(x.2.1,x.1.2.2)),0)))) λ_=>br (Hg (seq x.2.1 x.1.2.1)) (λ_=>br x.1.2.2 (λ_=>some ((Hg x.2.2.2.1,((true,(x.2.1,x.1.2.2)),0)))) λ_=>some ((true,((true,(x.2.1,x.1.2.2)),0)))) λ_=>some ((false,((true,(x.2.1,x.1.2.2)),0)))) λ_=>br (Ry b 0) (λ_=>some ((false,((false,([],false)),b)))) λ_=>br (Hg x.1.1) (λ_=>br x.1.2.2 (λ_=>some ((Hg x.2.2.2.1,((true,(x.2.1,x.1.2.2)),0)))) λ_=>some ((true,((true,(x.2.1,x.1.2.2)),0)))) λ_=>br (Hg (seq x.2.1 x.1.2.1)) (λ_=>br x.1.2.2 (λ_=>some ((Hg x.2.2.2.1,((true,(x.2.1,x.1.2.2)),0)))) λ_=>some ((true,((true,(x.2.1,x.1.2.2)),0)))) λ_=>some ((false,((true,(x.2.1,x.1.2.2)),0)))) λ_=>br (Oa a 0) (λ_=>br x.1.1 (λ_=>br (SV x.2.1 x.1.2.1) (λ_=>some ((false,((false,([],false)),6)))) λ_=>br (Ry a 0) (λ_=>some ((false,((false,([],false)),a)))) λ_=>br (Hg x.1.1) (λ_=>br x.1.2.2 (λ_=>some ((Hg x.2.2.2.1,((true,(x.2.1,x.1.2.2)),0)))) λ_=>some ((true,((true,(x.2.1,x.1.2.2)),0)))) λ_=>br (Hg (seq x.2.1 x.1.2.1)) (λ_=>br x.1.2.2 (λ_=>some ((Hg x.2.2.2.1,((true,(x.2.1,x.1.2.2)),0)))) λ_=>some ((true,((true,(x.2.1,x.1.2.2)),0)))) λ_=>some ((false,((true,(x.2.1,x.1.2.2)),0)))) λ_=>br (Ry a 0) (λ_=>some ((false,((false,([],false)),a)))) λ_=>br (Hg x.1.1) (λ_=>br x.1.2.2 (λ_=>some ((Hg x.2.2.2.1,((true,(x.2.1,x.1.2.2)),0)))) λ_=>some ((true,((true,(x.2.1,x.1.2.2)),0)))) λ_=>br (Hg (seq x.2.1 x.1.2.1)) (λ_=>br x.1.2.2 (λ_=>some ((Hg x.2.2.2.1,((true,(x.2.1,x.1.2.2)),0)))) λ_=>some ((true,((true,(x.2.1,x.1.2.2)),0)))) λ_=>some ((false,((true,(x.2.1,x.1.2.2)),0)))) λ_=>br (Ry a 0) (λ_=>some ((false,((false,([],false)),a)))) λ_=>br (Hg x.1.1) (λ_=>br x.1.2.2 (λ_=>some ((Hg x.2.2.2.1,((true,(x.2.1,x.1.2.2)),0)))) λ_=>some ((true,((true,(x.2.1,x.1.2.2)),0)))) λ_=>br (Hg (seq x.2.1 x.1.2.1)) (λ_=>br x.1.2.2 (λ_=>some ((Hg x.2.2.2.1,((true,(x.2.1,x.1.2.2)),0)))) λ_=>some ((true,((true,(x.2.1,x.1.2.2)),0)))) λ_=>some ((false,((true,(x.2.1,x.1.2.2)),0)))
def XC (x:((List Tj)×Bool)):Option ((List Tj)×(Int×Int)) :=
 br (S6 (Ki (AS x.1)) 20000) (λ_=>some (([],((-1),3)))) λ_=>bd (Vp x.2) λf=>bd (loop (λ(s1:(Int×(Int×((List Tj)×((List Tj)×(Int×(Bool×UG)))))))=>br (S8 s1.2.1 (Ki (AS x.1))) (λ_=>R1 s1.2.1 λd=>ix x.1 d λg=>bd (Xq (s1.2.2.2.2.2,g)) λa=>br (Ry a.2.2 0) (λ_=>some (.dn ((0,((s1.2.1,(s1.2.1,([],(s1.2.2.2.1,(a.2.2,s1.2.2.2.2.2))))),()))))) λ_=>br a.1 (λ_=>R1 s1.2.1 λe=>ix x.1 e λc=>gd (CF (BF (AS s1.2.2.2.1) (AS [c])) 1048576) λ_=>some (.nx ((s1.1,(SF .i64 s1.2.1 1,(s1.2.2.1,(Il s1.2.2.2.1 [c],(s1.2.2.2.2.1,a.2.1)))))))) λ_=>some (.nx ((s1.1,(SF .i64 s1.2.1 1,(s1.2.2.1,(s1.2.2.2.1,(s1.2.2.2.2.1,a.2.1)))))))) λ_=>some (.dn ((1,(s1,()))))) ((0,(0,([],([],(0,f))))))) λb=>br (neq b.1 0) (λ_=>some ((b.2.1.2.2.1,(b.2.1.1,b.2.1.2.2.2.2.1)))) λ_=>some ((b.2.1.2.2.2.1,(0,0)))
def Vu (x:((List Tj)×Bool)):Option ((List Tj)×(Bool×UG)) :=
 bd (XC x) λa=>bd (Vp x.2) λb=>br (S6 (Ki (AS x.1)) 0) (λ_=>R1 (SK .i64 (Ki (AS x.1)) 1) λc=>ix x.1 c λd=>some ((a.1,(true,(d.1,b.2.2))))) λ_=>some (a.1,b)
def U0 (x:((List Tj)×(List Tj))):Option Bool :=
 br (Ry (Ki (AS x.1)) (Ki (AS x.2))) (λ_=>some false) λ_=>bd (loop (λs0=>br (S8 s0.1 (Ki (AS x.1))) (λ_=>R1 s0.1 λd=>ix x.1 d λa=>R1 s0.1 λe=>ix x.2 e λb=>br (Hg (Nm (seq a.1 b.1) (Nm (seq a.2.1 b.2.1) (Nm (beq a.2.2.1 b.2.2.1) (Nm (Oa a.2.2.2 b.2.2.2) true))))) (λ_=>some (.dn ((0,((s0.1,false),()))))) λ_=>some (.nx (SF .i64 s0.1 1,s0.2))) λ_=>some (.dn ((1,(s0,()))))) (0,false)) λc=>br (neq c.1 0) (λ_=>some c.2.1.2) λ_=>some true
def XZ (x:qW):Option Int :=
 bd (WB x.1) λd=>br (Ry d.2 0) (λ_=>some d.2) λ_=>bd (WX x) λc=>br (S6 (Ki (AS x.2.2.1)) 20000) (λ_=>some 3) λ_=>br (S6 c 20000) (λ_=>some 3) λ_=>br (Ry x.2.2.2 c) (λ_=>some 7) λ_=>bd (Ww x.1.1) λe=>R1 c λb=>gd (CF b (AS e.1)) λ_=>gd (CF 0 b) λ_=>bd (Vu (D0 e.1 0 b,x.2.1.2.2)) λa=>bd (U0 (x.2.2.1,a.1)) λf=>br (Hg f) (λ_=>some 6) λ_=>br (Hg (Nm (beq x.2.1.1 a.2.1) (Nm (seq x.2.1.2.1 a.2.2.1) (Nm (beq x.2.1.2.2 a.2.2.2) true)))) (λ_=>some 6) λ_=>some 0
def Xo (x:Va):Option (Int×Int) :=
 bd (WB x) λa=>br (Ry a.2 0) (λ_=>some (0,a.2)) λ_=>bd (loop (λs1=>br (S8 s1.1 (Ki (AS x.1))) (λ_=>R1 s1.1 λb=>ix x.1 b λe=>R1 s1.1 λc=>ix x.2.1 c λf=>some (.nx ((SF .i64 s1.1 1,SK .i64 (SF .i64 s1.2 (Ki (AS e))) f)))) λ_=>some (.dn ((0,(s1,()))))) (0,0)) λd=>some (d.2.1.2,0)
def UQ (x:qW):Option (Int×Int) :=
 bd (XZ x) λa=>br (Ry a 0) (λ_=>some (0,a)) λ_=>bd (Xo x.1) λb=>some b
def WW (x:Va):Option (Tj×(Int×(Va×Int))) :=
 bd (WB x) λg=>br (Ry g.2 0) (λ_=>some (((([],([],(false,0))):Tj),(0,(([],([],([],([],0)))),g.2))))) λ_=>bd (WC (x.1,x.2.1)) λa=>br (S8 a 0) (λ_=>some (((([],([],(false,0))):Tj),(0,(([],([],([],([],0)))),12))))) λ_=>gd (CF (AS x.2.1) 1048576) λ_=>R1 a λf=>gd (KJ f (AS x.2.1)) λ_=>ix x.2.1 f λj=>R1 a λc=>gd (KJ c (AS x.2.1)) λ_=>ix x.2.1 c λm=>R1 a λh=>ix x.1 h λk=>R1 a λi=>ix x.2.1 i λl=>R1 l λb=>ix k b λe=>bd (Vo ((x.1,lset x.2.1 c (SF .i64 j 1)))) λd=>some ((e,(a,(d,0))))
def UJ (x:(qW×Int)):Option (qW×(Int×Int)) :=
 bd (UQ x.1) λa=>br (Oa a.2 0) (λ_=>br (S8 x.2 0) (λ_=>some (((([],([],([],([],0)))),((false,([],false)),([],0))),(0,7)))) λ_=>br (Ry a.2 0) (λ_=>some (((([],([],([],([],0)))),((false,([],false)),([],0))),(0,a.2)))) λ_=>bd (WX x.1) λm=>br (S6 (SF .i64 m (TX x.2 a.1)) 20000) (λ_=>some (((([],([],([],([],0)))),((false,([],false)),([],0))),(0,3)))) λ_=>bd (loop (λ(s2:(Int×qM))=>br (S8 s2.1 (TX x.2 a.1)) (λ_=>bd (WW ((s2.2.1,(s2.2.2.1,(s2.2.2.2.1,(s2.2.2.2.2.1,s2.2.2.2.2.2.1)))))) λh=>some (.nx ((SF .i64 s2.1 1,(h.2.2.1.1,(h.2.2.1.2.1,(h.2.2.1.2.2.1,(h.2.2.1.2.2.2.1,(h.2.2.1.2.2.2.2,s2.2.2.2.2.2.2))))))))) λ_=>some (.dn ((0,(s2,()))))) ((0,(x.1.1.1,(x.1.1.2.1,(x.1.1.2.2.1,(x.1.1.2.2.2.1,(x.1.1.2.2.2.2,(x.1.2.1.1,(x.1.2.1.2.1,(x.1.2.1.2.2,x.1.2.2))))))))))) λi=>bd (Ww x.1.1.1) λk=>R1 (SF .i64 x.1.2.2.2 (TX x.2 a.1)) λj=>gd (CF j (AS k.1)) λ_=>gd (CF 0 j) λ_=>bd (Vu (D0 k.1 0 j,x.1.2.1.2.2)) λl=>some ((((i.2.1.2.1,(i.2.1.2.2.1,(i.2.1.2.2.2.1,(i.2.1.2.2.2.2.1,i.2.1.2.2.2.2.2.1)))),(l.2,(l.1,SF .i64 x.1.2.2.2 (TX x.2 a.1)))),(TX x.2 a.1,0)))) λ_=>br (Ry a.2 0) (λ_=>some (((([],([],([],([],0)))),((false,([],false)),([],0))),(0,a.2)))) λ_=>bd (WX x.1) λn=>br (S6 (SF .i64 n (TX x.2 a.1)) 20000) (λ_=>some (((([],([],([],([],0)))),((false,([],false)),([],0))),(0,3)))) λ_=>bd (loop (λ(d:(Int×qM))=>br (S8 d.1 (TX x.2 a.1)) (λ_=>bd (WW ((d.2.1,(d.2.2.1,(d.2.2.2.1,(d.2.2.2.2.1,d.2.2.2.2.2.1)))))) λb=>some (.nx ((SF .i64 d.1 1,(b.2.2.1.1,(b.2.2.1.2.1,(b.2.2.1.2.2.1,(b.2.2.1.2.2.2.1,(b.2.2.1.2.2.2.2,d.2.2.2.2.2.2))))))))) λ_=>some (.dn ((0,(d,()))))) ((0,(x.1.1.1,(x.1.1.2.1,(x.1.1.2.2.1,(x.1.1.2.2.2.1,(x.1.1.2.2.2.2,(x.1.2.1.1,(x.1.2.1.2.1,(x.1.2.1.2.2,x.1.2.2))))))))))) λc=>bd (Ww x.1.1.1) λf=>R1 (SF .i64 x.1.2.2.2 (TX x.2 a.1)) λe=>gd (CF e (AS f.1)) λ_=>gd (CF 0 e) λ_=>bd (Vu (D0 f.1 0 e,x.1.2.1.2.2)) λg=>some ((((c.2.1.2.1,(c.2.1.2.2.1,(c.2.1.2.2.2.1,(c.2.1.2.2.2.2.1,c.2.1.2.2.2.2.2.1)))),(g.2,(g.1,SF .i64 x.1.2.2.2 (TX x.2 a.1)))),(TX x.2 a.1,0)))
def Xp (x:(Va×Va)):Option Bool :=
 br (Ry (Ki (AS x.1.1)) (Ki (AS x.2.1))) (λ_=>some false) λ_=>bd (Xm (x.1.2.1,x.2.2.1)) λd=>br (Hg d) (λ_=>some false) λ_=>bd (W8 (x.1.2.2,x.2.2.2)) λe=>br (Hg e) (λ_=>some false) λ_=>bd (loop (λs2=>br (S8 s2.1 (Ki (AS x.1.1))) (λ_=>R1 s2.1 λb=>ix x.1.1 b λg=>R1 s2.1 λc=>ix x.2.1 c λh=>bd (U0 (g,h)) λf=>br (Hg f) (λ_=>some (.dn ((0,((s2.1,false),()))))) λ_=>some (.nx (SF .i64 s2.1 1,s2.2))) λ_=>some (.dn ((1,(s2,()))))) (0,false)) λa=>br (neq a.1 0) (λ_=>some a.2.1.2) λ_=>some true
def Uf (x:(qW×qW)):Option Bool :=
 bd (Xp (x.1.1,x.2.1)) λa=>br a (λ_=>br (Nm (beq x.1.2.1.1 x.2.2.1.1) (Nm (seq x.1.2.1.2.1 x.2.2.1.2.1) (Nm (beq x.1.2.1.2.2 x.2.2.1.2.2) true))) (λ_=>bd (U0 (x.1.2.2.1,x.2.2.2.1)) λb=>br b (λ_=>some (Oa x.1.2.2.2 x.2.2.2.2)) λ_=>some false) λ_=>some false) λ_=>some false
def Vq (x:qS):Option (Int×Int) :=
 bd (U7 x.1) λi=>br (Oa i.2.2 0) (λ_=>br (S8 x.2.2 1) (λ_=>some (((-1),7))) λ_=>br (S6 x.2.2 1000001) (λ_=>some (((-1),7))) λ_=>br (Oa i.2.2 0) (λ_=>bd (VU x.1) λr1=>br (S7 x.2.2 r1) (λ_=>some (((-1),6))) λ_=>br (Ry i.2.2 0) (λ_=>some (((-1),i.2.2))) λ_=>bd (Uh x.1) λM=>bd (loop (λg=>br (S8 g.2.2 (Ki (AS x.2.1))) (λ_=>R1 g.2.2 λk4=>ix x.2.1 k4 λh=>br (Rx g.2.2 (Ki (AS M))) (λ_=>some (.dn ((0,((6,(g.2.2,g.2.2)),()))))) λ_=>R1 g.2.2 λk6=>ix M k6 λx7=>br (Ry h.1 x7) (λ_=>some (.dn ((0,((6,(g.2.2,g.2.2)),()))))) λ_=>br h.2.2.1.2.2 (λ_=>bd (UV (x.1,h.1)) λr8=>br (Hg r8) (λ_=>some (.dn ((0,((6,(g.2.2,g.2.2)),()))))) λ_=>bd (UD ((x.1,(h.1,h.2.2.1.2.2)))) λr9=>bd (UQ r9.2) λF=>br (S8 h.2.2.2.2 0) (λ_=>some (.dn ((0,((6,(g.2.2,g.2.2)),()))))) λ_=>br (S6 h.2.2.2.2 F.1) (λ_=>some (.dn ((0,((6,(g.2.2,g.2.2)),()))))) λ_=>bd (UJ (r9.2,h.2.2.2.2)) λG=>bd (Uf (G.1,h.2)) λI=>br (Hg I) (λ_=>some (.dn ((0,((6,(g.2.2,g.2.2)),()))))) λ_=>some (.nx ((g.1,(g.2.1,SF .i64 g.2.2 1))))) λ_=>bd (UD ((x.1,(h.1,h.2.2.1.2.2)))) λq=>bd (UQ q.2) λJ=>br (S8 h.2.2.2.2 0) (λ_=>some (.dn ((0,((6,(g.2.2,g.2.2)),()))))) λ_=>br (S6 h.2.2.2.2 J.1) (λ_=>some (.dn ((0,((6,(g.2.2,g.2.2)),()))))) λ_=>bd (UJ (q.2,h.2.2.2.2)) λK=>bd (Uf (K.1,h.2)) λL=>br (Hg L) (λ_=>some (.dn ((0,((6,(g.2.2,g.2.2)),()))))) λ_=>some (.nx ((g.1,(g.2.1,SF .i64 g.2.2 1))))) λ_=>some (.dn ((1,(g,()))))) ((0,(0,0)))) λj=>br (neq j.1 0) (λ_=>some (j.2.1.2.1,j.2.1.1)) λ_=>br (S8 (Ki (AS x.2.1)) (Ki (AS M))) (λ_=>some (((-1),4))) λ_=>some (0,0)) λ_=>br (Ry i.2.2 0) (λ_=>some (((-1),i.2.2))) λ_=>bd (Uh x.1) λk=>bd (loop (λa=>br (S8 a.2.2 (Ki (AS x.2.1))) (λ_=>R1 a.2.2 λz=>ix x.2.1 z λd=>br (Rx a.2.2 (Ki (AS k))) (λ_=>some (.dn ((0,((6,(a.2.2,a.2.2)),()))))) λ_=>R1 a.2.2 λA=>ix k A λx23=>br (Ry d.1 x23) (λ_=>some (.dn ((0,((6,(a.2.2,a.2.2)),()))))) λ_=>br d.2.2.1.2.2 (λ_=>bd (UV (x.1,d.1)) λN=>br (Hg N) (λ_=>some (.dn ((0,((6,(a.2.2,a.2.2)),()))))) λ_=>bd (UD ((x.1,(d.1,d.2.2.1.2.2)))) λr=>bd (UQ r.2) λO=>br (S8 d.2.2.2.2 0) (λ_=>some (.dn ((0,((6,(a.2.2,a.2.2)),()))))) λ_=>br (S6 d.2.2.2.2 O.1) (λ_=>some (.dn ((0,((6,(a.2.2,a.2.2)),()))))) λ_=>bd (UJ (r.2,d.2.2.2.2)) λP=>bd (Uf (P.1,d.2)) λS=>br (Hg S) (λ_=>some (.dn ((0,((6,(a.2.2,a.2.2)),()))))) λ_=>some (.nx ((a.1,(a.2.1,SF .i64 a.2.2 1))))) λ_=>bd (UD ((x.1,(d.1,d.2.2.1.2.2)))) λs=>bd (UQ s.2) λU=>br (S8 d.2.2.2.2 0) (λ_=>some (.dn ((0,((6,(a.2.2,a.2.2)),()))))) λ_=>br (S6 d.2.2.2.2 U.1) (λ_=>some (.dn ((0,((6,(a.2.2,a.2.2)),()))))) λ_=>bd (UJ (s.2,d.2.2.2.2)) λW=>bd (Uf (W.1,d.2)) λX=>br (Hg X) (λ_=>some (.dn ((0,((6,(a.2.2,a.2.2)),()))))) λ_=>some (.nx ((a.1,(a.2.1,SF .i64 a.2.2 1))))) λ_=>some (.dn ((1,(a,()))))) ((0,(0,0)))) λl=>br (neq l.1 0) (λ_=>some (l.2.1.2.1,l.2.1.1)) λ_=>br (S8 (Ki (AS x.2.1)) (Ki (AS k))) (λ_=>some (((-1),4))) λ_=>some (0,0)) λ_=>br (Oa i.2.2 0) (λ_=>bd (VU x.1) λY=>br (S7 x.2.2 Y) (λ_=>some (((-1),6))) λ_=>br (Ry i.2.2 0) (λ_=>some (((-1),i.2.2))) λ_=>bd (Uh x.1) λm=>bd (loop (λb=>br (S8 b.2.2 (Ki (AS x.2.1))) (λ_=>R1 b.2.2 λB=>ix x.2.1 B λe=>br (Rx b.2.2 (Ki (AS m))) (λ_=>some (.dn ((0,((6,(b.2.2,b.2.2)),()))))) λ_=>R1 b.2.2 λC=>ix m C λx40=>br (Ry e.1 x40) (λ_=>some (.dn ((0,((6,(b.2.2,b.2.2)),()))))) λ_=>br e.2.2.1.2.2 (λ_=>bd (UV (x.1,e.1)) λZ=>br (Hg Z) (λ_=>some (.dn ((0,((6,(b.2.2,b.2.2)),()))))) λ_=>bd (UD ((x.1,(e.1,e.2.2.1.2.2)))) λt=>bd (UQ t.2) λr43=>br (S8 e.2.2.2.2 0) (λ_=>some (.dn ((0,((6,(b.2.2,b.2.2)),()))))) λ_=>br (S6 e.2.2.2.2 r43.1) (λ_=>some (.dn ((0,((6,(b.2.2,b.2.2)),()))))) λ_=>bd (UJ (t.2,e.2.2.2.2)) λr44=>bd (Uf (r44.1,e.2)) λr45=>br (Hg r45) (λ_=>some (.dn ((0,((6,(b.2.2,b.2.2)),()))))) λ_=>some (.nx ((b.1,(b.2.1,SF .i64 b.2.2 1))))) λ_=>bd (UD ((x.1,(e.1,e.2.2.1.2.2)))) λu=>bd (UQ u.2) λr47=>br (S8 e.2.2.2.2 0) (λ_=>some (.dn ((0,((6,(b.2.2,b.2.2)),()))))) λ_=>br (S6 e.2.2.2.2 r47.1) (λ_=>some (.dn ((0,((6,(b.2.2,b.2.2)),()))))) λ_=>bd (UJ (u.2,e.2.2.2.2)) λr48=>bd (Uf (r48.1,e.2)) λr49=>br (Hg r49) (λ_=>some (.dn ((0,((6,(b.2.2,b.2.2)),()))))) λ_=>some (.nx ((b.1,(b.2.1,SF .i64 b.2.2 1))))) λ_=>some (.dn ((1,(b,()))))) ((0,(0,0)))) λn=>br (neq n.1 0) (λ_=>some (n.2.1.2.1,n.2.1.1)) λ_=>br (S8 (Ki (AS x.2.1)) (Ki (AS m))) (λ_=>some (((-1),4))) λ_=>some (0,0)) λ_=>br (Ry i.2.2 0) (λ_=>some (((-1),i.2.2))) λ_=>bd (Uh x.1) λo=>bd (loop (λc=>br (S8 c.2.2 (Ki (AS x.2.1))) (λ_=>R1 c.2.2 λD=>ix x.2.1 D λf=>br (Rx c.2.2 (Ki (AS o))) (λ_=>some (.dn ((0,((6,(c.2.2,c.2.2)),()))))) λ_=>R1 c.2.2 λE=>ix o E λx56=>br (Ry f.1 x56) (λ_=>some (.dn ((0,((6,(c.2.2,c.2.2)),()))))) λ_=>br f.2.2.1.2.2 (λ_=>bd (UV (x.1,f.1)) λr57=>br (Hg r57) (λ_=>some (.dn ((0,((6,(c.2.2,c.2.2)),()))))) λ_=>bd (UD ((x.1,(f.1,f.2.2.1.2.2)))) λw=>bd (UQ w.2) λr59=>br (S8 f.2.2.2.2 0) (λ_=>some (.dn ((0,((6,(c.2.2,c.2.2)),()))))) λ_=>br (S6 f.2.2.2.2 r59.1) (λ_=>some (.dn ((0,((6,(c.2.2,c.2.2)),()))))) λ_=>bd (UJ (w.2,f.2.2.2.2)) λr60=>bd (Uf (r60.1,f.2)) λr61=>br (Hg r61) (λ_=>some (.dn ((0,((6,(c.2.2,c.2.2)),()))))) λ_=>some (.nx ((c.1,(c.2.1,SF .i64 c.2.2 1))))) λ_=>bd (UD ((x.1,(f.1,f.2.2.1.2.2)))) λy=>bd (UQ y.2) λr63=>br (S8 f.2.2.2.2 0) (λ_=>some (.dn ((0,((6,(c.2.2,c.2.2)),()))))) λ_=>br (S6 f.2.2.2.2 r63.1) (λ_=>some (.dn ((0,((6,(c.2.2,c.2.2)),()))))) λ_=>bd (UJ (y.2,f.2.2.2.2)) λr64=>bd (Uf (r64.1,f.2)) λr65=>br (Hg r65) (λ_=>some (.dn ((0,((6,(c.2.2,c.2.2)),()))))) λ_=>some (.nx ((c.1,(c.2.1,SF .i64 c.2.2 1))))) λ_=>some (.dn ((1,(c,()))))) ((0,(0,0)))) λp=>br (neq p.1 0) (λ_=>some (p.2.1.2.1,p.2.1.1)) λ_=>br (S8 (Ki (AS x.2.1)) (Ki (AS o))) (λ_=>some (((-1),4))) λ_=>some (0,0)
def Vf (x:qS):Option ((List Int)×Int) :=
 bd (Vq x) λa=>br (Ry a.2 0) (λ_=>some ([],a.2)) λ_=>bd (Uh x.1) λb=>some (b,0)
def Uq (x:(qS×Int)):Option (Int×Int) :=
 bd (Vf x.1) λa=>br (Ry a.2 0) (λ_=>some (0,a.2)) λ_=>bd (loop (λs1=>br (S8 s1.2.2 (Ki (AS a.1))) (λ_=>R1 s1.2.2 λc=>ix a.1 c λd=>br (Oa d x.2) (λ_=>some (.dn ((0,((0,(s1.2.2,s1.2.2)),()))))) λ_=>some (.nx ((s1.1,(s1.2.1,SF .i64 s1.2.2 1))))) λ_=>some (.dn ((1,(s1,()))))) ((0,(0,0)))) λb=>br (neq b.1 0) (λ_=>some (b.2.1.2.1,b.2.1.1)) λ_=>some (0,4)
def U8 (x:(qS×Int)):Option (Int×Int) :=
 bd (Uq x) λa=>br (Ry a.2 0) (λ_=>some (0,a.2)) λ_=>R1 a.1 λb=>ix x.1.2.1 b λd=>bd (UQ d.2) λc=>some c
end
section
open Go Sv
def ab (x:Tl):Option (qS×Int) :=
 bd (U7 x) λd=>br (Ry d.2.2 0) (λ_=>some ((((0,[]),([],0)),d.2.2))) λ_=>bd (VU x) λh=>bd (Uh x) λc=>bd (loop (λ(a:(Int×qL))=>br (S8 a.1 (Ki (AS c))) (λ_=>R1 a.1 λf=>ix c f λj=>R1 a.1 λg=>ix c g λk=>bd (UV (x,k)) λi=>bd (UD ((x,(j,i)))) λe=>gd (CF (BF (AS a.2.2.2.1) (AS [e])) 1048576) λ_=>some (.nx ((SF .i64 a.1 1,(a.2.1,(a.2.2.1,(Il a.2.2.2.1 [e],a.2.2.2.2))))))) λ_=>some (.dn ((0,(a,()))))) ((0,(x.1,(x.2,([],SF .i64 h 1)))))) λb=>some ((((b.2.1.2.1,b.2.1.2.2.1),b.2.1.2.2.2),0))
def Wu (x:(qS×Int)):Option (Int×Int) :=
 bd (VM x.1) λb=>br (Ry b.2 0) (λ_=>some (0,b.2)) λ_=>bd (loop (λs1=>br (S8 s1.2 (Ki (AS x.1.2.1))) (λ_=>R1 s1.2 λc=>ix x.1.2.1 c λd=>br (Oa d.1 x.2) (λ_=>some (.dn ((0,((s1.2,s1.2),()))))) λ_=>some (.nx (s1.1,SF .i64 s1.2 1))) λ_=>some (.dn ((1,(s1,()))))) (0,0)) λa=>br (neq a.1 0) (λ_=>br (S8 a.2.1.1 0) (λ_=>some (0,4)) λ_=>some (a.2.1.1,0)) λ_=>br (S8 (-1) 0) (λ_=>some (0,4)) λ_=>some (((-1),0))
def VK (x:(qS×Int)):Option ((qS×(qJ×Int))×Int) :=
 bd (Wu x) λa=>br (Ry a.2 0) (λ_=>some (((((0,[]),([],0)),((0,(([],([],([],([],0)))),((false,([],false)),([],0)))),0)),a.2))) λ_=>R1 a.1 λd=>ix x.1.2.1 d λc=>bd (Uc c.2) λb=>some (((x.1,(c,b.1)),b.2))
def UK (x:(qS×(qJ×Int))):Option Bool :=
 some (S6 x.2.2 0)
def XT (x:(Int×Int)):Option (Int×Int) :=
 br (S8 x.1 1) (λ_=>some (0,7)) λ_=>br (S6 x.1 16) (λ_=>some (0,7)) λ_=>br (S8 x.2 0) (λ_=>some (0,7)) λ_=>br (Rx x.2 12) (λ_=>some (0,7)) λ_=>gd (Rx x.2 0) λ_=>some (Rb .i64 x.1 x.2,0)
def UX (x:(qS×(qJ×Int))):Option Bool :=
 bd (XT (x.1.1.1,x.2.1.1)) λa=>br (Oa a.2 0) (λ_=>some (S7 (Ki (AS x.2.1.2.2.2.1)) a.1)) λ_=>some false
def Wv (x:(Tl×Int)):Option Int :=
 bd (VW x.1) λa=>br (Ry a.2.2 0) (λ_=>some a.2.2) λ_=>br (S8 x.2 0) (λ_=>some 7) λ_=>br (Rx x.2 12) (λ_=>some 7) λ_=>some 0
def XS (x:(Tl×Int)):Option (Bool×Int) :=
 bd (Wv x) λa=>br (Ry a 0) (λ_=>some (false,a)) λ_=>br (S8 x.2 (Ki (AS x.1.2))) (λ_=>R1 x.2 λb=>ix x.1.2 b λc=>some ((S8 (Ki (AS c)) 2,0))) λ_=>some (true,0)
def Vh (x:(qS×(qJ×Int))):Option Bool :=
 bd (XS (x.1.1,SF .i64 x.2.1.1 1)) λa=>br (Oa a.2 0) (λ_=>some a.1) λ_=>some false
def Ug (x:(qS×(qJ×Int))):Option Bool :=
 bd (loop (λs0=>br (S8 s0.1 3) (λ_=>R1 s0.1 λa=>br (neq a 0) (λ_=>bd (UK x) λc=>br c (λ_=>some (.dn ((0,((s0.1,true),()))))) λ_=>some (.nx (SF .i64 s0.1 1,s0.2))) λ_=>br (neq a 1) (λ_=>bd (UX x) λd=>br d (λ_=>some (.dn ((0,((s0.1,true),()))))) λ_=>some (.nx (SF .i64 s0.1 1,s0.2))) λ_=>gd (neq a 2) λ_=>bd (Vh x) λe=>br e (λ_=>some (.dn ((0,((s0.1,true),()))))) λ_=>some (.nx (SF .i64 s0.1 1,s0.2))) λ_=>some (.dn ((1,(s0,()))))) (0,false)) λb=>br (neq b.1 0) (λ_=>some b.2.1.2) λ_=>some false
def UW (x:(List qJ)):Option (List qJ) :=
 gd (CF (AS x) 1048576) λ_=>some x
def YA (x:(qS×(Int×Int))):Option (qS×(Int×Int)) :=
 bd (VM x.1) λf=>br (Ry f.2 0) (λ_=>some ((((0,[]),([],0)),(0,f.2)))) λ_=>br (S8 x.2.2 0) (λ_=>some ((((0,[]),([],0)),(0,7)))) λ_=>bd (Wu (x.1,x.2.1)) λa=>br (Ry a.2 0) (λ_=>some ((((0,[]),([],0)),(0,a.2)))) λ_=>R1 a.1 λg=>ix x.1.2.1 g λj=>bd (Uc j.2) λi=>br (Oa i.1 0) (λ_=>some ((((0,[]),([],0)),(0,9)))) λ_=>R1 a.1 λh=>ix x.1.2.1 h λk=>bd (Ux (k.2,x.2.2)) λb=>br (Ry b.2.2 0) (λ_=>some ((((0,[]),([],0)),(0,b.2.2)))) λ_=>bd (UW x.1.2.1) λd=>R1 a.1 λc=>gd (KJ c (AS d)) λ_=>ix d c λe=>some (((x.1.1,(lset d c (e.1,b.1),x.1.2.2)),(b.2.1,0)))
def V6 (x:(Tl×(Int×(List UN)))):Option Tl :=
 R1 (TY (Ki (AS x.1.2)) (SF .i64 x.2.1 1)) λh=>R1 (TY (Ki (AS x.1.2)) (SF .i64 x.2.1 1)) λa=>gd (CF a 1048576) λ_=>R1 x.2.1 λb=>gd (KJ b (AS (LC (Rd a ([]:List UN)) 0 x.1.2 (AS (Rd a ([]:List UN)))))) λ_=>ix (LC (Rd a ([]:List UN)) 0 x.1.2 (AS (Rd a ([]:List UN)))) b λi=>bd (loop (λc=>br (S6 c 0) (λ_=>R1 (SK .i64 c 1) λe=>gd (KJ e (AS (lset (LC (Rd a ([]:List UN)) 0 x.1.2 (AS (Rd a ([]:List UN)))) b x.2.2))) λ_=>ix (lset (LC (Rd a ([]:List UN)) 0 x.1.2 (AS (Rd a ([]:List UN)))) b x.2.2) e λg=>br (Oa (Ki (AS g)) 0) (λ_=>some (.nx (SK .i64 c 1))) λ_=>some (.dn ((0,(c,()))))) λ_=>some (.dn ((0,(c,()))))) (Ki (AS (lset (LC (Rd a ([]:List UN)) 0 x.1.2 (AS (Rd a ([]:List UN)))) b x.2.2)))) λf=>R1 f.2.1 λd=>gd (CF d (AS (lset (LC (Rd a ([]:List UN)) 0 x.1.2 (AS (Rd a ([]:List UN)))) b x.2.2))) λ_=>gd (CF 0 d) λ_=>br (KJ 0 (AS (lset (LC (Rd a ([]:List UN)) 0 x.1.2 (AS (Rd a ([]:List UN)))) b x.2.2))) (λ_=>gd (CF (BF 0 (Pa d 0)) (AS (lset (LC (Rd a ([]:List UN)) 0 x.1.2 (AS (Rd a ([]:List UN)))) b x.2.2))) λ_=>some ((x.1.1,D0 (lset (LC (Rd a ([]:List UN)) 0 x.1.2 (AS (Rd a ([]:List UN)))) b x.2.2) 0 (BF 0 (Pa d 0))))) λ_=>some (x.1.1,[])
def Vt (x:(Tl×Int)):Option (Tl×((List UN)×Int)) :=
 bd (Wv x) λb=>br (Ry b 0) (λ_=>some (((0,[]),([],b)))) λ_=>br (S8 x.2 (Ki (AS x.1.2))) (λ_=>R1 x.2 λc=>ix x.1.2 c λa=>br (Oa (Ki (AS a)) 0) (λ_=>some (((0,[]),([],4)))) λ_=>bd (V6 ((x.1,(x.2,[])))) λd=>gd (CF (AS a) 1048576) λ_=>some ((d,(a,0)))) λ_=>some (((0,[]),([],4)))
def UY (x:(Tl×(Int×UN))):Option (Tl×Int) :=
 bd (Wv (x.1,x.2.1)) λi=>br (Ry i 0) (λ_=>some (((0,[]),i))) λ_=>gd (Rx x.2.1 0) λ_=>bd (Vn (x.2.2,Rb .i64 x.1.1 x.2.1)) λj=>br (Ry j 0) (λ_=>some (((0,[]),j))) λ_=>bd (loop (λ(s2:(Int×(Tl×Int)))=>br (S8 s2.1 (Ki (AS x.1.2))) (λ_=>R1 s2.1 λm=>ix x.1.2 m λl=>bd (loop (λ(c:(Int×(Tl×Int)))=>br (Rx c.1 0) (λ_=>R1 c.1 λn=>ix l n λo=>br (Oa o.1 x.2.2.1) (λ_=>some (.dn ((1,((c.1,((0,[]),8)),()))))) λ_=>some (.nx (SK .i64 c.1 1,c.2))) λ_=>some (.dn ((0,(c,()))))) ((SK .i64 (Ki (AS l)) 1,s2.2))) λh=>br (neq h.1 0) (λ_=>some (.nx (SF .i64 s2.1 1,h.2.1.2))) λ_=>some (.dn ((1,((s2.1,h.2.1.2),()))))) λ_=>some (.dn ((0,(s2,()))))) ((0,((0,[]),0)))) λk=>br (neq k.1 0) (λ_=>br (S8 x.2.1 (Ki (AS x.1.2))) (λ_=>R1 x.2.1 λd=>ix x.1.2 d λa=>br (Oa (Ki (AS a)) 2) (λ_=>some (((0,[]),5))) λ_=>R1 (Ki (AS a)) λb=>R1 (Ki (AS a)) λe=>gd (CF b (AS a)) λ_=>gd (neq b e) λ_=>gd (CF 0 b) λ_=>gd (CF (BF (AS (D0 a 0 b)) (AS [x.2.2])) 1048576) λ_=>bd (V6 ((x.1,(x.2.1,Il (D0 a 0 b) [x.2.2])))) λf=>some (f,0)) λ_=>gd (CF (AS [x.2.2]) 1048576) λ_=>bd (V6 ((x.1,(x.2.1,[x.2.2])))) λg=>some (g,0)) λ_=>some k.2.1.2
def Xk (x:(Tl×Int)):Option (qJ×Int) :=
 bd (VW x.1) λa=>br (Ry a.2.2 0) (λ_=>some (((0,(([],([],([],([],0)))),((false,([],false)),([],0)))),a.2.2))) λ_=>br (S8 x.2 0) (λ_=>some (((0,(([],([],([],([],0)))),((false,([],false)),([],0)))),7))) λ_=>br (Rx x.2 12) (λ_=>some (((0,(([],([],([],([],0)))),((false,([],false)),([],0)))),7))) λ_=>br (Rx x.2 (Ki (AS x.1.2))) (λ_=>some (((0,(([],([],([],([],0)))),((false,([],false)),([],0)))),4))) λ_=>R1 x.2 λb=>ix x.1.2 b λe=>br (S8 (Ki (AS e)) 2) (λ_=>some (((0,(([],([],([],([],0)))),((false,([],false)),([],0)))),4))) λ_=>bd (Vm x) λc=>bd (VN ((x.1,(x.2,c)))) λd=>some (d,0)
def UO (x:(qS×(Tl×(Int×Int)))):Option (qS×Int) :=
 bd (loop (λ(s0:(Int×(List (Int×qJ))))=>br (S8 s0.1 (Ki (AS x.1.2.1))) (λ_=>R1 s0.1 λn=>ix x.1.2.1 n λj=>some (.nx ((SF .i64 s0.1 1,IT ((λk=>(λl=>Oa k l))) s0.2 j.1 j)))) λ_=>some (.dn ((0,(s0,()))))) (0,[])) λi=>bd (loop (λ(c:(Int×(Int×(qL×qL))))=>br (S8 c.2.1 (Ki (AS x.2.1.2))) (λ_=>R1 c.2.1 λo=>ix x.2.1.2 o λp=>br (S8 (Ki (AS p)) 2) (λ_=>some (.nx ((c.1,(SF .i64 c.2.1 1,c.2.2))))) λ_=>br (Hg (Tb (MU ((λm=>(λf=>Oa m f))) (IS ((λg=>(λh=>Oa g h))) i.2.1.2 x.2.2.2) c.2.1))) (λ_=>bd (Xk (x.2.1,c.2.1)) λe=>br (Ry e.2 0) (λ_=>some (.dn ((1,((e.2,(c.2.1,((0,([],([],0))),c.2.2.2))),()))))) λ_=>gd (CF (BF (AS c.2.2.2.2.2.1) (AS [e.1])) 1048576) λ_=>some (.nx ((c.1,(SF .i64 c.2.1 1,(c.2.2.1,(c.2.2.2.1,(c.2.2.2.2.1,(Il c.2.2.2.2.2.1 [e.1],c.2.2.2.2.2.2))))))))) λ_=>gd (CF (BF (AS c.2.2.2.2.2.1) (AS ([SO (MU (λa b=>Oa a b) (IS (λa b=>Oa a b) i.2.1.2 x.2.2.2) c.2.1) (0,(([],([],([],([],0)))),((false,([],false)),([],0))))]))) 1048576) λ_=>some (.nx ((c.1,(SF .i64 c.2.1 1,(c.2.2.1,(c.2.2.2.1,(c.2.2.2.2.1,(Il c.2.2.2.2.2.1 ([SO (MU (λa b=>Oa a b) (IS (λa b=>Oa a b) i.2.1.2 x.2.2.2) c.2.1) (0,(([],([],([],([],0)))),((false,([],false)),([],0))))]),c.2.2.2.2.2.2))))))))) λ_=>some (.dn ((0,(c,()))))) ((0,(0,((0,([],([],0))),(x.2.1.1,(x.2.1.2,([],x.2.2.1)))))))) λd=>br (neq d.1 0) (λ_=>some ((((d.2.1.2.2.2.1,d.2.1.2.2.2.2.1),d.2.1.2.2.2.2.2),0))) λ_=>some ((((d.2.1.2.2.1.1,d.2.1.2.2.1.2.1),d.2.1.2.2.1.2.2),d.2.1.1))
def WF (x:(qS×Int)):Option (qS×Int) :=
 bd (VK x) λb=>br (Ry b.2 0) (λ_=>some ((((0,[]),([],0)),b.2))) λ_=>bd (UK b.1) λn=>br n (λ_=>some ((((0,[]),([],0)),9))) λ_=>bd (Ug b.1) λo=>br (Hg o) (λ_=>some ((((0,[]),([],0)),9))) λ_=>br (S6 x.1.2.2 1000000) (λ_=>br (S6 (Ki (AS b.1.2.1.2.2.2.1)) 0) (λ_=>some ((((0,[]),([],0)),5))) λ_=>bd (Vt (x.1.1,x.2)) λc=>br (Oa c.2.2 0) (λ_=>br (S6 (Ki (AS b.1.2.1.2.2.2.1)) 0) (λ_=>bd (UX b.1) λp=>br (Hg p) (λ_=>bd (UY ((c.1,(SF .i64 x.2 1,(x.1.2.2,b.1.2.1.2.2.2.1))))) λl=>br (Ry l.2 0) (λ_=>some ((((0,[]),([],0)),l.2))) λ_=>bd (UO ((x.1,(l.1,(SF .i64 x.1.2.2 1,x.2))))) λq=>some q) λ_=>bd (UY ((c.1,(x.2,(x.1.2.2,b.1.2.1.2.2.2.1))))) λm=>br (Ry m.2 0) (λ_=>some ((((0,[]),([],0)),m.2))) λ_=>bd (UO ((x.1,(m.1,(SF .i64 x.1.2.2 1,x.2))))) λr=>some r) λ_=>br (Ry c.2.2 0) (λ_=>some ((((0,[]),([],0)),c.2.2))) λ_=>bd (UO ((x.1,(c.1,(x.1.2.2,x.2))))) λs=>some s) λ_=>br (Ry c.2.2 0) (λ_=>some ((((0,[]),([],0)),c.2.2))) λ_=>bd (UO ((x.1,(c.1,(x.1.2.2,x.2))))) λf=>some f) λ_=>bd (Vt (x.1.1,x.2)) λa=>br (Oa a.2.2 0) (λ_=>br (S6 (Ki (AS b.1.2.1.2.2.2.1)) 0) (λ_=>bd (UX b.1) λg=>br (Hg g) (λ_=>bd (UY ((a.1,(SF .i64 x.2 1,(x.1.2.2,b.1.2.1.2.2.2.1))))) λd=>br (Ry d.2 0) (λ_=>some ((((0,[]),([],0)),d.2))) λ_=>bd (UO ((x.1,(d.1,(SF .i64 x.1.2.2 1,x.2))))) λh=>some h) λ_=>bd (UY ((a.1,(x.2,(x.1.2.2,b.1.2.1.2.2.2.1))))) λe=>br (Ry e.2 0) (λ_=>some ((((0,[]),([],0)),e.2))) λ_=>bd (UO ((x.1,(e.1,(SF .i64 x.1.2.2 1,x.2))))) λi=>some i) λ_=>br (Ry a.2.2 0) (λ_=>some ((((0,[]),([],0)),a.2.2))) λ_=>bd (UO ((x.1,(a.1,(x.1.2.2,x.2))))) λj=>some j) λ_=>br (Ry a.2.2 0) (λ_=>some ((((0,[]),([],0)),a.2.2))) λ_=>bd (UO ((x.1,(a.1,(x.1.2.2,x.2))))) λk=>some k
def Uy (x:(qS×Int)):Option (qS×(Bool×Int)) :=
 bd (VK x) λa=>br (Ry a.2 0) (λ_=>some ((((0,[]),([],0)),(false,a.2)))) λ_=>bd (Ug a.1) λd=>br (Hg d) (λ_=>some ((((0,[]),([],0)),(false,9)))) λ_=>bd (UK a.1) λe=>br e (λ_=>bd (YA ((x.1,(x.2,1)))) λc=>some ((c.1,(false,c.2.2)))) λ_=>bd (WF x) λb=>some ((b.1,(Oa b.2 0,b.2)))
def YP (x:(qS×Int)):Option (Int×Int) :=
 bd (VK x) λa=>br (Ry a.2 0) (λ_=>some (0,a.2)) λ_=>bd (UK a.1) λb=>br b (λ_=>some (0,9)) λ_=>bd (UX a.1) λc=>br c (λ_=>some (x.2,0)) λ_=>some (SF .i64 x.2 1,0)
def WP (x:qS):Option ((List Int)×Int) :=
 bd (VM x) λa=>br (Ry a.2 0) (λ_=>some ([],a.2)) λ_=>bd (loop (λs1=>br (S8 s1.1 (Ki (AS x.1.2))) (λ_=>R1 s1.1 λb=>ix x.1.2 b λd=>br (Oa (Ki (AS d)) 2) (λ_=>gd (CF (BF (AS s1.2) (AS [s1.1])) 1048576) λ_=>some (.nx (SF .i64 s1.1 1,Il s1.2 [s1.1]))) λ_=>some (.nx (SF .i64 s1.1 1,s1.2))) λ_=>some (.dn ((0,(s1,()))))) (0,[])) λc=>some (c.2.1.2,0)
def VA (x:qS):Option (Int×Int) :=
 bd (WP x) λa=>br (Ry a.2 0) (λ_=>some (0,a.2)) λ_=>br (Oa (Ki (AS a.1)) 0) (λ_=>some (0,4)) λ_=>bd (loop (λs1=>br (S8 s1.2.2.1 (Ki (AS a.1))) (λ_=>R1 s1.2.2.1 λe=>ix a.1 e λd=>bd (VK (x,d)) λc=>br (Ry c.2 0) (λ_=>some (.dn ((0,((c.2,(s1.2.1,(s1.2.2.1,0))),()))))) λ_=>bd (Ug c.1) λf=>br f (λ_=>some (.dn ((1,((s1.1,(true,(s1.2.2.1,d))),()))))) λ_=>some (.nx ((s1.1,(s1.2.1,(SF .i64 s1.2.2.1 1,s1.2.2.2)))))) λ_=>some (.dn ((1,(s1,()))))) ((a.2,(false,(0,0))))) λb=>br (neq b.1 0) (λ_=>some (b.2.1.2.2.2,b.2.1.1)) λ_=>br (Hg b.2.1.2.1) (λ_=>some (0,9)) λ_=>some (b.2.1.2.2.2,0)
def XR (x:(qS×Int)):Option (Bool×Int) :=
 bd (VK x) λa=>br (Ry a.2 0) (λ_=>some (false,a.2)) λ_=>bd (Ug a.1) λb=>some (b,0)
def Yh (x:(Int×Int)):Option (Int×Int) :=
 br (S8 x.1 1) (λ_=>some (0,7)) λ_=>br (S6 x.1 16) (λ_=>some (0,7)) λ_=>br (S8 x.2 0) (λ_=>some (0,7)) λ_=>br (Rx x.2 12) (λ_=>some (0,7)) λ_=>bd (V1 x) λa=>some (a,0)
def Wl (x:(qS×qJ)):Option Bool :=
 bd (Yh (x.1.1.1,x.2.1)) λa=>some (S7 (Ki (AS x.2.2.2.2.1)) a.1)
def Yl (x:(qS×Int)):Option Bool :=
 br (S8 (SF .i64 x.2 1) 12) (λ_=>br (Rx (SF .i64 x.2 1) (Ki (AS x.1.1.2))) (λ_=>some true) λ_=>R1 (SF .i64 x.2 1) λa=>ix x.1.1.2 a λb=>some (S8 (Ki (AS b)) 2)) λ_=>some false
def Wx (x:(qS×Int)):Option (Bool×Int) :=
 bd (U8 x) λa=>br (Ry a.2 0) (λ_=>some (false,a.2)) λ_=>bd (Uq x) λc=>br (S6 a.1 0) (λ_=>some (true,0)) λ_=>R1 c.1 λb=>ix x.1.2.1 b λf=>bd (Wl (x.1,f)) λd=>br d (λ_=>some (true,0)) λ_=>bd (Yl x) λe=>some (e,0)
def Xz (x:(qS×Int)):Option (Int×Int) :=
 bd (U8 x) λa=>br (Oa a.2 0) (λ_=>br (S6 a.1 0) (λ_=>some (0,9)) λ_=>br (Ry a.2 0) (λ_=>some (0,a.2)) λ_=>bd (Uq x) λd=>R1 d.1 λb=>ix x.1.2.1 b λh=>bd (Wl (x.1,h)) λe=>br e (λ_=>some (x.2,0)) λ_=>some (SF .i64 x.2 1,0)) λ_=>br (Ry a.2 0) (λ_=>some (0,a.2)) λ_=>bd (Uq x) λf=>R1 f.1 λc=>ix x.1.2.1 c λi=>bd (Wl (x.1,i)) λg=>br g (λ_=>some (x.2,0)) λ_=>some (SF .i64 x.2 1,0)
def Yj (x:qS):Option (Int×Int) :=
 bd (Vf x) λa=>br (Ry a.2 0) (λ_=>some (0,a.2)) λ_=>br (Oa (Ki (AS a.1)) 0) (λ_=>some (0,4)) λ_=>bd (loop (λs1=>br (S8 s1.2.2 (Ki (AS a.1))) (λ_=>R1 s1.2.2 λc=>ix a.1 c λf=>bd (Wx (x,f)) λe=>br e.1 (λ_=>R1 s1.2.2 λd=>ix a.1 d λg=>some (.dn ((0,((0,(g,s1.2.2)),()))))) λ_=>some (.nx ((s1.1,(s1.2.1,SF .i64 s1.2.2 1))))) λ_=>some (.dn ((1,(s1,()))))) ((0,(0,0)))) λb=>br (neq b.1 0) (λ_=>some (b.2.1.2.1,b.2.1.1)) λ_=>some (0,9)
end
section
open Go Sv
def YB (x:qS):Option Bool :=
 bd (loop (λs0=>br (S8 s0.2.2 (Ki (AS x.1.2))) (λ_=>br (S8 s0.2.2 20) (λ_=>bd (loop (λs1=>R1 s0.2.2 λs=>ix x.1.2 s λy=>br (S8 s1.2.1 (Ki (AS y))) (λ_=>br (S8 s1.2.1 9) (λ_=>R1 s0.2.2 λt=>ix x.1.2 t λz=>R1 s1.2.1 λu=>ix z u λi=>bd (loop (λe=>br (S8 e.1 (Ki (AS i.2))) (λ_=>br (S8 e.1 50) (λ_=>R1 e.1 λw=>ix i.2 w λo=>br (S6 (Ki (Mj o.1)) 100) (λ_=>some (.dn ((0,((e.1,true),()))))) λ_=>R1 e.1 λj=>ix i.2 j λp=>br (S6 (Ki (Mj p.2.1)) 100) (λ_=>some (.dn ((0,((e.1,true),()))))) λ_=>some (.nx (SF .i64 e.1 1,e.2))) λ_=>some (.dn ((1,(e,()))))) λ_=>some (.dn ((1,(e,()))))) (0,s1.2.2)) λg=>br (neq g.1 0) (λ_=>some (.dn ((1,((SF .i64 s1.1 (Ki (AS i.2)),(s1.2.1,g.2.1.2)),()))))) λ_=>some (.nx ((SF .i64 s1.1 (Ki (AS i.2)),(SF .i64 s1.2.1 1,g.2.1.2))))) λ_=>some (.dn ((0,(s1,()))))) λ_=>some (.dn ((0,(s1,()))))) ((s0.1,(0,s0.2.1)))) λc=>br (neq c.1 0) (λ_=>R1 s0.2.2 λk=>ix x.1.2 k λq=>br (S6 (Ki (AS q)) 8) (λ_=>some (.dn ((1,((c.2.1.1,(true,s0.2.2)),()))))) λ_=>some (.nx ((c.2.1.1,(c.2.1.2.2,SF .i64 s0.2.2 1))))) λ_=>some (.dn ((1,((c.2.1.1,(c.2.1.2.2,s0.2.2)),()))))) λ_=>some (.dn ((0,(s0,()))))) λ_=>some (.dn ((0,(s0,()))))) ((0,(false,0)))) λf=>br (neq f.1 0) (λ_=>bd (loop (λa=>br (S8 a.2 (Ki (AS x.2.1))) (λ_=>br (S8 a.2 20) (λ_=>R1 a.2 λl=>ix x.2.1 l λb=>br (S6 (Ki (AS b.2.1.1)) 20) (λ_=>some (.dn ((0,((true,a.2),()))))) λ_=>br (S6 (Ki (AS b.2.1.2.1)) 100) (λ_=>some (.dn ((0,((true,a.2),()))))) λ_=>br (S6 (Ki (AS b.2.1.2.2.1)) 100) (λ_=>some (.dn ((0,((true,a.2),()))))) λ_=>br (S6 (Ki (AS b.2.1.2.2.2.1)) 100) (λ_=>some (.dn ((0,((true,a.2),()))))) λ_=>bd (loop (λd=>br (S8 d.1 (Ki (AS b.2.1.1))) (λ_=>R1 d.1 λm=>ix b.2.1.1 m λr=>some (.nx ((SF .i64 d.1 1,SF .i64 d.2 (Ki (AS r)))))) λ_=>some (.dn ((0,(d,()))))) ((0,Ki (AS b.2.2.2.1)))) λn=>br (S6 n.2.1.2 200) (λ_=>some (.dn ((0,((true,a.2),()))))) λ_=>some (.nx (a.1,SF .i64 a.2 1))) λ_=>some (.dn ((1,(a,()))))) λ_=>some (.dn ((1,(a,()))))) (f.2.1.2.1,0)) λh=>br (neq h.1 0) (λ_=>some h.2.1.1) λ_=>br (S6 f.2.1.1 40) (λ_=>some true) λ_=>br (S6 (Ki (AS x.1.2)) 15) (λ_=>some true) λ_=>some (S6 (Ki (AS x.2.1)) 15)) λ_=>some f.2.1.2.1
def YC (x:qF):Option Bool :=
 bd (loop (λs0=>br (S8 s0.1 (Ki (AS x.1.2))) (λ_=>br (S8 s0.1 25) (λ_=>R1 s0.1 λb=>ix x.1.2 b λe=>br (S6 (Ki (Mj e.1)) 100) (λ_=>some (.dn ((0,((s0.1,true),()))))) λ_=>R1 s0.1 λc=>ix x.1.2 c λf=>br (S6 (Ki (Mj f.2.1)) 100) (λ_=>some (.dn ((0,((s0.1,true),()))))) λ_=>some (.nx (SF .i64 s0.1 1,s0.2))) λ_=>some (.dn ((1,(s0,()))))) λ_=>some (.dn ((1,(s0,()))))) (0,false)) λa=>br (neq a.1 0) (λ_=>some a.2.1.2) λ_=>bd (YB x.2) λd=>br d (λ_=>some true) λ_=>some (S6 (Ki (AS x.1.2)) 20)
def Vs (x:(Int×(List Int))):Option Bool :=
 br (S8 x.1 1) (λ_=>some false) λ_=>br (S6 x.1 16) (λ_=>some false) λ_=>bd (loop (λs0=>br (S8 s0.1 (Ki (AS x.2))) (λ_=>R1 s0.1 λc=>ix x.2 c λb=>br (S8 b 0) (λ_=>some (.dn ((0,((s0.1,false),()))))) λ_=>br (S6 b 1000000000) (λ_=>some (.dn ((0,((s0.1,false),()))))) λ_=>some (.nx (SF .i64 s0.1 1,s0.2))) λ_=>some (.dn ((1,(s0,()))))) (0,false)) λa=>br (neq a.1 0) (λ_=>some a.2.1.2) λ_=>some true
def Ve (x:(Int×Int)):Option (Int×Int) :=
 bd (Vs (x.1,[x.2])) λa=>br (Hg a) (λ_=>some (0,7)) λ_=>br (Oa x.2 0) (λ_=>some (0,0)) λ_=>bd (loop (λs1=>br (S8 s1.1 x.2) (λ_=>br (S8 s1.2 12) (λ_=>some (.nx (Rb .i64 s1.1 1,SF .i64 s1.2 1))) λ_=>some (.dn ((0,(s1,()))))) λ_=>some (.dn ((0,(s1,()))))) (x.1,1)) λb=>some (b.2.1.2,0)
def ZQ (x:(Int×Int)):Option (Int×Int) :=
 bd (Vs (x.1,[x.2])) λa=>br (Hg a) (λ_=>some (0,7)) λ_=>some ((SG .i64 x.1 (SF .i64 x.2 1),0))
def Yy (x:(Int×(Int×Int))):Option (Int×Int) :=
 bd (Vs (x.1,[x.2.1,x.2.2])) λb=>br (Hg b) (λ_=>some (0,7)) λ_=>bd (Ve (x.1,x.2.1)) λa=>some ((SF .i64 (SG .i64 (SF .i64 (SG .i64 2 x.1) 1) x.2.2) (SG .i64 (SG .i64 5 x.2.1) (TY (SK .i64 a.1 1) 0)),a.2))
def V5 (x:((List UInt8)×(Int×Bool))):Option Tj :=
 br x.2.2 (λ_=>some ((x.1,([],(x.2.2,x.2.1))))) λ_=>some ((x.1,([(118:UInt8)],(x.2.2,x.2.1))))
def WG (x:(Int×(List Tj))):Option UN :=
 some x
def Xg (x:Unit):Option qF :=
 bd (V5 (([(98:UInt8)],(3,false)))) λa=>bd (WG (2,[a])) λb=>bd (V5 (([(97:UInt8)],(4,false)))) λc=>bd (WG (3,[c])) λd=>bd (V5 (([(98:UInt8)],(1,true)))) λe=>bd (V5 (([(99:UInt8)],(2,false)))) λf=>bd (WG (1,[e,f])) λg=>bd (ab (1,[[b,d],[g]])) λh=>bd (V5 (([(100:UInt8)],(5,false)))) λi=>some (((1,[i]),h.1))
def W2 (x:UN):Option (Int×Int) :=
 br (S8 x.1 1) (λ_=>some (0,7)) λ_=>br (S6 x.1 16) (λ_=>some (0,7)) λ_=>br (S6 (Ki (AS x.2)) x.1) (λ_=>some (0,3)) λ_=>bd (loop (λs0=>br (S8 s0.2.2 (Ki (AS x.2))) (λ_=>R1 s0.2.2 λd=>ix x.2 d λc=>bd (U1 c) λb=>br (Ry b 0) (λ_=>some (.dn ((0,((b,(s0.2.2,s0.2.2)),()))))) λ_=>br (S6 s0.2.2 0) (λ_=>R1 (SK .i64 s0.2.2 1) λe=>ix x.2 e λf=>br (Hg (SV f.1 c.1)) (λ_=>some (.dn ((0,((6,(s0.2.2,s0.2.2)),()))))) λ_=>some (.nx ((s0.1,(s0.2.1,SF .i64 s0.2.2 1))))) λ_=>some (.nx ((s0.1,(s0.2.1,SF .i64 s0.2.2 1))))) λ_=>some (.dn ((1,(s0,()))))) ((0,(0,0)))) λa=>br (neq a.1 0) (λ_=>some (a.2.1.2.1,a.2.1.1)) λ_=>some (0,0)
def VT (x:qF):Option Int :=
 bd (W2 x.1) λa=>br (Ry a.2 0) (λ_=>some a.2) λ_=>bd (VM x.2) λb=>br (Ry b.2 0) (λ_=>some b.2) λ_=>br (Ry x.1.1 x.2.1.1) (λ_=>some 6) λ_=>some 0
def X9 (x:(qS×Int)):Option (Int×Int) :=
 bd (Wu x) λa=>br (Ry a.2 0) (λ_=>some (0,a.2)) λ_=>R1 a.1 λb=>ix x.1.2.1 b λd=>bd (Uc d.2) λc=>some c
def Yg (x:(qS×Int)):Option (Int×Int) :=
 bd (X9 x) λa=>br (Ry a.2 0) (λ_=>some (0,a.2)) λ_=>some (SF .i64 a.1 1,0)
def Xx (x:qS):Option (Int×Int) :=
 bd (WP x) λa=>br (Ry a.2 0) (λ_=>some (0,a.2)) λ_=>bd (loop (λs1=>br (S8 s1.2.1 (Ki (AS a.1))) (λ_=>R1 s1.2.1 λd=>ix a.1 d λe=>bd (Yg (x,e)) λc=>br (Ry c.2 0) (λ_=>some (.dn ((0,((c.2,(s1.2.1,(0,s1.2.2.2))),()))))) λ_=>some (.nx ((s1.1,(SF .i64 s1.2.1 1,(s1.2.2.1,SF .i64 s1.2.2.2 c.1)))))) λ_=>some (.dn ((1,(s1,()))))) ((0,(0,(0,0))))) λb=>br (neq b.1 0) (λ_=>some (b.2.1.2.2.1,b.2.1.1)) λ_=>some (b.2.1.2.2.2,0)
def WQ (x:Tl):Option (Int×(Int×Int)) :=
 bd (VW x) λb=>br (Ry b.2.2 0) (λ_=>some ((0,(0,b.2.2)))) λ_=>bd (loop (λs1=>br (S8 s1.1 (Ki (AS x.2))) (λ_=>R1 s1.1 λe=>ix x.2 e λd=>bd (loop (λa=>br (Rx a.1 0) (λ_=>R1 a.1 λf=>ix d f λh=>some (.nx ((SK .i64 a.1 1,(SF .i64 a.2.1 (Ki (AS h.2)),SF .i64 a.2.2 1))))) λ_=>some (.dn ((0,(a,()))))) ((SK .i64 (Ki (AS d)) 1,s1.2))) λg=>some (.nx (SF .i64 s1.1 1,g.2.1.2))) λ_=>some (.dn ((0,(s1,()))))) ((0,(0,0)))) λc=>some ((c.2.1.2.1,(c.2.1.2.2,0)))
def Ud (x:((qF×(Int×(Int×(Int×Int))))×Unit)):Option Int :=
 some (Ki (AS x.1.1.2.1.2))
def VP (x:qF):Option (Int×(Int×Int)) :=
 bd (VT x) λc=>br (Ry c 0) (λ_=>br (Ry c 0) (λ_=>some ((0,(0,c)))) λ_=>none) λ_=>bd (Xx x.2) λa=>br (Ry a.2 0) (λ_=>br (Ry a.2 0) (λ_=>some ((0,(0,a.2)))) λ_=>none) λ_=>bd (WQ x.2.1) λb=>br (Ry b.2.2 0) (λ_=>some ((0,(0,b.2.2)))) λ_=>bd (Ud (((x,(0,(a.1,(b.1,b.2.1)))),()))) λd=>some ((a.1,(SF .i64 b.1 d,0)))
def WO (x:(qF×Int)):Option ((List Int)×Int) :=
 bd (VT x.1) λm=>br (Ry m 0) (λ_=>br (Ry m 0) (λ_=>some ([],m)) λ_=>br (S8 x.2 0) (λ_=>some ([],7)) λ_=>br (S6 x.2 1000000000) (λ_=>some ([],7)) λ_=>bd (loop (λ(s1:((List Int)×Int))=>br (S8 s1.2 5) (λ_=>R1 s1.2 λh=>br (neq h 0) (λ_=>none) λ_=>br (neq h 1) (λ_=>none) λ_=>br (neq h 2) (λ_=>none) λ_=>br (neq h 3) (λ_=>none) λ_=>gd (neq h 4) λ_=>none) λ_=>some (.dn ((0,(s1,()))))) ([],0)) λu=>some (u.2.1.1,0)) λ_=>bd (Xx x.1.2) λg=>br (Ry g.2 0) (λ_=>br (Ry g.2 0) (λ_=>some ([],g.2)) λ_=>br (S8 x.2 0) (λ_=>some ([],7)) λ_=>br (S6 x.2 1000000000) (λ_=>some ([],7)) λ_=>bd (loop (λ(s:((List Int)×Int))=>br (S8 s.2 5) (λ_=>R1 s.2 λi=>br (neq i 0) (λ_=>none) λ_=>br (neq i 1) (λ_=>none) λ_=>br (neq i 2) (λ_=>none) λ_=>br (neq i 3) (λ_=>none) λ_=>gd (neq i 4) λ_=>none) λ_=>some (.dn ((0,(s,()))))) ([],0)) λw=>some (w.2.1.1,0)) λ_=>bd (WQ x.1.2.1) λe=>br (Ry e.2.2 0) (λ_=>some ([],e.2.2)) λ_=>br (S8 x.2 0) (λ_=>some ([],7)) λ_=>br (S6 x.2 1000000000) (λ_=>some ([],7)) λ_=>bd (loop (λ(a:((List Int)×Int))=>br (S8 a.2 5) (λ_=>R1 a.2 λc=>br (neq c 0) (λ_=>bd (Ud (((x.1,(x.2,(g.1,(e.1,e.2.1)))),()))) λn=>br (Hg (S7 g.1 (SF .i64 e.1 n))) (λ_=>gd (CF (BF (AS a.1) (AS ([SF .i64 a.2 1]))) 1048576) λ_=>some (.nx ((Il a.1 ([SF .i64 a.2 1]),SF .i64 a.2 1)))) λ_=>some (.nx (a.1,SF .i64 a.2 1))) λ_=>br (neq c 1) (λ_=>bd (Ud (((x.1,(x.2,(g.1,(e.1,e.2.1)))),()))) λo=>br (Hg (S7 e.2.1 (SG .i64 2 o))) (λ_=>gd (CF (BF (AS a.1) (AS ([SF .i64 a.2 1]))) 1048576) λ_=>some (.nx ((Il a.1 ([SF .i64 a.2 1]),SF .i64 a.2 1)))) λ_=>some (.nx (a.1,SF .i64 a.2 1))) λ_=>br (neq c 2) (λ_=>br (Hg (S7 (SF .i64 e.1 (Ki (AS x.1.1.2))) x.2)) (λ_=>gd (CF (BF (AS a.1) (AS ([SF .i64 a.2 1]))) 1048576) λ_=>some (.nx ((Il a.1 ([SF .i64 a.2 1]),SF .i64 a.2 1)))) λ_=>some (.nx (a.1,SF .i64 a.2 1))) λ_=>br (neq c 3) (λ_=>bd (Ve (x.1.2.1.1,x.2)) λj=>br (Oa j.2 0) (λ_=>br (Hg (S7 (Ki (AS x.1.2.1.2)) j.1)) (λ_=>gd (CF (BF (AS a.1) (AS ([SF .i64 a.2 1]))) 1048576) λ_=>some (.nx ((Il a.1 ([SF .i64 a.2 1]),SF .i64 a.2 1)))) λ_=>some (.nx (a.1,SF .i64 a.2 1))) λ_=>gd (CF (BF (AS a.1) (AS ([SF .i64 a.2 1]))) 1048576) λ_=>some (.nx ((Il a.1 ([SF .i64 a.2 1]),SF .i64 a.2 1)))) λ_=>gd (neq c 4) λ_=>bd (loop (λb=>br (S8 b.2 (Ki (AS x.1.2.1.2))) (λ_=>R1 b.2 λk=>ix x.1.2.1.2 k λf=>br (Oa b.2 0) (λ_=>some (.nx (b.1,SF .i64 b.2 1))) λ_=>br (S8 (Ki (AS f)) 2) (λ_=>some (.nx (b.1,SF .i64 b.2 1))) λ_=>bd (loop (λd=>br (S8 d (Ki (AS f))) (λ_=>R1 d λl=>ix f l λt=>gd (Rx (SK .i64 b.2 1) 0) λ_=>br (S6 (Ki (AS t.2)) (Rb .i64 x.1.2.1.1 (SK .i64 b.2 1))) (λ_=>some (.dn ((0,(d,()))))) λ_=>some (.nx (SF .i64 d 1))) λ_=>some (.dn ((1,(d,()))))) 0) λp=>br (neq p.1 0) (λ_=>some (.nx (b.1,SF .i64 b.2 1))) λ_=>some (.nx (false,SF .i64 b.2 1))) λ_=>some (.dn ((0,(b,()))))) (true,0)) λq=>br (Hg q.2.1.1) (λ_=>gd (CF (BF (AS a.1) (AS ([SF .i64 a.2 1]))) 1048576) λ_=>some (.nx ((Il a.1 ([SF .i64 a.2 1]),SF .i64 a.2 1)))) λ_=>some (.nx (a.1,SF .i64 a.2 1))) λ_=>some (.dn ((0,(a,()))))) ([],0)) λr=>some (r.2.1.1,0)
def Zq (x:((List Int)×(List Int))):Option Bool :=
 br (Ry (Ki (AS x.1)) (Ki (AS x.2))) (λ_=>some false) λ_=>bd (loop (λs0=>br (S8 s0.1 (Ki (AS x.1))) (λ_=>R1 s0.1 λb=>ix x.1 b λd=>R1 s0.1 λc=>ix x.2 c λe=>br (Ry d e) (λ_=>some (.dn ((0,((s0.1,false),()))))) λ_=>some (.nx (SF .i64 s0.1 1,s0.2))) λ_=>some (.dn ((1,(s0,()))))) (0,false)) λa=>br (neq a.1 0) (λ_=>some a.2.1.2) λ_=>some true
def Uv (x:Unit):Option Bool :=
 bd (Ve (2,5)) λb=>bd (ZQ (4,8)) λc=>bd (Yy ((1,(4,3)))) λd=>bd (Xg ()) λf=>bd (VP f) λa=>bd (Xg ()) λg=>bd (WO (g,4)) λe=>br (Oa b.2 0) (λ_=>br (Oa c.2 0) (λ_=>br (Oa d.2 0) (λ_=>br (Oa a.2.2 0) (λ_=>br (Oa e.2 0) (λ_=>br (Oa b.1 3) (λ_=>br (Oa c.1 36) (λ_=>br (Oa d.1 49) (λ_=>br (Oa a.1 3) (λ_=>br (Oa a.2.1 6) (λ_=>bd (Zq (e.1,[3])) λh=>some h) λ_=>some false) λ_=>some false) λ_=>some false) λ_=>some false) λ_=>some false) λ_=>some false) λ_=>some false) λ_=>some false) λ_=>some false) λ_=>some false
def YF (x:(qS×Int)):Option (Int×Int) :=
 bd (U8 x) λa=>br (Ry a.2 0) (λ_=>some (0,a.2)) λ_=>some (SF .i64 a.1 1,0)
def YE (x:qS):Option (Int×Int) :=
 bd (Vf x) λa=>bd (loop (λs1=>br (S8 s1.1 (Ki (AS a.1))) (λ_=>R1 s1.1 λb=>ix a.1 b λe=>bd (YF (x,e)) λc=>some (.nx (SF .i64 s1.1 1,SF .i64 s1.2 c.1))) λ_=>some (.dn ((0,(s1,()))))) (0,0)) λd=>some (d.2.1.2,a.2)
def Xa (x:Tl):Option (Int×(Int×Int)) :=
 bd (WR x) λa=>br (Ry a.2 0) (λ_=>some ((0,(0,a.2)))) λ_=>bd (loop (λs1=>br (S8 s1.2 (Ki (AS a.1))) (λ_=>R1 s1.2 λb=>ix a.1 b λd=>some (.nx ((SF .i64 s1.1 (Ki (AS d.2)),SF .i64 s1.2 1)))) λ_=>some (.dn ((0,(s1,()))))) (0,0)) λc=>some ((c.2.1.1,(Ki (AS a.1),0)))
def ZR (x:(Int×Int)):Option Int :=
 bd (loop (λs0=>br (S8 s0.2 x.2) (λ_=>some (.nx (SG .i64 2 s0.1,SF .i64 s0.2 1))) λ_=>some (.dn ((0,(s0,()))))) (x.1,0)) λa=>some a.2.1.1
end
section
open Go Sv
def Vj (x:(Tl×(Int×(List UN)))):Option Tl :=
 bd (loop (λ(s0:(Int×Tl))=>br (S8 s0.1 (Ki (AS x.1.2))) (λ_=>br (Rx s0.1 (Ki (AS x.1.2))) (λ_=>br (Oa s0.1 x.2.1) (λ_=>gd (CF (AS x.2.2) 1048576) λ_=>gd (CF (BF (AS s0.2.2) (AS [x.2.2])) 1048576) λ_=>some (.nx ((SF .i64 s0.1 1,(s0.2.1,Il s0.2.2 [x.2.2]))))) λ_=>gd (CF (BF (AS s0.2.2) (AS ([[]]:(List (List UN))))) 1048576) λ_=>some (.nx ((SF .i64 s0.1 1,(s0.2.1,Il s0.2.2 [[]]))))) λ_=>R1 s0.1 λf=>ix x.1.2 f λd=>br (Oa s0.1 x.2.1) (λ_=>gd (CF (AS x.2.2) 1048576) λ_=>gd (CF (BF (AS s0.2.2) (AS [x.2.2])) 1048576) λ_=>some (.nx ((SF .i64 s0.1 1,(s0.2.1,Il s0.2.2 [x.2.2]))))) λ_=>gd (CF (AS d) 1048576) λ_=>gd (CF (BF (AS s0.2.2) (AS [d])) 1048576) λ_=>some (.nx ((SF .i64 s0.1 1,(s0.2.1,Il s0.2.2 [d]))))) λ_=>br (S7 s0.1 x.2.1) (λ_=>br (Rx s0.1 (Ki (AS x.1.2))) (λ_=>br (Oa s0.1 x.2.1) (λ_=>gd (CF (AS x.2.2) 1048576) λ_=>gd (CF (BF (AS s0.2.2) (AS [x.2.2])) 1048576) λ_=>some (.nx ((SF .i64 s0.1 1,(s0.2.1,Il s0.2.2 [x.2.2]))))) λ_=>gd (CF (BF (AS s0.2.2) (AS ([[]]:(List (List UN))))) 1048576) λ_=>some (.nx ((SF .i64 s0.1 1,(s0.2.1,Il s0.2.2 [[]]))))) λ_=>R1 s0.1 λg=>ix x.1.2 g λe=>br (Oa s0.1 x.2.1) (λ_=>gd (CF (AS x.2.2) 1048576) λ_=>gd (CF (BF (AS s0.2.2) (AS [x.2.2])) 1048576) λ_=>some (.nx ((SF .i64 s0.1 1,(s0.2.1,Il s0.2.2 [x.2.2]))))) λ_=>gd (CF (AS e) 1048576) λ_=>gd (CF (BF (AS s0.2.2) (AS [e])) 1048576) λ_=>some (.nx ((SF .i64 s0.1 1,(s0.2.1,Il s0.2.2 [e]))))) λ_=>some (.dn ((0,(s0,()))))) ((0,(x.1.1,[])))) λi=>bd (loop (λ(a:Tl)=>br (S6 (Ki (AS a.2)) 0) (λ_=>R1 (SK .i64 (Ki (AS a.2)) 1) λh=>ix a.2 h λj=>br (Oa (Ki (AS j)) 0) (λ_=>R1 (SK .i64 (Ki (AS a.2)) 1) λb=>gd (CF b (AS a.2)) λ_=>gd (CF 0 b) λ_=>some (.nx (a.1,D0 a.2 0 b))) λ_=>some (.dn ((0,(a,()))))) λ_=>some (.dn ((0,(a,()))))) i.2.1.2) λc=>some c.2.1
def XD (x:(Tl×Int)):Option (List UN) :=
 br (Rx x.2 (Ki (AS x.1.2))) (λ_=>some []) λ_=>R1 x.2 λa=>ix x.1.2 a λb=>some b
def Uw (x:(Tl×Int)):Option (qJ×Int) :=
 bd (U7 x.1) λa=>br (Oa a.2.2 0) (λ_=>br (S8 x.2 0) (λ_=>some (((0,(([],([],([],([],0)))),((false,([],false)),([],0)))),7))) λ_=>br (Rx x.2 12) (λ_=>some (((0,(([],([],([],([],0)))),((false,([],false)),([],0)))),7))) λ_=>br (Oa a.2.2 0) (λ_=>br (Rx x.2 (Ki (AS x.1.2))) (λ_=>some (((0,(([],([],([],([],0)))),((false,([],false)),([],0)))),4))) λ_=>R1 x.2 λe=>ix x.1.2 e λl=>br (S8 (Ki (AS l)) 2) (λ_=>some (((0,(([],([],([],([],0)))),((false,([],false)),([],0)))),4))) λ_=>br (Ry a.2.2 0) (λ_=>some (((0,(([],([],([],([],0)))),((false,([],false)),([],0)))),a.2.2))) λ_=>bd (UV x) λg=>bd (UD ((x.1,(x.2,g)))) λh=>some (h,0)) λ_=>br (Ry a.2.2 0) (λ_=>some (((0,(([],([],([],([],0)))),((false,([],false)),([],0)))),a.2.2))) λ_=>bd (UV x) λi=>bd (UD ((x.1,(x.2,i)))) λj=>some (j,0)) λ_=>br (Oa a.2.2 0) (λ_=>br (Rx x.2 (Ki (AS x.1.2))) (λ_=>some (((0,(([],([],([],([],0)))),((false,([],false)),([],0)))),4))) λ_=>R1 x.2 λf=>ix x.1.2 f λm=>br (S8 (Ki (AS m)) 2) (λ_=>some (((0,(([],([],([],([],0)))),((false,([],false)),([],0)))),4))) λ_=>br (Ry a.2.2 0) (λ_=>some (((0,(([],([],([],([],0)))),((false,([],false)),([],0)))),a.2.2))) λ_=>bd (UV x) λk=>bd (UD ((x.1,(x.2,k)))) λb=>some (b,0)) λ_=>br (Ry a.2.2 0) (λ_=>some (((0,(([],([],([],([],0)))),((false,([],false)),([],0)))),a.2.2))) λ_=>bd (UV x) λc=>bd (UD ((x.1,(x.2,c)))) λd=>some (d,0)
def Wp (x:(qS×Int)):Option (qS×Int) :=
 bd (Xz x) λI=>br (Ry I.2 0) (λ_=>some ((((0,[]),([],0)),I.2))) λ_=>bd (Uq x) λr1=>R1 r1.1 λk2=>ix x.1.2.1 k2 λG=>bd (Wx x) λr4=>br (Hg r4.1) (λ_=>some ((((0,[]),([],0)),9))) λ_=>br (S6 x.1.2.2 1000000) (λ_=>br (S6 (Ki (AS G.2.2.2.1)) 0) (λ_=>some ((((0,[]),([],0)),5))) λ_=>bd (Vj ((x.1.1,(x.2,[])))) λJ=>br (S6 (Ki (AS G.2.2.2.1)) 0) (λ_=>bd (XD (J,I.1)) λr6=>gd (CF (AS r6) 1048576) λ_=>gd (CF (BF (AS r6) (AS ([(x.1.2.2,G.2.2.2.1)]))) 1048576) λ_=>bd (Vj ((J,(I.1,Il r6 ([(x.1.2.2,G.2.2.2.1)]))))) λr7=>bd (Uh r7) λK=>bd (loop (λ(t:(Int×qL))=>br (S8 t.1 (Ki (AS K))) (λ_=>R1 t.1 λL=>ix K L λx11=>bd (Uw (((t.2.1,t.2.2.1),x11))) λh=>bd (loop (λ(p:(Int×(Int×qM)))=>br (S8 p.1 (Ki (AS x.1.2.1))) (λ_=>R1 p.1 λM=>ix x.1.2.1 M λx15=>R1 t.1 λN=>ix K N λx17=>br (Oa x15.1 x17) (λ_=>R1 t.1 λO=>ix K O λx19=>br (Ry x19 x.2) (λ_=>R1 p.1 λP=>ix x.1.2.1 P λl=>some (.nx ((SF .i64 p.1 1,(l.1,(l.2.1.1,(l.2.1.2.1,(l.2.1.2.2.1,(l.2.1.2.2.2.1,(l.2.1.2.2.2.2,(l.2.2.1.1,(l.2.2.1.2.1,(l.2.2.1.2.2,l.2.2.2))))))))))))) λ_=>some (.nx (SF .i64 p.1 1,p.2))) λ_=>some (.nx (SF .i64 p.1 1,p.2))) λ_=>some (.dn ((0,(p,()))))) ((0,(h.1.1,(h.1.2.1.1,(h.1.2.1.2.1,(h.1.2.1.2.2.1,(h.1.2.1.2.2.2.1,(h.1.2.1.2.2.2.2,(h.1.2.2.1.1,(h.1.2.2.1.2.1,(h.1.2.2.1.2.2,h.1.2.2.2)))))))))))) λa=>gd (CF (BF (AS t.2.2.2.1) (AS ([(a.2.1.2.1,((a.2.1.2.2.1,(a.2.1.2.2.2.1,(a.2.1.2.2.2.2.1,(a.2.1.2.2.2.2.2.1,a.2.1.2.2.2.2.2.2.1)))),((a.2.1.2.2.2.2.2.2.2.1,(a.2.1.2.2.2.2.2.2.2.2.1,a.2.1.2.2.2.2.2.2.2.2.2.1)),a.2.1.2.2.2.2.2.2.2.2.2.2)))]))) 1048576) λ_=>some (.nx ((SF .i64 t.1 1,(t.2.1,(t.2.2.1,(Il t.2.2.2.1 ([(a.2.1.2.1,((a.2.1.2.2.1,(a.2.1.2.2.2.1,(a.2.1.2.2.2.2.1,(a.2.1.2.2.2.2.2.1,a.2.1.2.2.2.2.2.2.1)))),((a.2.1.2.2.2.2.2.2.2.1,(a.2.1.2.2.2.2.2.2.2.2.1,a.2.1.2.2.2.2.2.2.2.2.2.1)),a.2.1.2.2.2.2.2.2.2.2.2.2)))]),t.2.2.2.2))))))) λ_=>some (.dn ((0,(t,()))))) ((0,(r7.1,(r7.2,([],SF .i64 x.1.2.2 1)))))) λA=>some ((((A.2.1.2.1,A.2.1.2.2.1),A.2.1.2.2.2),0))) λ_=>bd (Uh J) λw=>bd (loop (λ(e:(Int×qL))=>br (S8 e.1 (Ki (AS w))) (λ_=>R1 e.1 λS=>ix w S λx27=>bd (Uw (((e.2.1,e.2.2.1),x27))) λi=>bd (loop (λ(q:(Int×(Int×qM)))=>br (S8 q.1 (Ki (AS x.1.2.1))) (λ_=>R1 q.1 λU=>ix x.1.2.1 U λx31=>R1 e.1 λW=>ix w W λx33=>br (Oa x31.1 x33) (λ_=>R1 e.1 λX=>ix w X λx35=>br (Ry x35 x.2) (λ_=>R1 q.1 λY=>ix x.1.2.1 Y λm=>some (.nx ((SF .i64 q.1 1,(m.1,(m.2.1.1,(m.2.1.2.1,(m.2.1.2.2.1,(m.2.1.2.2.2.1,(m.2.1.2.2.2.2,(m.2.2.1.1,(m.2.2.1.2.1,(m.2.2.1.2.2,m.2.2.2))))))))))))) λ_=>some (.nx (SF .i64 q.1 1,q.2))) λ_=>some (.nx (SF .i64 q.1 1,q.2))) λ_=>some (.dn ((0,(q,()))))) ((0,(i.1.1,(i.1.2.1.1,(i.1.2.1.2.1,(i.1.2.1.2.2.1,(i.1.2.1.2.2.2.1,(i.1.2.1.2.2.2.2,(i.1.2.2.1.1,(i.1.2.2.1.2.1,(i.1.2.2.1.2.2,i.1.2.2.2)))))))))))) λb=>gd (CF (BF (AS e.2.2.2.1) (AS ([(b.2.1.2.1,((b.2.1.2.2.1,(b.2.1.2.2.2.1,(b.2.1.2.2.2.2.1,(b.2.1.2.2.2.2.2.1,b.2.1.2.2.2.2.2.2.1)))),((b.2.1.2.2.2.2.2.2.2.1,(b.2.1.2.2.2.2.2.2.2.2.1,b.2.1.2.2.2.2.2.2.2.2.2.1)),b.2.1.2.2.2.2.2.2.2.2.2.2)))]))) 1048576) λ_=>some (.nx ((SF .i64 e.1 1,(e.2.1,(e.2.2.1,(Il e.2.2.2.1 ([(b.2.1.2.1,((b.2.1.2.2.1,(b.2.1.2.2.2.1,(b.2.1.2.2.2.2.1,(b.2.1.2.2.2.2.2.1,b.2.1.2.2.2.2.2.2.1)))),((b.2.1.2.2.2.2.2.2.2.1,(b.2.1.2.2.2.2.2.2.2.2.1,b.2.1.2.2.2.2.2.2.2.2.2.1)),b.2.1.2.2.2.2.2.2.2.2.2.2)))]),e.2.2.2.2))))))) λ_=>some (.dn ((0,(e,()))))) ((0,(J.1,(J.2,([],x.1.2.2)))))) λB=>some ((((B.2.1.2.1,B.2.1.2.2.1),B.2.1.2.2.2),0))) λ_=>bd (Vj ((x.1.1,(x.2,[])))) λu=>br (S6 (Ki (AS G.2.2.2.1)) 0) (λ_=>bd (XD (u,I.1)) λC=>gd (CF (AS C) 1048576) λ_=>gd (CF (BF (AS C) (AS ([(x.1.2.2,G.2.2.2.1)]))) 1048576) λ_=>bd (Vj ((u,(I.1,Il C ([(x.1.2.2,G.2.2.2.1)]))))) λD=>bd (Uh D) λy=>bd (loop (λ(f:(Int×qL))=>br (S8 f.1 (Ki (AS y))) (λ_=>R1 f.1 λZ=>ix y Z λx46=>bd (Uw (((f.2.1,f.2.2.1),x46))) λj=>bd (loop (λ(r:(Int×(Int×qM)))=>br (S8 r.1 (Ki (AS x.1.2.1))) (λ_=>R1 r.1 λk49=>ix x.1.2.1 k49 λx50=>R1 f.1 λk51=>ix y k51 λx52=>br (Oa x50.1 x52) (λ_=>R1 f.1 λk53=>ix y k53 λx54=>br (Ry x54 x.2) (λ_=>R1 r.1 λk55=>ix x.1.2.1 k55 λn=>some (.nx ((SF .i64 r.1 1,(n.1,(n.2.1.1,(n.2.1.2.1,(n.2.1.2.2.1,(n.2.1.2.2.2.1,(n.2.1.2.2.2.2,(n.2.2.1.1,(n.2.2.1.2.1,(n.2.2.1.2.2,n.2.2.2))))))))))))) λ_=>some (.nx (SF .i64 r.1 1,r.2))) λ_=>some (.nx (SF .i64 r.1 1,r.2))) λ_=>some (.dn ((0,(r,()))))) ((0,(j.1.1,(j.1.2.1.1,(j.1.2.1.2.1,(j.1.2.1.2.2.1,(j.1.2.1.2.2.2.1,(j.1.2.1.2.2.2.2,(j.1.2.2.1.1,(j.1.2.2.1.2.1,(j.1.2.2.1.2.2,j.1.2.2.2)))))))))))) λc=>gd (CF (BF (AS f.2.2.2.1) (AS ([(c.2.1.2.1,((c.2.1.2.2.1,(c.2.1.2.2.2.1,(c.2.1.2.2.2.2.1,(c.2.1.2.2.2.2.2.1,c.2.1.2.2.2.2.2.2.1)))),((c.2.1.2.2.2.2.2.2.2.1,(c.2.1.2.2.2.2.2.2.2.2.1,c.2.1.2.2.2.2.2.2.2.2.2.1)),c.2.1.2.2.2.2.2.2.2.2.2.2)))]))) 1048576) λ_=>some (.nx ((SF .i64 f.1 1,(f.2.1,(f.2.2.1,(Il f.2.2.2.1 ([(c.2.1.2.1,((c.2.1.2.2.1,(c.2.1.2.2.2.1,(c.2.1.2.2.2.2.1,(c.2.1.2.2.2.2.2.1,c.2.1.2.2.2.2.2.2.1)))),((c.2.1.2.2.2.2.2.2.2.1,(c.2.1.2.2.2.2.2.2.2.2.1,c.2.1.2.2.2.2.2.2.2.2.2.1)),c.2.1.2.2.2.2.2.2.2.2.2.2)))]),f.2.2.2.2))))))) λ_=>some (.dn ((0,(f,()))))) ((0,(D.1,(D.2,([],SF .i64 x.1.2.2 1)))))) λE=>some ((((E.2.1.2.1,E.2.1.2.2.1),E.2.1.2.2.2),0))) λ_=>bd (Uh u) λz=>bd (loop (λ(g:(Int×qL))=>br (S8 g.1 (Ki (AS z))) (λ_=>R1 g.1 λk61=>ix z k61 λx62=>bd (Uw (((g.2.1,g.2.2.1),x62))) λk=>bd (loop (λ(s:(Int×(Int×qM)))=>br (S8 s.1 (Ki (AS x.1.2.1))) (λ_=>R1 s.1 λk65=>ix x.1.2.1 k65 λx66=>R1 g.1 λk67=>ix z k67 λx68=>br (Oa x66.1 x68) (λ_=>R1 g.1 λk69=>ix z k69 λx70=>br (Ry x70 x.2) (λ_=>R1 s.1 λk71=>ix x.1.2.1 k71 λo=>some (.nx ((SF .i64 s.1 1,(o.1,(o.2.1.1,(o.2.1.2.1,(o.2.1.2.2.1,(o.2.1.2.2.2.1,(o.2.1.2.2.2.2,(o.2.2.1.1,(o.2.2.1.2.1,(o.2.2.1.2.2,o.2.2.2))))))))))))) λ_=>some (.nx (SF .i64 s.1 1,s.2))) λ_=>some (.nx (SF .i64 s.1 1,s.2))) λ_=>some (.dn ((0,(s,()))))) ((0,(k.1.1,(k.1.2.1.1,(k.1.2.1.2.1,(k.1.2.1.2.2.1,(k.1.2.1.2.2.2.1,(k.1.2.1.2.2.2.2,(k.1.2.2.1.1,(k.1.2.2.1.2.1,(k.1.2.2.1.2.2,k.1.2.2.2)))))))))))) λd=>gd (CF (BF (AS g.2.2.2.1) (AS ([(d.2.1.2.1,((d.2.1.2.2.1,(d.2.1.2.2.2.1,(d.2.1.2.2.2.2.1,(d.2.1.2.2.2.2.2.1,d.2.1.2.2.2.2.2.2.1)))),((d.2.1.2.2.2.2.2.2.2.1,(d.2.1.2.2.2.2.2.2.2.2.1,d.2.1.2.2.2.2.2.2.2.2.2.1)),d.2.1.2.2.2.2.2.2.2.2.2.2)))]))) 1048576) λ_=>some (.nx ((SF .i64 g.1 1,(g.2.1,(g.2.2.1,(Il g.2.2.2.1 ([(d.2.1.2.1,((d.2.1.2.2.1,(d.2.1.2.2.2.1,(d.2.1.2.2.2.2.1,(d.2.1.2.2.2.2.2.1,d.2.1.2.2.2.2.2.2.1)))),((d.2.1.2.2.2.2.2.2.2.1,(d.2.1.2.2.2.2.2.2.2.2.1,d.2.1.2.2.2.2.2.2.2.2.2.1)),d.2.1.2.2.2.2.2.2.2.2.2.2)))]),g.2.2.2.2))))))) λ_=>some (.dn ((0,(g,()))))) ((0,(u.1,(u.2,([],x.1.2.2)))))) λF=>some ((((F.2.1.2.1,F.2.1.2.2.1),F.2.1.2.2.2),0))
def Xr (x:(qS×(Int×Int))):Option (qS×(Int×Int)) :=
 bd (Vq x.1) λf=>br (Oa f.2 0) (λ_=>br (S8 x.2.2 0) (λ_=>some ((((0,[]),([],0)),(0,7)))) λ_=>br (Ry f.2 0) (λ_=>some ((((0,[]),([],0)),(0,f.2)))) λ_=>bd (U8 (x.1,x.2.1)) λe=>br (Oa e.2 0) (λ_=>br (Oa e.1 0) (λ_=>some ((((0,[]),([],0)),(0,9)))) λ_=>br (Ry e.2 0) (λ_=>some ((((0,[]),([],0)),(0,e.2)))) λ_=>bd (Uq (x.1,x.2.1)) λr=>R1 r.1 λu=>ix x.1.2.1 u λB=>bd (UJ (B.2,x.2.2)) λs=>gd (CF (AS x.1.2.1) 1048576) λ_=>R1 r.1 λn=>gd (KJ n (AS x.1.2.1)) λ_=>ix x.1.2.1 n λC=>some (((x.1.1,(lset x.1.2.1 n (x.2.1,s.1),x.1.2.2)),(s.2.1,0)))) λ_=>br (Ry e.2 0) (λ_=>some ((((0,[]),([],0)),(0,e.2)))) λ_=>bd (Uq (x.1,x.2.1)) λt=>R1 t.1 λw=>ix x.1.2.1 w λo=>bd (UJ (o.2,x.2.2)) λg=>gd (CF (AS x.1.2.1) 1048576) λ_=>R1 t.1 λb=>gd (KJ b (AS x.1.2.1)) λ_=>ix x.1.2.1 b λy=>some (((x.1.1,(lset x.1.2.1 b (x.2.1,g.1),x.1.2.2)),(g.2.1,0)))) λ_=>br (Ry f.2 0) (λ_=>some ((((0,[]),([],0)),(0,f.2)))) λ_=>bd (U8 (x.1,x.2.1)) λa=>br (Oa a.2 0) (λ_=>br (Oa a.1 0) (λ_=>some ((((0,[]),([],0)),(0,9)))) λ_=>br (Ry a.2 0) (λ_=>some ((((0,[]),([],0)),(0,a.2)))) λ_=>bd (Uq (x.1,x.2.1)) λh=>R1 h.1 λl=>ix x.1.2.1 l λp=>bd (UJ (p.2,x.2.2)) λi=>gd (CF (AS x.1.2.1) 1048576) λ_=>R1 h.1 λc=>gd (KJ c (AS x.1.2.1)) λ_=>ix x.1.2.1 c λz=>some (((x.1.1,(lset x.1.2.1 c (x.2.1,i.1),x.1.2.2)),(i.2.1,0)))) λ_=>br (Ry a.2 0) (λ_=>some ((((0,[]),([],0)),(0,a.2)))) λ_=>bd (Uq (x.1,x.2.1)) λj=>R1 j.1 λm=>ix x.1.2.1 m λq=>bd (UJ (q.2,x.2.2)) λk=>gd (CF (AS x.1.2.1) 1048576) λ_=>R1 j.1 λd=>gd (KJ d (AS x.1.2.1)) λ_=>ix x.1.2.1 d λA=>some (((x.1.1,(lset x.1.2.1 d (x.2.1,k.1),x.1.2.2)),(k.2.1,0)))
def Yk (x:(qS×Int)):Option (qS×(Bool×Int)) :=
 bd (Wx x) λa=>br (Oa a.2 0) (λ_=>br (Hg a.1) (λ_=>some ((((0,[]),([],0)),(false,9)))) λ_=>br (Ry a.2 0) (λ_=>some ((((0,[]),([],0)),(false,a.2)))) λ_=>bd (U8 x) λf=>br (S6 f.1 0) (λ_=>bd (Xr ((x.1,(x.2,1)))) λd=>some ((d.1,(false,d.2.2)))) λ_=>bd (Wp x) λb=>some ((b.1,(Oa b.2 0,b.2)))) λ_=>br (Ry a.2 0) (λ_=>some ((((0,[]),([],0)),(false,a.2)))) λ_=>bd (U8 x) λg=>br (S6 g.1 0) (λ_=>bd (Xr ((x.1,(x.2,1)))) λe=>some ((e.1,(false,e.2.2)))) λ_=>bd (Wp x) λc=>some ((c.1,(Oa c.2 0,c.2)))
end
section
open Go Sv
end
section
open Go Sv
end
section
open Go Sv
abbrev Xe:=List UInt8
theorem Zz (a:Xe):SV a []=false:=by unfold SV;cases a<;>rfl
theorem cW (b:UInt8) (y:Xe):SV [] (b::y)=true:=rfl
theorem YZ (a b:UInt8) (x y:Xe):SV (a::x) (b::y)=(decide (a<b)||(a == b&&SV x y)):=rfl
theorem XP : ∀ a:Xe,SV a a=false
 | []=>rfl
 | a::x=>by rw [YZ,XP x];simp
theorem Wc : ∀ {a b c:Xe},SV a b=true->SV b c=true->SV a c=true
 | [],b,[],e,d=>by rw [Zz] at d;cases d
 | [],b,c::z,_,_=>rfl
 | a::x,[],c,e,_=>by rw [Zz] at e;cases e
 | a::x,b::y,[],_,d=>by rw [Zz] at d;cases d
 | a::x,b::y,c::z,e,d=>by
  rw [YZ] at e d ⊢;simp only [yo,decide_eq_true_eq,ya,beq_iff_eq] at e d ⊢;rcases e with e | ⟨rfl,e⟩
  ·rcases d with d | ⟨rfl,d⟩
   ·exact .inl (UInt8.lt_trans e d)
   ·exact .inl e
  ·rcases d with d | ⟨rfl,d⟩
   ·exact .inl d
   ·exact .inr ⟨rfl,Wc e d⟩
theorem aU : ∀ a b:Xe,SV a b=true\/a=b\/SV b a=true
 | [],[] => .inr (.inl rfl)
 | [],_::_ => .inl rfl
 | _::_,[] => .inr (.inr rfl)
 | a::x,b::y=>by
  rw [YZ,YZ];simp only [yo,decide_eq_true_eq,ya,beq_iff_eq,List.cons.injEq];rcases UInt8.lt_or_lt_of_ne (a:=a) (b:=b) |> λh=>Classical.em (a=b) |>.imp id h with h | h | h
  ·subst h;rcases aU x y with h | h | h
   ·exact .inl (.inr ⟨rfl,h⟩)
   ·exact .inr (.inl ⟨rfl,h⟩)
   ·exact .inr (.inr (.inr ⟨rfl,h⟩))
  ·exact .inl (.inl h)
  ·exact .inr (.inr (.inl h))
theorem VH {a b:Xe} (h:SV a b=true):SV b a=false:=by
 cases c:SV b a with
 | false=>rfl
 | true=>have:=Wc h c;rw [XP] at this;cases this
theorem ZF {a b:Xe} (h:SV a b=true):a≠b:=λe=>by subst e;rw [XP] at h;cases h
theorem Zi {a b:Xe} (h:SV a b=false) (c:a≠b):SV b a=true:=by
 rcases aU a b with h1 | h1 | h1
 ·rw [h] at h1;cases h1
 ·exact absurd h1 c
 ·exact h1
theorem bD {a b c:Xe} (h:SV b a=false) (d:SV b c=true):SV a c=true:=by
 rcases aU a b with h1 | h1 | h1
 ·exact Wc h1 d
 ·subst h1;exact d
 ·rw [h] at h1;cases h1
theorem dg {a b c:Xe} (h:SV a b=true) (d:SV c b=false):SV a c=true:=by
 rcases aU b c with h1 | h1 | h1
 ·exact Wc h h1
 ·subst h1;exact h
 ·rw [d] at h1;cases h1
theorem aT {a b:Xe}:seq a b=true<->a=b:=by unfold seq;simp
theorem Zh (a b:Xe):seq a b=decide (a=b):=by
 cases h:seq a b with
 | true=>rw [aT] at h;simp [h]
 | false =>
  have : ¬ a=b:=λe=>by rw [<- aT] at e;rw [h] at e;cases e
  simp [this]
section
variable {α β σ S:Type}
theorem WK (a b:Xe) (x y:Unit->Option β):br (seq a b) x y=if a=b then x () else y ():=Jh aT x y
theorem XJ (a b:Xe) (x y:Unit->Option β):br (SV a b) x y=if SV a b=true then x () else y ():=Jh Iff.rfl x y
theorem VJ (p:Prop) [Decidable p] (x y:Unit->Option β):br (decide p) x y=if p then x () else y ():=Jh (by simp) x y
theorem Ti (k:Nat) (c:Nat->Option β):R1 (k:Int) c=c k:=by rw [Sk (by omega)];simp
theorem tJ {l:List α} {k:Nat} {x:α} (h:l[k]? = some x):S8 (k:Int) (Ki (AS l))=true:=by
 have:=(a8.1 h).1;unfold S8 Ki AS;simp;omega
theorem p8 (l:List α):S8 (l.length:Int) (Ki (AS l))=false:=by unfold S8 Ki AS;simp
theorem Tu {k:Nat} (h:k+1<=9223372036854775807):SF .i64 (k:Int) 1=((k+1:Nat):Int):=by
 rw [Sh (by omega)];omega
theorem Tv {l:List α} {k:Nat} {x:α} (h:l[k]? = some x) (a:l.length<=9223372036854775807):SF .i64 (k:Int) 1=((k+1:Nat):Int):=by
 have:=(a8.1 h).1;exact Tu (by omega)
def ah (step:Nat->α->σ->Option (LR σ β)) (fin:σ->Option β):List α->Nat->σ->Option β
 | [],_,s=>fin s
 | x::l,k,s=>match step k x s with
  | none=>none
  | some (.nx s')=>ah step fin l (k+1) s'
  | some (.dn b)=>some b
def za (mk:σ->S):Option (LR σ β)->Option (LR S β)
 | none=>none
 | some (.nx s)=>some (.nx (mk s))
 | some (.dn b)=>some (.dn b)
def uc:Option β->Option (LR S β)
 | none=>none
 | some b=>some (.dn b)
theorem eG {l:List α} {mk:Nat->σ->S} {f:S->Option (LR S β)} {step:Nat->α->σ->Option (LR σ β)} {fin:σ->Option β}
  (hs : ∀ k x a,l[k]? = some x->f (mk k a)=za (mk (k+1)) (step k x a)) (i : ∀ a,f (mk l.length a)=uc (fin a)) :
  ∀ (d n k:Nat) (a:σ),l.length-k=d->k<=l.length->d<n->IL n f (mk k a)=ah step fin (l.drop k) k a:=by
 intro d
 induction d with
 | zero =>
  intro n k a e g h;have c:k=l.length:=by omega
  obtain ⟨m,rfl⟩ : ∃ m,n=m+1:=⟨n-1,by omega⟩;subst c;unfold IL;rw [i,List.drop_length];unfold uc ah;cases fin a<;>rfl
 | succ d o =>
  intro n k a e g h;obtain ⟨m,rfl⟩ : ∃ m,n=m+1:=⟨n-1,by omega⟩;have c:k<l.length:=by omega
  have j:l[k]? = some l[k]:=by simp [c]
  unfold IL;rw [hs k _ a j,List.drop_eq_getElem_cons c]
  show _=match step k l[k] a with
   | none=>none
   | some (.nx s')=>ah step fin (l.drop (k+1)) (k+1) s'
   | some (.dn b)=>some b
  cases step k l[k] a with
  | none=>rfl
  | some r=>cases r with
   | nx s'=>exact o m (k+1) s' (by omega) (by omega) (by omega)
   | dn b=>rfl
theorem iB {l:List α} (mk:Nat->σ->S) (step:Nat->α->σ->Option (LR σ β)) (fin:σ->Option β) {f:S->Option (LR S β)} {s:S} (a:σ) (b:s=mk 0 a) (d:l.length<=9223372036854775807)
  (hs : ∀ k x a,l[k]? = some x->f (mk k a)=za (mk (k+1)) (step k x a)) (c : ∀ a,f (mk l.length a)=uc (fin a)) :
  loop f s=ah step fin l 0 a:=by
 subst b;have:=eG hs c l.length 18446744073709551616 0 a (by omega) (by omega) (by omega);rw [List.drop_zero] at this;exact this
theorem dH {f:α->Option (LR α β)} {x:β} : ∀ {n m:Nat} {s:α},n<=m->IL n f s=some x->IL m f s=some x
 | 0,_,_,_,h=>by cases h
 | n+1,0,_,hl,_=>by omega
 | n+1,m+1,s,hl,h=>by
  unfold IL at h ⊢;split at h
  ·cases h
  ·rename_i s' e;exact dH (by omega) h
  ·exact h
theorem U3 {f:α->Option (LR α β)} {x:β} {n:Nat} {s:α} (a:n<=18446744073709551616) (h:IL n f s=some x):loop f s=some x:=dH a h
theorem UL {f:α->Option (LR α β)} {n:Nat} {s s':α} (h:f s=some (.nx s')):IL (n+1) f s=IL n f s':=by
 show (match f s with
  | none=>none
  | some (.nx s)=>IL n f s
  | some (.dn x)=>some x)=_
 rw [h]
theorem UR {f:α->Option (LR α β)} {n:Nat} {s:α} {x:β} (h:f s=some (.dn x)):IL (n+1) f s=some x:=by
 show (match f s with
  | none=>none
  | some (.nx s)=>IL n f s
  | some (.dn x)=>some x)=_
 rw [h]
theorem Y8 {f : S -> Option (LR S β)} {r : β} (mk : Nat -> S) (n : Nat) {s : S} (h0 : s = mk 0) (hn : n < 18446744073709551616) (hs : ∀ k, k < n -> f (mk k) = some (.nx (mk (k + 1)))) (he : f (mk n) = some (.dn r)) : loop f s = some r := by
  subst h0
  have : ∀ d k, k + d = n -> IL (d + 1) f (mk k) = some r := by
    intro d
    induction d with
    | zero => intro k hk; have : k = n := by omega
              subst this; exact UR he
    | succ d ih => intro k hk; rw [UL (hs k (by omega))]; exact ih (k + 1) (by omega)
  exact U3 (n := n + 1) (by omega) (this n 0 (by omega))
end
end
section
open Go Sv
def kE (x:Tj):Int:=if x.1.length>32\/x.2.1.length>64 then 3 else if x.2.2.1=true/\x.2.1≠[] then 6 else if x.2.2.2<1\/x.2.2.2>1000000000 then 7 else 0
def Yv:Option Xe->Nat->List Tj->Int×Int
 | _,_,[]=>(0,0)
 | p,k,x::l=>if kE x≠0 then ((k:Int),kE x) else match p with
  | some q=>if SV q x.1=true then Yv (some x.1) (k+1) l else ((k:Int),6)
  | none=>Yv (some x.1) (k+1) l
def WL (l:List Tj):Int×Int:=if l.length>5000 then (-1,3) else Yv none 0 l
def Asc:Option Xe->List Tj->Prop
 | _,[]=>True
 | p,x::l=>(∀ q,p=some q->SV q x.1=true)/\Asc (some x.1) l
theorem bw : ∀ {p k l},(Yv p k l).2=0<->(∀ x∈l,kE x=0)/\Asc p l
 | p,k,[]=>by simp [Yv,Asc]
 | p,k,x::l=>by
  unfold Yv;by_cases h:kE x=0
  ·rw [if_neg (by simp [h])];cases p with
   | none =>
    simp only [bw (p:=some x.1) (l:=l),Asc,ey,forall_eq_or_imp];constructor
    ·rintro ⟨a,b⟩;exact ⟨⟨h,a⟩,(λq c=>by cases c),b⟩
    ·rintro ⟨⟨_,a⟩,_,b⟩;exact ⟨a,b⟩
   | some q =>
    simp only;by_cases c:SV q x.1=true
    ·rw [if_pos c];simp only [bw (p:=some x.1) (l:=l),Asc,ey,forall_eq_or_imp];constructor
     ·rintro ⟨a,b⟩;exact ⟨⟨h,a⟩,(λe d=>by cases d;exact c),b⟩
     ·rintro ⟨⟨_,a⟩,_,b⟩;exact ⟨a,b⟩
    ·rw [if_neg c];constructor
     ·intro h;cases h
     ·rintro ⟨_,b⟩;exact absurd (b.1 q rfl) c
  ·rw [if_pos h];constructor
   ·intro h';exact absurd h' h
   ·rintro ⟨a,_⟩;exact absurd (a x (by simp)) h
theorem Z4 : ∀ {p k l},(Yv p k l).2=0->Yv p k l=(0,0)
 | p,k,[],_=>rfl
 | p,k,x::l,h=>by
  unfold Yv at h ⊢;by_cases a:kE x=0
  ·rw [if_neg (by simp [a])] at h ⊢;cases p with
   | none=>exact Z4 h
   | some q =>
    simp only at h ⊢;by_cases b:SV q x.1=true
    ·rw [if_pos b] at h ⊢;exact Z4 h
    ·rw [if_neg b] at h;cases h
  ·rw [if_pos a] at h;exact absurd h a
structure VL (l:List Tj):Prop where
 len:l.length<=5000
 ok : ∀ x∈l,kE x=0
 asc:Asc none l
theorem Z5 {l:List Tj}:(WL l).2=0<->VL l:=by
 unfold WL;by_cases h:l.length>5000
 ·rw [if_pos h];constructor
  ·intro h;cases h
  ·intro h';have:=h'.len;omega
 ·rw [if_neg h];rw [bw];exact ⟨λ⟨a,b⟩=>⟨by omega,a,b⟩,λh=>⟨h.ok,h.asc⟩⟩
theorem Yw {l:List Tj} (h:VL l):WL l=(0,0):=by
 have a:=Z5.2 h;unfold WL at a ⊢;rw [if_neg (by have:=h.len;omega)] at a ⊢;exact Z4 a
theorem Asc.lt : ∀ {p:Option Xe} {l:List Tj},Asc p l -> ∀ {i:Nat} {x y:Tj},l[i]? = some x->l[i+1]? = some y->SV x.1 y.1=true
 | p,x::[],_,0,_,_,_,h2=>by simp at h2
 | p,a::b::l,h,0,x,y,h1,h2=>by
  simp at h1 h2;subst h1;subst h2;exact h.2.1 _ rfl
 | p,a::l,h,i+1,x,y,h1,h2=>by
  simp at h1 h2;exact Asc.lt h.2 h1 h2
theorem VL.lt {l:List Tj} (h:VL l) {i:Nat} {x y:Tj} (a:l[i]? = some x) (b:l[i+1]? = some y):SV x.1 y.1=true:=h.asc.lt a b
def kx (l:List Tj) (i:Nat):UG:=match l[i]? with
 | some x=>(x.1,false)
 | none=>([],true)
def w0 (p q:UG):Bool:=if p.2≠q.2 then q.2 else if p.1≠q.1 then SV p.1 q.1 else true
def Xv (a b:List Tj) (i j:Nat):Bool:=w0 (kx a i) (kx b j)
def pos (a b:List Tj):Nat->Nat×Nat
 | 0=>(0,0)
 | n+1=>if Xv a b (pos a b n).1 (pos a b n).2=true then ((pos a b n).1+1,(pos a b n).2) else ((pos a b n).1,(pos a b n).2+1)
def aJ (a b:List Tj) (n:Nat):Option Tj:=if Xv a b (pos a b n).1 (pos a b n).2=true then a[(pos a b n).1]? else b[(pos a b n).2]?
structure Inv (a b:List Tj) (i j:Nat):Prop where
 ia:i<=a.length
 jb:j<=b.length
 pa : ∀ i',i=i'+1 -> ∀ x y,a[i']? = some x->b[j]? = some y->SV y.1 x.1=false
 pb : ∀ j',j=j'+1 -> ∀ x y,b[j']? = some x->a[i]? = some y->SV x.1 y.1=true
theorem ac {a b:List Tj} {i j:Nat} {x y:Tj} (c:a[i]? = some x) (d:b[j]? = some y):Xv a b i j = !SV y.1 x.1:=by
 unfold Xv w0 kx;rw [c,d];simp only [ne_eq,not_true,if_false];by_cases h:x.1=y.1
 ·rw [if_neg (by simp [h]),h,XP];rfl
 ·rw [if_pos h];cases hs:SV x.1 y.1 with
  | true=>rw [VH hs];rfl
  | false=>rw [Zi hs h];rfl
theorem gP {a b:List Tj} {i j:Nat} {x:Tj} (c:a[i]? = some x) (d:b[j]? = none):Xv a b i j=true:=by
 unfold Xv w0 kx;rw [c,d];rfl
theorem gQ {a b:List Tj} {i j:Nat} {y:Tj} (c:a[i]? = none) (d:b[j]? = some y):Xv a b i j=false:=by
 unfold Xv w0 kx;rw [c,d];rfl
theorem dB {a b:List Tj} {i j:Nat} (c:a[i]? = none) (d:b[j]? = none):Xv a b i j=true:=by
 unfold Xv w0 kx;rw [c,d];rfl
theorem Inv.zero (a b:List Tj):Inv a b 0 0:=⟨by omega,by omega,λ_ h=>by omega,λ_ h=>by omega⟩
theorem Inv.stepA {a b:List Tj} (va:VL a) {i j:Nat} (h:Inv a b i j) {x:Tj} (c:a[i]? = some x) (g:Xv a b i j=true):Inv a b (i+1) j:=by
 have hi:=(a8.1 c).1;refine ⟨by omega,h.jb,λl e k y d f => ?_,λj' e k y d f => ?_⟩
 ·have:l=i:=by omega
  subst this;rw [c] at d;cases d;rw [ac c f] at g;simpa using g
 ·exact Wc (h.pb j' e k x d c) (va.lt c f)
theorem Inv.stepB {a b:List Tj} (n:VL b) {i j:Nat} (h:Inv a b i j) {y:Tj} (c:b[j]? = some y) (g:Xv a b i j=false):Inv a b i (j+1):=by
 have p:=(a8.1 c).1;refine ⟨h.ia,by omega,λm e k o d f => ?_,λj' e k o d f => ?_⟩
 ·have l:=h.pa m e k y d c;exact VH (bD l (n.lt c f))
 ·have:j'=j:=by omega
  subst this;rw [c] at d;cases d;rw [ac f c] at g;simpa using g
theorem WV {a b:List Tj} (va:VL a) (f:VL b) : ∀ {n:Nat},n<=a.length+b.length->Inv a b (pos a b n).1 (pos a b n).2/\(pos a b n).1+(pos a b n).2=n
 | 0,_=>⟨Inv.zero a b,rfl⟩
 | n+1,h=>by
  obtain ⟨c,hs⟩:=WV va f (n:=n) (by omega);rw [show pos a b (n+1)=if Xv a b (pos a b n).1 (pos a b n).2=true then ((pos a b n).1+1,(pos a b n).2) else ((pos a b n).1,(pos a b n).2+1) from rfl]
  revert c hs;generalize (pos a b n).1=i;generalize (pos a b n).2=j;intro c hs;cases g:Xv a b i j with
  | true =>
   have hi:i<a.length:=by
    refine nP λh' => ?_;have d:a[i]? = none:=a9 h';have e:j<b.length:=by have:=c.ia;omega
    rw [gQ d (by simp [e]:b[j]? = some b[j])] at g;cases g
   have:=c.stepA va (by simp [hi]:a[i]? = some a[i]) g;rw [if_pos rfl];exact ⟨this,by omega⟩
  | false =>
   have k:j<b.length:=by
    refine nP λh' => ?_;have d:b[j]? = none:=a9 h';cases e:a[i]? with
    | none=>rw [dB e d] at g;cases g
    | some x=>rw [gP e d] at g;cases g
   have:=c.stepB f (by simp [k]:b[j]? = some b[j]) g;rw [if_neg (by simp)];exact ⟨this,by omega⟩
end
section
open Go Sv
def Tt (p q:UG):Vz:=([p,q],([0,if w0 p q=true then 1 else 0],if w0 p q=true then 0 else 1))
def Zj (a b:List Tj) (i j:Nat):Va:=([a,b],([(i:Int),(j:Int)],Tt (kx a i) (kx b j)))
def qZ (a b:List Tj) (n:Nat):Xe:=match aJ a b n with
 | some x=>x.1
 | none=>[]
def fresh (a b:List Tj) (n:Nat) (x:Tj):Bool:=decide (n=0)||decide (qZ a b (n-1)≠x.1)
def px (a b:List Tj) (c:Bool):Nat->List Tj
 | 0=>[]
 | n+1=>match aJ a b n with
  | some x=>if (fresh a b n x && !(c&&x.2.2.1))=true then px a b c n++[x] else px a b c n
  | none=>px a b c n
def shN (a b:List Tj) (c:Bool) (n:Nat):Uk:=(decide (n≠0),(if n=0 then [] else qZ a b (n-1),c))
def zd (a b:List Tj) (c:Bool) (n:Nat):Xi:=(Zj a b (pos a b n).1 (pos a b n).2,(shN a b c n,(px a b c n,(n:Int))))
def UB (a b:List Tj):Nat->List Tj
 | 0=>[]
 | n+1=>match aJ a b n with
  | some x=>UB a b n++[x]
  | none=>UB a b n
section
variable {a b:List Tj} (va:VL a) (vb:VL b)
include va vb
theorem Vx {n:Nat} (h:n<a.length+b.length) : ∃ x,aJ a b n=some x/\(x∈a\/x∈b):=by
 obtain ⟨e,hs⟩:=WV va vb (n:=n) (by omega);unfold aJ;revert e hs;generalize (pos a b n).1=i;generalize (pos a b n).2=j;intro e hs;cases g:Xv a b i j with
 | true =>
  have hi:i<a.length:=by
   refine nP λh' => ?_;have c:a[i]? = none:=a9 h';have d:j<b.length:=by have:=e.ia;omega
   rw [gQ c (by simp [d]:b[j]? = some b[j])] at g;cases g
  exact ⟨a[i],by simp [hi],.inl (ym hi)⟩
 | false =>
  have f:j<b.length:=by
   refine nP λh' => ?_;have c:b[j]? = none:=a9 h';cases d:a[i]? with
   | none=>rw [dB d c] at g;cases g
   | some x=>rw [gP d c] at g;cases g
  exact ⟨b[j],by simp [f],.inr (ym f)⟩
theorem kB {n:Nat} {x:Tj} (h:aJ a b n=some x):kE x=0:=by
 have:x∈a\/x∈b:=by
  unfold aJ at h;split at h
  ·exact .inl (bo h)
  ·exact .inr (bo h)
 rcases this with h | h
 ·exact va.ok x h
 ·exact vb.ok x h
theorem gT {n:Nat} (k:n+1<a.length+b.length) {x y:Tj} (d:aJ a b n=some x) (c:aJ a b (n+1)=some y):SV y.1 x.1=false:=by
 obtain ⟨h,hs⟩:=WV va vb (n:=n) (by omega);unfold aJ at d c;rw [show pos a b (n+1)=if Xv a b (pos a b n).1 (pos a b n).2=true then ((pos a b n).1+1,(pos a b n).2) else ((pos a b n).1,(pos a b n).2+1) from rfl] at c
 revert h hs d c;generalize (pos a b n).1=i;generalize (pos a b n).2=j;intro d c h hs;cases g:Xv a b i j with
 | true =>
  rw [if_pos g] at d;simp only [g,if_true] at c;have e:=h.stepA va d g;cases f:Xv a b (i+1) j with
  | true=>rw [if_pos f] at c;exact VH (va.lt d c)
  | false=>rw [if_neg (by simp [f])] at c;exact e.pa i rfl x y d c
 | false =>
  rw [if_neg (by simp [g])] at d;simp only [g,if_false,ll] at c;have e:=h.stepB vb d g;cases f:Xv a b i (j+1) with
  | true=>rw [if_pos f] at c;exact VH (e.pb j rfl x y d c)
  | false=>rw [if_neg (by simp [f])] at c;exact VH (vb.lt d c)
theorem VF : ∀ {n:Nat},n<=a.length+b.length->(UB a b n).length=n
 | 0,_=>rfl
 | n+1,h=>by
  obtain ⟨x,c,_⟩:=Vx va vb (n:=n) (by omega);unfold UB;rw [c];simp [VF (n:=n) (by omega)]
theorem YW : ∀ {n k:Nat},n<=a.length+b.length->k<n->(UB a b n)[k]? = aJ a b k
 | n+1,k,h,hk=>by
  obtain ⟨x,d,_⟩:=Vx va vb (n:=n) (by omega);unfold UB;rw [d];show (UB a b n++[x])[k]? = _;have e:=VF va vb (n:=n) (by omega);by_cases c:k<n
  ·rw [List.getElem?_append_left (by omega)];exact YW (by omega) c
  ·have:k=n:=by omega
   subst this;rw [List.getElem?_append_right (by omega),e];simp [d]
theorem eJ {n m:Nat} (d:m<=a.length+b.length) (h:n<=m):(UB a b m).take n=UB a b n:=by
 apply List.ext_getElem?;intro k;rw [List.getElem?_take];by_cases c:k<n
 ·rw [if_pos c,YW va vb d (by omega),YW va vb (by omega) c]
 ·rw [if_neg c,a9];rw [VF va vb (by omega)];omega
end
end
section
open Go Sv
theorem Tq (n:Nat):Ki n=(n:Int):=rfl
theorem Tn {α:Type} (l:List α):AS l=l.length:=rfl
theorem Ys (l:List UInt8):Mj l=l.length:=rfl
theorem dw:Hg true=false:=rfl
theorem US {β:Type} (c:Bool) (x y:Unit->Option β):br (Hg c) x y=br c y x:=S0 c x y
theorem Ua {β:Type} {a b:Nat} (h:a<=b) (k:Unit->Option β):gd (CF a b) k=k ():=by rw [S2,if_pos h]
theorem ZT (k:Xe):W3 k=some (if k.length>32 then 3 else 0):=by
 unfold W3;rw [TM,Tq,Ys];by_cases h:k.length>32
 ·rw [if_pos (by omega),if_pos h]
 ·rw [if_neg (by omega),if_neg h]
theorem XL (x:Tj):U1 x=some (kE x):=by
 unfold U1 kE;rw [ZT,Sx,TQ];by_cases e:x.1.length>32
 ·simp [e]
 rw [if_neg e,if_pos rfl,TM,Tq,Ys];by_cases f:x.2.1.length>64
 ·rw [if_pos (by omega),if_pos (.inr f)]
 rw [if_neg (by omega : ¬ (x.2.1.length:Int)>64),if_neg (by omega),TV];by_cases b:x.2.2.1=true
 ·rw [if_pos b,US,WK];by_cases c:x.2.1=[]
  ·rw [if_pos c,if_neg (by simp [c]),TP,TM];by_cases a:x.2.2.2<1
   ·simp [a]
   ·by_cases d:x.2.2.2>1000000000<;>simp [a,d]
  ·rw [if_neg c,if_pos ⟨b,c⟩]
 ·rw [if_neg b,if_neg (by simp [b]),TP,TM];by_cases a:x.2.2.2<1
  ·simp [a]
  ·by_cases d:x.2.2.2>1000000000<;>simp [a,d]
theorem WM (l:List Tj) (q:l.length<=9223372036854775807):UT l=some (WL l):=by
 unfold UT WL;rw [TM,Tq,Tn];by_cases h:l.length>5000
 ·rw [if_pos (by omega),if_pos h]
 rw [if_neg (by omega),if_neg h]
 have key:=iB (β:=Nat×(Int×Int×Int)×Unit) (l:=l) (λk (_:Int)=>((0:Int),((0:Int),(k:Int))))
  (λk x _=>if kE x≠0 then some (.dn (0,((kE x,((k:Int),(k:Int))),()))) else if k>0 then
    (match l[k-1]? with
    | some y=>if SV y.1 x.1=true then some (.nx 0) else some (.dn (0,(((6:Int),((k:Int),(k:Int))),())))
    | none=>none) else some (.nx 0))
  (λ_=>some (1,((0,(0,(l.length:Int))),()))) (s:=(0,(0,0))) (0:Int) rfl q (f:=(λs0=>br (S8 s0.2.2 (Ki (AS l))) (λ_=>R1 s0.2.2 λB=>ix l B λz=>bd (U1 z) λw=>br (Ry w 0) (λ_=>some (.dn ((0,((w,(s0.2.2,s0.2.2)),()))))) λ_=>br (S6 s0.2.2 0) (λ_=>R1 (SK .i64 s0.2.2 1) λC=>ix l C λD=>br (Hg (SV D.1 z.1)) (λ_=>some (.dn ((0,((6,(s0.2.2,s0.2.2)),()))))) λ_=>some (.nx ((s0.1,(s0.2.1,SF .i64 s0.2.2 1))))) λ_=>some (.nx ((s0.1,(s0.2.1,SF .i64 s0.2.2 1))))) λ_=>some (.dn ((1,(s0,()))))))
  (λk x j b=>by
   simp only;rw [tJ b,Sc,Ti,TC b,XL,Sx,TQ];by_cases c:kE x=0
   ·have A:k<l.length:=(a8.1 b).1;simp only [c,if_true,ne_eq,not_true,if_false];rw [TM];by_cases d:k>0
    ·rw [if_pos (by omega:(k:Int)>0),if_pos d,Sj (by omega),show ((k:Int)-1)=((k-1:Nat):Int) by omega,Ti];have g:l[k-1]? = some l[k-1]:=by rw [eg (by omega)]
     rw [TC g,g,US,XJ];simp only;by_cases a:SV l[k-1].1 x.1=true
     ·rw [if_pos a,if_pos a,Tv b q];rfl
     ·rw [if_neg a,if_neg a];rfl
    ·rw [if_neg (by omega : ¬ (k:Int)>0),if_neg d,Tv b q];rfl
   ·simp only [c,if_false,ne_eq,not_false_iff,if_true];rfl)
  (λj=>by
   simp only
   rw [p8,R7];rfl)
 simp only [Tq,Tn] at key;rw [key]
 have i : ∀ (m:List Tj) (k:Nat) (p:Option Xe),l.drop k=m->(p=if k=0 then none else (l[k-1]?).map (·.1)) -> ∀ j,bd (ah (β:=Nat×(Int×Int×Int)×Unit) (λk x (_:Int)=>if kE x≠0 then some (.dn (0,((kE x,((k:Int),(k:Int))),()))) else if k>0 then
    (match l[k-1]? with
    | some y=>if SV y.1 x.1=true then some (.nx 0) else some (.dn (0,(((6:Int),((k:Int),(k:Int))),())))
    | none=>none) else some (.nx (0:Int))) (λ_=>some (1,((0,(0,(l.length:Int))),()))) m k j) (λr=>br (neq r.1 0) (λ_=>some (r.2.1.2.1,r.2.1.1)) λ_=>some ((0:Int),(0:Int)))=some (Yv p k m):=by
  intro m
  induction m with
  | nil=>intro k p _ _ j;rfl
  | cons x m u =>
   intro k p t n j
   have b:l[k]? = some x:=by
    have:=congrArg xk t;rw [sr] at this;simpa using this
   have A:k<l.length:=(a8.1 b).1
   have e:l.drop (k+1)=m:=by
    have:=congrArg tT t;rw [rY] at this;simpa using this
   unfold ah Yv;by_cases c:kE x=0
   ·simp only [c,ne_eq,not_true,if_false];by_cases d:k>0
    ·have g:l[k-1]? = some l[k-1]:=by rw [eg (by omega)]
     rw [if_pos d,g];rw [if_neg (by omega : ¬ k=0),g] at n;subst n;simp only [Option.map_some];by_cases a:SV l[k-1].1 x.1=true
     ·rw [if_pos a,if_pos a];exact u (k+1) (some x.1) e (by rw [if_neg (by omega)];simp [b]) 0
     ·rw [if_neg a,if_neg a];rfl
    ·have o:k=0:=by omega
     subst o;rw [if_neg d];simp only [if_true] at n;subst n;exact u 1 (some x.1) e (by simp [b]) 0
   ·simp only [c,ne_eq,not_false_iff,if_true];rfl
 exact i l 0 none (by simp) (by simp) 0
theorem Zw {α β σ S:Type} {l:List α} (mk:Nat->σ->S) (F:List α->Nat->σ->Option β) {f:S->Option (LR S β)} {s:S} (a:σ) (p:s=mk 0 a) (w:l.length<=9223372036854775807)
  (t : ∀ a,f (mk l.length a)=uc (F [] l.length a))
  (hc : ∀ k x m a,l.drop k=x::m->l[k]? = some x->k<l.length->(∃ b,f (mk k a)=some (.nx (mk (k+1) b))/\F (x::m) k a=F m (k+1) b)\/f (mk k a)=uc (F (x::m) k a)):loop f s=F l 0 a:=by
 subst p
 have e : ∀ (m:List α) (k n:Nat) (a:σ),l.drop k=m->k<=l.length->m.length<n->IL n f (mk k a)=F m k a:=by
  intro m
  induction m with
  | nil =>
   intro k n a c r d;obtain ⟨n,rfl⟩ : ∃ j,n=j+1:=⟨n-1,by omega⟩
   have h:k=l.length:=by
    have:=congrArg List.length c;simp at this;omega
   subst h;unfold IL;rw [t];cases F [] l.length a<;>rfl
  | cons x m u =>
   intro k n a c r d;obtain ⟨n,rfl⟩ : ∃ j,n=j+1:=⟨n-1,by omega⟩
   have o:l[k]? = some x:=by
    have:=congrArg xk c;rw [sr] at this;simpa using this
   have g:k<l.length:=(a8.1 o).1
   have i:l.drop (k+1)=m:=by
    have:=congrArg tT c;rw [rY] at this;simpa using this
   rcases hc k x m a c o g with ⟨b,h1,q⟩ | h1
   ·rw [UL h1,q];exact u (k+1) n b i (by omega) (by simp at d;omega)
   ·unfold IL;rw [h1];cases F (x::m) k a<;>rfl
 exact e l 0 _ a (by simp) (by omega) (by omega)
theorem rl {α:Type} {l:List α} {k:Nat} (h:k<l.length):S8 (k:Int) (l.length:Int)=true:=by unfold S8;simp;omega
theorem re {α:Type} (l:List α):S8 (l.length:Int) (l.length:Int)=false:=by unfold S8;simp
theorem UI {α β:Type} {m:Option α} {x:α} {k:α->Option β} {r:Option β} (h:m=some x) (e:k x=r):bd m k=r:=by subst h;exact e
theorem Z7 (k:UG):V3 k=some (k.2&&decide (k.1≠[])):=by
 unfold V3;rw [TV];cases h:k.2 with
 | true=>rw [if_pos rfl,Zh];simp [Hg]
 | false=>rw [if_neg (by simp)];rfl
def WH (k:UG):Prop:=k.2=true->k.1=[]
theorem pZ {k:UG} (h:WH k):V3 k=some false:=by
 rw [Z7];cases a:k.2 with
 | true=>simp [h a]
 | false=>rfl
theorem Ub (l:List Tj) (i:Nat):WH (kx l i):=by
 unfold kx WH;split<;>simp
theorem XM {l:List UG} (h : ∀ k∈l,WH k) (b:l≠[]) (e:l.length<=32):V7 l=some 0:=by
 unfold V7;simp only [Tq,Tn];rw [TK,TM,if_neg (by have:=List.length_pos_iff.2 b;omega),if_neg (by omega)]
 rw [Zw (l:=l) (σ:=Unit) (s:=(0,0)) (λk _=>((0:Int),(k:Int))) (λ_ _ _=>some (1,((0,(l.length:Int)),()))) () rfl (by omega) (λd=>by
  simp only;rw [re];rfl) (λk x m d _ a c => .inl ⟨(),by
   simp only;rw [rl c,Sc,Ti,TC a,pZ (h x (bo a)),Sx,R7,Tv a (by omega)],rfl⟩),Sx]
 rfl
theorem Yx {α:Type} {l:List α} (h:l.length<=1048576):(gd (CF (AS l) 1048576) λ_=>some l)=some l:=Ua h _
theorem dQ (p q:UG):W5 [p,q]=some (Tt p q):=by
 have g:w0 p q=(if p.2≠q.2 then q.2 else if p.1≠q.1 then SV p.1 q.1 else true):=rfl
 unfold W5;simp only [Tq,Tn,List.length_cons,List.length_nil];rw [show SG .i64 2 ((0+1+1:Nat):Int)=4 from rfl,show SK .i64 4 1=3 from rfl];unfold Tx;rw [show R1 4=λk=>k 4 from rfl];simp only [Ua (show 4<=1048576 by omega),Yx (show [p,q].length<=1048576 by simp),Sx];rw [show R1 ((0+1+1:Nat):Int)=λk=>k 2 from rfl];simp only [Ua (show 2<=1048576 by omega)];have fin : ∀ {w l:Int} {x:Nat×((Int×(List Int×(List UG×(List Int×Int))))×Unit)},x=(0,((0,([0,w,0,1],([p,q],([0,l],0)))),()))->(gd (KJ 1 (AS x.2.1.2.1)) λ_=>ix x.2.1.2.1 1 λd=>some ((x.2.1.2.2.1,(x.2.1.2.2.2.1,d))))=some ([p,q],([0,l],w)):=λe=>by subst e;rfl
 have o : ∀ {f:(Int×(List Int×(List UG×(List Int×Int))))->Option (LR (Int×(List Int×(List UG×(List Int×Int)))) (Nat×((Int×(List Int×(List UG×(List Int×Int))))×Unit)))} {w l:Int},f (3,([0,0,0,0],([p,q],([0,0],0))))=some (.nx (2,([0,0,0,1],([p,q],([0,0],0)))))->f (2,([0,0,0,1],([p,q],([0,0],0))))=some (.nx (1,([0,0,0,1],([p,q],([0,0],0))))) ->
   f (1,([0,0,0,1],([p,q],([0,0],0))))=some (.nx (0,([0,w,0,1],([p,q],([0,l],0)))))->f (0,([0,w,0,1],([p,q],([0,l],0))))=some (.dn (0,((0,([0,w,0,1],([p,q],([0,l],0)))),()))) ->
   loop f (3,([0,0,0,0],([p,q],([0,0],0))))=some (0,((0,([0,w,0,1],([p,q],([0,l],0)))),())):=λa b i j =>
  U3 (n:=4) (by omega) ((UL a).trans ((UL b).trans ((UL i).trans (UR j))))
 have m : ∀ {β:Type} (A B:Option β),w0 p q=true->br (Hg (beq p.2 q.2)) (λ_=>br (Hg q.2) (λ_=>B) λ_=>A) (λ_=>br (Hg (seq p.1 q.1)) (λ_=>br (Hg (SV p.1 q.1)) (λ_=>B) λ_=>A) λ_=>A)=A:=fun {β} A B h=>by
  rw [g] at h;rw [US (beq p.2 q.2),TV (beq p.2 q.2),US q.2,TV q.2,US (seq p.1 q.1),WK,US (SV p.1 q.1),XJ];by_cases a:p.2=q.2
  ·rw [if_neg (by simp [a])] at h;rw [if_pos (by simp [Sv.beq,a])];by_cases b:p.1=q.1
   ·rw [if_pos b]
   ·rw [if_neg b];rw [if_pos b] at h;rw [if_pos h]
  ·rw [if_pos a] at h;rw [if_neg (by simp [Sv.beq,a]),if_pos h]
 have c : ∀ {β:Type} (A B:Option β),w0 p q≠true->br (Hg (beq p.2 q.2)) (λ_=>br (Hg q.2) (λ_=>B) λ_=>A) (λ_=>br (Hg (seq p.1 q.1)) (λ_=>br (Hg (SV p.1 q.1)) (λ_=>B) λ_=>A) λ_=>A)=B:=fun {β} A B h=>by
  rw [g] at h;rw [US (beq p.2 q.2),TV (beq p.2 q.2),US q.2,TV q.2,US (seq p.1 q.1),WK,US (SV p.1 q.1),XJ];by_cases a:p.2=q.2
  ·rw [if_neg (by simp [a])] at h;rw [if_pos (by simp [Sv.beq,a])];by_cases b:p.1=q.1
   ·rw [if_neg (by simp [b])] at h;exact absurd rfl h
   ·rw [if_neg b];rw [if_pos b] at h;rw [if_neg h]
  ·rw [if_pos a] at h;rw [if_neg (by simp [Sv.beq,a]),if_neg h]
 rw [show Rd 4 (0:Int)=[0,0,0,0] from rfl,show Rd 2 (0:Int)=[0,0] from rfl];by_cases h:w0 p q=true
 ·refine UI (x:=(0,((0,([0,0,0,1],([p,q],([0,1],0)))),()))) ?_ ?_;refine U3 (n:=4) (by omega) ?_;refine (UL (s':=(2,([0,0,0,1],([p,q],([0,0],0))))) ?_).trans ((UL (s':=(1,([0,0,0,1],([p,q],([0,0],0))))) ?_).trans ((UL (s':=(0,([0,0,0,1],([p,q],([0,1],0))))) ?_).trans (UR ?_)))
  ·rfl
  ·rfl
  ·exact m _ _ h
  ·rfl
  ·show some ([p,q],([0,1],0))=_;unfold Tt;simp [h]
 ·refine UI (x:=(0,((0,([0,1,0,1],([p,q],([0,0],0)))),()))) ?_ ?_;refine U3 (n:=4) (by omega) ?_;refine (UL (s':=(2,([0,0,0,1],([p,q],([0,0],0))))) ?_).trans ((UL (s':=(1,([0,0,0,1],([p,q],([0,0],0))))) ?_).trans ((UL (s':=(0,([0,1,0,1],([p,q],([0,0],0))))) ?_).trans (UR ?_)))
  ·rfl
  ·rfl
  ·exact c _ _ h
  ·rfl
  ·show some ([p,q],([0,0],1))=_;unfold Tt;simp [h]
theorem Z3 {p q:UG} (a:WH p) (b:WH q):VQ [p,q]=some (Tt p q,0):=by
 unfold VQ;rw [XM (by simp [a,b]) (by simp) (by simp),Sx,TQ,if_pos rfl,dQ,Sx]
theorem eF {p q:UG} (c:WH p) (d:WH q):XU (Tt p q)=some (0,0):=by
 unfold XU;rw [show (Tt p q).1=[p,q] from rfl,XM (by simp [c,d]) (by simp) (by simp),Sx,TQ,if_pos rfl,TQ,if_pos (show Ki (AS (Tt p q).2.1)=Ki (AS [p,q]) from rfl),dQ,Sx];simp only [Tq,Tn]
 rw [Zw (l:=(Tt p q).2.1) (σ:=Unit) (s:=(0,(0,0))) (λk _=>((0:Int),((k:Int),(0:Int)))) (λ_ _ _=>some (1,((0,(((Tt p q).2.1.length:Int),0)),()))) () rfl (show 2<=9223372036854775807 by omega) (λe=>by
  simp only;rw [re];rfl) (λk x m e _ a b => .inl ⟨(),by
   simp only;rw [rl b,Sc,Ti,TC a,Ti,TC a,TQ,if_pos rfl,Tv a (show 2<=9223372036854775807 by omega)],rfl⟩),Sx]
 rw [show neq 1 0=false from rfl,R7,TQ,if_pos rfl]
def wn (p q:UG):Nat:=if w0 p q=true then 0 else 1
def wk (p q:UG):UG:=if w0 p q=true then p else q
theorem dq (p q:UG):(Tt p q).2.2=(wn p q:Int):=by unfold Tt wn;split<;>rfl
theorem dm (p q:UG):(Tt p q).1[wn p q]? = some (wk p q):=by unfold Tt wn wk;split<;>rfl
theorem dM {p q:UG} (a:WH p) (b:WH q):W4 (Tt p q)=some (if (wk p q).2=true then 12 else 0):=by
 unfold W4;rw [eF a b,Sx,TQ,if_pos rfl,dq,Ti,TC (dm p q),TV];split<;>rfl
theorem X5 {p q:UG} (a:WH p) (b:WH q):VX (Tt p q)=some (if (wk p q).2=true then (0,([],12)) else ((wn p q:Int),((wk p q).1,0))):=by
 unfold VX;rw [dM a b,Sx,TQ,dq,Ti,TC (dm p q)];by_cases h:(wk p q).2=true<;>simp [h]
def rk (p q k:UG):UG×UG:=if w0 p q=true then (k,q) else (p,k)
theorem jw (p q:UG):UZ (0,(1,([p,q],())))=some (w0 p q):=by
 unfold UZ w0;show br (Hg (beq p.2 q.2)) (λ_=>some q.2) (λ_=>br (Hg (seq p.1 q.1)) (λ_=>some (SV p.1 q.1)) λ_=>some (S8 0 1))=_;rw [US (beq p.2 q.2),TV (beq p.2 q.2),US (seq p.1 q.1),WK];by_cases a:p.2=q.2
 ·rw [if_pos (show Sv.beq p.2 q.2=true by simp [Sv.beq,a]),if_neg (show ¬ p.2≠q.2 by simp [a])];by_cases b:p.1=q.1
  ·rw [if_pos b,if_neg (show ¬ p.1≠q.1 by simp [b])];rfl
  ·rw [if_neg b,if_pos b]
 ·rw [if_neg (show ¬ Sv.beq p.2 q.2=true by simp [Sv.beq,a]),if_pos a]
theorem jx (p q:UG):UZ (1,(0,([p,q],())))=some (!w0 p q):=by
 unfold UZ w0;show br (Hg (beq q.2 p.2)) (λ_=>some p.2) (λ_=>br (Hg (seq q.1 p.1)) (λ_=>some (SV q.1 p.1)) λ_=>some (S8 1 0))=_;rw [US (beq q.2 p.2),TV (beq q.2 p.2),US (seq q.1 p.1),WK];by_cases b:p.2=q.2
 ·rw [if_pos (show Sv.beq q.2 p.2=true by simp [Sv.beq,b]),if_neg (show ¬ p.2≠q.2 by simp [b])];by_cases a:p.1=q.1
  ·rw [if_pos a.symm,if_neg (show ¬ p.1≠q.1 by simp [a])];rfl
  ·rw [if_neg (show ¬ q.1=p.1 from λe=>a e.symm),if_pos a];cases hs:SV p.1 q.1 with
   | true=>rw [VH hs];rfl
   | false=>rw [Zi hs a];rfl
 ·rw [if_neg (show ¬ Sv.beq q.2 p.2=true by simp [Sv.beq,Ne.symm b]),if_pos b];cases c:p.2<;>cases d:q.2<;>simp_all
theorem YH {p q k:UG} (y:WH p) (z:WH q) (x:WH k) (A:(wk p q).2=false) (l:k.2=true\/SV k.1 (wk p q).1=false) :
  ∃ n,VI (Tt p q,k)=some (Tt (rk p q k).1 (rk p q k).2,(n,0)):=by
 have g:(Tt p q).1.length<=1048576:=by show 2<=_;omega
 have c:(Tt p q).2.1.length<=1048576:=by show 2<=_;omega
 have i:lset (Tt p q).1 (wn p q) k=[(rk p q k).1,(rk p q k).2]:=by unfold Tt wn rk;split<;>rfl
 have d:(Tt p q).2.1=[0,(1-(wn p q:Int))]:=by unfold Tt wn;split<;>rfl
 have o:wn p q=0\/wn p q=1:=by unfold wn;split<;>simp
 have up : ∀ {f:(Int×(Int×(Unit×(List Int×Int))))->Option (LR (Int×(Int×(Unit×(List Int×Int)))) (Nat×((Int×(Int×(Unit×(List Int×Int))))×Unit)))},
   (f=λa=>br (Oa (S9 .i64 a.2.1 2) 0) (λ_=>some (.dn ((0,((a.1,(S9 .i64 a.2.1 2,((),a.2.2.2))),()))))) λ_=>R1 (S9 .i64 a.2.1 2) λu=>gd (KJ u (AS a.2.2.2.1)) λ_=>ix a.2.2.2.1 u λs=>bd (UZ ((s,(a.2.2.2.2,([(rk p q k).1,(rk p q k).2],()))))) λr=>br r (λ_=>R1 (S9 .i64 a.2.1 2) λj=>gd (KJ j (AS a.2.2.2.1)) λ_=>ix a.2.2.2.1 j λt=>R1 (S9 .i64 a.2.1 2) λe=>gd (KJ e (AS a.2.2.2.1)) λ_=>ix a.2.2.2.1 e λD=>some (.nx ((SF .i64 a.1 1,(S9 .i64 a.2.1 2,((),(lset a.2.2.2.1 e a.2.2.2.2,t))))))) λ_=>some (.nx ((SF .i64 a.1 1,(S9 .i64 a.2.1 2,((),a.2.2.2))))))
   -> loop f (0,((2:Int)+wn p q,((),([0,(1-(wn p q:Int))],(wn p q:Int)))))=some (0,((1,(0,((),(Tt (rk p q k).1 (rk p q k).2).2))),())):=by
  intro f w;subst w;refine U3 (n:=2) (by omega) ((UL (s':=(1,(1,((),(Tt (rk p q k).1 (rk p q k).2).2)))) ?_).trans (UR rfl));rcases o with h | h
  ·rw [h]
   have B:w0 p q=true:=by
    unfold wn at h;by_cases hh:w0 p q=true
    ·exact hh
    ·rw [if_neg hh] at h;cases h
   show bd (UZ (1,(0,([(rk p q k).1,(rk p q k).2],())))) _=_;rw [jx,Sx];unfold Tt;cases C:w0 (rk p q k).1 (rk p q k).2<;>rfl
  ·rw [h];show bd (UZ (0,(1,([(rk p q k).1,(rk p q k).2],())))) _=_;rw [jw,Sx];unfold Tt;cases C:w0 (rk p q k).1 (rk p q k).2<;>rfl
 unfold VI;simp only [dM y z,A,Sx,TQ,if_true,if_false,ll];rw [XM (by simp [x]) (by simp) (by simp),Sx];simp only [if_true,US];rw [TV];unfold Tx UE;simp only [dq,Ti,TC (dm p q),Ua g,Ua c,Sx,XJ,S3,Tn,Tq,i];have m:wn p q<(Tt p q).1.length:=by show wn p q<2;omega
 have hi:SF .i64 (([(rk p q k).1,(rk p q k).2].length:Nat):Int) (wn p q:Int)=(2:Int)+wn p q:=by
  rw [Sh (by simp;omega)];rfl
 rw [hi,d];simp only [Tn,S3] at up;have key:=up rfl;rw [if_pos m];by_cases b:k.2=true
 ·rw [if_pos b,key,Sx];exact ⟨_,rfl⟩
 ·rw [if_neg b,if_neg (by rcases l with h | h;exact absurd h b;rw [h];simp),key,Sx]
  exact ⟨_,rfl⟩
end
end Go.Proofs.YtfipnhjfbebeiabGreatDoor.Pl
