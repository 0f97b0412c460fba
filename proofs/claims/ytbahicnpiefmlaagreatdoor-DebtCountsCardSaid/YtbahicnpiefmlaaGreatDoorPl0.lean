/- Functions of the program and of the specification as plain functions, and laws about them. No condition. -/
import Derived.Test.YtbahicnpiefmlaaGreatDoorPs3
set_option linter.all false
open List renaming getElem?_eq_getElem->ee, getElem?_eq_none->a9, getElem?_eq_some_iff->a8, getElem_mem->xr, head?->vv, head?_drop->r6, mem_cons->en, mem_of_getElem?->bo, tail->s9, tail_drop->o5
open Nat renaming lt_of_not_le->nP
open Bool renaming and_eq_true->xn, false_eq_true->iz, or_eq_true->x5
namespace Go.Proofs.YtbahicnpiefmlaaGreatDoor.Pl
section
open Go Sv
abbrev Ti:=((List UInt8)×((List UInt8)×(Bool×Int)))
abbrev UK:=(Int×(List Ti))
abbrev Tk:=(Int×(List (List UK)))
abbrev UC:=((List UInt8)×Bool)
abbrev Vf:=((List UC)×((List Int)×Int))
abbrev VF:=((List (List Ti))×((List Int)×Vf))
abbrev qW:=(VF×((Bool×UC)×((List Ti)×Int)))
abbrev qJ:=(Int×qW)
abbrev qS:=(Tk×((List qJ)×Int))
abbrev qF:=(UK×qS)
abbrev qL:=(Int×((List (List UK))×((List qJ)×Int)))
abbrev qM:=((List (List Ti))×((List Int)×((List UC)×((List Int)×(Int×(Bool×((List UInt8)×(Bool×((List Ti)×Int)))))))))
abbrev Uc:=(Bool×((List UInt8)×Bool))
abbrev XH:=(VF×(Uc×((List Ti)×Int)))
abbrev Job:=(Int×XH)
abbrev Th:=(Tk×((List Job)×Int))
abbrev gu:=(Int×(Int×(Int×(Int×(Int×(Int×(Int×(Int×(Int×(Int×(Int×Int)))))))))))
def WW (x:(List UInt8)):Option Int :=
 br (S5 (Ki (Mj x)) 32) (λ_=>some 3) λ_=>some 0
def U1 (x:Ti):Option Int :=
 bd (WW x.1) λa=>br (Rx a 0) (λ_=>some 3) λ_=>br (S5 (Ki (Mj x.2.1)) 64) (λ_=>some 3) λ_=>br x.2.2.1 (λ_=>br (Hg (seq x.2.1 [])) (λ_=>some 6) λ_=>br (S7 x.2.2.2 1) (λ_=>some 7) λ_=>br (S5 x.2.2.2 1000000000) (λ_=>some 7) λ_=>some 0) λ_=>br (S7 x.2.2.2 1) (λ_=>some 7) λ_=>br (S5 x.2.2.2 1000000000) (λ_=>some 7) λ_=>some 0
def UW (x:(List Ti)):Option (Int×Int) :=
 br (S5 (Ki (AS x)) 5000) (λ_=>some (((-1),3))) λ_=>bd (loop (λs0=>br (S7 s0.2.2 (Ki (AS x))) (λ_=>R0 s0.2.2 λd=>ix x d λc=>bd (U1 c) λb=>br (Rx b 0) (λ_=>some (.dn ((0,((b,(s0.2.2,s0.2.2)),()))))) λ_=>br (S5 s0.2.2 0) (λ_=>R0 (SJ .i64 s0.2.2 1) λe=>ix x e λf=>br (Hg (SU f.1 c.1)) (λ_=>some (.dn ((0,((6,(s0.2.2,s0.2.2)),()))))) λ_=>some (.nx ((s0.1,(s0.2.1,SE .i64 s0.2.2 1))))) λ_=>some (.nx ((s0.1,(s0.2.1,SE .i64 s0.2.2 1))))) λ_=>some (.dn ((1,(s0,()))))) ((0,(0,0)))) λa=>br (neq a.1 0) (λ_=>some (a.2.1.2.1,a.2.1.1)) λ_=>some (0,0)
def XV (x:UK):Option (Int×Int) :=
 br (S7 x.1 1) (λ_=>some (((-1),7))) λ_=>br (S5 x.1 1000000) (λ_=>some (((-1),7))) λ_=>bd (UW x.2) λa=>some a
def VS (x:(UK×Int)):Option Int :=
 bd (XV x.1) λa=>br (Rx a.2 0) (λ_=>some a.2) λ_=>br (Oa (Ki (AS x.1.2)) 0) (λ_=>some 4) λ_=>br (S5 (Ki (AS x.1.2)) x.2) (λ_=>some 3) λ_=>some 0
def VB (x:Tk):Option (Int×(Int×Int)) :=
 br (S7 x.1 1) (λ_=>some ((0,(0,7)))) λ_=>br (S5 x.1 16) (λ_=>some ((0,(0,7)))) λ_=>br (S5 (Ki (AS x.2)) 12) (λ_=>some ((0,(0,3)))) λ_=>bd (loop (λs0=>br (S7 s0.2.2.2.1 (Ki (AS x.2))) (λ_=>R0 s0.2.2.2.1 λo=>ix x.2 o λk=>br (S5 (Ki (AS k)) 2) (λ_=>some (.dn ((0,((0,(s0.2.2.2.1,(3,s0.2.2.2))),()))))) λ_=>bd (loop (λa=>br (S7 a.2.1 (Ki (AS k))) (λ_=>R0 a.2.1 λp=>ix k p λe=>gd (Rw s0.2.2.2.1 0) λ_=>bd (VS (e,Ra .i64 x.1 s0.2.2.2.1)) λd=>br (Oa d 0) (λ_=>br (SN (MU ((λl=>(λm=>Oa l m))) a.2.2.2 e.1) false) (λ_=>some (.dn ((0,((a.2.1,(a.2.1,(8,a.2.2.2))),()))))) λ_=>br (Rx d 0) (λ_=>some (.dn ((0,((a.2.1,(a.2.1,(d,a.2.2.2))),()))))) λ_=>some (.nx ((a.2.1,(SE .i64 a.2.1 1,(d,IT ((λn=>(λf=>Oa n f))) a.2.2.2 e.1 true)))))) λ_=>br (Rx d 0) (λ_=>some (.dn ((0,((a.2.1,(a.2.1,(d,a.2.2.2))),()))))) λ_=>some (.nx ((a.2.1,(SE .i64 a.2.1 1,(d,IT ((λg=>(λh=>Oa g h))) a.2.2.2 e.1 true)))))) λ_=>some (.dn ((1,(a,()))))) ((0,(0,(s0.2.2.1,s0.2.2.2.2))))) λb=>br (neq b.1 0) (λ_=>some (.dn ((0,((b.2.1.1,(s0.2.2.2.1,(b.2.1.2.2.1,(s0.2.2.2.1,b.2.1.2.2.2)))),()))))) λ_=>some (.nx ((b.2.1.1,(s0.2.2.2.1,(b.2.1.2.2.1,(SE .i64 s0.2.2.2.1 1,b.2.1.2.2.2))))))) λ_=>some (.dn ((0,(s0,()))))) ((0,(0,(0,(0,[])))))) λc=>br (Rx c.2.1.2.2.1 0) (λ_=>some ((c.2.1.2.1,(c.2.1.1,c.2.1.2.2.1)))) λ_=>br (S5 (Ki (AS x.2)) 0) (λ_=>R0 (SJ .i64 (Ki (AS x.2)) 1) λi=>ix x.2 i λj=>br (Oa (Ki (AS j)) 0) (λ_=>some ((SJ .i64 (Ki (AS x.2)) 1,(0,6)))) λ_=>some ((0,(0,0)))) λ_=>some ((0,(0,0)))
def WJ (x:Tk):Option Int :=
 bd (loop (λs0=>br (S7 s0.2 (Ki (AS x.2))) (λ_=>R0 s0.2 λc=>ix x.2 c λb=>bd (loop (λa=>br (S7 a.1 (Ki (AS b))) (λ_=>R0 a.1 λd=>ix b d λg=>some (.nx (SE .i64 a.1 1,TX a.2 g.1))) λ_=>some (.dn ((0,(a,()))))) (0,s0.1)) λe=>some (.nx (e.2.1.2,SE .i64 s0.2 1))) λ_=>some (.dn ((0,(s0,()))))) (0,0)) λf=>some f.2.1.1
def VQ (x:(Tk×Int)):Option Bool :=
 some (Oa x.2 (SJ .i64 (Ki (AS x.1.2)) 1))
def Vo (x:(List (List Ti))):Option (Int×Int) :=
 br (Oa (Ki (AS x)) 0) (λ_=>some (((-1),6))) λ_=>br (S5 (Ki (AS x)) 32) (λ_=>some (((-1),3))) λ_=>bd (loop (λs0=>br (S7 s0.2.2 (Ki (AS x))) (λ_=>R0 s0.2.2 λc=>ix x c λd=>bd (UW d) λb=>br (Rx b.2 0) (λ_=>some (.dn ((0,((b.2,(s0.2.2,s0.2.2)),()))))) λ_=>some (.nx ((s0.1,(s0.2.1,SE .i64 s0.2.2 1))))) λ_=>some (.dn ((1,(s0,()))))) ((0,(0,0)))) λa=>br (neq a.1 0) (λ_=>some (a.2.1.2.1,a.2.1.1)) λ_=>some (0,0)
def VD (x:Bool):Option (Bool×UC) :=
 some ((false,([],x)))
def Ts (x:(List (List Ti))):Option (List (List Ti)) :=
 gd (CF (AS x) 1048576) λ_=>some x
def UN (x:((List Ti)×Int)):Option UC :=
 br (Oa x.2 (Ki (AS x.1))) (λ_=>some ([],true)) λ_=>R0 x.2 λa=>ix x.1 a λb=>some (b.1,false)
def Vj (x:UC):Option Bool :=
 br x.2 (λ_=>some (Hg (seq x.1 []))) λ_=>some false
def Vm (x:(List UC)):Option Int :=
 br (Oa (Ki (AS x)) 0) (λ_=>some 6) λ_=>br (S5 (Ki (AS x)) 32) (λ_=>some 3) λ_=>bd (loop (λs0=>br (S7 s0.2 (Ki (AS x))) (λ_=>R0 s0.2 λb=>ix x b λd=>bd (Vj d) λc=>br c (λ_=>some (.dn ((0,((s0.2,s0.2),()))))) λ_=>some (.nx (s0.1,SE .i64 s0.2 1))) λ_=>some (.dn ((1,(s0,()))))) (0,0)) λa=>br (neq a.1 0) (λ_=>br (Rw a.2.1.1 0) (λ_=>some 2) λ_=>some 0) λ_=>br (Rw (-1) 0) (λ_=>some 2) λ_=>some 0
def Tu (x:(List UC)):Option (List UC) :=
 gd (CF (AS x) 1048576) λ_=>some x
def Wa (x:(List UC)):Option Vf :=
 R0 (SF .i64 2 (Ki (AS x))) λS=>R0 (SF .i64 2 (Ki (AS x))) λz=>gd (CF z 1048576) λ_=>bd (Tu x) λC=>R0 (Ki (AS x)) λU=>R0 (Ki (AS x)) λA=>gd (CF A 1048576) λ_=>bd (loop (λa=>br (S5 a.1 0) (λ_=>br (Rw a.1 (Ki (AS x))) (λ_=>R0 a.1 λw=>gd (KJ w (AS a.2.1)) λ_=>ix a.2.1 w λW=>some (.nx ((SJ .i64 a.1 1,(lset a.2.1 w (SJ .i64 a.1 (Ki (AS x))),a.2.2))))) λ_=>R0 (SF .i64 2 a.1) λB=>gd (KJ B (AS a.2.1)) λ_=>ix a.2.1 B λe=>R0 (SE .i64 (SF .i64 2 a.1) 1) λs=>gd (KJ s (AS a.2.1)) λ_=>ix a.2.1 s λb=>R0 e λt=>ix x t λr=>R0 b λu=>ix x u λd=>br (Hg (beq r.2 d.2)) (λ_=>br (Hg d.2) (λ_=>R0 a.1 λf=>gd (KJ f (AS a.2.1)) λ_=>ix a.2.1 f λD=>R0 a.1 λg=>gd (KJ g (AS a.2.2.2.1)) λ_=>ix a.2.2.2.1 g λE=>some (.nx ((SJ .i64 a.1 1,(lset a.2.1 f b,(a.2.2.1,(lset a.2.2.2.1 g e,a.2.2.2.2))))))) λ_=>R0 a.1 λh=>gd (KJ h (AS a.2.1)) λ_=>ix a.2.1 h λF=>R0 a.1 λi=>gd (KJ i (AS a.2.2.2.1)) λ_=>ix a.2.2.2.1 i λG=>some (.nx ((SJ .i64 a.1 1,(lset a.2.1 h e,(a.2.2.1,(lset a.2.2.2.1 i b,a.2.2.2.2))))))) λ_=>br (Hg (seq r.1 d.1)) (λ_=>br (Hg (SU r.1 d.1)) (λ_=>R0 a.1 λj=>gd (KJ j (AS a.2.1)) λ_=>ix a.2.1 j λI=>R0 a.1 λk=>gd (KJ k (AS a.2.2.2.1)) λ_=>ix a.2.2.2.1 k λJ=>some (.nx ((SJ .i64 a.1 1,(lset a.2.1 j b,(a.2.2.1,(lset a.2.2.2.1 k e,a.2.2.2.2))))))) λ_=>R0 a.1 λl=>gd (KJ l (AS a.2.1)) λ_=>ix a.2.1 l λK=>R0 a.1 λm=>gd (KJ m (AS a.2.2.2.1)) λ_=>ix a.2.2.2.1 m λL=>some (.nx ((SJ .i64 a.1 1,(lset a.2.1 l e,(a.2.2.1,(lset a.2.2.2.1 m b,a.2.2.2.2))))))) λ_=>br (Hg (S7 e b)) (λ_=>R0 a.1 λn=>gd (KJ n (AS a.2.1)) λ_=>ix a.2.1 n λM=>R0 a.1 λo=>gd (KJ o (AS a.2.2.2.1)) λ_=>ix a.2.2.2.1 o λN=>some (.nx ((SJ .i64 a.1 1,(lset a.2.1 n b,(a.2.2.1,(lset a.2.2.2.1 o e,a.2.2.2.2))))))) λ_=>R0 a.1 λp=>gd (KJ p (AS a.2.1)) λ_=>ix a.2.1 p λO=>R0 a.1 λq=>gd (KJ q (AS a.2.2.2.1)) λ_=>ix a.2.2.2.1 q λP=>some (.nx ((SJ .i64 a.1 1,(lset a.2.1 p e,(a.2.2.1,(lset a.2.2.2.1 q b,a.2.2.2.2))))))) λ_=>some (.dn ((0,(a,()))))) ((SJ .i64 (SF .i64 2 (Ki (AS x))) 1,(Rc z 0,(C,(Rc A 0,(0:Int))))))) λc=>gd (KJ 1 (AS c.2.1.2.1)) λ_=>ix c.2.1.2.1 1 λy=>some ((c.2.1.2.2.1,(c.2.1.2.2.2.1,y)))
def U6 (x:(List UC)):Option (Vf×Int) :=
 bd (Vm x) λa=>br (Rx a 0) (λ_=>some ((([],([],0)),a))) λ_=>bd (Wa x) λb=>some (b,0)
def Wh (x:((List (List Ti))×Bool)):Option (qW×(Int×Int)) :=
 bd (Vo x.1) λe=>br (Rx e.2 0) (λ_=>br (Rx e.2 0) (λ_=>some (((([],([],([],([],0)))),((false,([],false)),([],0))),e))) λ_=>bd (VD x.2) λm=>some (((([],([],([],([],0)))),(m,([],0))),(0,0)))) λ_=>R0 (Ki (AS x.1)) λq=>R0 (Ki (AS x.1)) λd=>gd (CF d 1048576) λ_=>bd (Ts x.1) λn=>R0 (Ki (AS x.1)) λr=>R0 (Ki (AS x.1)) λk=>gd (CF k 1048576) λ_=>bd (loop (λa=>br (S7 a.1 (Ki (AS x.1))) (λ_=>R0 a.1 λl=>ix x.1 l λp=>R0 a.1 λc=>gd (KJ c (AS (Rc d (0:Int)))) λ_=>ix (Rc d 0) c λj=>bd (UN (p,j)) λf=>R0 a.1 λb=>gd (KJ b (AS a.2)) λ_=>ix a.2 b λo=>some (.nx (SE .i64 a.1 1,lset a.2 b f))) λ_=>some (.dn ((0,(a,()))))) ((0,Rc k ([],false)))) λg=>bd (U6 g.2.1.2) λh=>bd (VD x.2) λi=>some ((((n,(Rc d 0,h.1)),(i,([],0))),(0,0)))
def U5 (x:(Tk×(Int×Bool))):Option qJ :=
 R0 x.2.1 λb=>ix x.1.2 b λa=>ix a 1 λd=>ix a 0 λe=>bd (Wh ([d.2,e.2],x.2.2)) λc=>some (x.2.1,c.1)
def Wb (x:((List (List Ti))×(List Int))):Option Vf :=
 R0 (Ki (AS x.1)) λj=>R0 (Ki (AS x.1)) λd=>gd (CF d 1048576) λ_=>bd (loop (λs2=>br (S7 s2.1 (Ki (AS x.1))) (λ_=>R0 s2.1 λe=>ix x.1 e λh=>R0 s2.1 λf=>ix x.2 f λi=>bd (UN (h,i)) λg=>R0 s2.1 λa=>gd (KJ a (AS s2.2)) λ_=>ix s2.2 a λk=>some (.nx (SE .i64 s2.1 1,lset s2.2 a g))) λ_=>some (.dn ((0,(s2,()))))) ((0,Rc d ([],false)))) λb=>bd (U6 b.2.1.2) λc=>some c.1
def UB (x:((List UC)×(List UC))):Option Bool :=
 br (Rx (Ki (AS x.1)) (Ki (AS x.2))) (λ_=>some false) λ_=>bd (loop (λs0=>br (S7 s0.1 (Ki (AS x.1))) (λ_=>R0 s0.1 λd=>ix x.1 d λb=>R0 s0.1 λe=>ix x.2 e λc=>br (Hg (Nm (seq b.1 c.1) (Nm (beq b.2 c.2) true))) (λ_=>some (.dn ((0,((s0.1,false),()))))) λ_=>some (.nx (SE .i64 s0.1 1,s0.2))) λ_=>some (.dn ((1,(s0,()))))) (0,false)) λa=>br (neq a.1 0) (λ_=>some a.2.1.2) λ_=>some true
def Tv (x:((List Int)×(List Int))):Option Bool :=
 br (Rx (Ki (AS x.1)) (Ki (AS x.2))) (λ_=>some false) λ_=>bd (loop (λs0=>br (S7 s0.1 (Ki (AS x.1))) (λ_=>R0 s0.1 λb=>ix x.1 b λd=>R0 s0.1 λc=>ix x.2 c λe=>br (Rx d e) (λ_=>some (.dn ((0,((s0.1,false),()))))) λ_=>some (.nx (SE .i64 s0.1 1,s0.2))) λ_=>some (.dn ((1,(s0,()))))) (0,false)) λa=>br (neq a.1 0) (λ_=>some a.2.1.2) λ_=>some true
def WE (x:(Vf×Vf)):Option Bool :=
 br (Oa x.1.2.2 x.2.2.2) (λ_=>bd (UB (x.1.1,x.2.1)) λa=>br a (λ_=>bd (Tv (x.1.2.1,x.2.2.1)) λb=>some b) λ_=>some false) λ_=>some false
def Wz (x:Vf):Option (Int×Int) :=
 bd (Vm x.1) λc=>br (Rx c 0) (λ_=>some (0,c)) λ_=>br (Rx (Ki (AS x.2.1)) (Ki (AS x.1))) (λ_=>some (0,6)) λ_=>bd (Wa x.1) λa=>bd (loop (λs2=>br (S7 s2.2.1 (Ki (AS a.2.1))) (λ_=>R0 s2.2.1 λd=>ix a.2.1 d λf=>R0 s2.2.1 λe=>ix x.2.1 e λg=>br (Rx g f) (λ_=>some (.dn ((0,((6,(s2.2.1,s2.2.1)),()))))) λ_=>some (.nx ((s2.1,(SE .i64 s2.2.1 1,s2.2.2))))) λ_=>some (.dn ((1,(s2,()))))) ((0,(0,0)))) λb=>br (neq b.1 0) (λ_=>some (b.2.1.2.2,b.2.1.1)) λ_=>br (Rx x.2.2 a.2.2) (λ_=>some (0,6)) λ_=>some (0,0)
def WZ (x:Vf):Option Int :=
 bd (Wz x) λa=>br (Rx a.2 0) (λ_=>some a.2) λ_=>R0 x.2.2 λb=>ix x.1 b λc=>br c.2 (λ_=>some 12) λ_=>some 0
def VC (x:Vf):Option (Int×((List UInt8)×Int)) :=
 bd (WZ x) λa=>br (Rx a 0) (λ_=>some ((0,([],a)))) λ_=>R0 x.2.2 λb=>ix x.1 b λc=>some ((x.2.2,(c.1,0)))
def Vg (x:(List UInt8)):Option Bool :=
 some (Hg (seq x x))
def VI (x:((List UInt8)×(List UInt8))):Option Int :=
 bd (Vg x.1) λb=>bd (Vg x.2) λa=>br b (λ_=>br a (λ_=>some 0) λ_=>some (-1)) λ_=>br a (λ_=>some 1) λ_=>br (SU x.1 x.2) (λ_=>some (-1)) λ_=>br (SU x.2 x.1) (λ_=>some 1) λ_=>some 0
def WI (x:Int):Option Bool :=
 some (Rx x x)
def Uy (x:(Int×Int)):Option Int :=
 bd (WI x.1) λb=>bd (WI x.2) λa=>br b (λ_=>br a (λ_=>some 0) λ_=>some (-1)) λ_=>br a (λ_=>some 1) λ_=>br (S7 x.1 x.2) (λ_=>some (-1)) λ_=>br (S5 x.1 x.2) (λ_=>some 1) λ_=>some 0
def XJ (x:(List Int)):Option Int :=
 bd (loop (λs0=>br (S7 s0.2 (Ki (AS x))) (λ_=>R0 s0.2 λc=>ix x c λb=>br (Rx b 0) (λ_=>some (.dn ((0,((b,s0.2),()))))) λ_=>some (.nx (s0.1,SE .i64 s0.2 1))) λ_=>some (.dn ((1,(s0,()))))) (0,0)) λa=>br (neq a.1 0) (λ_=>some a.2.1.1) λ_=>some 0
def Vn (x:VF):Option (Int×Int) :=
 bd (Vo x.1) λn=>br (Rx n.2 0) (λ_=>some n) λ_=>br (Rx (Ki (AS x.2.1)) (Ki (AS x.1))) (λ_=>some (((-1),6))) λ_=>bd (loop (λs1=>br (S7 s1.2.2 (Ki (AS x.2.1))) (λ_=>R0 s1.2.2 λp=>ix x.2.1 p λo=>br (S7 o 0) (λ_=>some (.dn ((0,((6,(s1.2.2,s1.2.2)),()))))) λ_=>R0 s1.2.2 λq=>ix x.1 q λt=>br (S5 o (Ki (AS t))) (λ_=>some (.dn ((0,((6,(s1.2.2,s1.2.2)),()))))) λ_=>some (.nx ((s1.1,(s1.2.1,SE .i64 s1.2.2 1))))) λ_=>some (.dn ((1,(s1,()))))) ((0,(0,0)))) λe=>br (neq e.1 0) (λ_=>some (e.2.1.2.1,e.2.1.1)) λ_=>bd (Wb (x.1,x.2.1)) λr=>bd (WE (x.2.2,r)) λs=>br (Hg s) (λ_=>some (((-1),6))) λ_=>bd (VC x.2.2) λc=>br (Rx c.2.2 0) (λ_=>some (0,0)) λ_=>bd (loop (λa=>br (S7 a.2.2 (Ki (AS x.2.1))) (λ_=>R0 a.2.2 λf=>ix x.2.1 f λd=>br (S5 d 0) (λ_=>R0 a.2.2 λg=>ix x.1 g λl=>R0 (SJ .i64 d 1) λh=>ix l h λm=>bd (VI (m.1,c.2.1)) λi=>bd (Uy (a.2.2,c.1)) λj=>bd (XJ ([i,j])) λk=>br (S5 k 0) (λ_=>some (.dn ((0,((6,(c.1,a.2.2)),()))))) λ_=>some (.nx ((a.1,(a.2.1,SE .i64 a.2.2 1))))) λ_=>some (.nx ((a.1,(a.2.1,SE .i64 a.2.2 1))))) λ_=>some (.dn ((1,(a,()))))) ((c.2.2,(e.2.1.2.1,0)))) λb=>br (neq b.1 0) (λ_=>some (b.2.1.2.1,b.2.1.1)) λ_=>some (0,0)
def UA (x:(List Int)):Option (List Int) :=
 gd (CF (AS x) 1048576) λ_=>some x
def US (x:(Int×(Int×((List UC)×Unit)))):Option Bool :=
 R0 x.1 λc=>ix x.2.2.1 c λb=>R0 x.2.1 λd=>ix x.2.2.1 d λa=>br (Hg (beq b.2 a.2)) (λ_=>some a.2) λ_=>br (Hg (seq b.1 a.1)) (λ_=>some (SU b.1 a.1)) λ_=>some (S7 x.1 x.2.1)
def U2 (x:(Vf×UC)):Option (Vf×(Int×Int)) :=
 bd (WZ x.1) λw=>br (Rx w 0) (λ_=>some ((([],([],0)),(0,w)))) λ_=>bd (Vm [x.2]) λy=>br (Rx y 0) (λ_=>some ((([],([],0)),(0,y)))) λ_=>br (Hg x.2.2) (λ_=>R0 x.1.2.2 λz=>ix x.1.1 z λE=>br (SU x.2.1 E.1) (λ_=>some ((([],([],0)),(0,6)))) λ_=>bd (Tu x.1.1) λm=>bd (UA x.1.2.1) λA=>R0 x.1.2.2 λj=>gd (KJ j (AS m)) λ_=>ix m j λF=>bd (loop (λb=>br (Oa (S8 .i64 b.2.1 2) 0) (λ_=>some (.dn ((0,((b.1,(S8 .i64 b.2.1 2,((),b.2.2.2))),()))))) λ_=>R0 (S8 .i64 b.2.1 2) λu=>gd (KJ u (AS b.2.2.2.1)) λ_=>ix b.2.2.2.1 u λq=>bd (US ((q,(b.2.2.2.2,(lset m j x.2,()))))) λn=>br n (λ_=>R0 (S8 .i64 b.2.1 2) λg=>gd (KJ g (AS b.2.2.2.1)) λ_=>ix b.2.2.2.1 g λr=>R0 (S8 .i64 b.2.1 2) λe=>gd (KJ e (AS b.2.2.2.1)) λ_=>ix b.2.2.2.1 e λB=>some (.nx ((SE .i64 b.1 1,(S8 .i64 b.2.1 2,((),(lset b.2.2.2.1 e b.2.2.2.2,r))))))) λ_=>some (.nx ((SE .i64 b.1 1,(S8 .i64 b.2.1 2,((),b.2.2.2)))))) ((0,(SE .i64 (Ki (AS (lset m j x.2))) x.1.2.2,((),(A,x.1.2.2)))))) λk=>some (((lset m j x.2,k.2.1.2.2.2),(k.2.1.1,0)))) λ_=>bd (Tu x.1.1) λd=>bd (UA x.1.2.1) λo=>R0 x.1.2.2 λc=>gd (KJ c (AS d)) λ_=>ix d c λC=>bd (loop (λa=>br (Oa (S8 .i64 a.2.1 2) 0) (λ_=>some (.dn ((0,((a.1,(S8 .i64 a.2.1 2,((),a.2.2.2))),()))))) λ_=>R0 (S8 .i64 a.2.1 2) λh=>gd (KJ h (AS a.2.2.2.1)) λ_=>ix a.2.2.2.1 h λs=>bd (US ((s,(a.2.2.2.2,(lset d c x.2,()))))) λp=>br p (λ_=>R0 (S8 .i64 a.2.1 2) λi=>gd (KJ i (AS a.2.2.2.1)) λ_=>ix a.2.2.2.1 i λt=>R0 (S8 .i64 a.2.1 2) λf=>gd (KJ f (AS a.2.2.2.1)) λ_=>ix a.2.2.2.1 f λD=>some (.nx ((SE .i64 a.1 1,(S8 .i64 a.2.1 2,((),(lset a.2.2.2.1 f a.2.2.2.2,t))))))) λ_=>some (.nx ((SE .i64 a.1 1,(S8 .i64 a.2.1 2,((),a.2.2.2)))))) ((0,(SE .i64 (Ki (AS (lset d c x.2))) x.1.2.2,((),(o,x.1.2.2)))))) λl=>some (((lset d c x.2,l.2.1.2.2.2),(l.2.1.1,0)))
def Xi (x:(List (List Ti))):Option ((List Ti)×((List Int)×Int)) :=
 bd (Vo x) λt=>br (Rx t.2 0) (λ_=>br (Rx t.2 0) (λ_=>some (([],([],t.2)))) λ_=>bd (loop (λs1=>bd (VC (([],([],0)))) λz=>br (Rx z.2.2 0) (λ_=>br (Rx z.2.2 0) (λ_=>some (.dn ((0,(s1,()))))) λ_=>gd (CF (BF (AS s1.1) (AS ([(([],([],(false,0))):Ti)]))) 1048576) λ_=>gd (CF (BF (AS s1.2) (AS [0])) 1048576) λ_=>none) λ_=>R0 z.1 λW=>none) ([],[])) λO=>some ((O.2.1.1,(O.2.1.2,0)))) λ_=>R0 (Ki (AS x)) λX=>R0 (Ki (AS x)) λq=>gd (CF q 1048576) λ_=>bd (Ts x) λh=>R0 (Ki (AS x)) λY=>R0 (Ki (AS x)) λN=>gd (CF N 1048576) λ_=>bd (loop (λc=>br (S7 c.1 (Ki (AS x))) (λ_=>R0 c.1 λr=>ix x r λE=>R0 c.1 λi=>gd (KJ i (AS (Rc q (0:Int)))) λ_=>ix (Rc q 0) i λF=>bd (UN (E,F)) λu=>R0 c.1 λe=>gd (KJ e (AS c.2)) λ_=>ix c.2 e λP=>some (.nx (SE .i64 c.1 1,lset c.2 e u))) λ_=>some (.dn ((0,(c,()))))) ((0,Rc N ([],false)))) λw=>bd (U6 w.2.1.2) λy=>bd (loop (λa=>bd (VC a.2.2.2.2) λb=>br (Rx b.2.2 0) (λ_=>br (Rx b.2.2 0) (λ_=>some (.dn ((0,((a.1,(a.2.1,((),a.2.2.2))),()))))) λ_=>gd (CF (BF (AS a.1) (AS ([(([],([],(false,0))):Ti)]))) 1048576) λ_=>gd (CF (BF (AS a.2.1) (AS [0])) 1048576) λ_=>gd (KJ 0 (AS a.2.2.2.1)) λ_=>ix a.2.2.2.1 0 λf=>gd (KJ 0 (AS a.2.2.2.1)) λ_=>ix a.2.2.2.1 0 λS=>gd (KJ 0 (AS h)) λ_=>ix h 0 λG=>gd (KJ 0 (AS (lset a.2.2.2.1 0 (SE .i64 f 1)))) λ_=>ix (lset a.2.2.2.1 0 (SE .i64 f 1)) 0 λI=>bd (UN (G,I)) λA=>bd (U2 (a.2.2.2.2,A)) λB=>some (.nx ((Il a.1 ([(([],([],(false,0))):Ti)]),(Il a.2.1 [0],((),(lset a.2.2.2.1 0 (SE .i64 f 1),B.1))))))) λ_=>R0 b.1 λj=>gd (KJ j (AS h)) λ_=>ix h j λJ=>R0 b.1 λk=>gd (KJ k (AS a.2.2.2.1)) λ_=>ix a.2.2.2.1 k λK=>R0 K λs=>ix J s λp=>gd (CF (BF (AS a.1) (AS [p])) 1048576) λ_=>gd (CF (BF (AS a.2.1) (AS [b.1])) 1048576) λ_=>R0 b.1 λl=>gd (KJ l (AS a.2.2.2.1)) λ_=>ix a.2.2.2.1 l λg=>R0 b.1 λd=>gd (KJ d (AS a.2.2.2.1)) λ_=>ix a.2.2.2.1 d λU=>R0 b.1 λm=>gd (KJ m (AS h)) λ_=>ix h m λL=>R0 b.1 λn=>gd (KJ n (AS (lset a.2.2.2.1 d (SE .i64 g 1)))) λ_=>ix (lset a.2.2.2.1 d (SE .i64 g 1)) n λM=>bd (UN (L,M)) λC=>bd (U2 (a.2.2.2.2,C)) λD=>some (.nx ((Il a.1 [p],(Il a.2.1 [b.1],((),(lset a.2.2.2.1 d (SE .i64 g 1),D.1))))))) (([],([],((),(Rc q 0,y.1)))))) λo=>some ((o.2.1.1,(o.2.1.2.1,0)))
def V1 (x:(Bool×UC)):Option Int :=
 bd (WW x.2.1) λa=>br (Rx a 0) (λ_=>some a) λ_=>br (Hg x.1) (λ_=>br (Hg (seq x.2.1 [])) (λ_=>some 6) λ_=>some 0) λ_=>some 0
def UG (x:Ti):Option Ti :=
 some x
def WL (x:((List Ti)×Bool)):Option ((List Ti)×(Int×Int)) :=
 br (S5 (Ki (AS x.1)) 20000) (λ_=>some (([],((-1),3)))) λ_=>bd (VD x.2) λn=>bd (loop (λs1=>br (S7 s1.2.1 (Ki (AS x.1))) (λ_=>R0 s1.2.1 λm=>ix x.1 m λa=>bd (V1 s1.2.2.2.1) λg=>br (Rx g 0) (λ_=>br (Rx g 0) (λ_=>some (.dn ((0,((g,(s1.2.1,(s1.2.1,s1.2.2.2))),()))))) λ_=>some (.nx ((s1.1,(SE .i64 s1.2.1 1,(s1.2.2.1,((false,([],false)),s1.2.2.2.2))))))) λ_=>bd (U1 a) λh=>br (Rx h 0) (λ_=>br (Rx h 0) (λ_=>some (.dn ((0,((h,(s1.2.1,(s1.2.1,s1.2.2.2))),()))))) λ_=>some (.nx ((s1.1,(SE .i64 s1.2.1 1,(s1.2.2.1,((false,([],false)),s1.2.2.2.2))))))) λ_=>br s1.2.2.2.1.1 (λ_=>br (SU a.1 s1.2.2.2.1.2.1) (λ_=>some (.dn ((0,((6,(s1.2.1,(s1.2.1,s1.2.2.2))),()))))) λ_=>br s1.2.2.2.1.1 (λ_=>br (seq a.1 s1.2.2.2.1.2.1) (λ_=>some (.nx ((s1.1,(SE .i64 s1.2.1 1,(s1.2.2.1,((true,(a.1,s1.2.2.2.1.2.2)),s1.2.2.2.2))))))) λ_=>br s1.2.2.2.1.2.2 (λ_=>br a.2.2.1 (λ_=>some (.nx ((s1.1,(SE .i64 s1.2.1 1,(s1.2.2.1,((true,(a.1,s1.2.2.2.1.2.2)),s1.2.2.2.2))))))) λ_=>bd (UG a) λi=>gd (CF (BF (AS s1.2.2.2.2) (AS [i])) 1048576) λ_=>some (.nx ((s1.1,(SE .i64 s1.2.1 1,(s1.2.2.1,((true,(a.1,s1.2.2.2.1.2.2)),Il s1.2.2.2.2 [i]))))))) λ_=>bd (UG a) λj=>gd (CF (BF (AS s1.2.2.2.2) (AS [j])) 1048576) λ_=>some (.nx ((s1.1,(SE .i64 s1.2.1 1,(s1.2.2.1,((true,(a.1,s1.2.2.2.1.2.2)),Il s1.2.2.2.2 [j]))))))) λ_=>br s1.2.2.2.1.2.2 (λ_=>br a.2.2.1 (λ_=>some (.nx ((s1.1,(SE .i64 s1.2.1 1,(s1.2.2.1,((true,(a.1,s1.2.2.2.1.2.2)),s1.2.2.2.2))))))) λ_=>bd (UG a) λk=>gd (CF (BF (AS s1.2.2.2.2) (AS [k])) 1048576) λ_=>some (.nx ((s1.1,(SE .i64 s1.2.1 1,(s1.2.2.1,((true,(a.1,s1.2.2.2.1.2.2)),Il s1.2.2.2.2 [k]))))))) λ_=>bd (UG a) λl=>gd (CF (BF (AS s1.2.2.2.2) (AS [l])) 1048576) λ_=>some (.nx ((s1.1,(SE .i64 s1.2.1 1,(s1.2.2.1,((true,(a.1,s1.2.2.2.1.2.2)),Il s1.2.2.2.2 [l]))))))) λ_=>br s1.2.2.2.1.1 (λ_=>br (seq a.1 s1.2.2.2.1.2.1) (λ_=>some (.nx ((s1.1,(SE .i64 s1.2.1 1,(s1.2.2.1,((true,(a.1,s1.2.2.2.1.2.2)),s1.2.2.2.2))))))) λ_=>br s1.2.2.2.1.2.2 (λ_=>br a.2.2.1 (λ_=>some (.nx ((s1.1,(SE .i64 s1.2.1 1,(s1.2.2.1,((true,(a.1,s1.2.2.2.1.2.2)),s1.2.2.2.2))))))) λ_=>bd (UG a) λc=>gd (CF (BF (AS s1.2.2.2.2) (AS [c])) 1048576) λ_=>some (.nx ((s1.1,(SE .i64 s1.2.1 1,(s1.2.2.1,((true,(a.1,s1.2.2.2.1.2.2)),Il s1.2.2.2.2 [c]))))))) λ_=>bd (UG a) λd=>gd (CF (BF (AS s1.2.2.2.2) (AS [d])) 1048576) λ_=>some (.nx ((s1.1,(SE .i64 s1.2.1 1,(s1.2.2.1,((true,(a.1,s1.2.2.2.1.2.2)),Il s1.2.2.2.2 [d]))))))) λ_=>br s1.2.2.2.1.2.2 (λ_=>br a.2.2.1 (λ_=>some (.nx ((s1.1,(SE .i64 s1.2.1 1,(s1.2.2.1,((true,(a.1,s1.2.2.2.1.2.2)),s1.2.2.2.2))))))) λ_=>bd (UG a) λe=>gd (CF (BF (AS s1.2.2.2.2) (AS [e])) 1048576) λ_=>some (.nx ((s1.1,(SE .i64 s1.2.1 1,(s1.2.2.1,((true,(a.1,s1.2.2.2.1.2.2)),Il s1.2.2.2.2 [e]))))))) λ_=>bd (UG a) λf=>gd (CF (BF (AS s1.2.2.2.2) (AS [f])) 1048576) λ_=>some (.nx ((s1.1,(SE .i64 s1.2.1 1,(s1.2.2.1,((true,(a.1,s1.2.2.2.1.2.2)),Il s1.2.2.2.2 [f]))))))) λ_=>some (.dn ((1,(s1,()))))) ((0,(0,(0,(n,[])))))) λb=>br (neq b.1 0) (λ_=>br (Rx b.2.1.1 0) (λ_=>some (([],(b.2.1.2.2.1,b.2.1.1)))) λ_=>some ((b.2.1.2.2.2.2,(0,0)))) λ_=>some ((b.2.1.2.2.2.2,(0,0)))
def V2 (x:((List Ti)×(List Ti))):Option Bool :=
 br (Rx (Ki (AS x.1)) (Ki (AS x.2))) (λ_=>some false) λ_=>bd (loop (λs0=>br (S7 s0.2 (Ki (AS x.1))) (λ_=>R0 s0.2 λd=>ix x.1 d λa=>R0 s0.2 λe=>ix x.2 e λb=>br (Hg (Nm (seq a.1 b.1) (Nm (seq a.2.1 b.2.1) (Nm (beq a.2.2.1 b.2.2.1) (Nm (Oa a.2.2.2 b.2.2.2) true))))) (λ_=>some (.dn ((0,((false,s0.2),()))))) λ_=>some (.nx (s0.1,SE .i64 s0.2 1))) λ_=>some (.dn ((1,(s0,()))))) (false,0)) λc=>br (neq c.1 0) (λ_=>some c.2.1.1) λ_=>some true
def Wi (x:qW):Option Int :=
 bd (Vn x.1) λi=>br (Rx i.2 0) (λ_=>some i.2) λ_=>bd (loop (λs1=>br (S7 s1.1 (Ki (AS x.1.2.1))) (λ_=>R0 s1.1 λj=>ix x.1.2.1 j λl=>some (.nx (SE .i64 s1.1 1,SE .i64 s1.2 l))) λ_=>some (.dn ((0,(s1,()))))) (0,0)) λa=>br (S5 (Ki (AS x.2.2.1)) 20000) (λ_=>some 3) λ_=>br (S5 a.2.1.2 20000) (λ_=>some 3) λ_=>br (Rx x.2.2.2 a.2.1.2) (λ_=>some 7) λ_=>bd (Xi x.1.1) λb=>br (Rx b.2.2 0) (λ_=>some b.2.2) λ_=>R0 a.2.1.2 λe=>gd (CF e (AS b.1)) λ_=>gd (CF 0 e) λ_=>bd (WL (D0 b.1 0 e,x.2.1.2.2)) λc=>br (Rx c.2.2 0) (λ_=>some c.2.2) λ_=>bd (VD x.2.1.2.2) λd=>br (S5 a.2.1.2 0) (λ_=>R0 (SJ .i64 a.2.1.2 1) λk=>ix b.1 k λh=>bd (V2 (x.2.2.1,c.1)) λf=>br (Hg f) (λ_=>some 6) λ_=>br (Hg (Nm (beq x.2.1.1 true) (Nm (seq x.2.1.2.1 h.1) (Nm (beq x.2.1.2.2 d.2.2) true)))) (λ_=>some 6) λ_=>some 0) λ_=>bd (V2 (x.2.2.1,c.1)) λg=>br (Hg g) (λ_=>some 6) λ_=>br (Hg (Nm (beq x.2.1.1 d.1) (Nm (seq x.2.1.2.1 d.2.1) (Nm (beq x.2.1.2.2 d.2.2) true)))) (λ_=>some 6) λ_=>some 0
def XN (x:VF):Option (Int×Int) :=
 bd (Vn x) λa=>br (Rx a.2 0) (λ_=>some (0,a.2)) λ_=>bd (loop (λs1=>br (S7 s1.1 (Ki (AS x.1))) (λ_=>R0 s1.1 λb=>ix x.1 b λe=>R0 s1.1 λc=>ix x.2.1 c λf=>some (.nx ((SE .i64 s1.1 1,SE .i64 s1.2 (SJ .i64 (Ki (AS e)) f))))) λ_=>some (.dn ((0,(s1,()))))) (0,0)) λd=>some (d.2.1.2,0)
def UV (x:qW):Option (Int×Int) :=
 bd (Wi x) λa=>br (Rx a 0) (λ_=>some (0,a)) λ_=>bd (XN x.1) λb=>some b
def Uj (x:VF):Option (Ti×(Int×(VF×Int))) :=
 bd (Vn x) λl=>br (Rx l.2 0) (λ_=>br (Rx l.2 0) (λ_=>some (((([],([],(false,0))):Ti),(0,(([],([],([],([],0)))),l.2))))) λ_=>none) λ_=>bd (Ts x.1) λd=>bd (UA x.2.1) λa=>bd (VC x.2.2) λc=>br (Rx c.2.2 0) (λ_=>br (Rx c.2.2 0) (λ_=>some (((([],([],(false,0))):Ti),(0,(([],([],([],([],0)))),c.2.2))))) λ_=>gd (KJ 0 (AS a)) λ_=>ix a 0 λt=>gd (KJ 0 (AS a)) λ_=>ix a 0 λB=>gd (KJ 0 (AS d)) λ_=>ix d 0 λz=>gd (KJ 0 (AS (lset a 0 (SE .i64 t 1)))) λ_=>ix (lset a 0 (SE .i64 t 1)) 0 λA=>bd (UN (z,A)) λu=>bd (U2 (x.2.2,u)) λw=>some (((([],([],(false,0))):Ti),(0,((d,(lset a 0 (SE .i64 t 1),w.1)),0))))) λ_=>R0 c.1 λf=>gd (KJ f (AS d)) λ_=>ix d f λo=>R0 c.1 λg=>gd (KJ g (AS a)) λ_=>ix a g λp=>R0 p λk=>ix o k λq=>R0 c.1 λh=>gd (KJ h (AS a)) λ_=>ix a h λe=>R0 c.1 λb=>gd (KJ b (AS a)) λ_=>ix a b λy=>R0 c.1 λi=>gd (KJ i (AS d)) λ_=>ix d i λr=>R0 c.1 λj=>gd (KJ j (AS (lset a b (SE .i64 e 1)))) λ_=>ix (lset a b (SE .i64 e 1)) j λs=>bd (UN (r,s)) λm=>bd (U2 (x.2.2,m)) λn=>some ((q,(c.1,((d,(lset a b (SE .i64 e 1),n.1)),0))))
def Ut (x:((Bool×UC)×Ti)):Option (Bool×((Bool×UC)×Int)) :=
 bd (V1 x.1) λa=>br (Rx a 0) (λ_=>some ((false,((false,([],false)),a)))) λ_=>bd (U1 x.2) λb=>br (Rx b 0) (λ_=>some ((false,((false,([],false)),b)))) λ_=>br x.1.1 (λ_=>br (SU x.2.1 x.1.2.1) (λ_=>some ((false,((false,([],false)),6)))) λ_=>br x.1.1 (λ_=>br (seq x.2.1 x.1.2.1) (λ_=>some ((false,((true,(x.2.1,x.1.2.2)),0)))) λ_=>br x.1.2.2 (λ_=>br x.2.2.2.1 (λ_=>some ((false,((true,(x.2.1,x.1.2.2)),0)))) λ_=>some ((true,((true,(x.2.1,x.1.2.2)),0)))) λ_=>some ((true,((true,(x.2.1,x.1.2.2)),0)))) λ_=>br x.1.2.2 (λ_=>br x.2.2.2.1 (λ_=>some ((false,((true,(x.2.1,x.1.2.2)),0)))) λ_=>some ((true,((true,(x.2.1,x.1.2.2)),0)))) λ_=>some ((true,((true,(x.2.1,x.1.2.2)),0)))) λ_=>br x.1.1 (λ_=>br (seq x.2.1 x.1.2.1) (λ_=>some ((false,((true,(x.2.1,x.1.2.2)),0)))) λ_=>br x.1.2.2 (λ_=>br x.2.2.2.1 (λ_=>some ((false,((true,(x.2.1,x.1.2.2)),0)))) λ_=>some ((true,((true,(x.2.1,x.1.2.2)),0)))) λ_=>some ((true,((true,(x.2.1,x.1.2.2)),0)))) λ_=>br x.1.2.2 (λ_=>br x.2.2.2.1 (λ_=>some ((false,((true,(x.2.1,x.1.2.2)),0)))) λ_=>some ((true,((true,(x.2.1,x.1.2.2)),0)))) λ_=>some ((true,((true,(x.2.1,x.1.2.2)),0)))
def Ui (x:(qW×Int)):Option (qW×(Int×Int)) :=
 bd (UV x.1) λh=>br (Rx h.2 0) (λ_=>some (((([],([],([],([],0)))),((false,([],false)),([],0))),(0,h.2)))) λ_=>br (S7 x.2 0) (λ_=>some (((([],([],([],([],0)))),((false,([],false)),([],0))),(0,7)))) λ_=>br (S5 (SE .i64 x.1.2.2.2 (TW x.2 h.1)) 20000) (λ_=>some (((([],([],([],([],0)))),((false,([],false)),([],0))),(0,3)))) λ_=>gd (CF (AS x.1.2.2.1) 1048576) λ_=>gd (CF (AS x.1.1.2.1) 1048576) λ_=>br (S7 0 (TW x.2 h.1)) (λ_=>bd (Uj x.1.1) λe=>br (Rx e.2.2.2 0) (λ_=>br (Rx e.2.2.2 0) (λ_=>br (Rx e.2.2.2 0) (λ_=>some (((([],([],([],([],0)))),((false,([],false)),([],0))),(0,e.2.2.2)))) λ_=>some ((x.1,(TW x.2 h.1,0)))) λ_=>none) λ_=>bd (Ut (x.1.2.1,e.1)) λi=>br (Rx i.2.2 0) (λ_=>br (Rx i.2.2 0) (λ_=>br (Rx i.2.2 0) (λ_=>some (((([],([],([],([],0)))),((false,([],false)),([],0))),(0,i.2.2)))) λ_=>some ((x.1,(TW x.2 h.1,0)))) λ_=>none) λ_=>br i.1 (λ_=>gd (CF (BF (AS x.1.2.2.1) (AS [e.1])) 1048576) λ_=>bd (loop (λb=>br (S7 b.1 (TW x.2 h.1)) (λ_=>bd (Uj ((b.2.2.1,(b.2.2.2.1,(b.2.2.2.2.1,(b.2.2.2.2.2.1,b.2.2.2.2.2.2.1)))))) λf=>br (Rx f.2.2.2 0) (λ_=>br (Rx f.2.2.2 0) (λ_=>some (.dn ((0,((b.1,(f.2.2.2,b.2.2)),()))))) λ_=>some (.nx (SE .i64 b.1 1,b.2))) λ_=>bd (Ut (((b.2.2.2.2.2.2.2.1,(b.2.2.2.2.2.2.2.2.1,b.2.2.2.2.2.2.2.2.2.1)),f.1))) λj=>br (Rx j.2.2 0) (λ_=>br (Rx j.2.2 0) (λ_=>some (.dn ((0,((b.1,(j.2.2,b.2.2)),()))))) λ_=>some (.nx (SE .i64 b.1 1,b.2))) λ_=>br j.1 (λ_=>gd (CF (BF (AS b.2.2.2.2.2.2.2.2.2.2.1) (AS [f.1])) 1048576) λ_=>some (.nx ((SE .i64 b.1 1,(b.2.1,(f.2.2.1.1,(f.2.2.1.2.1,(f.2.2.1.2.2.1,(f.2.2.1.2.2.2.1,(f.2.2.1.2.2.2.2,(j.2.1.1,(j.2.1.2.1,(j.2.1.2.2,(Il b.2.2.2.2.2.2.2.2.2.2.1 [f.1],SE .i64 b.2.2.2.2.2.2.2.2.2.2.2 1)))))))))))))) λ_=>some (.nx ((SE .i64 b.1 1,(b.2.1,(f.2.2.1.1,(f.2.2.1.2.1,(f.2.2.1.2.2.1,(f.2.2.1.2.2.2.1,(f.2.2.1.2.2.2.2,(j.2.1.1,(j.2.1.2.1,(j.2.1.2.2,(b.2.2.2.2.2.2.2.2.2.2.1,SE .i64 b.2.2.2.2.2.2.2.2.2.2.2 1)))))))))))))) λ_=>some (.dn ((1,(b,()))))) ((1,(0,(e.2.2.1.1,(e.2.2.1.2.1,(e.2.2.1.2.2.1,(e.2.2.1.2.2.2.1,(e.2.2.1.2.2.2.2,(i.2.1.1,(i.2.1.2.1,(i.2.1.2.2,(Il x.1.2.2.1 [e.1],SE .i64 x.1.2.2.2 1))))))))))))) λd=>br (neq d.1 0) (λ_=>br (Rx d.2.1.2.1 0) (λ_=>some (((([],([],([],([],0)))),((false,([],false)),([],0))),(0,d.2.1.2.1)))) λ_=>some ((((d.2.1.2.2.1,(d.2.1.2.2.2.1,(d.2.1.2.2.2.2.1,(d.2.1.2.2.2.2.2.1,d.2.1.2.2.2.2.2.2.1)))),((d.2.1.2.2.2.2.2.2.2.1,(d.2.1.2.2.2.2.2.2.2.2.1,d.2.1.2.2.2.2.2.2.2.2.2.1)),d.2.1.2.2.2.2.2.2.2.2.2.2)),(TW x.2 h.1,0)))) λ_=>some ((((d.2.1.2.2.1,(d.2.1.2.2.2.1,(d.2.1.2.2.2.2.1,(d.2.1.2.2.2.2.2.1,d.2.1.2.2.2.2.2.2.1)))),((d.2.1.2.2.2.2.2.2.2.1,(d.2.1.2.2.2.2.2.2.2.2.1,d.2.1.2.2.2.2.2.2.2.2.2.1)),d.2.1.2.2.2.2.2.2.2.2.2.2)),(TW x.2 h.1,0)))) λ_=>bd (loop (λc=>br (S7 c.1 (TW x.2 h.1)) (λ_=>bd (Uj ((c.2.2.1,(c.2.2.2.1,(c.2.2.2.2.1,(c.2.2.2.2.2.1,c.2.2.2.2.2.2.1)))))) λg=>br (Rx g.2.2.2 0) (λ_=>br (Rx g.2.2.2 0) (λ_=>some (.dn ((0,((c.1,(g.2.2.2,c.2.2)),()))))) λ_=>some (.nx (SE .i64 c.1 1,c.2))) λ_=>bd (Ut (((c.2.2.2.2.2.2.2.1,(c.2.2.2.2.2.2.2.2.1,c.2.2.2.2.2.2.2.2.2.1)),g.1))) λk=>br (Rx k.2.2 0) (λ_=>br (Rx k.2.2 0) (λ_=>some (.dn ((0,((c.1,(k.2.2,c.2.2)),()))))) λ_=>some (.nx (SE .i64 c.1 1,c.2))) λ_=>br k.1 (λ_=>gd (CF (BF (AS c.2.2.2.2.2.2.2.2.2.2.1) (AS [g.1])) 1048576) λ_=>some (.nx ((SE .i64 c.1 1,(c.2.1,(g.2.2.1.1,(g.2.2.1.2.1,(g.2.2.1.2.2.1,(g.2.2.1.2.2.2.1,(g.2.2.1.2.2.2.2,(k.2.1.1,(k.2.1.2.1,(k.2.1.2.2,(Il c.2.2.2.2.2.2.2.2.2.2.1 [g.1],SE .i64 c.2.2.2.2.2.2.2.2.2.2.2 1)))))))))))))) λ_=>some (.nx ((SE .i64 c.1 1,(c.2.1,(g.2.2.1.1,(g.2.2.1.2.1,(g.2.2.1.2.2.1,(g.2.2.1.2.2.2.1,(g.2.2.1.2.2.2.2,(k.2.1.1,(k.2.1.2.1,(k.2.1.2.2,(c.2.2.2.2.2.2.2.2.2.2.1,SE .i64 c.2.2.2.2.2.2.2.2.2.2.2 1)))))))))))))) λ_=>some (.dn ((1,(c,()))))) ((1,(0,(e.2.2.1.1,(e.2.2.1.2.1,(e.2.2.1.2.2.1,(e.2.2.1.2.2.2.1,(e.2.2.1.2.2.2.2,(i.2.1.1,(i.2.1.2.1,(i.2.1.2.2,(x.1.2.2.1,SE .i64 x.1.2.2.2 1))))))))))))) λa=>br (neq a.1 0) (λ_=>br (Rx a.2.1.2.1 0) (λ_=>some (((([],([],([],([],0)))),((false,([],false)),([],0))),(0,a.2.1.2.1)))) λ_=>some ((((a.2.1.2.2.1,(a.2.1.2.2.2.1,(a.2.1.2.2.2.2.1,(a.2.1.2.2.2.2.2.1,a.2.1.2.2.2.2.2.2.1)))),((a.2.1.2.2.2.2.2.2.2.1,(a.2.1.2.2.2.2.2.2.2.2.1,a.2.1.2.2.2.2.2.2.2.2.2.1)),a.2.1.2.2.2.2.2.2.2.2.2.2)),(TW x.2 h.1,0)))) λ_=>some ((((a.2.1.2.2.1,(a.2.1.2.2.2.1,(a.2.1.2.2.2.2.1,(a.2.1.2.2.2.2.2.1,a.2.1.2.2.2.2.2.2.1)))),((a.2.1.2.2.2.2.2.2.2.1,(a.2.1.2.2.2.2.2.2.2.2.1,a.2.1.2.2.2.2.2.2.2.2.2.1)),a.2.1.2.2.2.2.2.2.2.2.2.2)),(TW x.2 h.1,0)))) λ_=>some ((x.1,(TW x.2 h.1,0)))
def Ub (x:((List Ti)×(List Ti))):Option Bool :=
 br (Rx (Ki (AS x.1)) (Ki (AS x.2))) (λ_=>some false) λ_=>bd (loop (λs0=>br (S7 s0.1 (Ki (AS x.1))) (λ_=>R0 s0.1 λd=>ix x.1 d λa=>R0 s0.1 λe=>ix x.2 e λb=>br (Hg (Nm (seq a.1 b.1) (Nm (seq a.2.1 b.2.1) (Nm (beq a.2.2.1 b.2.2.1) (Nm (Oa a.2.2.2 b.2.2.2) true))))) (λ_=>some (.dn ((0,((s0.1,false),()))))) λ_=>some (.nx (SE .i64 s0.1 1,s0.2))) λ_=>some (.dn ((1,(s0,()))))) (0,false)) λc=>br (neq c.1 0) (λ_=>some c.2.1.2) λ_=>some true
def Uh (x:((List Ti)×(List Ti))):Option Bool :=
 bd (Ub x) λa=>some a
def Vd (x:(qW×qW)):Option Bool :=
 br (Rx (Ki (AS x.1.1.1)) (Ki (AS x.2.1.1))) (λ_=>some false) λ_=>bd (loop (λs0=>br (S7 s0.1 (Ki (AS x.1.1.1))) (λ_=>R0 s0.1 λg=>ix x.1.1.1 g λm=>R0 s0.1 λh=>ix x.2.1.1 h λn=>bd (Uh (m,n)) λi=>br (Hg i) (λ_=>some (.dn ((0,((s0.1,false),()))))) λ_=>some (.nx (SE .i64 s0.1 1,s0.2))) λ_=>some (.dn ((1,(s0,()))))) (0,false)) λf=>br (neq f.1 0) (λ_=>br f.2.1.2 (λ_=>bd (Tv (x.1.1.2.1,x.2.1.2.1)) λj=>br j (λ_=>bd (UB (x.1.1.2.2.1,x.2.1.2.2.1)) λk=>br k (λ_=>bd (Tv (x.1.1.2.2.2.1,x.2.1.2.2.2.1)) λl=>br l (λ_=>br (Oa x.1.1.2.2.2.2 x.2.1.2.2.2.2) (λ_=>br (Nm (beq x.1.2.1.1 x.2.2.1.1) (Nm (seq x.1.2.1.2.1 x.2.2.1.2.1) (Nm (beq x.1.2.1.2.2 x.2.2.1.2.2) true))) (λ_=>bd (Uh (x.1.2.2.1,x.2.2.2.1)) λa=>br a (λ_=>some (Oa x.1.2.2.2 x.2.2.2.2)) λ_=>some false) λ_=>some false) λ_=>some false) λ_=>some false) λ_=>some false) λ_=>some false) λ_=>some false) λ_=>bd (Tv (x.1.1.2.1,x.2.1.2.1)) λb=>br b (λ_=>bd (UB (x.1.1.2.2.1,x.2.1.2.2.1)) λc=>br c (λ_=>bd (Tv (x.1.1.2.2.2.1,x.2.1.2.2.2.1)) λd=>br d (λ_=>br (Oa x.1.1.2.2.2.2 x.2.1.2.2.2.2) (λ_=>br (Nm (beq x.1.2.1.1 x.2.2.1.1) (Nm (seq x.1.2.1.2.1 x.2.2.1.2.1) (Nm (beq x.1.2.1.2.2 x.2.2.1.2.2) true))) (λ_=>bd (Uh (x.1.2.2.1,x.2.2.2.1)) λe=>br e (λ_=>some (Oa x.1.2.2.2 x.2.2.2.2)) λ_=>some false) λ_=>some false) λ_=>some false) λ_=>some false) λ_=>some false) λ_=>some false
def Us (x:qS):Option (Int×Int) :=
 bd (VB x.1) λg=>br (Rx g.2.2 0) (λ_=>some (((-1),g.2.2))) λ_=>br (S7 x.2.2 1) (λ_=>some (((-1),7))) λ_=>br (S5 x.2.2 1000001) (λ_=>some (((-1),7))) λ_=>bd (WJ x.1) λs=>br (S6 x.2.2 s) (λ_=>some (((-1),6))) λ_=>bd (loop (λs2=>br (S7 s2.1 (Ki (AS x.1.2))) (λ_=>R0 s2.1 λq=>ix x.1.2 q λt=>br (Oa (Ki (AS t)) 2) (λ_=>gd (CF (BF (AS s2.2) (AS [s2.1])) 1048576) λ_=>some (.nx (SE .i64 s2.1 1,Il s2.2 [s2.1]))) λ_=>some (.nx (SE .i64 s2.1 1,s2.2))) λ_=>some (.dn ((0,(s2,()))))) (0,[])) λf=>bd (loop (λa=>br (S7 a.2.2 (Ki (AS x.2.1))) (λ_=>R0 a.2.2 λr=>ix x.2.1 r λb=>br (Rw a.2.2 (Ki (AS f.2.1.2))) (λ_=>some (.dn ((0,((6,(a.2.2,a.2.2)),()))))) λ_=>R0 a.2.2 λp=>gd (KJ p (AS f.2.1.2)) λ_=>ix f.2.1.2 p λo=>br (Rx b.1 o) (λ_=>some (.dn ((0,((6,(a.2.2,a.2.2)),()))))) λ_=>br b.2.2.1.2.2 (λ_=>bd (VQ (x.1,b.1)) λh=>br (Hg h) (λ_=>some (.dn ((0,((6,(a.2.2,a.2.2)),()))))) λ_=>bd (U5 ((x.1,(b.1,b.2.2.1.2.2)))) λd=>bd (UV d.2) λi=>br (S7 b.2.2.2.2 0) (λ_=>some (.dn ((0,((6,(a.2.2,a.2.2)),()))))) λ_=>br (S5 b.2.2.2.2 i.1) (λ_=>some (.dn ((0,((6,(a.2.2,a.2.2)),()))))) λ_=>bd (Ui (d.2,b.2.2.2.2)) λj=>bd (Vd (j.1,b.2)) λk=>br (Hg k) (λ_=>some (.dn ((0,((6,(a.2.2,a.2.2)),()))))) λ_=>some (.nx ((a.1,(a.2.1,SE .i64 a.2.2 1))))) λ_=>bd (U5 ((x.1,(b.1,b.2.2.1.2.2)))) λe=>bd (UV e.2) λl=>br (S7 b.2.2.2.2 0) (λ_=>some (.dn ((0,((6,(a.2.2,a.2.2)),()))))) λ_=>br (S5 b.2.2.2.2 l.1) (λ_=>some (.dn ((0,((6,(a.2.2,a.2.2)),()))))) λ_=>bd (Ui (e.2,b.2.2.2.2)) λm=>bd (Vd (m.1,b.2)) λn=>br (Hg n) (λ_=>some (.dn ((0,((6,(a.2.2,a.2.2)),()))))) λ_=>some (.nx ((a.1,(a.2.1,SE .i64 a.2.2 1))))) λ_=>some (.dn ((1,(a,()))))) ((g.2.2,(0,0)))) λc=>br (neq c.1 0) (λ_=>some (c.2.1.2.1,c.2.1.1)) λ_=>br (S7 (Ki (AS x.2.1)) (Ki (AS f.2.1.2))) (λ_=>some (((-1),4))) λ_=>some (0,0)
end
section
open Go Sv
def V9 (x:(Int×Int)):Option Int :=
 bd (loop (λs0=>br (S7 s0.2 x.2) (λ_=>some (.nx (SF .i64 2 s0.1,SE .i64 s0.2 1))) λ_=>some (.dn ((0,(s0,()))))) (x.1,0)) λa=>some a.2.1.1
def Vp (x:Ti):Option Int :=
 br (S5 (Ki (Mj x.1)) 32) (λ_=>some 3) λ_=>br (S5 (Ki (Mj x.2.1)) 64) (λ_=>some 3) λ_=>br x.2.2.1 (λ_=>br (Hg (seq x.2.1 [])) (λ_=>some 6) λ_=>br (S7 x.2.2.2 1) (λ_=>some 7) λ_=>br (S5 x.2.2.2 1000000000) (λ_=>some 7) λ_=>some 0) λ_=>br (S7 x.2.2.2 1) (λ_=>some 7) λ_=>br (S5 x.2.2.2 1000000000) (λ_=>some 7) λ_=>some 0
def Wc (x:((List UInt8)×(List UInt8))):Option Int :=
 bd (loop (λs0=>br (S7 s0 (Ki (Mj x.1))) (λ_=>br (S7 s0 (Ki (Mj x.2))) (λ_=>R0 s0 λa=>ix x.1 a λd=>R0 s0 λb=>ix x.2 b λe=>br (Oa (Tb d) (Tb e)) (λ_=>some (.nx (SE .i64 s0 1))) λ_=>some (.dn ((0,(s0,()))))) λ_=>some (.dn ((0,(s0,()))))) λ_=>some (.dn ((0,(s0,()))))) 0) λc=>some c.2.1
def WF (x:((List UInt8)×(List UInt8))):Option Int :=
 bd (Wc x) λa=>br (Oa a (Ki (Mj x.1))) (λ_=>br (Oa a (Ki (Mj x.2))) (λ_=>some 0) λ_=>br (Oa a (Ki (Mj x.1))) (λ_=>some (-1)) λ_=>br (S7 a (Ki (Mj x.2))) (λ_=>R0 a λb=>ix x.1 b λf=>R0 a λc=>ix x.2 c λg=>br (S7 (Tb f) (Tb g)) (λ_=>some (-1)) λ_=>some 1) λ_=>some 1) λ_=>br (Oa a (Ki (Mj x.1))) (λ_=>some (-1)) λ_=>br (S7 a (Ki (Mj x.2))) (λ_=>R0 a λd=>ix x.1 d λh=>R0 a λe=>ix x.2 e λi=>br (S7 (Tb h) (Tb i)) (λ_=>some (-1)) λ_=>some 1) λ_=>some 1
def VM (x:(List Ti)):Option (Int×Int) :=
 br (S5 (Ki (AS x)) 5000) (λ_=>some (((-1),3))) λ_=>bd (loop (λs0=>br (S7 s0.2.2 (Ki (AS x))) (λ_=>R0 s0.2.2 λc=>ix x c λg=>bd (Vp g) λa=>br (Oa a 0) (λ_=>br (S5 s0.2.2 0) (λ_=>R0 (SJ .i64 s0.2.2 1) λd=>ix x d λh=>R0 s0.2.2 λe=>ix x e λi=>bd (WF (h.1,i.1)) λf=>br (Rw f 0) (λ_=>some (.dn ((0,((6,(s0.2.2,s0.2.2)),()))))) λ_=>br (Rx a 0) (λ_=>some (.dn ((0,((a,(s0.2.2,s0.2.2)),()))))) λ_=>some (.nx ((s0.1,(s0.2.1,SE .i64 s0.2.2 1))))) λ_=>br (Rx a 0) (λ_=>some (.dn ((0,((a,(s0.2.2,s0.2.2)),()))))) λ_=>some (.nx ((s0.1,(s0.2.1,SE .i64 s0.2.2 1))))) λ_=>br (Rx a 0) (λ_=>some (.dn ((0,((a,(s0.2.2,s0.2.2)),()))))) λ_=>some (.nx ((s0.1,(s0.2.1,SE .i64 s0.2.2 1))))) λ_=>some (.dn ((1,(s0,()))))) ((0,(0,0)))) λb=>br (neq b.1 0) (λ_=>some (b.2.1.2.1,b.2.1.1)) λ_=>some (0,0)
def W0 (x:UK):Option (Int×Int) :=
 br (S7 x.1 1) (λ_=>some (((-1),7))) λ_=>br (S5 x.1 1000000) (λ_=>some (((-1),7))) λ_=>bd (VM x.2) λa=>some a
def V8 (x:(UK×(Int×(List Int)))):Option Int :=
 bd (W0 x.1) λa=>br (Rx a.2 0) (λ_=>some a.2) λ_=>br (Oa (Ki (AS x.1.2)) 0) (λ_=>some 4) λ_=>br (S5 (Ki (AS x.1.2)) x.2.1) (λ_=>some 3) λ_=>bd (loop (λs1=>br (S7 s1.1 (Ki (AS x.2.2))) (λ_=>R0 s1.1 λc=>ix x.2.2 c λd=>br (Oa d x.1.1) (λ_=>some (.dn ((0,((s1.1,8),()))))) λ_=>some (.nx (SE .i64 s1.1 1,s1.2))) λ_=>some (.dn ((1,(s1,()))))) (0,0)) λb=>br (neq b.1 0) (λ_=>some b.2.1.2) λ_=>some 0
def U7 (x:Tk):Option (Int×(Int×Int)) :=
 br (S7 x.1 1) (λ_=>some ((0,(0,7)))) λ_=>br (S5 x.1 16) (λ_=>some ((0,(0,7)))) λ_=>br (S5 (Ki (AS x.2)) 12) (λ_=>some ((0,(0,3)))) λ_=>bd (loop (λ(s0:(Int×((List Int)×(Int×(Int×Int)))))=>br (S7 s0.2.2.2.2 (Ki (AS x.2))) (λ_=>R0 s0.2.2.2.2 λi=>ix x.2 i λd=>br (S5 (Ki (AS d)) 2) (λ_=>some (.dn ((0,((0,(s0.2.1,(s0.2.2.2.2,(3,s0.2.2.2.2)))),()))))) λ_=>bd (loop (λ(b:(Int×((List Int)×(Int×(Int×Int)))))=>br (S7 b.2.2.2.2 (Ki (AS d))) (λ_=>R0 b.2.2.2.2 λj=>ix d j λm=>bd (V9 (x.1,s0.2.2.2.2)) λl=>bd (V8 ((m,(l,b.2.1)))) λg=>br (Rx g 0) (λ_=>some (.dn ((0,((b.2.2.2.2,(b.2.1,(s0.2.2.2.2,(g,b.2.2.2.2)))),()))))) λ_=>R0 b.2.2.2.2 λk=>ix d k λh=>gd (CF (BF (AS b.2.1) (AS [h.1])) 1048576) λ_=>some (.nx ((b.1,(Il b.2.1 [h.1],(b.2.2.1,(b.2.2.2.1,SE .i64 b.2.2.2.2 1))))))) λ_=>some (.dn ((1,(b,()))))) ((s0.1,(s0.2.1,(s0.2.2.1,(s0.2.2.2.1,0)))))) λa=>br (neq a.1 0) (λ_=>some (.dn ((0,((a.2.1.1,(a.2.1.2.1,(a.2.1.2.2.1,(a.2.1.2.2.2.1,s0.2.2.2.2)))),()))))) λ_=>some (.nx ((a.2.1.1,(a.2.1.2.1,(a.2.1.2.2.1,(a.2.1.2.2.2.1,SE .i64 s0.2.2.2.2 1))))))) λ_=>some (.dn ((1,(s0,()))))) ((0,([],(0,(0,0)))))) λc=>br (neq c.1 0) (λ_=>some ((c.2.1.2.2.1,(c.2.1.1,c.2.1.2.2.2.1)))) λ_=>br (S5 (Ki (AS x.2)) 0) (λ_=>R0 (SJ .i64 (Ki (AS x.2)) 1) λe=>ix x.2 e λf=>br (Oa (Ki (AS f)) 0) (λ_=>some ((SJ .i64 (Ki (AS x.2)) 1,(0,6)))) λ_=>some ((0,(0,0)))) λ_=>some ((0,(0,0)))
def V0 (x:Tk):Option ((List UK)×Int) :=
 bd (U7 x) λc=>br (Rx c.2.2 0) (λ_=>some ([],c.2.2)) λ_=>bd (loop (λs1=>br (S7 s1.2 (Ki (AS x.2))) (λ_=>R0 s1.2 λe=>ix x.2 e λi=>bd (loop (λa=>br (Rw a.2 0) (λ_=>R0 s1.2 λf=>ix x.2 f λj=>R0 a.2 λg=>ix j g λd=>gd (CF (BF (AS a.1) (AS [d])) 1048576) λ_=>some (.nx (Il a.1 [d],SJ .i64 a.2 1))) λ_=>some (.dn ((0,(a,()))))) ((s1.1,SJ .i64 (Ki (AS i)) 1))) λh=>some (.nx (h.2.1.1,SE .i64 s1.2 1))) λ_=>some (.dn ((0,(s1,()))))) ([],0)) λb=>some (b.2.1.1,0)
def U9 (x:Tk):Option Int :=
 bd (V0 x) λa=>bd (loop (λs1=>br (S7 s1.2 (Ki (AS a.1))) (λ_=>R0 s1.2 λb=>ix a.1 b λd=>some (.nx (TX s1.1 d.1,SE .i64 s1.2 1))) λ_=>some (.dn ((0,(s1,()))))) (0,0)) λc=>some c.2.1.1
def VN (x:Tk):Option (List Int) :=
 bd (loop (λs0=>br (S7 s0.2 (Ki (AS x.2))) (λ_=>R0 s0.2 λa=>ix x.2 a λc=>br (Oa (Ki (AS c)) 2) (λ_=>gd (CF (BF (AS s0.1) (AS [s0.2])) 1048576) λ_=>some (.nx (Il s0.1 [s0.2],SE .i64 s0.2 1))) λ_=>some (.nx (s0.1,SE .i64 s0.2 1))) λ_=>some (.dn ((0,(s0,()))))) ([],0)) λb=>some b.2.1.1
def YD (x:(Tk×Int)):Option Int :=
 bd (U7 x.1) λa=>br (Oa a.2.2 0) (λ_=>br (S7 x.2 0) (λ_=>some 7) λ_=>br (Rw x.2 12) (λ_=>some 7) λ_=>some a.2.2) λ_=>some a.2.2
def Xt (x:(Tk×Int)):Option (Bool×Int) :=
 bd (YD x) λa=>br (Rx a 0) (λ_=>some (false,a)) λ_=>some ((S5 (Ki (AS x.1.2)) (SE .i64 x.2 1),0))
def Uk (x:(Tk×Int)):Option Bool :=
 bd (Xt x) λa=>some (Hg a.1)
def Vs (x:(List (List Ti))):Option (Int×Int) :=
 br (Oa (Ki (AS x)) 0) (λ_=>some (((-1),6))) λ_=>br (S5 (Ki (AS x)) 32) (λ_=>some (((-1),3))) λ_=>bd (loop (λs0=>br (S7 s0.2.2 (Ki (AS x))) (λ_=>R0 s0.2.2 λc=>ix x c λd=>bd (VM d) λb=>br (Rx b.2 0) (λ_=>some (.dn ((0,((b.2,(s0.2.2,s0.2.2)),()))))) λ_=>some (.nx ((s0.1,(s0.2.1,SE .i64 s0.2.2 1))))) λ_=>some (.dn ((1,(s0,()))))) ((0,(0,0)))) λa=>br (neq a.1 0) (λ_=>some (a.2.1.2.1,a.2.1.1)) λ_=>some (0,0)
def W1 (x:(List UC)):Option Int :=
 br (Oa (Ki (AS x)) 0) (λ_=>some 6) λ_=>br (S5 (Ki (AS x)) 32) (λ_=>some 3) λ_=>bd (loop (λs0=>br (S7 s0.1 (Ki (AS x))) (λ_=>R0 s0.1 λb=>ix x b λd=>br d.2 (λ_=>R0 s0.1 λc=>ix x c λe=>br (Hg (seq e.1 [])) (λ_=>some (.dn ((0,((s0.1,2),()))))) λ_=>some (.nx (SE .i64 s0.1 1,s0.2))) λ_=>some (.nx (SE .i64 s0.1 1,s0.2))) λ_=>some (.dn ((1,(s0,()))))) (0,0)) λa=>br (neq a.1 0) (λ_=>some a.2.1.2) λ_=>some 0
def Wf (x:((List UC)×(Int×Int))):Option Bool :=
 R0 x.2.1 λc=>ix x.1 c λa=>R0 x.2.2 λd=>ix x.1 d λb=>br (Hg (beq a.2 b.2)) (λ_=>some b.2) λ_=>br (Hg a.2) (λ_=>br (Hg (seq a.1 b.1)) (λ_=>some (SU a.1 b.1)) λ_=>some (S7 x.2.1 x.2.2)) λ_=>some (S7 x.2.1 x.2.2)
def Tz (rec:((List UC)×Int)->Option (Int×Int)) (x:((List UC)×Int)):Option (Int×Int) :=
 br (Rw x.2 (Ki (AS x.1))) (λ_=>some ((SJ .i64 x.2 (Ki (AS x.1)),0))) λ_=>bd (rec (x.1,SF .i64 2 x.2)) λa=>bd (rec ((x.1,SE .i64 (SF .i64 2 x.2) 1))) λb=>bd (Wf ((x.1,(a.1,b.1)))) λc=>br c (λ_=>some (a.1,b.1)) λ_=>some (b.1,a.1)
def We:((List UC)×Int)->Option (Int×Int):=NE Tz 100
def XP (x:(List UC)):Option Vf :=
 gd (CF (AS x) 1048576) λ_=>R0 (Ki (AS x)) λf=>R0 (Ki (AS x)) λb=>gd (CF b 1048576) λ_=>bd (loop (λs2=>br (S7 s2.1 (Ki (AS x))) (λ_=>bd (We (x,s2.1)) λd=>R0 s2.1 λa=>gd (KJ a (AS s2.2.2.1)) λ_=>ix s2.2.2.1 a λg=>some (.nx ((SE .i64 s2.1 1,(s2.2.1,(lset s2.2.2.1 a d.2,s2.2.2.2)))))) λ_=>some (.dn ((0,(s2,()))))) ((1,(x,(Rc b 0,(0:Int)))))) λc=>bd (We (x,1)) λe=>some ((c.2.1.2.1,(c.2.1.2.2.1,e.1)))
def WG (x:(List UC)):Option (Vf×Int) :=
 bd (W1 x) λa=>br (Rx a 0) (λ_=>some ((([],([],0)),a))) λ_=>bd (XP x) λb=>some (b,0)
def VT (x:((List (List Ti))×(List Int))):Option VF :=
 gd (CF (AS x.1) 1048576) λ_=>gd (CF (AS x.2) 1048576) λ_=>bd (loop (λs0=>br (S7 s0.1 (Ki (AS x.1))) (λ_=>R0 s0.1 λf=>ix x.2 f λb=>R0 s0.1 λg=>ix x.1 g λc=>br (Hg (Oa b (Ki (AS c)))) (λ_=>R0 s0.1 λh=>ix x.1 h λk=>R0 s0.1 λi=>ix x.2 i λl=>R0 l λj=>ix k j λa=>gd (CF (BF (AS s0.2) (AS ([(a.1,Oa b (Ki (AS c)))]))) 1048576) λ_=>some (.nx ((SE .i64 s0.1 1,Il s0.2 ([(a.1,Oa b (Ki (AS c)))]))))) λ_=>gd (CF (BF (AS s0.2) (AS ([(([]:List UInt8),Oa b (Ki (AS c)))]))) 1048576) λ_=>some (.nx ((SE .i64 s0.1 1,Il s0.2 ([([],Oa b (Ki (AS c)))]))))) λ_=>some (.dn ((0,(s0,()))))) (0,[])) λd=>bd (WG d.2.1.2) λe=>some ((x.1,(x.2,e.1)))
def Xs (x:(List (List Ti))):Option (VF×(Int×Int)) :=
 bd (Vs x) λb=>br (Rx b.2 0) (λ_=>some ((([],([],([],([],0)))),b))) λ_=>R0 (Ki (AS x)) λd=>R0 (Ki (AS x)) λa=>gd (CF a 1048576) λ_=>bd (VT (x,Rc a 0)) λc=>some ((c,(0,0)))
def VU (x:Bool):Option (Bool×UC) :=
 some ((false,([],x)))
def W3 (x:((List (List Ti))×Bool)):Option (qW×(Int×Int)) :=
 bd (Xs x.1) λa=>br (Rx a.2.2 0) (λ_=>some (((([],([],([],([],0)))),((false,([],false)),([],0))),a.2))) λ_=>bd (VU x.2) λb=>some (((a.1,(b,([],0))),(0,0)))
def UI (x:(Tk×(Int×Bool))):Option qJ :=
 br (Rw x.2.1 (Ki (AS x.1.2))) (λ_=>none) λ_=>R0 x.2.1 λb=>ix x.1.2 b λa=>ix a 1 λd=>ix a 0 λe=>bd (W3 ([d.2,e.2],x.2.2)) λc=>some (x.2.1,c.1)
def XO (x:((List Int)×(List Int))):Option Bool :=
 br (Rx (Ki (AS x.1)) (Ki (AS x.2))) (λ_=>some false) λ_=>bd (loop (λs0=>br (S7 s0.1 (Ki (AS x.1))) (λ_=>R0 s0.1 λb=>ix x.1 b λd=>R0 s0.1 λc=>ix x.2 c λe=>br (Rx d e) (λ_=>some (.dn ((0,((s0.1,false),()))))) λ_=>some (.nx (SE .i64 s0.1 1,s0.2))) λ_=>some (.dn ((1,(s0,()))))) (0,false)) λa=>br (neq a.1 0) (λ_=>some a.2.1.2) λ_=>some true
def Wd (x:(Vf×Vf)):Option Bool :=
 br (Rx (Ki (AS x.1.1)) (Ki (AS x.2.1))) (λ_=>some false) λ_=>br (Rx x.1.2.2 x.2.2.2) (λ_=>some false) λ_=>bd (XO (x.1.2.1,x.2.2.1)) λf=>br (Hg f) (λ_=>some false) λ_=>bd (loop (λs1=>br (S7 s1.1 (Ki (AS x.1.1))) (λ_=>R0 s1.1 λd=>ix x.1.1 d λb=>R0 s1.1 λe=>ix x.2.1 e λc=>br (Hg (Nm (seq b.1 c.1) (Nm (beq b.2 c.2) true))) (λ_=>some (.dn ((0,((s1.1,false),()))))) λ_=>some (.nx (SE .i64 s1.1 1,s1.2))) λ_=>some (.dn ((1,(s1,()))))) (0,false)) λa=>br (neq a.1 0) (λ_=>some a.2.1.2) λ_=>some true
def Vr (x:((List (List Ti))×(List Int))):Option Int :=
 bd (loop (λs0=>br (S7 s0.2 (Ki (AS x.1))) (λ_=>R0 s0.2 λi=>ix x.2 i λn=>R0 s0.2 λj=>ix x.1 j λo=>br (S7 n (Ki (AS o))) (λ_=>br (S7 s0.1 0) (λ_=>some (.nx (s0.2,SE .i64 s0.2 1))) λ_=>R0 s0.2 λk=>ix x.1 k λp=>R0 s0.2 λl=>ix x.2 l λq=>R0 q λm=>ix p m λe=>R0 s0.1 λa=>ix x.1 a λf=>R0 s0.1 λb=>ix x.2 b λg=>R0 g λc=>ix f c λh=>br (SU e.1 h.1) (λ_=>some (.nx (s0.2,SE .i64 s0.2 1))) λ_=>some (.nx (s0.1,SE .i64 s0.2 1))) λ_=>some (.nx (s0.1,SE .i64 s0.2 1))) λ_=>some (.dn ((0,(s0,()))))) (((-1),0))) λd=>some d.2.1.1
def Vq (x:VF):Option (Int×Int) :=
 bd (Vs x.1) λt=>br (Rx t.2 0) (λ_=>some t) λ_=>br (Rx (Ki (AS x.2.1)) (Ki (AS x.1))) (λ_=>some (((-1),6))) λ_=>bd (loop (λs1=>br (S7 s1.2.2 (Ki (AS x.2.1))) (λ_=>R0 s1.2.2 λu=>ix x.2.1 u λA=>br (S7 A 0) (λ_=>some (.dn ((0,((6,(s1.2.2,s1.2.2)),()))))) λ_=>R0 s1.2.2 λw=>ix x.2.1 w λB=>R0 s1.2.2 λy=>ix x.1 y λC=>br (S5 B (Ki (AS C))) (λ_=>some (.dn ((0,((6,(s1.2.2,s1.2.2)),()))))) λ_=>some (.nx ((s1.1,(s1.2.1,SE .i64 s1.2.2 1))))) λ_=>some (.dn ((1,(s1,()))))) ((0,(0,0)))) λd=>br (neq d.1 0) (λ_=>some (d.2.1.2.1,d.2.1.1)) λ_=>bd (VT (x.1,x.2.1)) λz=>bd (Wd (x.2.2,z.2.2)) λn=>br (Hg n) (λ_=>some (((-1),6))) λ_=>bd (Vr (x.1,x.2.1)) λb=>bd (loop (λa=>br (S7 a.2.2 (Ki (AS x.1))) (λ_=>br (Rw b 0) (λ_=>R0 a.2.2 λg=>ix x.2.1 g λo=>br (Oa o 0) (λ_=>some (.nx ((a.1,(a.2.1,SE .i64 a.2.2 1))))) λ_=>R0 a.2.2 λh=>ix x.1 h λp=>R0 a.2.2 λi=>ix x.2.1 i λq=>R0 (SJ .i64 q 1) λj=>ix p j λe=>R0 b λk=>ix x.1 k λr=>R0 b λl=>ix x.2.1 l λs=>R0 s λm=>ix r m λf=>br (SU f.1 e.1) (λ_=>some (.dn ((0,((6,(b,a.2.2)),()))))) λ_=>br (seq e.1 f.1) (λ_=>br (S5 a.2.2 b) (λ_=>some (.dn ((0,((6,(b,a.2.2)),()))))) λ_=>some (.nx ((a.1,(a.2.1,SE .i64 a.2.2 1))))) λ_=>some (.nx ((a.1,(a.2.1,SE .i64 a.2.2 1))))) λ_=>some (.dn ((1,(a,()))))) λ_=>some (.dn ((1,(a,()))))) ((d.2.1.1,(d.2.1.2.1,0)))) λc=>br (neq c.1 0) (λ_=>some (c.2.1.2.1,c.2.1.1)) λ_=>some (0,0)
def V7 (x:qW):Option Int :=
 bd (loop (λs0=>br (S7 s0.2 (Ki (AS x.1.2.1))) (λ_=>R0 s0.2 λa=>ix x.1.2.1 a λc=>some (.nx (SE .i64 s0.1 c,SE .i64 s0.2 1))) λ_=>some (.dn ((0,(s0,()))))) (0,0)) λb=>some b.2.1.1
def WR (x:(List (List Ti))):Option ((List Ti)×((List Int)×Int)) :=
 bd (Vs x) λj=>br (Rx j.2 0) (λ_=>some (([],([],j.2)))) λ_=>R0 (Ki (AS x)) λp=>R0 (Ki (AS x)) λh=>gd (CF h 1048576) λ_=>bd (loop (λ(a:((List Int)×((List Ti)×((List Ti)×(Int×((List Int)×(List Int)))))))=>bd (Vr (x,a.2.2.2.2.2)) λd=>br (S7 d 0) (λ_=>some (.dn ((0,((a.2.2.2.2.1,(a.2.1,0)),()))))) λ_=>R0 d λk=>ix x k λn=>R0 d λi=>gd (KJ i (AS a.2.2.2.2.2)) λ_=>ix a.2.2.2.2.2 i λo=>R0 o λl=>ix n l λf=>gd (CF (BF (AS a.2.1) (AS [f])) 1048576) λ_=>gd (CF (BF (AS a.2.2.2.2.1) (AS [d])) 1048576) λ_=>R0 d λe=>gd (KJ e (AS a.2.2.2.2.2)) λ_=>ix a.2.2.2.2.2 e λg=>R0 d λb=>gd (KJ b (AS a.2.2.2.2.2)) λ_=>ix a.2.2.2.2.2 b λm=>some (.nx ((a.1,(Il a.2.1 [f],(a.2.2.1,(a.2.2.2.1,(Il a.2.2.2.2.1 [d],lset a.2.2.2.2.2 b (SE .i64 g 1))))))))) (([],([],([],(0,([],Rc h 0))))))) λc=>some ((c.2.1.2.1,(c.2.1.1,c.2.1.2.2)))
def W2 (x:(Bool×UC)):Option Int :=
 br (S5 (Ki (Mj x.2.1)) 32) (λ_=>some 3) λ_=>br (Hg x.1) (λ_=>br (Hg (seq x.2.1 [])) (λ_=>some 6) λ_=>some 0) λ_=>some 0
def XS (x:((Bool×UC)×Ti)):Option (Bool×((Bool×UC)×Int)) :=
 bd (W2 x.1) λa=>br (Oa a 0) (λ_=>bd (Vp x.2) λb=>br (Oa b 0) (λ_=>br x.1.1 (λ_=>br (SU x.2.1 x.1.2.1) (λ_=>some ((false,((false,([],false)),6)))) λ_=>br (Rx b 0) (λ_=>some ((false,((false,([],false)),b)))) λ_=>br (Hg x.1.1) (λ_=>br x.1.2.2 (λ_=>some ((Hg x.2.2.2.1,((true,(x.2.1,x.1.2.2)),0)))) λ_=>some ((true,((true,(x.2.1,x.1.2.2)),0)))) λ_=>br (Hg (seq x.2.1 x.1.2.1)) (λ_=>br x.1.2.2 (λ_=>some ((Hg x.2.2.2.1,((true,(x.2.1,x.1.2.2)),0)))) λ_=>some ((true,((true,(x.2.1,x.1.2.2)),0)))) λ_=>some ((false,((true,(x.2.1,x.1.2.2)),0)))) λ_=>br (Rx b 0) (λ_=>some ((false,((false,([],false)),b)))) λ_=>br (Hg x.1.1) (λ_=>br x.1.2.2 (λ_=>some ((Hg x.2.2.2.1,((true,(x.2.1,x.1.2.2)),0)))) λ_=>some ((true,((true,(x.2.1,x.1.2.2)),0)))) λ_=>br (Hg (seq x.2.1 x.1.2.1)) (λ_=>br x.1.2.2 (λ_=>some ((Hg x.2.2.2.1,((true,(x.2.1,x.1.2.2)),0)))) λ_=>some ((true,((true,(x.2.1,x.1.2.2)),0)))) λ_=>some ((false,((true,(x.2.1,x.1.2.2)),0)))) λ_=>br (Rx b 0) (λ_=>some ((false,((false,([],false)),b)))) λ_=>br (Hg x.1.1) (λ_=>br x.1.2.2 (λ_=>some ((Hg x.2.2.2.1,((true,(x.2.1,x.1.2.2)),0)))) λ_=>some ((true,((true,(x.2.1,x.1.2.2)),0)))) λ_=>br (Hg (seq x.2.1 x.1.2.1)) (λ_=>br x.1.2.2 (λ_=>some ((Hg x.2.2.2.1,((true,(x.2.1,x.1.2.2)),0)))) λ_=>some ((true,((true,(x.2.1,x.1.2.2)),0)))) λ_=>some ((false,((true,(x.2.1,x.1.2.2)),0)))) λ_=>br (Oa a 0) (λ_=>br x.1.1 (λ_=>br (SU x.2.1 x.1.2.1) (λ_=>some ((false,((false,([],false)),6)))) λ_=>br (Rx a 0) (λ_=>some ((false,((false,([],false)),a)))) λ_=>br (Hg x.1.1) (λ_=>br x.1.2.2 (λ_=>some ((Hg x.2.2.2.1,((true,(x.2.1,x.1.2.2)),0)))) λ_=>some ((true,((true,(x.2.1,x.1.2.2)),0)))) λ_=>br (Hg (seq x.2.1 x.1.2.1)) (λ_=>br x.1.2.2 (λ_=>some ((Hg x.2.2.2.1,((true,(x.2.1,x.1.2.2)),0)))) λ_=>some ((true,((true,(x.2.1,x.1.2.2)),0)))) λ_=>some ((false,((true,(x.2.1,x.1.2.2)),0)))) λ_=>br (Rx a 0) (λ_=>some ((false,((false,([],false)),a)))) λ_=>br (Hg x.1.1) (λ_=>br x.1.2.2 (λ_=>some ((Hg x.2.2.2.1,((true,(x.2.1,x.1.2.2)),0)))) λ_=>some ((true,((true,(x.2.1,x.1.2.2)),0)))) λ_=>br (Hg (seq x.2.1 x.1.2.1)) (λ_=>br x.1.2.2 (λ_=>some ((Hg x.2.2.2.1,((true,(x.2.1,x.1.2.2)),0)))) λ_=>some ((true,((true,(x.2.1,x.1.2.2)),0)))) λ_=>some ((false,((true,(x.2.1,x.1.2.2)),0)))) λ_=>br (Rx a 0) (λ_=>some ((false,((false,([],false)),a)))) λ_=>br (Hg x.1.1) (λ_=>br x.1.2.2 (λ_=>some ((Hg x.2.2.2.1,((true,(x.2.1,x.1.2.2)),0)))) λ_=>some ((true,((true,(x.2.1,x.1.2.2)),0)))) λ_=>br (Hg (seq x.2.1 x.1.2.1)) (λ_=>br x.1.2.2 (λ_=>some ((Hg x.2.2.2.1,((true,(x.2.1,x.1.2.2)),0)))) λ_=>some ((true,((true,(x.2.1,x.1.2.2)),0)))) λ_=>some ((false,((true,(x.2.1,x.1.2.2)),0)))
def Wg (x:((List Ti)×Bool)):Option ((List Ti)×(Int×Int)) :=
 br (S5 (Ki (AS x.1)) 20000) (λ_=>some (([],((-1),3)))) λ_=>bd (VU x.2) λf=>bd (loop (λ(s1:(Int×(Int×((List Ti)×((List Ti)×(Int×(Bool×UC)))))))=>br (S7 s1.2.1 (Ki (AS x.1))) (λ_=>R0 s1.2.1 λd=>ix x.1 d λg=>bd (XS (s1.2.2.2.2.2,g)) λa=>br (Rx a.2.2 0) (λ_=>some (.dn ((0,((s1.2.1,(s1.2.1,([],(s1.2.2.2.1,(a.2.2,s1.2.2.2.2.2))))),()))))) λ_=>br a.1 (λ_=>R0 s1.2.1 λe=>ix x.1 e λc=>gd (CF (BF (AS s1.2.2.2.1) (AS [c])) 1048576) λ_=>some (.nx ((s1.1,(SE .i64 s1.2.1 1,(s1.2.2.1,(Il s1.2.2.2.1 [c],(s1.2.2.2.2.1,a.2.1)))))))) λ_=>some (.nx ((s1.1,(SE .i64 s1.2.1 1,(s1.2.2.1,(s1.2.2.2.1,(s1.2.2.2.2.1,a.2.1)))))))) λ_=>some (.dn ((1,(s1,()))))) ((0,(0,([],([],(0,f))))))) λb=>br (neq b.1 0) (λ_=>some ((b.2.1.2.2.1,(b.2.1.1,b.2.1.2.2.2.2.1)))) λ_=>some ((b.2.1.2.2.2.1,(0,0)))
def Va (x:((List Ti)×Bool)):Option ((List Ti)×(Bool×UC)) :=
 bd (Wg x) λa=>bd (VU x.2) λb=>br (S5 (Ki (AS x.1)) 0) (λ_=>R0 (SJ .i64 (Ki (AS x.1)) 1) λc=>ix x.1 c λd=>some ((a.1,(true,(d.1,b.2.2))))) λ_=>some (a.1,b)
def Ul (x:((List Ti)×(List Ti))):Option Bool :=
 br (Rx (Ki (AS x.1)) (Ki (AS x.2))) (λ_=>some false) λ_=>bd (loop (λs0=>br (S7 s0.1 (Ki (AS x.1))) (λ_=>R0 s0.1 λd=>ix x.1 d λa=>R0 s0.1 λe=>ix x.2 e λb=>br (Hg (Nm (seq a.1 b.1) (Nm (seq a.2.1 b.2.1) (Nm (beq a.2.2.1 b.2.2.1) (Nm (Oa a.2.2.2 b.2.2.2) true))))) (λ_=>some (.dn ((0,((s0.1,false),()))))) λ_=>some (.nx (SE .i64 s0.1 1,s0.2))) λ_=>some (.dn ((1,(s0,()))))) (0,false)) λc=>br (neq c.1 0) (λ_=>some c.2.1.2) λ_=>some true
def W4 (x:qW):Option Int :=
 bd (Vq x.1) λd=>br (Rx d.2 0) (λ_=>some d.2) λ_=>bd (V7 x) λc=>br (S5 (Ki (AS x.2.2.1)) 20000) (λ_=>some 3) λ_=>br (S5 c 20000) (λ_=>some 3) λ_=>br (Rx x.2.2.2 c) (λ_=>some 7) λ_=>bd (WR x.1.1) λe=>R0 c λb=>gd (CF b (AS e.1)) λ_=>gd (CF 0 b) λ_=>bd (Va (D0 e.1 0 b,x.2.1.2.2)) λa=>bd (Ul (x.2.2.1,a.1)) λf=>br (Hg f) (λ_=>some 6) λ_=>br (Hg (Nm (beq x.2.1.1 a.2.1) (Nm (seq x.2.1.2.1 a.2.2.1) (Nm (beq x.2.1.2.2 a.2.2.2) true)))) (λ_=>some 6) λ_=>some 0
def XQ (x:VF):Option (Int×Int) :=
 bd (Vq x) λa=>br (Rx a.2 0) (λ_=>some (0,a.2)) λ_=>bd (loop (λs1=>br (S7 s1.1 (Ki (AS x.1))) (λ_=>R0 s1.1 λb=>ix x.1 b λe=>R0 s1.1 λc=>ix x.2.1 c λf=>some (.nx ((SE .i64 s1.1 1,SJ .i64 (SE .i64 s1.2 (Ki (AS e))) f)))) λ_=>some (.dn ((0,(s1,()))))) (0,0)) λd=>some (d.2.1.2,0)
def UH (x:qW):Option (Int×Int) :=
 bd (W4 x) λa=>br (Rx a 0) (λ_=>some (0,a)) λ_=>bd (XQ x.1) λb=>some b
def V6 (x:VF):Option (Ti×(Int×(VF×Int))) :=
 bd (Vq x) λg=>br (Rx g.2 0) (λ_=>some (((([],([],(false,0))):Ti),(0,(([],([],([],([],0)))),g.2))))) λ_=>bd (Vr (x.1,x.2.1)) λa=>br (S7 a 0) (λ_=>some (((([],([],(false,0))):Ti),(0,(([],([],([],([],0)))),12))))) λ_=>gd (CF (AS x.2.1) 1048576) λ_=>R0 a λf=>gd (KJ f (AS x.2.1)) λ_=>ix x.2.1 f λj=>R0 a λc=>gd (KJ c (AS x.2.1)) λ_=>ix x.2.1 c λm=>R0 a λh=>ix x.1 h λk=>R0 a λi=>ix x.2.1 i λl=>R0 l λb=>ix k b λe=>bd (VT ((x.1,lset x.2.1 c (SE .i64 j 1)))) λd=>some ((e,(a,(d,0))))
def UZ (x:(qW×Int)):Option (qW×(Int×Int)) :=
 bd (UH x.1) λa=>br (Oa a.2 0) (λ_=>br (S7 x.2 0) (λ_=>some (((([],([],([],([],0)))),((false,([],false)),([],0))),(0,7)))) λ_=>br (Rx a.2 0) (λ_=>some (((([],([],([],([],0)))),((false,([],false)),([],0))),(0,a.2)))) λ_=>bd (V7 x.1) λm=>br (S5 (SE .i64 m (TW x.2 a.1)) 20000) (λ_=>some (((([],([],([],([],0)))),((false,([],false)),([],0))),(0,3)))) λ_=>bd (loop (λ(s2:(Int×qM))=>br (S7 s2.1 (TW x.2 a.1)) (λ_=>bd (V6 ((s2.2.1,(s2.2.2.1,(s2.2.2.2.1,(s2.2.2.2.2.1,s2.2.2.2.2.2.1)))))) λh=>some (.nx ((SE .i64 s2.1 1,(h.2.2.1.1,(h.2.2.1.2.1,(h.2.2.1.2.2.1,(h.2.2.1.2.2.2.1,(h.2.2.1.2.2.2.2,s2.2.2.2.2.2.2))))))))) λ_=>some (.dn ((0,(s2,()))))) ((0,(x.1.1.1,(x.1.1.2.1,(x.1.1.2.2.1,(x.1.1.2.2.2.1,(x.1.1.2.2.2.2,(x.1.2.1.1,(x.1.2.1.2.1,(x.1.2.1.2.2,x.1.2.2))))))))))) λi=>bd (WR x.1.1.1) λk=>R0 (SE .i64 x.1.2.2.2 (TW x.2 a.1)) λj=>gd (CF j (AS k.1)) λ_=>gd (CF 0 j) λ_=>bd (Va (D0 k.1 0 j,x.1.2.1.2.2)) λl=>some ((((i.2.1.2.1,(i.2.1.2.2.1,(i.2.1.2.2.2.1,(i.2.1.2.2.2.2.1,i.2.1.2.2.2.2.2.1)))),(l.2,(l.1,SE .i64 x.1.2.2.2 (TW x.2 a.1)))),(TW x.2 a.1,0)))) λ_=>br (Rx a.2 0) (λ_=>some (((([],([],([],([],0)))),((false,([],false)),([],0))),(0,a.2)))) λ_=>bd (V7 x.1) λn=>br (S5 (SE .i64 n (TW x.2 a.1)) 20000) (λ_=>some (((([],([],([],([],0)))),((false,([],false)),([],0))),(0,3)))) λ_=>bd (loop (λ(d:(Int×qM))=>br (S7 d.1 (TW x.2 a.1)) (λ_=>bd (V6 ((d.2.1,(d.2.2.1,(d.2.2.2.1,(d.2.2.2.2.1,d.2.2.2.2.2.1)))))) λb=>some (.nx ((SE .i64 d.1 1,(b.2.2.1.1,(b.2.2.1.2.1,(b.2.2.1.2.2.1,(b.2.2.1.2.2.2.1,(b.2.2.1.2.2.2.2,d.2.2.2.2.2.2))))))))) λ_=>some (.dn ((0,(d,()))))) ((0,(x.1.1.1,(x.1.1.2.1,(x.1.1.2.2.1,(x.1.1.2.2.2.1,(x.1.1.2.2.2.2,(x.1.2.1.1,(x.1.2.1.2.1,(x.1.2.1.2.2,x.1.2.2))))))))))) λc=>bd (WR x.1.1.1) λf=>R0 (SE .i64 x.1.2.2.2 (TW x.2 a.1)) λe=>gd (CF e (AS f.1)) λ_=>gd (CF 0 e) λ_=>bd (Va (D0 f.1 0 e,x.1.2.1.2.2)) λg=>some ((((c.2.1.2.1,(c.2.1.2.2.1,(c.2.1.2.2.2.1,(c.2.1.2.2.2.2.1,c.2.1.2.2.2.2.2.1)))),(g.2,(g.1,SE .i64 x.1.2.2.2 (TW x.2 a.1)))),(TW x.2 a.1,0)))
def XR (x:(VF×VF)):Option Bool :=
 br (Rx (Ki (AS x.1.1)) (Ki (AS x.2.1))) (λ_=>some false) λ_=>bd (XO (x.1.2.1,x.2.2.1)) λd=>br (Hg d) (λ_=>some false) λ_=>bd (Wd (x.1.2.2,x.2.2.2)) λe=>br (Hg e) (λ_=>some false) λ_=>bd (loop (λs2=>br (S7 s2.1 (Ki (AS x.1.1))) (λ_=>R0 s2.1 λb=>ix x.1.1 b λg=>R0 s2.1 λc=>ix x.2.1 c λh=>bd (Ul (g,h)) λf=>br (Hg f) (λ_=>some (.dn ((0,((s2.1,false),()))))) λ_=>some (.nx (SE .i64 s2.1 1,s2.2))) λ_=>some (.dn ((1,(s2,()))))) (0,false)) λa=>br (neq a.1 0) (λ_=>some a.2.1.2) λ_=>some true
def UY (x:(qW×qW)):Option Bool :=
 bd (XR (x.1.1,x.2.1)) λa=>br a (λ_=>br (Nm (beq x.1.2.1.1 x.2.2.1.1) (Nm (seq x.1.2.1.2.1 x.2.2.1.2.1) (Nm (beq x.1.2.1.2.2 x.2.2.1.2.2) true))) (λ_=>bd (Ul (x.1.2.2.1,x.2.2.2.1)) λb=>br b (λ_=>some (Oa x.1.2.2.2 x.2.2.2.2)) λ_=>some false) λ_=>some false) λ_=>some false
def U8 (x:qS):Option (Int×Int) :=
 bd (U7 x.1) λi=>br (Oa i.2.2 0) (λ_=>br (S7 x.2.2 1) (λ_=>some (((-1),7))) λ_=>br (S5 x.2.2 1000001) (λ_=>some (((-1),7))) λ_=>br (Oa i.2.2 0) (λ_=>bd (U9 x.1) λr1=>br (S6 x.2.2 r1) (λ_=>some (((-1),6))) λ_=>br (Rx i.2.2 0) (λ_=>some (((-1),i.2.2))) λ_=>bd (VN x.1) λM=>bd (loop (λg=>br (S7 g.2.2 (Ki (AS x.2.1))) (λ_=>R0 g.2.2 λk4=>ix x.2.1 k4 λh=>br (Rw g.2.2 (Ki (AS M))) (λ_=>some (.dn ((0,((6,(g.2.2,g.2.2)),()))))) λ_=>R0 g.2.2 λk6=>ix M k6 λx7=>br (Rx h.1 x7) (λ_=>some (.dn ((0,((6,(g.2.2,g.2.2)),()))))) λ_=>br h.2.2.1.2.2 (λ_=>bd (Uk (x.1,h.1)) λr8=>br (Hg r8) (λ_=>some (.dn ((0,((6,(g.2.2,g.2.2)),()))))) λ_=>bd (UI ((x.1,(h.1,h.2.2.1.2.2)))) λr9=>bd (UH r9.2) λF=>br (S7 h.2.2.2.2 0) (λ_=>some (.dn ((0,((6,(g.2.2,g.2.2)),()))))) λ_=>br (S5 h.2.2.2.2 F.1) (λ_=>some (.dn ((0,((6,(g.2.2,g.2.2)),()))))) λ_=>bd (UZ (r9.2,h.2.2.2.2)) λG=>bd (UY (G.1,h.2)) λI=>br (Hg I) (λ_=>some (.dn ((0,((6,(g.2.2,g.2.2)),()))))) λ_=>some (.nx ((g.1,(g.2.1,SE .i64 g.2.2 1))))) λ_=>bd (UI ((x.1,(h.1,h.2.2.1.2.2)))) λq=>bd (UH q.2) λJ=>br (S7 h.2.2.2.2 0) (λ_=>some (.dn ((0,((6,(g.2.2,g.2.2)),()))))) λ_=>br (S5 h.2.2.2.2 J.1) (λ_=>some (.dn ((0,((6,(g.2.2,g.2.2)),()))))) λ_=>bd (UZ (q.2,h.2.2.2.2)) λK=>bd (UY (K.1,h.2)) λL=>br (Hg L) (λ_=>some (.dn ((0,((6,(g.2.2,g.2.2)),()))))) λ_=>some (.nx ((g.1,(g.2.1,SE .i64 g.2.2 1))))) λ_=>some (.dn ((1,(g,()))))) ((0,(0,0)))) λj=>br (neq j.1 0) (λ_=>some (j.2.1.2.1,j.2.1.1)) λ_=>br (S7 (Ki (AS x.2.1)) (Ki (AS M))) (λ_=>some (((-1),4))) λ_=>some (0,0)) λ_=>br (Rx i.2.2 0) (λ_=>some (((-1),i.2.2))) λ_=>bd (VN x.1) λk=>bd (loop (λa=>br (S7 a.2.2 (Ki (AS x.2.1))) (λ_=>R0 a.2.2 λz=>ix x.2.1 z λd=>br (Rw a.2.2 (Ki (AS k))) (λ_=>some (.dn ((0,((6,(a.2.2,a.2.2)),()))))) λ_=>R0 a.2.2 λA=>ix k A λx23=>br (Rx d.1 x23) (λ_=>some (.dn ((0,((6,(a.2.2,a.2.2)),()))))) λ_=>br d.2.2.1.2.2 (λ_=>bd (Uk (x.1,d.1)) λN=>br (Hg N) (λ_=>some (.dn ((0,((6,(a.2.2,a.2.2)),()))))) λ_=>bd (UI ((x.1,(d.1,d.2.2.1.2.2)))) λr=>bd (UH r.2) λO=>br (S7 d.2.2.2.2 0) (λ_=>some (.dn ((0,((6,(a.2.2,a.2.2)),()))))) λ_=>br (S5 d.2.2.2.2 O.1) (λ_=>some (.dn ((0,((6,(a.2.2,a.2.2)),()))))) λ_=>bd (UZ (r.2,d.2.2.2.2)) λP=>bd (UY (P.1,d.2)) λS=>br (Hg S) (λ_=>some (.dn ((0,((6,(a.2.2,a.2.2)),()))))) λ_=>some (.nx ((a.1,(a.2.1,SE .i64 a.2.2 1))))) λ_=>bd (UI ((x.1,(d.1,d.2.2.1.2.2)))) λs=>bd (UH s.2) λU=>br (S7 d.2.2.2.2 0) (λ_=>some (.dn ((0,((6,(a.2.2,a.2.2)),()))))) λ_=>br (S5 d.2.2.2.2 U.1) (λ_=>some (.dn ((0,((6,(a.2.2,a.2.2)),()))))) λ_=>bd (UZ (s.2,d.2.2.2.2)) λW=>bd (UY (W.1,d.2)) λX=>br (Hg X) (λ_=>some (.dn ((0,((6,(a.2.2,a.2.2)),()))))) λ_=>some (.nx ((a.1,(a.2.1,SE .i64 a.2.2 1))))) λ_=>some (.dn ((1,(a,()))))) ((0,(0,0)))) λl=>br (neq l.1 0) (λ_=>some (l.2.1.2.1,l.2.1.1)) λ_=>br (S7 (Ki (AS x.2.1)) (Ki (AS k))) (λ_=>some (((-1),4))) λ_=>some (0,0)) λ_=>br (Oa i.2.2 0) (λ_=>bd (U9 x.1) λY=>br (S6 x.2.2 Y) (λ_=>some (((-1),6))) λ_=>br (Rx i.2.2 0) (λ_=>some (((-1),i.2.2))) λ_=>bd (VN x.1) λm=>bd (loop (λb=>br (S7 b.2.2 (Ki (AS x.2.1))) (λ_=>R0 b.2.2 λB=>ix x.2.1 B λe=>br (Rw b.2.2 (Ki (AS m))) (λ_=>some (.dn ((0,((6,(b.2.2,b.2.2)),()))))) λ_=>R0 b.2.2 λC=>ix m C λx40=>br (Rx e.1 x40) (λ_=>some (.dn ((0,((6,(b.2.2,b.2.2)),()))))) λ_=>br e.2.2.1.2.2 (λ_=>bd (Uk (x.1,e.1)) λZ=>br (Hg Z) (λ_=>some (.dn ((0,((6,(b.2.2,b.2.2)),()))))) λ_=>bd (UI ((x.1,(e.1,e.2.2.1.2.2)))) λt=>bd (UH t.2) λr43=>br (S7 e.2.2.2.2 0) (λ_=>some (.dn ((0,((6,(b.2.2,b.2.2)),()))))) λ_=>br (S5 e.2.2.2.2 r43.1) (λ_=>some (.dn ((0,((6,(b.2.2,b.2.2)),()))))) λ_=>bd (UZ (t.2,e.2.2.2.2)) λr44=>bd (UY (r44.1,e.2)) λr45=>br (Hg r45) (λ_=>some (.dn ((0,((6,(b.2.2,b.2.2)),()))))) λ_=>some (.nx ((b.1,(b.2.1,SE .i64 b.2.2 1))))) λ_=>bd (UI ((x.1,(e.1,e.2.2.1.2.2)))) λu=>bd (UH u.2) λr47=>br (S7 e.2.2.2.2 0) (λ_=>some (.dn ((0,((6,(b.2.2,b.2.2)),()))))) λ_=>br (S5 e.2.2.2.2 r47.1) (λ_=>some (.dn ((0,((6,(b.2.2,b.2.2)),()))))) λ_=>bd (UZ (u.2,e.2.2.2.2)) λr48=>bd (UY (r48.1,e.2)) λr49=>br (Hg r49) (λ_=>some (.dn ((0,((6,(b.2.2,b.2.2)),()))))) λ_=>some (.nx ((b.1,(b.2.1,SE .i64 b.2.2 1))))) λ_=>some (.dn ((1,(b,()))))) ((0,(0,0)))) λn=>br (neq n.1 0) (λ_=>some (n.2.1.2.1,n.2.1.1)) λ_=>br (S7 (Ki (AS x.2.1)) (Ki (AS m))) (λ_=>some (((-1),4))) λ_=>some (0,0)) λ_=>br (Rx i.2.2 0) (λ_=>some (((-1),i.2.2))) λ_=>bd (VN x.1) λo=>bd (loop (λc=>br (S7 c.2.2 (Ki (AS x.2.1))) (λ_=>R0 c.2.2 λD=>ix x.2.1 D λf=>br (Rw c.2.2 (Ki (AS o))) (λ_=>some (.dn ((0,((6,(c.2.2,c.2.2)),()))))) λ_=>R0 c.2.2 λE=>ix o E λx56=>br (Rx f.1 x56) (λ_=>some (.dn ((0,((6,(c.2.2,c.2.2)),()))))) λ_=>br f.2.2.1.2.2 (λ_=>bd (Uk (x.1,f.1)) λr57=>br (Hg r57) (λ_=>some (.dn ((0,((6,(c.2.2,c.2.2)),()))))) λ_=>bd (UI ((x.1,(f.1,f.2.2.1.2.2)))) λw=>bd (UH w.2) λr59=>br (S7 f.2.2.2.2 0) (λ_=>some (.dn ((0,((6,(c.2.2,c.2.2)),()))))) λ_=>br (S5 f.2.2.2.2 r59.1) (λ_=>some (.dn ((0,((6,(c.2.2,c.2.2)),()))))) λ_=>bd (UZ (w.2,f.2.2.2.2)) λr60=>bd (UY (r60.1,f.2)) λr61=>br (Hg r61) (λ_=>some (.dn ((0,((6,(c.2.2,c.2.2)),()))))) λ_=>some (.nx ((c.1,(c.2.1,SE .i64 c.2.2 1))))) λ_=>bd (UI ((x.1,(f.1,f.2.2.1.2.2)))) λy=>bd (UH y.2) λr63=>br (S7 f.2.2.2.2 0) (λ_=>some (.dn ((0,((6,(c.2.2,c.2.2)),()))))) λ_=>br (S5 f.2.2.2.2 r63.1) (λ_=>some (.dn ((0,((6,(c.2.2,c.2.2)),()))))) λ_=>bd (UZ (y.2,f.2.2.2.2)) λr64=>bd (UY (r64.1,f.2)) λr65=>br (Hg r65) (λ_=>some (.dn ((0,((6,(c.2.2,c.2.2)),()))))) λ_=>some (.nx ((c.1,(c.2.1,SE .i64 c.2.2 1))))) λ_=>some (.dn ((1,(c,()))))) ((0,(0,0)))) λp=>br (neq p.1 0) (λ_=>some (p.2.1.2.1,p.2.1.1)) λ_=>br (S7 (Ki (AS x.2.1)) (Ki (AS o))) (λ_=>some (((-1),4))) λ_=>some (0,0)
def VH (x:qS):Option ((List Int)×Int) :=
 bd (U8 x) λa=>br (Rx a.2 0) (λ_=>some ([],a.2)) λ_=>bd (VN x.1) λb=>some (b,0)
def XT (x:(qS×Int)):Option (Int×Int) :=
 bd (VH x.1) λa=>br (Rx a.2 0) (λ_=>some (0,a.2)) λ_=>bd (loop (λs1=>br (S7 s1.2.2 (Ki (AS a.1))) (λ_=>R0 s1.2.2 λc=>ix a.1 c λd=>br (Oa d x.2) (λ_=>some (.dn ((0,((0,(s1.2.2,s1.2.2)),()))))) λ_=>some (.nx ((s1.1,(s1.2.1,SE .i64 s1.2.2 1))))) λ_=>some (.dn ((1,(s1,()))))) ((0,(0,0)))) λb=>br (neq b.1 0) (λ_=>some (b.2.1.2.1,b.2.1.1)) λ_=>some (0,4)
def XU (x:(qS×Int)):Option (Int×Int) :=
 bd (XT x) λa=>br (Rx a.2 0) (λ_=>some (0,a.2)) λ_=>R0 a.1 λb=>ix x.1.2.1 b λd=>bd (UH d.2) λc=>some c
end
section
open Go Sv
def VK (x:(List Ti)):Option Bool :=
 bd (loop (λs0=>br (S7 s0.1 (Ki (AS x))) (λ_=>br (S7 s0.1 80) (λ_=>R0 s0.1 λb=>ix x b λd=>br (S5 (Ki (Mj d.1)) 100) (λ_=>some (.dn ((0,((s0.1,true),()))))) λ_=>R0 s0.1 λc=>ix x c λe=>br (S5 (Ki (Mj e.2.1)) 100) (λ_=>some (.dn ((0,((s0.1,true),()))))) λ_=>some (.nx (SE .i64 s0.1 1,s0.2))) λ_=>some (.dn ((1,(s0,()))))) λ_=>some (.dn ((1,(s0,()))))) (0,false)) λa=>br (neq a.1 0) (λ_=>some a.2.1.2) λ_=>some (S5 (Ki (AS x)) 70)
def WX (x:(List Ti)):Option Bool :=
 bd (loop (λs0=>br (S7 s0.1 (Ki (AS x))) (λ_=>br (S7 s0.1 40) (λ_=>R0 s0.1 λb=>ix x b λd=>br (S5 (Ki (Mj d.1)) 100) (λ_=>some (.dn ((0,((s0.1,true),()))))) λ_=>R0 s0.1 λc=>ix x c λe=>br (S5 (Ki (Mj e.2.1)) 100) (λ_=>some (.dn ((0,((s0.1,true),()))))) λ_=>some (.nx (SE .i64 s0.1 1,s0.2))) λ_=>some (.dn ((1,(s0,()))))) λ_=>some (.dn ((1,(s0,()))))) (0,false)) λa=>br (neq a.1 0) (λ_=>some a.2.1.2) λ_=>some (S5 (Ki (AS x)) 30)
def VY (x:(List UK)):Option Bool :=
 bd (loop (λs0=>br (S7 s0.1 (Ki (AS x))) (λ_=>br (S7 s0.1 10) (λ_=>R0 s0.1 λb=>ix x b λd=>bd (WX d.2) λc=>br c (λ_=>some (.dn ((0,((s0.1,true),()))))) λ_=>some (.nx (SE .i64 s0.1 1,s0.2))) λ_=>some (.dn ((1,(s0,()))))) λ_=>some (.dn ((1,(s0,()))))) (0,false)) λa=>br (neq a.1 0) (λ_=>some a.2.1.2) λ_=>some (S5 (Ki (AS x)) 6)
def XL (x:Tk):Option Bool :=
 bd (loop (λs0=>br (S7 s0.1 (Ki (AS x.2))) (λ_=>br (S7 s0.1 20) (λ_=>R0 s0.1 λb=>ix x.2 b λd=>bd (VY d) λc=>br c (λ_=>some (.dn ((0,((s0.1,true),()))))) λ_=>some (.nx (SE .i64 s0.1 1,s0.2))) λ_=>some (.dn ((1,(s0,()))))) λ_=>some (.dn ((1,(s0,()))))) (0,false)) λa=>br (neq a.1 0) (λ_=>some a.2.1.2) λ_=>some (S5 (Ki (AS x.2)) 14)
def XM (x:qS):Option Bool :=
 bd (loop (λs0=>br (S7 s0.1 (Ki (AS x.2.1))) (λ_=>br (S7 s0.1 20) (λ_=>R0 s0.1 λf=>ix x.2.1 f λb=>bd (loop (λa=>br (S7 a.1 (Ki (AS b.2.1.1))) (λ_=>br (S7 a.1 10) (λ_=>R0 a.1 λg=>ix b.2.1.1 g λj=>bd (VK j) λh=>br h (λ_=>some (.dn ((0,((a.1,true),()))))) λ_=>some (.nx (SE .i64 a.1 1,a.2))) λ_=>some (.dn ((1,(a,()))))) λ_=>some (.dn ((1,(a,()))))) (0,s0.2)) λd=>br (neq d.1 0) (λ_=>some (.dn ((1,((s0.1,d.2.1.2),()))))) λ_=>bd (VK b.2.2.2.1) λi=>br i (λ_=>some (.dn ((1,((s0.1,true),()))))) λ_=>br (S5 (Ki (AS b.2.1.1)) 6) (λ_=>some (.dn ((1,((s0.1,true),()))))) λ_=>br (S5 (Ki (AS b.2.1.2.1)) 40) (λ_=>some (.dn ((1,((s0.1,true),()))))) λ_=>br (S5 (Ki (AS b.2.1.2.2.1)) 40) (λ_=>some (.dn ((1,((s0.1,true),()))))) λ_=>br (S5 (Ki (AS b.2.1.2.2.2.1)) 40) (λ_=>some (.dn ((1,((s0.1,true),()))))) λ_=>br (S5 (Ki (Mj b.2.2.1.2.1)) 200) (λ_=>some (.dn ((1,((s0.1,true),()))))) λ_=>some (.nx (SE .i64 s0.1 1,d.2.1.2))) λ_=>some (.dn ((0,(s0,()))))) λ_=>some (.dn ((0,(s0,()))))) (0,false)) λe=>br (neq e.1 0) (λ_=>br (S5 (Ki (AS x.2.1)) 14) (λ_=>some true) λ_=>bd (XL x.1) λc=>some c) λ_=>some e.2.1.2
def Yx (x:(Int×(Bool×(List UInt8)))):Option UK :=
 bd (loop (λ(s0:(Int×UK))=>br (S7 s0.1 (Ki (Mj x.2.2))) (λ_=>R0 (SE .i64 s0.1 1) λa=>R0 s0.1 λb=>gd (CF a (Mj x.2.2)) λ_=>gd (CF b a) λ_=>gd (CF (BF (AS s0.2.2) (AS ([(SV x.2.2 b a,(([]:List UInt8),(x.2.1,SE .i64 (SE .i64 (SF .i64 10 x.1) s0.1) 1)))]))) 1048576) λ_=>some (.nx ((SE .i64 s0.1 1,(s0.2.1,Il s0.2.2 ([(SV x.2.2 b a,([],(x.2.1,SE .i64 (SE .i64 (SF .i64 10 x.1) s0.1) 1)))])))))) λ_=>some (.dn ((0,(s0,()))))) ((0,(x.1,[])))) λc=>some c.2.1.2
def YM (x:Unit):Option Tk :=
 bd (Yx ((1,(false,[(97:UInt8),(98:UInt8)])))) λa=>bd (Yx ((2,(true,[(98:UInt8)])))) λb=>some (2,[[a,b]])
def Zv (x:Tk):Option (qS×Int) :=
 bd (U7 x) λd=>br (Rx d.2.2 0) (λ_=>some ((((0,[]),([],0)),d.2.2))) λ_=>bd (U9 x) λh=>bd (VN x) λc=>bd (loop (λ(a:(Int×qL))=>br (S7 a.1 (Ki (AS c))) (λ_=>R0 a.1 λf=>ix c f λj=>R0 a.1 λg=>ix c g λk=>bd (Uk (x,k)) λi=>bd (UI ((x,(j,i)))) λe=>gd (CF (BF (AS a.2.2.2.1) (AS [e])) 1048576) λ_=>some (.nx ((SE .i64 a.1 1,(a.2.1,(a.2.2.1,(Il a.2.2.2.1 [e],a.2.2.2.2))))))) λ_=>some (.dn ((0,(a,()))))) ((0,(x.1,(x.2,([],SE .i64 h 1)))))) λb=>some ((((b.2.1.2.1,b.2.1.2.2.1),b.2.1.2.2.2),0))
def WP (x:(qS×Int)):Option (Int×Int) :=
 bd (Us x.1) λb=>br (Rx b.2 0) (λ_=>some (0,b.2)) λ_=>bd (loop (λs1=>br (S7 s1.2 (Ki (AS x.1.2.1))) (λ_=>R0 s1.2 λc=>ix x.1.2.1 c λd=>br (Oa d.1 x.2) (λ_=>some (.dn ((0,((s1.2,s1.2),()))))) λ_=>some (.nx (s1.1,SE .i64 s1.2 1))) λ_=>some (.dn ((1,(s1,()))))) (0,0)) λa=>br (neq a.1 0) (λ_=>br (S7 a.2.1.1 0) (λ_=>some (0,4)) λ_=>some (a.2.1.1,0)) λ_=>br (S7 (-1) 0) (λ_=>some (0,4)) λ_=>some (((-1),0))
def Vh (x:(qS×Int)):Option ((qS×(qJ×Int))×Int) :=
 bd (WP x) λa=>br (Rx a.2 0) (λ_=>some (((((0,[]),([],0)),((0,(([],([],([],([],0)))),((false,([],false)),([],0)))),0)),a.2))) λ_=>R0 a.1 λd=>ix x.1.2.1 d λc=>bd (UV c.2) λb=>some (((x.1,(c,b.1)),b.2))
def UQ (x:(qS×(qJ×Int))):Option Bool :=
 some (S5 x.2.2 0)
def Wy (x:(Int×Int)):Option (Int×Int) :=
 br (S7 x.1 1) (λ_=>some (0,7)) λ_=>br (S5 x.1 16) (λ_=>some (0,7)) λ_=>br (S7 x.2 0) (λ_=>some (0,7)) λ_=>br (Rw x.2 12) (λ_=>some (0,7)) λ_=>gd (Rw x.2 0) λ_=>some (Ra .i64 x.1 x.2,0)
def Ua (x:(qS×(qJ×Int))):Option Bool :=
 bd (Wy (x.1.1.1,x.2.1.1)) λa=>br (Oa a.2 0) (λ_=>some (S6 (Ki (AS x.2.1.2.2.2.1)) a.1)) λ_=>some false
def WQ (x:(Tk×Int)):Option Int :=
 bd (VB x.1) λa=>br (Rx a.2.2 0) (λ_=>some a.2.2) λ_=>br (S7 x.2 0) (λ_=>some 7) λ_=>br (Rw x.2 12) (λ_=>some 7) λ_=>some 0
def Wx (x:(Tk×Int)):Option (Bool×Int) :=
 bd (WQ x) λa=>br (Rx a 0) (λ_=>some (false,a)) λ_=>br (S7 x.2 (Ki (AS x.1.2))) (λ_=>R0 x.2 λb=>ix x.1.2 b λc=>some ((S7 (Ki (AS c)) 2,0))) λ_=>some (true,0)
def VJ (x:(qS×(qJ×Int))):Option Bool :=
 bd (Wx (x.1.1,SE .i64 x.2.1.1 1)) λa=>br (Oa a.2 0) (λ_=>some a.1) λ_=>some false
def Ug (x:(qS×(qJ×Int))):Option Bool :=
 bd (loop (λs0=>br (S7 s0.1 3) (λ_=>R0 s0.1 λa=>br (neq a 0) (λ_=>bd (UQ x) λc=>br c (λ_=>some (.dn ((0,((s0.1,true),()))))) λ_=>some (.nx (SE .i64 s0.1 1,s0.2))) λ_=>br (neq a 1) (λ_=>bd (Ua x) λd=>br d (λ_=>some (.dn ((0,((s0.1,true),()))))) λ_=>some (.nx (SE .i64 s0.1 1,s0.2))) λ_=>gd (neq a 2) λ_=>bd (VJ x) λe=>br e (λ_=>some (.dn ((0,((s0.1,true),()))))) λ_=>some (.nx (SE .i64 s0.1 1,s0.2))) λ_=>some (.dn ((1,(s0,()))))) (0,false)) λb=>br (neq b.1 0) (λ_=>some b.2.1.2) λ_=>some false
def UO (x:(List qJ)):Option (List qJ) :=
 gd (CF (AS x) 1048576) λ_=>some x
def Xh (x:(qS×(Int×Int))):Option (qS×(Int×Int)) :=
 bd (Us x.1) λf=>br (Rx f.2 0) (λ_=>some ((((0,[]),([],0)),(0,f.2)))) λ_=>br (S7 x.2.2 0) (λ_=>some ((((0,[]),([],0)),(0,7)))) λ_=>bd (WP (x.1,x.2.1)) λa=>br (Rx a.2 0) (λ_=>some ((((0,[]),([],0)),(0,a.2)))) λ_=>R0 a.1 λg=>ix x.1.2.1 g λj=>bd (UV j.2) λi=>br (Oa i.1 0) (λ_=>some ((((0,[]),([],0)),(0,9)))) λ_=>R0 a.1 λh=>ix x.1.2.1 h λk=>bd (Ui (k.2,x.2.2)) λb=>br (Rx b.2.2 0) (λ_=>some ((((0,[]),([],0)),(0,b.2.2)))) λ_=>bd (UO x.1.2.1) λd=>R0 a.1 λc=>gd (KJ c (AS d)) λ_=>ix d c λe=>some (((x.1.1,(lset d c (e.1,b.1),x.1.2.2)),(b.2.1,0)))
def Vl (x:(Tk×(Int×(List UK)))):Option Tk :=
 R0 (TX (Ki (AS x.1.2)) (SE .i64 x.2.1 1)) λh=>R0 (TX (Ki (AS x.1.2)) (SE .i64 x.2.1 1)) λa=>gd (CF a 1048576) λ_=>R0 x.2.1 λb=>gd (KJ b (AS (LC (Rc a ([]:List UK)) 0 x.1.2 (AS (Rc a ([]:List UK)))))) λ_=>ix (LC (Rc a ([]:List UK)) 0 x.1.2 (AS (Rc a ([]:List UK)))) b λi=>bd (loop (λc=>br (S5 c 0) (λ_=>R0 (SJ .i64 c 1) λe=>gd (KJ e (AS (lset (LC (Rc a ([]:List UK)) 0 x.1.2 (AS (Rc a ([]:List UK)))) b x.2.2))) λ_=>ix (lset (LC (Rc a ([]:List UK)) 0 x.1.2 (AS (Rc a ([]:List UK)))) b x.2.2) e λg=>br (Oa (Ki (AS g)) 0) (λ_=>some (.nx (SJ .i64 c 1))) λ_=>some (.dn ((0,(c,()))))) λ_=>some (.dn ((0,(c,()))))) (Ki (AS (lset (LC (Rc a ([]:List UK)) 0 x.1.2 (AS (Rc a ([]:List UK)))) b x.2.2)))) λf=>R0 f.2.1 λd=>gd (CF d (AS (lset (LC (Rc a ([]:List UK)) 0 x.1.2 (AS (Rc a ([]:List UK)))) b x.2.2))) λ_=>gd (CF 0 d) λ_=>br (KJ 0 (AS (lset (LC (Rc a ([]:List UK)) 0 x.1.2 (AS (Rc a ([]:List UK)))) b x.2.2))) (λ_=>gd (CF (BF 0 (Pa d 0)) (AS (lset (LC (Rc a ([]:List UK)) 0 x.1.2 (AS (Rc a ([]:List UK)))) b x.2.2))) λ_=>some ((x.1.1,D0 (lset (LC (Rc a ([]:List UK)) 0 x.1.2 (AS (Rc a ([]:List UK)))) b x.2.2) 0 (BF 0 (Pa d 0))))) λ_=>some (x.1.1,[])
def VZ (x:(Tk×Int)):Option (Tk×((List UK)×Int)) :=
 bd (WQ x) λb=>br (Rx b 0) (λ_=>some (((0,[]),([],b)))) λ_=>br (S7 x.2 (Ki (AS x.1.2))) (λ_=>R0 x.2 λc=>ix x.1.2 c λa=>br (Oa (Ki (AS a)) 0) (λ_=>some (((0,[]),([],4)))) λ_=>bd (Vl ((x.1,(x.2,[])))) λd=>gd (CF (AS a) 1048576) λ_=>some ((d,(a,0)))) λ_=>some (((0,[]),([],4)))
def UR (x:(Tk×(Int×UK))):Option (Tk×Int) :=
 bd (WQ (x.1,x.2.1)) λi=>br (Rx i 0) (λ_=>some (((0,[]),i))) λ_=>gd (Rw x.2.1 0) λ_=>bd (VS (x.2.2,Ra .i64 x.1.1 x.2.1)) λj=>br (Rx j 0) (λ_=>some (((0,[]),j))) λ_=>bd (loop (λ(s2:(Int×(Tk×Int)))=>br (S7 s2.1 (Ki (AS x.1.2))) (λ_=>R0 s2.1 λm=>ix x.1.2 m λl=>bd (loop (λ(c:(Int×(Tk×Int)))=>br (Rw c.1 0) (λ_=>R0 c.1 λn=>ix l n λo=>br (Oa o.1 x.2.2.1) (λ_=>some (.dn ((1,((c.1,((0,[]),8)),()))))) λ_=>some (.nx (SJ .i64 c.1 1,c.2))) λ_=>some (.dn ((0,(c,()))))) ((SJ .i64 (Ki (AS l)) 1,s2.2))) λh=>br (neq h.1 0) (λ_=>some (.nx (SE .i64 s2.1 1,h.2.1.2))) λ_=>some (.dn ((1,((s2.1,h.2.1.2),()))))) λ_=>some (.dn ((0,(s2,()))))) ((0,((0,[]),0)))) λk=>br (neq k.1 0) (λ_=>br (S7 x.2.1 (Ki (AS x.1.2))) (λ_=>R0 x.2.1 λd=>ix x.1.2 d λa=>br (Oa (Ki (AS a)) 2) (λ_=>some (((0,[]),5))) λ_=>R0 (Ki (AS a)) λb=>R0 (Ki (AS a)) λe=>gd (CF b (AS a)) λ_=>gd (neq b e) λ_=>gd (CF 0 b) λ_=>gd (CF (BF (AS (D0 a 0 b)) (AS [x.2.2])) 1048576) λ_=>bd (Vl ((x.1,(x.2.1,Il (D0 a 0 b) [x.2.2])))) λf=>some (f,0)) λ_=>gd (CF (AS [x.2.2]) 1048576) λ_=>bd (Vl ((x.1,(x.2.1,[x.2.2])))) λg=>some (g,0)) λ_=>some k.2.1.2
def XK (x:(Tk×Int)):Option (qJ×Int) :=
 bd (VB x.1) λa=>br (Rx a.2.2 0) (λ_=>some (((0,(([],([],([],([],0)))),((false,([],false)),([],0)))),a.2.2))) λ_=>br (S7 x.2 0) (λ_=>some (((0,(([],([],([],([],0)))),((false,([],false)),([],0)))),7))) λ_=>br (Rw x.2 12) (λ_=>some (((0,(([],([],([],([],0)))),((false,([],false)),([],0)))),7))) λ_=>br (Rw x.2 (Ki (AS x.1.2))) (λ_=>some (((0,(([],([],([],([],0)))),((false,([],false)),([],0)))),4))) λ_=>R0 x.2 λb=>ix x.1.2 b λe=>br (S7 (Ki (AS e)) 2) (λ_=>some (((0,(([],([],([],([],0)))),((false,([],false)),([],0)))),4))) λ_=>bd (VQ x) λc=>bd (U5 ((x.1,(x.2,c)))) λd=>some (d,0)
def UE (x:(qS×(Tk×(Int×Int)))):Option (qS×Int) :=
 bd (loop (λ(s0:(Int×(List (Int×qJ))))=>br (S7 s0.1 (Ki (AS x.1.2.1))) (λ_=>R0 s0.1 λn=>ix x.1.2.1 n λj=>some (.nx ((SE .i64 s0.1 1,IT ((λk=>(λl=>Oa k l))) s0.2 j.1 j)))) λ_=>some (.dn ((0,(s0,()))))) (0,[])) λi=>bd (loop (λ(c:(Int×(Int×(qL×qL))))=>br (S7 c.2.1 (Ki (AS x.2.1.2))) (λ_=>R0 c.2.1 λo=>ix x.2.1.2 o λp=>br (S7 (Ki (AS p)) 2) (λ_=>some (.nx ((c.1,(SE .i64 c.2.1 1,c.2.2))))) λ_=>br (Hg (Ta (MU ((λm=>(λf=>Oa m f))) (IS ((λg=>(λh=>Oa g h))) i.2.1.2 x.2.2.2) c.2.1))) (λ_=>bd (XK (x.2.1,c.2.1)) λe=>br (Rx e.2 0) (λ_=>some (.dn ((1,((e.2,(c.2.1,((0,([],([],0))),c.2.2.2))),()))))) λ_=>gd (CF (BF (AS c.2.2.2.2.2.1) (AS [e.1])) 1048576) λ_=>some (.nx ((c.1,(SE .i64 c.2.1 1,(c.2.2.1,(c.2.2.2.1,(c.2.2.2.2.1,(Il c.2.2.2.2.2.1 [e.1],c.2.2.2.2.2.2))))))))) λ_=>gd (CF (BF (AS c.2.2.2.2.2.1) (AS ([SN (MU (λa b=>Oa a b) (IS (λa b=>Oa a b) i.2.1.2 x.2.2.2) c.2.1) (0,(([],([],([],([],0)))),((false,([],false)),([],0))))]))) 1048576) λ_=>some (.nx ((c.1,(SE .i64 c.2.1 1,(c.2.2.1,(c.2.2.2.1,(c.2.2.2.2.1,(Il c.2.2.2.2.2.1 ([SN (MU (λa b=>Oa a b) (IS (λa b=>Oa a b) i.2.1.2 x.2.2.2) c.2.1) (0,(([],([],([],([],0)))),((false,([],false)),([],0))))]),c.2.2.2.2.2.2))))))))) λ_=>some (.dn ((0,(c,()))))) ((0,(0,((0,([],([],0))),(x.2.1.1,(x.2.1.2,([],x.2.2.1)))))))) λd=>br (neq d.1 0) (λ_=>some ((((d.2.1.2.2.2.1,d.2.1.2.2.2.2.1),d.2.1.2.2.2.2.2),0))) λ_=>some ((((d.2.1.2.2.1.1,d.2.1.2.2.1.2.1),d.2.1.2.2.1.2.2),d.2.1.1))
def Vu (x:(qS×Int)):Option (qS×Int) :=
 bd (Vh x) λb=>br (Rx b.2 0) (λ_=>some ((((0,[]),([],0)),b.2))) λ_=>bd (UQ b.1) λn=>br n (λ_=>some ((((0,[]),([],0)),9))) λ_=>bd (Ug b.1) λo=>br (Hg o) (λ_=>some ((((0,[]),([],0)),9))) λ_=>br (S5 x.1.2.2 1000000) (λ_=>br (S5 (Ki (AS b.1.2.1.2.2.2.1)) 0) (λ_=>some ((((0,[]),([],0)),5))) λ_=>bd (VZ (x.1.1,x.2)) λc=>br (Oa c.2.2 0) (λ_=>br (S5 (Ki (AS b.1.2.1.2.2.2.1)) 0) (λ_=>bd (Ua b.1) λp=>br (Hg p) (λ_=>bd (UR ((c.1,(SE .i64 x.2 1,(x.1.2.2,b.1.2.1.2.2.2.1))))) λl=>br (Rx l.2 0) (λ_=>some ((((0,[]),([],0)),l.2))) λ_=>bd (UE ((x.1,(l.1,(SE .i64 x.1.2.2 1,x.2))))) λq=>some q) λ_=>bd (UR ((c.1,(x.2,(x.1.2.2,b.1.2.1.2.2.2.1))))) λm=>br (Rx m.2 0) (λ_=>some ((((0,[]),([],0)),m.2))) λ_=>bd (UE ((x.1,(m.1,(SE .i64 x.1.2.2 1,x.2))))) λr=>some r) λ_=>br (Rx c.2.2 0) (λ_=>some ((((0,[]),([],0)),c.2.2))) λ_=>bd (UE ((x.1,(c.1,(x.1.2.2,x.2))))) λs=>some s) λ_=>br (Rx c.2.2 0) (λ_=>some ((((0,[]),([],0)),c.2.2))) λ_=>bd (UE ((x.1,(c.1,(x.1.2.2,x.2))))) λf=>some f) λ_=>bd (VZ (x.1.1,x.2)) λa=>br (Oa a.2.2 0) (λ_=>br (S5 (Ki (AS b.1.2.1.2.2.2.1)) 0) (λ_=>bd (Ua b.1) λg=>br (Hg g) (λ_=>bd (UR ((a.1,(SE .i64 x.2 1,(x.1.2.2,b.1.2.1.2.2.2.1))))) λd=>br (Rx d.2 0) (λ_=>some ((((0,[]),([],0)),d.2))) λ_=>bd (UE ((x.1,(d.1,(SE .i64 x.1.2.2 1,x.2))))) λh=>some h) λ_=>bd (UR ((a.1,(x.2,(x.1.2.2,b.1.2.1.2.2.2.1))))) λe=>br (Rx e.2 0) (λ_=>some ((((0,[]),([],0)),e.2))) λ_=>bd (UE ((x.1,(e.1,(SE .i64 x.1.2.2 1,x.2))))) λi=>some i) λ_=>br (Rx a.2.2 0) (λ_=>some ((((0,[]),([],0)),a.2.2))) λ_=>bd (UE ((x.1,(a.1,(x.1.2.2,x.2))))) λj=>some j) λ_=>br (Rx a.2.2 0) (λ_=>some ((((0,[]),([],0)),a.2.2))) λ_=>bd (UE ((x.1,(a.1,(x.1.2.2,x.2))))) λk=>some k
def VW (x:(qS×Int)):Option (qS×(Bool×Int)) :=
 bd (Vh x) λa=>br (Rx a.2 0) (λ_=>some ((((0,[]),([],0)),(false,a.2)))) λ_=>bd (Ug a.1) λd=>br (Hg d) (λ_=>some ((((0,[]),([],0)),(false,9)))) λ_=>bd (UQ a.1) λe=>br e (λ_=>bd (Xh ((x.1,(x.2,1)))) λc=>some ((c.1,(false,c.2.2)))) λ_=>bd (Vu x) λb=>some ((b.1,(Oa b.2 0,b.2)))
def VX (x:qS):Option ((List Int)×Int) :=
 bd (Us x) λa=>br (Rx a.2 0) (λ_=>some ([],a.2)) λ_=>bd (loop (λs1=>br (S7 s1.1 (Ki (AS x.1.2))) (λ_=>R0 s1.1 λb=>ix x.1.2 b λd=>br (Oa (Ki (AS d)) 2) (λ_=>gd (CF (BF (AS s1.2) (AS [s1.1])) 1048576) λ_=>some (.nx (SE .i64 s1.1 1,Il s1.2 [s1.1]))) λ_=>some (.nx (SE .i64 s1.1 1,s1.2))) λ_=>some (.dn ((0,(s1,()))))) (0,[])) λc=>some (c.2.1.2,0)
def YU (x:qS):Option (Int×Int) :=
 bd (VX x) λa=>br (Rx a.2 0) (λ_=>some (0,a.2)) λ_=>br (Oa (Ki (AS a.1)) 0) (λ_=>some (0,4)) λ_=>bd (loop (λs1=>br (S7 s1.2.2.1 (Ki (AS a.1))) (λ_=>R0 s1.2.2.1 λe=>ix a.1 e λd=>bd (Vh (x,d)) λc=>br (Rx c.2 0) (λ_=>some (.dn ((0,((c.2,(s1.2.1,(s1.2.2.1,0))),()))))) λ_=>bd (Ug c.1) λf=>br f (λ_=>some (.dn ((1,((s1.1,(true,(s1.2.2.1,d))),()))))) λ_=>some (.nx ((s1.1,(s1.2.1,(SE .i64 s1.2.2.1 1,s1.2.2.2)))))) λ_=>some (.dn ((1,(s1,()))))) ((a.2,(false,(0,0))))) λb=>br (neq b.1 0) (λ_=>some (b.2.1.2.2.2,b.2.1.1)) λ_=>br (Hg b.2.1.2.1) (λ_=>some (0,9)) λ_=>some (b.2.1.2.2.2,0)
def Wv (x:(qS×Int)):Option (Bool×Int) :=
 bd (Vh x) λa=>br (Rx a.2 0) (λ_=>some (false,a.2)) λ_=>bd (Ug a.1) λb=>some (b,0)
end
section
open Go Sv
def Xg (x:(qS×Int)):Option (Int×Int) :=
 bd (WP x) λa=>br (Rx a.2 0) (λ_=>some (0,a.2)) λ_=>R0 a.1 λb=>ix x.1.2.1 b λd=>bd (UV d.2) λc=>some c
def WM (x:(qS×Int)):Option (Int×Int) :=
 bd (Xg x) λa=>br (Rx a.2 0) (λ_=>some (0,a.2)) λ_=>some (SE .i64 a.1 1,0)
def Xb (x:qS):Option (Int×Int) :=
 bd (VX x) λa=>br (Rx a.2 0) (λ_=>some (0,a.2)) λ_=>bd (loop (λs1=>br (S7 s1.2.1 (Ki (AS a.1))) (λ_=>R0 s1.2.1 λd=>ix a.1 d λe=>bd (WM (x,e)) λc=>br (Rx c.2 0) (λ_=>some (.dn ((0,((c.2,(s1.2.1,(0,s1.2.2.2))),()))))) λ_=>some (.nx ((s1.1,(SE .i64 s1.2.1 1,(s1.2.2.1,SE .i64 s1.2.2.2 c.1)))))) λ_=>some (.dn ((1,(s1,()))))) ((0,(0,(0,0))))) λb=>br (neq b.1 0) (λ_=>some (b.2.1.2.2.1,b.2.1.1)) λ_=>some (b.2.1.2.2.2,0)
def WY (x:Tk):Option (Int×(Int×Int)) :=
 bd (VB x) λb=>br (Rx b.2.2 0) (λ_=>some ((0,(0,b.2.2)))) λ_=>bd (loop (λs1=>br (S7 s1.1 (Ki (AS x.2))) (λ_=>R0 s1.1 λe=>ix x.2 e λd=>bd (loop (λa=>br (Rw a.1 0) (λ_=>R0 a.1 λf=>ix d f λh=>some (.nx ((SJ .i64 a.1 1,(SE .i64 a.2.1 (Ki (AS h.2)),SE .i64 a.2.2 1))))) λ_=>some (.dn ((0,(a,()))))) ((SJ .i64 (Ki (AS d)) 1,s1.2))) λg=>some (.nx (SE .i64 s1.1 1,g.2.1.2))) λ_=>some (.dn ((0,(s1,()))))) ((0,(0,0)))) λc=>some ((c.2.1.2.1,(c.2.1.2.2,0)))
def Ve (x:(qS×Int)):Option (Int×Int) :=
 bd (XU x) λa=>br (Rx a.2 0) (λ_=>some (0,a.2)) λ_=>some (SE .i64 a.1 1,0)
def Xj (x:qS):Option (Int×Int) :=
 bd (VH x) λa=>bd (loop (λs1=>br (S7 s1.1 (Ki (AS a.1))) (λ_=>R0 s1.1 λb=>ix a.1 b λe=>bd (Ve (x,e)) λc=>some (.nx (SE .i64 s1.1 1,SE .i64 s1.2 c.1))) λ_=>some (.dn ((0,(s1,()))))) (0,0)) λd=>some (d.2.1.2,a.2)
def WH (x:Tk):Option (Int×(Int×Int)) :=
 bd (V0 x) λa=>br (Rx a.2 0) (λ_=>some ((0,(0,a.2)))) λ_=>bd (loop (λs1=>br (S7 s1.2 (Ki (AS a.1))) (λ_=>R0 s1.2 λb=>ix a.1 b λd=>some (.nx ((SE .i64 s1.1 (Ki (AS d.2)),SE .i64 s1.2 1)))) λ_=>some (.dn ((0,(s1,()))))) (0,0)) λc=>some ((c.2.1.1,(Ki (AS a.1),0)))
end
section
open Go Sv
end
section
open Go Sv
end
section
open Go Sv
end
section
open Go Sv
abbrev W9:=List UInt8
theorem ZQ (a:W9):SU a []=false:=by unfold SU;cases a<;>rfl
theorem bF (b:UInt8) (y:W9):SU [] (b::y)=true:=rfl
theorem X9 (a b:UInt8) (x y:W9):SU (a::x) (b::y)=(decide (a<b)||(a == b&&SU x y)):=rfl
theorem Wu : ∀ a:W9,SU a a=false
 | []=>rfl
 | a::x=>by rw [X9,Wu x];simp
theorem WB : ∀ {a b c:W9},SU a b=true->SU b c=true->SU a c=true
 | [],b,[],e,d=>by rw [ZQ] at d;cases d
 | [],b,c::z,_,_=>rfl
 | a::x,[],c,e,_=>by rw [ZQ] at e;cases e
 | a::x,b::y,[],_,d=>by rw [ZQ] at d;cases d
 | a::x,b::y,c::z,e,d=>by
  rw [X9] at e d ⊢;simp only [x5,decide_eq_true_eq,xn,beq_iff_eq] at e d ⊢;rcases e with e | ⟨rfl,e⟩
  ·rcases d with d | ⟨rfl,d⟩
   ·exact .inl (UInt8.lt_trans e d)
   ·exact .inl e
  ·rcases d with d | ⟨rfl,d⟩
   ·exact .inl d
   ·exact .inr ⟨rfl,WB e d⟩
theorem Zp : ∀ a b:W9,SU a b=true\/a=b\/SU b a=true
 | [],[] => .inr (.inl rfl)
 | [],_::_ => .inl rfl
 | _::_,[] => .inr (.inr rfl)
 | a::x,b::y=>by
  rw [X9,X9];simp only [x5,decide_eq_true_eq,xn,beq_iff_eq,List.cons.injEq];rcases UInt8.lt_or_lt_of_ne (a:=a) (b:=b) |> λh=>Classical.em (a=b) |>.imp id h with h | h | h
  ·subst h;rcases Zp x y with h | h | h
   ·exact .inl (.inr ⟨rfl,h⟩)
   ·exact .inr (.inl ⟨rfl,h⟩)
   ·exact .inr (.inr (.inr ⟨rfl,h⟩))
  ·exact .inl (.inl h)
  ·exact .inr (.inr (.inl h))
theorem U0 {a b:W9} (h:SU a b=true):SU b a=false:=by
 cases c:SU b a with
 | false=>rfl
 | true=>have:=WB h c;rw [Wu] at this;cases this
theorem Yc {a b:W9} (h:SU a b=true):a≠b:=λe=>by subst e;rw [Wu] at h;cases h
theorem ZB {a b:W9} (h:SU a b=false) (c:a≠b):SU b a=true:=by
 rcases Zp a b with h1 | h1 | h1
 ·rw [h] at h1;cases h1
 ·exact absurd h1 c
 ·exact h1
theorem aI {a b c:W9} (h:SU b a=false) (d:SU b c=true):SU a c=true:=by
 rcases Zp a b with h1 | h1 | h1
 ·exact WB h1 d
 ·subst h1;exact d
 ·rw [h] at h1;cases h1
theorem cG {a b c:W9} (h:SU a b=true) (d:SU c b=false):SU a c=true:=by
 rcases Zp b c with h1 | h1 | h1
 ·exact WB h h1
 ·subst h1;exact h
 ·rw [d] at h1;cases h1
theorem Zo {a b:W9}:seq a b=true<->a=b:=by unfold seq;simp
theorem ZA (a b:W9):seq a b=decide (a=b):=by
 cases h:seq a b with
 | true=>rw [Zo] at h;simp [h]
 | false =>
  have : ¬ a=b:=λe=>by rw [<- Zo] at e;rw [h] at e;cases e
  simp [this]
section
variable {α β σ S:Type}
theorem Vx (a b:W9) (x y:Unit->Option β):br (seq a b) x y=if a=b then x () else y ():=Jh Zo x y
theorem Wn (a b:W9) (x y:Unit->Option β):br (SU a b) x y=if SU a b=true then x () else y ():=Jh Iff.rfl x y
theorem U4 (p:Prop) [Decidable p] (x y:Unit->Option β):br (decide p) x y=if p then x () else y ():=Jh (by simp) x y
theorem Tf (k:Nat) (c:Nat->Option β):R0 (k:Int) c=c k:=by rw [Sj (by omega)];simp
theorem qv {l:List α} {k:Nat} {x:α} (h:l[k]? = some x):S7 (k:Int) (Ki (AS l))=true:=by
 have:=(a8.1 h).1;unfold S7 Ki AS;simp;omega
theorem nR (l:List α):S7 (l.length:Int) (Ki (AS l))=false:=by unfold S7 Ki AS;simp
theorem Tw {k:Nat} (h:k+1<=9223372036854775807):SE .i64 (k:Int) 1=((k+1:Nat):Int):=by
 rw [Sf (by omega)];omega
theorem Tq {l:List α} {k:Nat} {x:α} (h:l[k]? = some x) (a:l.length<=9223372036854775807):SE .i64 (k:Int) 1=((k+1:Nat):Int):=by
 have:=(a8.1 h).1;exact Tw (by omega)
def Z0 (step:Nat->α->σ->Option (LR σ β)) (fin:σ->Option β):List α->Nat->σ->Option β
 | [],_,s=>fin s
 | x::l,k,s=>match step k x s with
  | none=>none
  | some (.nx s')=>Z0 step fin l (k+1) s'
  | some (.dn b)=>some b
def xO (mk:σ->S):Option (LR σ β)->Option (LR S β)
 | none=>none
 | some (.nx s)=>some (.nx (mk s))
 | some (.dn b)=>some (.dn b)
def sj:Option β->Option (LR S β)
 | none=>none
 | some b=>some (.dn b)
theorem cg {l:List α} {mk:Nat->σ->S} {f:S->Option (LR S β)} {step:Nat->α->σ->Option (LR σ β)} {fin:σ->Option β}
  (hs : ∀ k x a,l[k]? = some x->f (mk k a)=xO (mk (k+1)) (step k x a)) (i : ∀ a,f (mk l.length a)=sj (fin a)) :
  ∀ (d n k:Nat) (a:σ),l.length-k=d->k<=l.length->d<n->IL n f (mk k a)=Z0 step fin (l.drop k) k a:=by
 intro d
 induction d with
 | zero =>
  intro n k a e g h;have c:k=l.length:=by omega
  obtain ⟨m,rfl⟩ : ∃ m,n=m+1:=⟨n-1,by omega⟩;subst c;unfold IL;rw [i,List.drop_length];unfold sj Z0;cases fin a<;>rfl
 | succ d o =>
  intro n k a e g h;obtain ⟨m,rfl⟩ : ∃ m,n=m+1:=⟨n-1,by omega⟩;have c:k<l.length:=by omega
  have j:l[k]? = some l[k]:=by simp [c]
  unfold IL;rw [hs k _ a j,List.drop_eq_getElem_cons c]
  show _=match step k l[k] a with
   | none=>none
   | some (.nx s')=>Z0 step fin (l.drop (k+1)) (k+1) s'
   | some (.dn b)=>some b
  cases step k l[k] a with
  | none=>rfl
  | some r=>cases r with
   | nx s'=>exact o m (k+1) s' (by omega) (by omega) (by omega)
   | dn b=>rfl
theorem fU {l:List α} (mk:Nat->σ->S) (step:Nat->α->σ->Option (LR σ β)) (fin:σ->Option β) {f:S->Option (LR S β)} {s:S} (a:σ) (b:s=mk 0 a) (d:l.length<=9223372036854775807)
  (hs : ∀ k x a,l[k]? = some x->f (mk k a)=xO (mk (k+1)) (step k x a)) (c : ∀ a,f (mk l.length a)=sj (fin a)) :
  loop f s=Z0 step fin l 0 a:=by
 subst b;have:=cg hs c l.length 18446744073709551616 0 a (by omega) (by omega) (by omega);rw [List.drop_zero] at this;exact this
theorem bh {f:α->Option (LR α β)} {x:β} : ∀ {n m:Nat} {s:α},n<=m->IL n f s=some x->IL m f s=some x
 | 0,_,_,_,h=>by cases h
 | n+1,0,_,hl,_=>by omega
 | n+1,m+1,s,hl,h=>by
  unfold IL at h ⊢;split at h
  ·cases h
  ·rename_i s' e;exact bh (by omega) h
  ·exact h
theorem Uu {f:α->Option (LR α β)} {x:β} {n:Nat} {s:α} (a:n<=18446744073709551616) (h:IL n f s=some x):loop f s=some x:=bh a h
theorem UF {f:α->Option (LR α β)} {n:Nat} {s s':α} (h:f s=some (.nx s')):IL (n+1) f s=IL n f s':=by
 show (match f s with
  | none=>none
  | some (.nx s)=>IL n f s
  | some (.dn x)=>some x)=_
 rw [h]
theorem UP {f:α->Option (LR α β)} {n:Nat} {s:α} {x:β} (h:f s=some (.dn x)):IL (n+1) f s=some x:=by
 show (match f s with
  | none=>none
  | some (.nx s)=>IL n f s
  | some (.dn x)=>some x)=_
 rw [h]
theorem Z3 {f : S -> Option (LR S β)} {r : β} (mk : Nat -> S) (n : Nat) {s : S} (h0 : s = mk 0) (hn : n < 18446744073709551616) (hs : ∀ k, k < n -> f (mk k) = some (.nx (mk (k + 1)))) (he : f (mk n) = some (.dn r)) : loop f s = some r := by
  subst h0
  have : ∀ d k, k + d = n -> IL (d + 1) f (mk k) = some r := by
    intro d
    induction d with
    | zero => intro k hk; have : k = n := by omega
              subst this; exact UP he
    | succ d ih => intro k hk; rw [UF (hs k (by omega))]; exact ih (k + 1) (by omega)
  exact Uu (n := n + 1) (by omega) (this n 0 (by omega))
end
end
section
open Go Sv
def kE (x:Ti):Int:=if x.1.length>32\/x.2.1.length>64 then 3 else if x.2.2.1=true/\x.2.1≠[] then 6 else if x.2.2.2<1\/x.2.2.2>1000000000 then 7 else 0
def YP:Option W9->Nat->List Ti->Int×Int
 | _,_,[]=>(0,0)
 | p,k,x::l=>if kE x≠0 then ((k:Int),kE x) else match p with
  | some q=>if SU q x.1=true then YP (some x.1) (k+1) l else ((k:Int),6)
  | none=>YP (some x.1) (k+1) l
def WC (l:List Ti):Int×Int:=if l.length>5000 then (-1,3) else YP none 0 l
def Asc:Option W9->List Ti->Prop
 | _,[]=>True
 | p,x::l=>(∀ q,p=some q->SU q x.1=true)/\Asc (some x.1) l
theorem am : ∀ {p k l},(YP p k l).2=0<->(∀ x∈l,kE x=0)/\Asc p l
 | p,k,[]=>by simp [YP,Asc]
 | p,k,x::l=>by
  unfold YP;by_cases h:kE x=0
  ·rw [if_neg (by simp [h])];cases p with
   | none =>
    simp only [am (p:=some x.1) (l:=l),Asc,en,forall_eq_or_imp];constructor
    ·rintro ⟨a,b⟩;exact ⟨⟨h,a⟩,(λq c=>by cases c),b⟩
    ·rintro ⟨⟨_,a⟩,_,b⟩;exact ⟨a,b⟩
   | some q =>
    simp only;by_cases c:SU q x.1=true
    ·rw [if_pos c];simp only [am (p:=some x.1) (l:=l),Asc,en,forall_eq_or_imp];constructor
     ·rintro ⟨a,b⟩;exact ⟨⟨h,a⟩,(λe d=>by cases d;exact c),b⟩
     ·rintro ⟨⟨_,a⟩,_,b⟩;exact ⟨a,b⟩
    ·rw [if_neg c];constructor
     ·intro h;cases h
     ·rintro ⟨_,b⟩;exact absurd (b.1 q rfl) c
  ·rw [if_pos h];constructor
   ·intro h';exact absurd h' h
   ·rintro ⟨a,_⟩;exact absurd (a x (by simp)) h
theorem ZT : ∀ {p k l},(YP p k l).2=0->YP p k l=(0,0)
 | p,k,[],_=>rfl
 | p,k,x::l,h=>by
  unfold YP at h ⊢;by_cases a:kE x=0
  ·rw [if_neg (by simp [a])] at h ⊢;cases p with
   | none=>exact ZT h
   | some q =>
    simp only at h ⊢;by_cases b:SU q x.1=true
    ·rw [if_pos b] at h ⊢;exact ZT h
    ·rw [if_neg b] at h;cases h
  ·rw [if_pos a] at h;exact absurd h a
structure VL (l:List Ti):Prop where
 len:l.length<=5000
 ok : ∀ x∈l,kE x=0
 asc:Asc none l
theorem ZU {l:List Ti}:(WC l).2=0<->VL l:=by
 unfold WC;by_cases h:l.length>5000
 ·rw [if_pos h];constructor
  ·intro h;cases h
  ·intro h';have:=h'.len;omega
 ·rw [if_neg h];rw [am];exact ⟨λ⟨a,b⟩=>⟨by omega,a,b⟩,λh=>⟨h.ok,h.asc⟩⟩
theorem YQ {l:List Ti} (h:VL l):WC l=(0,0):=by
 have a:=ZU.2 h;unfold WC at a ⊢;rw [if_neg (by have:=h.len;omega)] at a ⊢;exact ZT a
theorem Asc.lt : ∀ {p:Option W9} {l:List Ti},Asc p l -> ∀ {i:Nat} {x y:Ti},l[i]? = some x->l[i+1]? = some y->SU x.1 y.1=true
 | p,x::[],_,0,_,_,_,h2=>by simp at h2
 | p,a::b::l,h,0,x,y,h1,h2=>by
  simp at h1 h2;subst h1;subst h2;exact h.2.1 _ rfl
 | p,a::l,h,i+1,x,y,h1,h2=>by
  simp at h1 h2;exact Asc.lt h.2 h1 h2
theorem VL.lt {l:List Ti} (h:VL l) {i:Nat} {x y:Ti} (a:l[i]? = some x) (b:l[i+1]? = some y):SU x.1 y.1=true:=h.asc.lt a b
def kx (l:List Ti) (i:Nat):UC:=match l[i]? with
 | some x=>(x.1,false)
 | none=>([],true)
def w0 (p q:UC):Bool:=if p.2≠q.2 then q.2 else if p.1≠q.1 then SU p.1 q.1 else true
def XZ (a b:List Ti) (i j:Nat):Bool:=w0 (kx a i) (kx b j)
def pos (a b:List Ti):Nat->Nat×Nat
 | 0=>(0,0)
 | n+1=>if XZ a b (pos a b n).1 (pos a b n).2=true then ((pos a b n).1+1,(pos a b n).2) else ((pos a b n).1,(pos a b n).2+1)
def Zg (a b:List Ti) (n:Nat):Option Ti:=if XZ a b (pos a b n).1 (pos a b n).2=true then a[(pos a b n).1]? else b[(pos a b n).2]?
structure Inv (a b:List Ti) (i j:Nat):Prop where
 ia:i<=a.length
 jb:j<=b.length
 pa : ∀ i',i=i'+1 -> ∀ x y,a[i']? = some x->b[j]? = some y->SU y.1 x.1=false
 pb : ∀ j',j=j'+1 -> ∀ x y,b[j']? = some x->a[i]? = some y->SU x.1 y.1=true
theorem Zw {a b:List Ti} {i j:Nat} {x y:Ti} (c:a[i]? = some x) (d:b[j]? = some y):XZ a b i j = !SU y.1 x.1:=by
 unfold XZ w0 kx;rw [c,d];simp only [ne_eq,not_true,if_false];by_cases h:x.1=y.1
 ·rw [if_neg (by simp [h]),h,Wu];rfl
 ·rw [if_pos h];cases hs:SU x.1 y.1 with
  | true=>rw [U0 hs];rfl
  | false=>rw [ZB hs h];rfl
theorem eR {a b:List Ti} {i j:Nat} {x:Ti} (c:a[i]? = some x) (d:b[j]? = none):XZ a b i j=true:=by
 unfold XZ w0 kx;rw [c,d];rfl
theorem eU {a b:List Ti} {i j:Nat} {y:Ti} (c:a[i]? = none) (d:b[j]? = some y):XZ a b i j=false:=by
 unfold XZ w0 kx;rw [c,d];rfl
theorem bX {a b:List Ti} {i j:Nat} (c:a[i]? = none) (d:b[j]? = none):XZ a b i j=true:=by
 unfold XZ w0 kx;rw [c,d];rfl
theorem Inv.zero (a b:List Ti):Inv a b 0 0:=⟨by omega,by omega,λ_ h=>by omega,λ_ h=>by omega⟩
theorem Inv.stepA {a b:List Ti} (va:VL a) {i j:Nat} (h:Inv a b i j) {x:Ti} (c:a[i]? = some x) (g:XZ a b i j=true):Inv a b (i+1) j:=by
 have hi:=(a8.1 c).1;refine ⟨by omega,h.jb,λl e k y d f => ?_,λj' e k y d f => ?_⟩
 ·have:l=i:=by omega
  subst this;rw [c] at d;cases d;rw [Zw c f] at g;simpa using g
 ·exact WB (h.pb j' e k x d c) (va.lt c f)
theorem Inv.stepB {a b:List Ti} (n:VL b) {i j:Nat} (h:Inv a b i j) {y:Ti} (c:b[j]? = some y) (g:XZ a b i j=false):Inv a b i (j+1):=by
 have p:=(a8.1 c).1;refine ⟨h.ia,by omega,λm e k o d f => ?_,λj' e k o d f => ?_⟩
 ·have l:=h.pa m e k y d c;exact U0 (aI l (n.lt c f))
 ·have:j'=j:=by omega
  subst this;rw [c] at d;cases d;rw [Zw f c] at g;simpa using g
theorem V4 {a b:List Ti} (va:VL a) (f:VL b) : ∀ {n:Nat},n<=a.length+b.length->Inv a b (pos a b n).1 (pos a b n).2/\(pos a b n).1+(pos a b n).2=n
 | 0,_=>⟨Inv.zero a b,rfl⟩
 | n+1,h=>by
  obtain ⟨c,hs⟩:=V4 va f (n:=n) (by omega);rw [show pos a b (n+1)=if XZ a b (pos a b n).1 (pos a b n).2=true then ((pos a b n).1+1,(pos a b n).2) else ((pos a b n).1,(pos a b n).2+1) from rfl]
  revert c hs;generalize (pos a b n).1=i;generalize (pos a b n).2=j;intro c hs;cases g:XZ a b i j with
  | true =>
   have hi:i<a.length:=by
    refine nP λh' => ?_;have d:a[i]? = none:=a9 h';have e:j<b.length:=by have:=c.ia;omega
    rw [eU d (by simp [e]:b[j]? = some b[j])] at g;cases g
   have:=c.stepA va (by simp [hi]:a[i]? = some a[i]) g;rw [if_pos rfl];exact ⟨this,by omega⟩
  | false =>
   have k:j<b.length:=by
    refine nP λh' => ?_;have d:b[j]? = none:=a9 h';cases e:a[i]? with
    | none=>rw [bX e d] at g;cases g
    | some x=>rw [eR e d] at g;cases g
   have:=c.stepB f (by simp [k]:b[j]? = some b[j]) g;rw [if_neg (by simp)];exact ⟨this,by omega⟩
end
section
open Go Sv
def Tt (p q:UC):Vf:=([p,q],([0,if w0 p q=true then 1 else 0],if w0 p q=true then 0 else 1))
def ZC (a b:List Ti) (i j:Nat):VF:=([a,b],([(i:Int),(j:Int)],Tt (kx a i) (kx b j)))
def ny (a b:List Ti) (n:Nat):W9:=match Zg a b n with
 | some x=>x.1
 | none=>[]
def fresh (a b:List Ti) (n:Nat) (x:Ti):Bool:=decide (n=0)||decide (ny a b (n-1)≠x.1)
def nN (a b:List Ti) (c:Bool):Nat->List Ti
 | 0=>[]
 | n+1=>match Zg a b n with
  | some x=>if (fresh a b n x && !(c&&x.2.2.1))=true then nN a b c n++[x] else nN a b c n
  | none=>nN a b c n
def yi (a b:List Ti) (c:Bool) (n:Nat):Uc:=(decide (n≠0),(if n=0 then [] else ny a b (n-1),c))
def xP (a b:List Ti) (c:Bool) (n:Nat):XH:=(ZC a b (pos a b n).1 (pos a b n).2,(yi a b c n,(nN a b c n,(n:Int))))
def Tx (a b:List Ti):Nat->List Ti
 | 0=>[]
 | n+1=>match Zg a b n with
  | some x=>Tx a b n++[x]
  | none=>Tx a b n
section
variable {a b:List Ti} (va:VL a) (vb:VL b)
include va vb
theorem Vc {n:Nat} (h:n<a.length+b.length) : ∃ x,Zg a b n=some x/\(x∈a\/x∈b):=by
 obtain ⟨e,hs⟩:=V4 va vb (n:=n) (by omega);unfold Zg;revert e hs;generalize (pos a b n).1=i;generalize (pos a b n).2=j;intro e hs;cases g:XZ a b i j with
 | true =>
  have hi:i<a.length:=by
   refine nP λh' => ?_;have c:a[i]? = none:=a9 h';have d:j<b.length:=by have:=e.ia;omega
   rw [eU c (by simp [d]:b[j]? = some b[j])] at g;cases g
  exact ⟨a[i],by simp [hi],.inl (xr hi)⟩
 | false =>
  have f:j<b.length:=by
   refine nP λh' => ?_;have c:b[j]? = none:=a9 h';cases d:a[i]? with
   | none=>rw [bX d c] at g;cases g
   | some x=>rw [eR d c] at g;cases g
  exact ⟨b[j],by simp [f],.inr (xr f)⟩
theorem iQ {n:Nat} {x:Ti} (h:Zg a b n=some x):kE x=0:=by
 have:x∈a\/x∈b:=by
  unfold Zg at h;split at h
  ·exact .inl (bo h)
  ·exact .inr (bo h)
 rcases this with h | h
 ·exact va.ok x h
 ·exact vb.ok x h
theorem eY {n:Nat} (k:n+1<a.length+b.length) {x y:Ti} (d:Zg a b n=some x) (c:Zg a b (n+1)=some y):SU y.1 x.1=false:=by
 obtain ⟨h,hs⟩:=V4 va vb (n:=n) (by omega);unfold Zg at d c;rw [show pos a b (n+1)=if XZ a b (pos a b n).1 (pos a b n).2=true then ((pos a b n).1+1,(pos a b n).2) else ((pos a b n).1,(pos a b n).2+1) from rfl] at c
 revert h hs d c;generalize (pos a b n).1=i;generalize (pos a b n).2=j;intro d c h hs;cases g:XZ a b i j with
 | true =>
  rw [if_pos g] at d;simp only [g,if_true] at c;have e:=h.stepA va d g;cases f:XZ a b (i+1) j with
  | true=>rw [if_pos f] at c;exact U0 (va.lt d c)
  | false=>rw [if_neg (by simp [f])] at c;exact e.pa i rfl x y d c
 | false =>
  rw [if_neg (by simp [g])] at d;simp only [g,if_false,iz] at c;have e:=h.stepB vb d g;cases f:XZ a b i (j+1) with
  | true=>rw [if_pos f] at c;exact U0 (e.pb j rfl x y d c)
  | false=>rw [if_neg (by simp [f])] at c;exact U0 (vb.lt d c)
theorem Uz : ∀ {n:Nat},n<=a.length+b.length->(Tx a b n).length=n
 | 0,_=>rfl
 | n+1,h=>by
  obtain ⟨x,c,_⟩:=Vc va vb (n:=n) (by omega);unfold Tx;rw [c];simp [Uz (n:=n) (by omega)]
theorem X4 : ∀ {n k:Nat},n<=a.length+b.length->k<n->(Tx a b n)[k]? = Zg a b k
 | n+1,k,h,hk=>by
  obtain ⟨x,d,_⟩:=Vc va vb (n:=n) (by omega);unfold Tx;rw [d];show (Tx a b n++[x])[k]? = _;have e:=Uz va vb (n:=n) (by omega);by_cases c:k<n
  ·rw [List.getElem?_append_left (by omega)];exact X4 (by omega) c
  ·have:k=n:=by omega
   subst this;rw [List.getElem?_append_right (by omega),e];simp [d]
theorem ck {n m:Nat} (d:m<=a.length+b.length) (h:n<=m):(Tx a b m).take n=Tx a b n:=by
 apply List.ext_getElem?;intro k;rw [List.getElem?_take];by_cases c:k<n
 ·rw [if_pos c,X4 va vb d (by omega),X4 va vb (by omega) c]
 ·rw [if_neg c,a9];rw [Uz va vb (by omega)];omega
end
end
section
open Go Sv
theorem Tn (n:Nat):Ki n=(n:Int):=rfl
theorem Tl {α:Type} (l:List α):AS l=l.length:=rfl
theorem YK (l:List UInt8):Mj l=l.length:=rfl
theorem cU:Hg true=false:=rfl
theorem UT {β:Type} (c:Bool) (x y:Unit->Option β):br (Hg c) x y=br c y x:=Sz c x y
theorem Un {β:Type} {a b:Nat} (h:a<=b) (k:Unit->Option β):gd (CF a b) k=k ():=by rw [S1,if_pos h]
theorem Yq (k:W9):WW k=some (if k.length>32 then 3 else 0):=by
 unfold WW;rw [TL,Tn,YK];by_cases h:k.length>32
 ·rw [if_pos (by omega),if_pos h]
 ·rw [if_neg (by omega),if_neg h]
theorem Wp (x:Ti):U1 x=some (kE x):=by
 unfold U1 kE;rw [Yq,Sw,TP];by_cases e:x.1.length>32
 ·simp [e]
 rw [if_neg e,if_pos rfl,TL,Tn,YK];by_cases f:x.2.1.length>64
 ·rw [if_pos (by omega),if_pos (.inr f)]
 rw [if_neg (by omega : ¬ (x.2.1.length:Int)>64),if_neg (by omega),TU];by_cases b:x.2.2.1=true
 ·rw [if_pos b,UT,Vx];by_cases c:x.2.1=[]
  ·rw [if_pos c,if_neg (by simp [c]),TN,TL];by_cases a:x.2.2.2<1
   ·simp [a]
   ·by_cases d:x.2.2.2>1000000000<;>simp [a,d]
  ·rw [if_neg c,if_pos ⟨b,c⟩]
 ·rw [if_neg b,if_neg (by simp [b]),TN,TL];by_cases a:x.2.2.2<1
  ·simp [a]
  ·by_cases d:x.2.2.2>1000000000<;>simp [a,d]
theorem XB (l:List Ti) (q:l.length<=9223372036854775807):UW l=some (WC l):=by
 unfold UW WC;rw [TL,Tn,Tl];by_cases h:l.length>5000
 ·rw [if_pos (by omega),if_pos h]
 rw [if_neg (by omega),if_neg h]
 have key:=fU (β:=Nat×(Int×Int×Int)×Unit) (l:=l) (λk (_:Int)=>((0:Int),((0:Int),(k:Int))))
  (λk x _=>if kE x≠0 then some (.dn (0,((kE x,((k:Int),(k:Int))),()))) else if k>0 then
    (match l[k-1]? with
    | some y=>if SU y.1 x.1=true then some (.nx 0) else some (.dn (0,(((6:Int),((k:Int),(k:Int))),())))
    | none=>none) else some (.nx 0))
  (λ_=>some (1,((0,(0,(l.length:Int))),()))) (s:=(0,(0,0))) (0:Int) rfl q (f:=(λs0=>br (S7 s0.2.2 (Ki (AS l))) (λ_=>R0 s0.2.2 λB=>ix l B λz=>bd (U1 z) λw=>br (Rx w 0) (λ_=>some (.dn ((0,((w,(s0.2.2,s0.2.2)),()))))) λ_=>br (S5 s0.2.2 0) (λ_=>R0 (SJ .i64 s0.2.2 1) λC=>ix l C λD=>br (Hg (SU D.1 z.1)) (λ_=>some (.dn ((0,((6,(s0.2.2,s0.2.2)),()))))) λ_=>some (.nx ((s0.1,(s0.2.1,SE .i64 s0.2.2 1))))) λ_=>some (.nx ((s0.1,(s0.2.1,SE .i64 s0.2.2 1))))) λ_=>some (.dn ((1,(s0,()))))))
  (λk x j b=>by
   simp only;rw [qv b,Sb,Tf,TB b,Wp,Sw,TP];by_cases c:kE x=0
   ·have A:k<l.length:=(a8.1 b).1;simp only [c,if_true,ne_eq,not_true,if_false];rw [TL];by_cases d:k>0
    ·rw [if_pos (by omega:(k:Int)>0),if_pos d,Si (by omega),show ((k:Int)-1)=((k-1:Nat):Int) by omega,Tf];have g:l[k-1]? = some l[k-1]:=by rw [ee (by omega)]
     rw [TB g,g,UT,Wn];simp only;by_cases a:SU l[k-1].1 x.1=true
     ·rw [if_pos a,if_pos a,Tq b q];rfl
     ·rw [if_neg a,if_neg a];rfl
    ·rw [if_neg (by omega : ¬ (k:Int)>0),if_neg d,Tq b q];rfl
   ·simp only [c,if_false,ne_eq,not_false_iff,if_true];rfl)
  (λj=>by
   simp only
   rw [nR,R6];rfl)
 simp only [Tn,Tl] at key;rw [key]
 have i : ∀ (m:List Ti) (k:Nat) (p:Option W9),l.drop k=m->(p=if k=0 then none else (l[k-1]?).map (·.1)) -> ∀ j,bd (Z0 (β:=Nat×(Int×Int×Int)×Unit) (λk x (_:Int)=>if kE x≠0 then some (.dn (0,((kE x,((k:Int),(k:Int))),()))) else if k>0 then
    (match l[k-1]? with
    | some y=>if SU y.1 x.1=true then some (.nx 0) else some (.dn (0,(((6:Int),((k:Int),(k:Int))),())))
    | none=>none) else some (.nx (0:Int))) (λ_=>some (1,((0,(0,(l.length:Int))),()))) m k j) (λr=>br (neq r.1 0) (λ_=>some (r.2.1.2.1,r.2.1.1)) λ_=>some ((0:Int),(0:Int)))=some (YP p k m):=by
  intro m
  induction m with
  | nil=>intro k p _ _ j;rfl
  | cons x m u =>
   intro k p t n j
   have b:l[k]? = some x:=by
    have:=congrArg vv t;rw [r6] at this;simpa using this
   have A:k<l.length:=(a8.1 b).1
   have e:l.drop (k+1)=m:=by
    have:=congrArg s9 t;rw [o5] at this;simpa using this
   unfold Z0 YP;by_cases c:kE x=0
   ·simp only [c,ne_eq,not_true,if_false];by_cases d:k>0
    ·have g:l[k-1]? = some l[k-1]:=by rw [ee (by omega)]
     rw [if_pos d,g];rw [if_neg (by omega : ¬ k=0),g] at n;subst n;simp only [Option.map_some];by_cases a:SU l[k-1].1 x.1=true
     ·rw [if_pos a,if_pos a];exact u (k+1) (some x.1) e (by rw [if_neg (by omega)];simp [b]) 0
     ·rw [if_neg a,if_neg a];rfl
    ·have o:k=0:=by omega
     subst o;rw [if_neg d];simp only [if_true] at n;subst n;exact u 1 (some x.1) e (by simp [b]) 0
   ·simp only [c,ne_eq,not_false_iff,if_true];rfl
 exact i l 0 none (by simp) (by simp) 0
theorem ZN {α β σ S:Type} {l:List α} (mk:Nat->σ->S) (F:List α->Nat->σ->Option β) {f:S->Option (LR S β)} {s:S} (a:σ) (p:s=mk 0 a) (w:l.length<=9223372036854775807)
  (t : ∀ a,f (mk l.length a)=sj (F [] l.length a))
  (hc : ∀ k x m a,l.drop k=x::m->l[k]? = some x->k<l.length->(∃ b,f (mk k a)=some (.nx (mk (k+1) b))/\F (x::m) k a=F m (k+1) b)\/f (mk k a)=sj (F (x::m) k a)):loop f s=F l 0 a:=by
 subst p
 have e : ∀ (m:List α) (k n:Nat) (a:σ),l.drop k=m->k<=l.length->m.length<n->IL n f (mk k a)=F m k a:=by
  intro m
  induction m with
  | nil =>
   intro k n a c r d;obtain ⟨n,rfl⟩ : ∃ j,n=j+1:=⟨n-1,by omega⟩
   have h:k=l.length:=by
    have:=congrArg List.length c;simp at this;omega
   subst h;unfold IL;rw [t];cases F [] l.length a<;>rfl
  | cons x m u =>
   intro k n a c r d;obtain ⟨n,rfl⟩ : ∃ j,n=j+1:=⟨n-1,by omega⟩
   have o:l[k]? = some x:=by
    have:=congrArg vv c;rw [r6] at this;simpa using this
   have g:k<l.length:=(a8.1 o).1
   have i:l.drop (k+1)=m:=by
    have:=congrArg s9 c;rw [o5] at this;simpa using this
   rcases hc k x m a c o g with ⟨b,h1,q⟩ | h1
   ·rw [UF h1,q];exact u (k+1) n b i (by omega) (by simp at d;omega)
   ·unfold IL;rw [h1];cases F (x::m) k a<;>rfl
 exact e l 0 _ a (by simp) (by omega) (by omega)
theorem rl {α:Type} {l:List α} {k:Nat} (h:k<l.length):S7 (k:Int) (l.length:Int)=true:=by unfold S7;simp;omega
theorem re {α:Type} (l:List α):S7 (l.length:Int) (l.length:Int)=false:=by unfold S7;simp
theorem UJ {α β:Type} {m:Option α} {x:α} {k:α->Option β} {r:Option β} (h:m=some x) (e:k x=r):bd m k=r:=by subst h;exact e
theorem ZX (k:UC):Vj k=some (k.2&&decide (k.1≠[])):=by
 unfold Vj;rw [TU];cases h:k.2 with
 | true=>rw [if_pos rfl,ZA];simp [Hg]
 | false=>rw [if_neg (by simp)];rfl
def Vv (k:UC):Prop:=k.2=true->k.1=[]
theorem nG {k:UC} (h:Vv k):Vj k=some false:=by
 rw [ZX];cases a:k.2 with
 | true=>simp [h a]
 | false=>rfl
theorem UU (l:List Ti) (i:Nat):Vv (kx l i):=by
 unfold kx Vv;split<;>simp
theorem Wr {l:List UC} (h : ∀ k∈l,Vv k) (b:l≠[]) (e:l.length<=32):Vm l=some 0:=by
 unfold Vm;simp only [Tn,Tl];rw [TJ,TL,if_neg (by have:=List.length_pos_iff.2 b;omega),if_neg (by omega)]
 rw [ZN (l:=l) (σ:=Unit) (s:=(0,0)) (λk _=>((0:Int),(k:Int))) (λ_ _ _=>some (1,((0,(l.length:Int)),()))) () rfl (by omega) (λd=>by
  simp only;rw [re];rfl) (λk x m d _ a c => .inl ⟨(),by
   simp only;rw [rl c,Sb,Tf,TB a,nG (h x (bo a)),Sw,R6,Tq a (by omega)],rfl⟩),Sw]
 rfl
theorem YR {α:Type} {l:List α} (h:l.length<=1048576):(gd (CF (AS l) 1048576) λ_=>some l)=some l:=Un h _
theorem bq (p q:UC):Wa [p,q]=some (Tt p q):=by
 have g:w0 p q=(if p.2≠q.2 then q.2 else if p.1≠q.1 then SU p.1 q.1 else true):=rfl
 unfold Wa;simp only [Tn,Tl,List.length_cons,List.length_nil];rw [show SF .i64 2 ((0+1+1:Nat):Int)=4 from rfl,show SJ .i64 4 1=3 from rfl];unfold Tu;rw [show R0 4=λk=>k 4 from rfl];simp only [Un (show 4<=1048576 by omega),YR (show [p,q].length<=1048576 by simp),Sw];rw [show R0 ((0+1+1:Nat):Int)=λk=>k 2 from rfl];simp only [Un (show 2<=1048576 by omega)];have fin : ∀ {w l:Int} {x:Nat×((Int×(List Int×(List UC×(List Int×Int))))×Unit)},x=(0,((0,([0,w,0,1],([p,q],([0,l],0)))),()))->(gd (KJ 1 (AS x.2.1.2.1)) λ_=>ix x.2.1.2.1 1 λd=>some ((x.2.1.2.2.1,(x.2.1.2.2.2.1,d))))=some ([p,q],([0,l],w)):=λe=>by subst e;rfl
 have o : ∀ {f:(Int×(List Int×(List UC×(List Int×Int))))->Option (LR (Int×(List Int×(List UC×(List Int×Int)))) (Nat×((Int×(List Int×(List UC×(List Int×Int))))×Unit)))} {w l:Int},f (3,([0,0,0,0],([p,q],([0,0],0))))=some (.nx (2,([0,0,0,1],([p,q],([0,0],0)))))->f (2,([0,0,0,1],([p,q],([0,0],0))))=some (.nx (1,([0,0,0,1],([p,q],([0,0],0))))) ->
   f (1,([0,0,0,1],([p,q],([0,0],0))))=some (.nx (0,([0,w,0,1],([p,q],([0,l],0)))))->f (0,([0,w,0,1],([p,q],([0,l],0))))=some (.dn (0,((0,([0,w,0,1],([p,q],([0,l],0)))),()))) ->
   loop f (3,([0,0,0,0],([p,q],([0,0],0))))=some (0,((0,([0,w,0,1],([p,q],([0,l],0)))),())):=λa b i j =>
  Uu (n:=4) (by omega) ((UF a).trans ((UF b).trans ((UF i).trans (UP j))))
 have m : ∀ {β:Type} (A B:Option β),w0 p q=true->br (Hg (beq p.2 q.2)) (λ_=>br (Hg q.2) (λ_=>B) λ_=>A) (λ_=>br (Hg (seq p.1 q.1)) (λ_=>br (Hg (SU p.1 q.1)) (λ_=>B) λ_=>A) λ_=>A)=A:=fun {β} A B h=>by
  rw [g] at h;rw [UT (beq p.2 q.2),TU (beq p.2 q.2),UT q.2,TU q.2,UT (seq p.1 q.1),Vx,UT (SU p.1 q.1),Wn];by_cases a:p.2=q.2
  ·rw [if_neg (by simp [a])] at h;rw [if_pos (by simp [Sv.beq,a])];by_cases b:p.1=q.1
   ·rw [if_pos b]
   ·rw [if_neg b];rw [if_pos b] at h;rw [if_pos h]
  ·rw [if_pos a] at h;rw [if_neg (by simp [Sv.beq,a]),if_pos h]
 have c : ∀ {β:Type} (A B:Option β),w0 p q≠true->br (Hg (beq p.2 q.2)) (λ_=>br (Hg q.2) (λ_=>B) λ_=>A) (λ_=>br (Hg (seq p.1 q.1)) (λ_=>br (Hg (SU p.1 q.1)) (λ_=>B) λ_=>A) λ_=>A)=B:=fun {β} A B h=>by
  rw [g] at h;rw [UT (beq p.2 q.2),TU (beq p.2 q.2),UT q.2,TU q.2,UT (seq p.1 q.1),Vx,UT (SU p.1 q.1),Wn];by_cases a:p.2=q.2
  ·rw [if_neg (by simp [a])] at h;rw [if_pos (by simp [Sv.beq,a])];by_cases b:p.1=q.1
   ·rw [if_neg (by simp [b])] at h;exact absurd rfl h
   ·rw [if_neg b];rw [if_pos b] at h;rw [if_neg h]
  ·rw [if_pos a] at h;rw [if_neg (by simp [Sv.beq,a]),if_neg h]
 rw [show Rc 4 (0:Int)=[0,0,0,0] from rfl,show Rc 2 (0:Int)=[0,0] from rfl];by_cases h:w0 p q=true
 ·refine UJ (x:=(0,((0,([0,0,0,1],([p,q],([0,1],0)))),()))) ?_ ?_;refine Uu (n:=4) (by omega) ?_;refine (UF (s':=(2,([0,0,0,1],([p,q],([0,0],0))))) ?_).trans ((UF (s':=(1,([0,0,0,1],([p,q],([0,0],0))))) ?_).trans ((UF (s':=(0,([0,0,0,1],([p,q],([0,1],0))))) ?_).trans (UP ?_)))
  ·rfl
  ·rfl
  ·exact m _ _ h
  ·rfl
  ·show some ([p,q],([0,1],0))=_;unfold Tt;simp [h]
 ·refine UJ (x:=(0,((0,([0,1,0,1],([p,q],([0,0],0)))),()))) ?_ ?_;refine Uu (n:=4) (by omega) ?_;refine (UF (s':=(2,([0,0,0,1],([p,q],([0,0],0))))) ?_).trans ((UF (s':=(1,([0,0,0,1],([p,q],([0,0],0))))) ?_).trans ((UF (s':=(0,([0,1,0,1],([p,q],([0,0],0))))) ?_).trans (UP ?_)))
  ·rfl
  ·rfl
  ·exact c _ _ h
  ·rfl
  ·show some ([p,q],([0,0],1))=_;unfold Tt;simp [h]
theorem ZS {p q:UC} (a:Vv p) (b:Vv q):U6 [p,q]=some (Tt p q,0):=by
 unfold U6;rw [Wr (by simp [a,b]) (by simp) (by simp),Sw,TP,if_pos rfl,bq,Sw]
theorem cf {p q:UC} (c:Vv p) (d:Vv q):Wz (Tt p q)=some (0,0):=by
 unfold Wz;rw [show (Tt p q).1=[p,q] from rfl,Wr (by simp [c,d]) (by simp) (by simp),Sw,TP,if_pos rfl,TP,if_pos (show Ki (AS (Tt p q).2.1)=Ki (AS [p,q]) from rfl),bq,Sw];simp only [Tn,Tl]
 rw [ZN (l:=(Tt p q).2.1) (σ:=Unit) (s:=(0,(0,0))) (λk _=>((0:Int),((k:Int),(0:Int)))) (λ_ _ _=>some (1,((0,(((Tt p q).2.1.length:Int),0)),()))) () rfl (show 2<=9223372036854775807 by omega) (λe=>by
  simp only;rw [re];rfl) (λk x m e _ a b => .inl ⟨(),by
   simp only;rw [rl b,Sb,Tf,TB a,Tf,TB a,TP,if_pos rfl,Tq a (show 2<=9223372036854775807 by omega)],rfl⟩),Sw]
 rw [show neq 1 0=false from rfl,R6,TP,if_pos rfl]
def wn (p q:UC):Nat:=if w0 p q=true then 0 else 1
def wk (p q:UC):UC:=if w0 p q=true then p else q
theorem cR (p q:UC):(Tt p q).2.2=(wn p q:Int):=by unfold Tt wn;split<;>rfl
theorem cQ (p q:UC):(Tt p q).1[wn p q]? = some (wk p q):=by unfold Tt wn wk;split<;>rfl
theorem bn {p q:UC} (a:Vv p) (b:Vv q):WZ (Tt p q)=some (if (wk p q).2=true then 12 else 0):=by
 unfold WZ;rw [cf a b,Sw,TP,if_pos rfl,cR,Tf,TB (cQ p q),TU];split<;>rfl
theorem Xf {p q:UC} (a:Vv p) (b:Vv q):VC (Tt p q)=some (if (wk p q).2=true then (0,([],12)) else ((wn p q:Int),((wk p q).1,0))):=by
 unfold VC;rw [bn a b,Sw,TP,cR,Tf,TB (cQ p q)];by_cases h:(wk p q).2=true<;>simp [h]
def rk (p q k:UC):UC×UC:=if w0 p q=true then (k,q) else (p,k)
theorem iH (p q:UC):US (0,(1,([p,q],())))=some (w0 p q):=by
 unfold US w0;show br (Hg (beq p.2 q.2)) (λ_=>some q.2) (λ_=>br (Hg (seq p.1 q.1)) (λ_=>some (SU p.1 q.1)) λ_=>some (S7 0 1))=_;rw [UT (beq p.2 q.2),TU (beq p.2 q.2),UT (seq p.1 q.1),Vx];by_cases a:p.2=q.2
 ·rw [if_pos (show Sv.beq p.2 q.2=true by simp [Sv.beq,a]),if_neg (show ¬ p.2≠q.2 by simp [a])];by_cases b:p.1=q.1
  ·rw [if_pos b,if_neg (show ¬ p.1≠q.1 by simp [b])];rfl
  ·rw [if_neg b,if_pos b]
 ·rw [if_neg (show ¬ Sv.beq p.2 q.2=true by simp [Sv.beq,a]),if_pos a]
theorem iI (p q:UC):US (1,(0,([p,q],())))=some (!w0 p q):=by
 unfold US w0;show br (Hg (beq q.2 p.2)) (λ_=>some p.2) (λ_=>br (Hg (seq q.1 p.1)) (λ_=>some (SU q.1 p.1)) λ_=>some (S7 1 0))=_;rw [UT (beq q.2 p.2),TU (beq q.2 p.2),UT (seq q.1 p.1),Vx];by_cases b:p.2=q.2
 ·rw [if_pos (show Sv.beq q.2 p.2=true by simp [Sv.beq,b]),if_neg (show ¬ p.2≠q.2 by simp [b])];by_cases a:p.1=q.1
  ·rw [if_pos a.symm,if_neg (show ¬ p.1≠q.1 by simp [a])];rfl
  ·rw [if_neg (show ¬ q.1=p.1 from λe=>a e.symm),if_pos a];cases hs:SU p.1 q.1 with
   | true=>rw [U0 hs];rfl
   | false=>rw [ZB hs a];rfl
 ·rw [if_neg (show ¬ Sv.beq q.2 p.2=true by simp [Sv.beq,Ne.symm b]),if_pos b];cases c:p.2<;>cases d:q.2<;>simp_all
theorem Xn {p q k:UC} (y:Vv p) (z:Vv q) (x:Vv k) (A:(wk p q).2=false) (l:k.2=true\/SU k.1 (wk p q).1=false) :
  ∃ n,U2 (Tt p q,k)=some (Tt (rk p q k).1 (rk p q k).2,(n,0)):=by
 have g:(Tt p q).1.length<=1048576:=by show 2<=_;omega
 have c:(Tt p q).2.1.length<=1048576:=by show 2<=_;omega
 have i:lset (Tt p q).1 (wn p q) k=[(rk p q k).1,(rk p q k).2]:=by unfold Tt wn rk;split<;>rfl
 have d:(Tt p q).2.1=[0,(1-(wn p q:Int))]:=by unfold Tt wn;split<;>rfl
 have o:wn p q=0\/wn p q=1:=by unfold wn;split<;>simp
 have up : ∀ {f:(Int×(Int×(Unit×(List Int×Int))))->Option (LR (Int×(Int×(Unit×(List Int×Int)))) (Nat×((Int×(Int×(Unit×(List Int×Int))))×Unit)))},
   (f=λa=>br (Oa (S8 .i64 a.2.1 2) 0) (λ_=>some (.dn ((0,((a.1,(S8 .i64 a.2.1 2,((),a.2.2.2))),()))))) λ_=>R0 (S8 .i64 a.2.1 2) λu=>gd (KJ u (AS a.2.2.2.1)) λ_=>ix a.2.2.2.1 u λs=>bd (US ((s,(a.2.2.2.2,([(rk p q k).1,(rk p q k).2],()))))) λr=>br r (λ_=>R0 (S8 .i64 a.2.1 2) λj=>gd (KJ j (AS a.2.2.2.1)) λ_=>ix a.2.2.2.1 j λt=>R0 (S8 .i64 a.2.1 2) λe=>gd (KJ e (AS a.2.2.2.1)) λ_=>ix a.2.2.2.1 e λD=>some (.nx ((SE .i64 a.1 1,(S8 .i64 a.2.1 2,((),(lset a.2.2.2.1 e a.2.2.2.2,t))))))) λ_=>some (.nx ((SE .i64 a.1 1,(S8 .i64 a.2.1 2,((),a.2.2.2))))))
   -> loop f (0,((2:Int)+wn p q,((),([0,(1-(wn p q:Int))],(wn p q:Int)))))=some (0,((1,(0,((),(Tt (rk p q k).1 (rk p q k).2).2))),())):=by
  intro f w;subst w;refine Uu (n:=2) (by omega) ((UF (s':=(1,(1,((),(Tt (rk p q k).1 (rk p q k).2).2)))) ?_).trans (UP rfl));rcases o with h | h
  ·rw [h]
   have B:w0 p q=true:=by
    unfold wn at h;by_cases hh:w0 p q=true
    ·exact hh
    ·rw [if_neg hh] at h;cases h
   show bd (US (1,(0,([(rk p q k).1,(rk p q k).2],())))) _=_;rw [iI,Sw];unfold Tt;cases C:w0 (rk p q k).1 (rk p q k).2<;>rfl
  ·rw [h];show bd (US (0,(1,([(rk p q k).1,(rk p q k).2],())))) _=_;rw [iH,Sw];unfold Tt;cases C:w0 (rk p q k).1 (rk p q k).2<;>rfl
 unfold U2;simp only [bn y z,A,Sw,TP,if_true,if_false,iz];rw [Wr (by simp [x]) (by simp) (by simp),Sw];simp only [if_true,UT];rw [TU];unfold Tu UA;simp only [cR,Tf,TB (cQ p q),Un g,Un c,Sw,Wn,S2,Tl,Tn,i];have m:wn p q<(Tt p q).1.length:=by show wn p q<2;omega
 have hi:SE .i64 (([(rk p q k).1,(rk p q k).2].length:Nat):Int) (wn p q:Int)=(2:Int)+wn p q:=by
  rw [Sf (by simp;omega)];rfl
 rw [hi,d];simp only [Tl,S2] at up;have key:=up rfl;rw [if_pos m];by_cases b:k.2=true
 ·rw [if_pos b,key,Sw];exact ⟨_,rfl⟩
 ·rw [if_neg b,if_neg (by rcases l with h | h;exact absurd h b;rw [h];simp),key,Sw]
  exact ⟨_,rfl⟩
end
end Go.Proofs.YtbahicnpiefmlaaGreatDoor.Pl
