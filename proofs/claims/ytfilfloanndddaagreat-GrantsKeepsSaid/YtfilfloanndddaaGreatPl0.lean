/- Functions of the program and of the specification as plain functions, and laws about them. No condition. -/
import Derived.Test.YtfilfloanndddaaGreatPs3
set_option linter.all false
namespace Go.Proofs.YtfilfloanndddaaGreat.Pl
section
open Go Go.Proofs.YtfilfloanndddaaGreat.Sv
set_option linter.unusedVariables false
abbrev S8:=((List UInt8)×((List UInt8)×(Bool×Int)))
abbrev TY:=(Int×(List S8))
abbrev TB:=(Int×(List (List TY)))
abbrev TD:=((List UInt8)×Bool)
abbrev Vc:=((List TD)×((List Int)×Int))
abbrev TC:=((List (List S8))×((List Int)×Vc))
abbrev UI:=(Bool×((List UInt8)×Bool))
abbrev XG:=(TC×(UI×((List S8)×Int)))
abbrev Job:=(Int×XG)
abbrev TA:=(TB×((List Job)×Int))
abbrev fc:=(Int×(Int×(Int×(Int×(Int×(Int×(Int×(Int×(Int×(Int×(Int×Int)))))))))))
def V7 (x:(List UInt8)):Option Int :=
 br (SU (Kb (MW x)) 32) (λ_=>some 3) λ_=>some 0
def UZ (x:S8):Option Int :=
 bd (V7 x.1) λa=>br (RT a 0) (λ_=>some 3) λ_=>br (SU (Kb (MW x.2.1)) 64) (λ_=>some 3) λ_=>br x.2.2.1 (λ_=>br (Hf (seq x.2.1 [])) (λ_=>some 6) λ_=>br (SW x.2.2.2 1) (λ_=>some 7) λ_=>br (SU x.2.2.2 1000000000) (λ_=>some 7) λ_=>some 0) λ_=>br (SW x.2.2.2 1) (λ_=>some 7) λ_=>br (SU x.2.2.2 1000000000) (λ_=>some 7) λ_=>some 0
def Ts (x:(List S8)):Option (Int×Int) :=
 br (SU (Kb (AS x)) 5000) (λ_=>some (((-1),3))) λ_=>bd (loop (λs0=>br (SW s0.2.2 (Kb (AS x))) (λ_=>RX s0.2.2 λd=>ix x d λc=>bd (UZ c) λb=>br (RT b 0) (λ_=>some (.dn ((0,((b,(s0.2.2,s0.2.2)),()))))) λ_=>br (SU s0.2.2 0) (λ_=>RX (Rp .i64 s0.2.2 1) λe=>ix x e λf=>br (Hf (Rz f.1 c.1)) (λ_=>some (.dn ((0,((6,(s0.2.2,s0.2.2)),()))))) λ_=>some (.nx ((s0.1,(s0.2.1,Rl .i64 s0.2.2 1))))) λ_=>some (.nx ((s0.1,(s0.2.1,Rl .i64 s0.2.2 1))))) λ_=>some (.dn ((1,(s0,()))))) ((0,(0,0)))) λa=>br (neq a.1 0) (λ_=>some (a.2.1.2.1,a.2.1.1)) λ_=>some (0,0)
def Wt (x:TY):Option (Int×Int) :=
 br (SW x.1 1) (λ_=>some (((-1),7))) λ_=>br (SU x.1 1000000) (λ_=>some (((-1),7))) λ_=>bd (Ts x.2) λa=>some a
def Uy (x:(TY×Int)):Option Int :=
 bd (Wt x.1) λa=>br (RT a.2 0) (λ_=>some a.2) λ_=>br (RR (Kb (AS x.1.2)) 0) (λ_=>some 4) λ_=>br (SU (Kb (AS x.1.2)) x.2) (λ_=>some 3) λ_=>some 0
def U5 (x:TB):Option (Int×(Int×Int)) :=
 br (SW x.1 1) (λ_=>some ((0,(0,7)))) λ_=>br (SU x.1 16) (λ_=>some ((0,(0,7)))) λ_=>br (SU (Kb (AS x.2)) 12) (λ_=>some ((0,(0,3)))) λ_=>bd (loop (λs0=>br (SW s0.2.2.2.1 (Kb (AS x.2))) (λ_=>RX s0.2.2.2.1 λo=>ix x.2 o λk=>br (SU (Kb (AS k)) 2) (λ_=>some (.dn ((0,((0,(s0.2.2.2.1,(3,s0.2.2.2))),()))))) λ_=>bd (loop (λa=>br (SW a.2.1 (Kb (AS k))) (λ_=>RX a.2.1 λp=>ix k p λe=>gd (RS s0.2.2.2.1 0) λ_=>bd (Uy (e,SZ .i64 x.1 s0.2.2.2.1)) λd=>br (RR d 0) (λ_=>br (Rt (MI ((λl=>(λm=>RR l m))) a.2.2.2 e.1) false) (λ_=>some (.dn ((0,((a.2.1,(a.2.1,(8,a.2.2.2))),()))))) λ_=>br (RT d 0) (λ_=>some (.dn ((0,((a.2.1,(a.2.1,(d,a.2.2.2))),()))))) λ_=>some (.nx ((a.2.1,(Rl .i64 a.2.1 1,(d,IR ((λn=>(λf=>RR n f))) a.2.2.2 e.1 true)))))) λ_=>br (RT d 0) (λ_=>some (.dn ((0,((a.2.1,(a.2.1,(d,a.2.2.2))),()))))) λ_=>some (.nx ((a.2.1,(Rl .i64 a.2.1 1,(d,IR ((λg=>(λh=>RR g h))) a.2.2.2 e.1 true)))))) λ_=>some (.dn ((1,(a,()))))) ((0,(0,(s0.2.2.1,s0.2.2.2.2))))) λb=>br (neq b.1 0) (λ_=>some (.dn ((0,((b.2.1.1,(s0.2.2.2.1,(b.2.1.2.2.1,(s0.2.2.2.1,b.2.1.2.2.2)))),()))))) λ_=>some (.nx ((b.2.1.1,(s0.2.2.2.1,(b.2.1.2.2.1,(Rl .i64 s0.2.2.2.1 1,b.2.1.2.2.2))))))) λ_=>some (.dn ((0,(s0,()))))) ((0,(0,(0,(0,[])))))) λc=>br (RT c.2.1.2.2.1 0) (λ_=>some ((c.2.1.2.1,(c.2.1.1,c.2.1.2.2.1)))) λ_=>br (SU (Kb (AS x.2)) 0) (λ_=>RX (Rp .i64 (Kb (AS x.2)) 1) λi=>ix x.2 i λj=>br (RR (Kb (AS j)) 0) (λ_=>some ((Rp .i64 (Kb (AS x.2)) 1,(0,6)))) λ_=>some ((0,(0,0)))) λ_=>some ((0,(0,0)))
def Vi (x:TB):Option Int :=
 bd (loop (λs0=>br (SW s0.2 (Kb (AS x.2))) (λ_=>RX s0.2 λc=>ix x.2 c λb=>bd (loop (λa=>br (SW a.1 (Kb (AS b))) (λ_=>RX a.1 λd=>ix b d λg=>some (.nx (Rl .i64 a.1 1,S0 a.2 g.1))) λ_=>some (.dn ((0,(a,()))))) (0,s0.1)) λe=>some (.nx (e.2.1.2,Rl .i64 s0.2 1))) λ_=>some (.dn ((0,(s0,()))))) (0,0)) λf=>some f.2.1.1
def Ux (x:(TB×Int)):Option Bool :=
 some (RR x.2 (Rp .i64 (Kb (AS x.1.2)) 1))
def VO (x:(List (List S8))):Option (Int×Int) :=
 br (RR (Kb (AS x)) 0) (λ_=>some (((-1),6))) λ_=>br (SU (Kb (AS x)) 32) (λ_=>some (((-1),3))) λ_=>bd (loop (λs0=>br (SW s0.2.2 (Kb (AS x))) (λ_=>RX s0.2.2 λc=>ix x c λd=>bd (Ts d) λb=>br (RT b.2 0) (λ_=>some (.dn ((0,((b.2,(s0.2.2,s0.2.2)),()))))) λ_=>some (.nx ((s0.1,(s0.2.1,Rl .i64 s0.2.2 1))))) λ_=>some (.dn ((1,(s0,()))))) ((0,(0,0)))) λa=>br (neq a.1 0) (λ_=>some (a.2.1.2.1,a.2.1.1)) λ_=>some (0,0)
def Un (x:Bool):Option (Bool×TD) :=
 some ((false,([],x)))
def TN (x:(List (List S8))):Option (List (List S8)) :=
 gd (CD (AS x) 1048576) λ_=>some x
def Tl (x:((List S8)×Int)):Option TD :=
 br (RR x.2 (Kb (AS x.1))) (λ_=>some ([],true)) λ_=>RX x.2 λa=>ix x.1 a λb=>some (b.1,false)
def VB (x:TD):Option Bool :=
 br x.2 (λ_=>some (Hf (seq x.1 []))) λ_=>some false
def VM (x:(List TD)):Option Int :=
 br (RR (Kb (AS x)) 0) (λ_=>some 6) λ_=>br (SU (Kb (AS x)) 32) (λ_=>some 3) λ_=>bd (loop (λs0=>br (SW s0.2 (Kb (AS x))) (λ_=>RX s0.2 λb=>ix x b λd=>bd (VB d) λc=>br c (λ_=>some (.dn ((0,((s0.2,s0.2),()))))) λ_=>some (.nx (s0.1,Rl .i64 s0.2 1))) λ_=>some (.dn ((1,(s0,()))))) (0,0)) λa=>br (neq a.1 0) (λ_=>br (RS a.2.1.1 0) (λ_=>some 2) λ_=>some 0) λ_=>br (RS (-1) 0) (λ_=>some 2) λ_=>some 0
def TP (x:(List TD)):Option (List TD) :=
 gd (CD (AS x) 1048576) λ_=>some x
def V9 (x:(List TD)):Option Vc :=
 RX (Rm .i64 2 (Kb (AS x))) λS=>RX (Rm .i64 2 (Kb (AS x))) λz=>gd (CD z 1048576) λ_=>bd (TP x) λC=>RX (Kb (AS x)) λU=>RX (Kb (AS x)) λA=>gd (CD A 1048576) λ_=>bd (loop (λa=>br (SU a.1 0) (λ_=>br (RS a.1 (Kb (AS x))) (λ_=>RX a.1 λw=>gd (KC w (AS a.2.1)) λ_=>ix a.2.1 w λW=>some (.nx ((Rp .i64 a.1 1,(lset a.2.1 w (Rp .i64 a.1 (Kb (AS x))),a.2.2))))) λ_=>RX (Rm .i64 2 a.1) λB=>gd (KC B (AS a.2.1)) λ_=>ix a.2.1 B λe=>RX (Rl .i64 (Rm .i64 2 a.1) 1) λs=>gd (KC s (AS a.2.1)) λ_=>ix a.2.1 s λb=>RX e λt=>ix x t λr=>RX b λu=>ix x u λd=>br (Hf (beq r.2 d.2)) (λ_=>br (Hf d.2) (λ_=>RX a.1 λf=>gd (KC f (AS a.2.1)) λ_=>ix a.2.1 f λD=>RX a.1 λg=>gd (KC g (AS a.2.2.2.1)) λ_=>ix a.2.2.2.1 g λE=>some (.nx ((Rp .i64 a.1 1,(lset a.2.1 f b,(a.2.2.1,(lset a.2.2.2.1 g e,a.2.2.2.2))))))) λ_=>RX a.1 λh=>gd (KC h (AS a.2.1)) λ_=>ix a.2.1 h λF=>RX a.1 λi=>gd (KC i (AS a.2.2.2.1)) λ_=>ix a.2.2.2.1 i λG=>some (.nx ((Rp .i64 a.1 1,(lset a.2.1 h e,(a.2.2.1,(lset a.2.2.2.1 i b,a.2.2.2.2))))))) λ_=>br (Hf (seq r.1 d.1)) (λ_=>br (Hf (Rz r.1 d.1)) (λ_=>RX a.1 λj=>gd (KC j (AS a.2.1)) λ_=>ix a.2.1 j λI=>RX a.1 λk=>gd (KC k (AS a.2.2.2.1)) λ_=>ix a.2.2.2.1 k λJ=>some (.nx ((Rp .i64 a.1 1,(lset a.2.1 j b,(a.2.2.1,(lset a.2.2.2.1 k e,a.2.2.2.2))))))) λ_=>RX a.1 λl=>gd (KC l (AS a.2.1)) λ_=>ix a.2.1 l λK=>RX a.1 λm=>gd (KC m (AS a.2.2.2.1)) λ_=>ix a.2.2.2.1 m λL=>some (.nx ((Rp .i64 a.1 1,(lset a.2.1 l e,(a.2.2.1,(lset a.2.2.2.1 m b,a.2.2.2.2))))))) λ_=>br (Hf (SW e b)) (λ_=>RX a.1 λn=>gd (KC n (AS a.2.1)) λ_=>ix a.2.1 n λM=>RX a.1 λo=>gd (KC o (AS a.2.2.2.1)) λ_=>ix a.2.2.2.1 o λN=>some (.nx ((Rp .i64 a.1 1,(lset a.2.1 n b,(a.2.2.1,(lset a.2.2.2.1 o e,a.2.2.2.2))))))) λ_=>RX a.1 λp=>gd (KC p (AS a.2.1)) λ_=>ix a.2.1 p λO=>RX a.1 λq=>gd (KC q (AS a.2.2.2.1)) λ_=>ix a.2.2.2.1 q λP=>some (.nx ((Rp .i64 a.1 1,(lset a.2.1 p e,(a.2.2.1,(lset a.2.2.2.1 q b,a.2.2.2.2))))))) λ_=>some (.dn ((0,(a,()))))) ((Rp .i64 (Rm .i64 2 (Kb (AS x))) 1,(Q8 z 0,(C,(Q8 A 0,(0:Int))))))) λc=>gd (KC 1 (AS c.2.1.2.1)) λ_=>ix c.2.1.2.1 1 λy=>some ((c.2.1.2.2.1,(c.2.1.2.2.2.1,y)))
def Ug (x:(List TD)):Option (Vc×Int) :=
 bd (VM x) λa=>br (RT a 0) (λ_=>some ((([],([],0)),a))) λ_=>bd (V9 x) λb=>some (b,0)
def V1 (x:((List (List S8))×Bool)):Option ((TC×((Bool×TD)×((List S8)×Int)))×(Int×Int)) :=
 bd (VO x.1) λe=>br (RT e.2 0) (λ_=>br (RT e.2 0) (λ_=>some (((([],([],([],([],0)))),((false,([],false)),([],0))),e))) λ_=>bd (Un x.2) λm=>some (((([],([],([],([],0)))),(m,([],0))),(0,0)))) λ_=>RX (Kb (AS x.1)) λq=>RX (Kb (AS x.1)) λd=>gd (CD d 1048576) λ_=>bd (TN x.1) λn=>RX (Kb (AS x.1)) λr=>RX (Kb (AS x.1)) λk=>gd (CD k 1048576) λ_=>bd (loop (λa=>br (SW a.1 (Kb (AS x.1))) (λ_=>RX a.1 λl=>ix x.1 l λp=>RX a.1 λc=>gd (KC c (AS (Q8 d (0:Int)))) λ_=>ix (Q8 d 0) c λj=>bd (Tl (p,j)) λf=>RX a.1 λb=>gd (KC b (AS a.2)) λ_=>ix a.2 b λo=>some (.nx (Rl .i64 a.1 1,lset a.2 b f))) λ_=>some (.dn ((0,(a,()))))) ((0,Q8 k ([],false)))) λg=>bd (Ug g.2.1.2) λh=>bd (Un x.2) λi=>some ((((n,(Q8 d 0,h.1)),(i,([],0))),(0,0)))
def Uf (x:(TB×(Int×Bool))):Option (Int×(TC×((Bool×TD)×((List S8)×Int)))) :=
 RX x.2.1 λb=>ix x.1.2 b λa=>ix a 1 λd=>ix a 0 λe=>bd (V1 ([d.2,e.2],x.2.2)) λc=>some (x.2.1,c.1)
def Wk (x:((List (List S8))×(List Int))):Option Vc :=
 RX (Kb (AS x.1)) λj=>RX (Kb (AS x.1)) λd=>gd (CD d 1048576) λ_=>bd (loop (λs2=>br (SW s2.1 (Kb (AS x.1))) (λ_=>RX s2.1 λe=>ix x.1 e λh=>RX s2.1 λf=>ix x.2 f λi=>bd (Tl (h,i)) λg=>RX s2.1 λa=>gd (KC a (AS s2.2)) λ_=>ix s2.2 a λk=>some (.nx (Rl .i64 s2.1 1,lset s2.2 a g))) λ_=>some (.dn ((0,(s2,()))))) ((0,Q8 d ([],false)))) λb=>bd (Ug b.2.1.2) λc=>some c.1
def TQ (x:((List TD)×(List TD))):Option Bool :=
 br (RT (Kb (AS x.1)) (Kb (AS x.2))) (λ_=>some false) λ_=>bd (loop (λs0=>br (SW s0.1 (Kb (AS x.1))) (λ_=>RX s0.1 λd=>ix x.1 d λb=>RX s0.1 λe=>ix x.2 e λc=>br (Hf (NX (seq b.1 c.1) (NX (beq b.2 c.2) true))) (λ_=>some (.dn ((0,((s0.1,false),()))))) λ_=>some (.nx (Rl .i64 s0.1 1,s0.2))) λ_=>some (.dn ((1,(s0,()))))) (0,false)) λa=>br (neq a.1 0) (λ_=>some a.2.1.2) λ_=>some true
def TK (x:((List Int)×(List Int))):Option Bool :=
 br (RT (Kb (AS x.1)) (Kb (AS x.2))) (λ_=>some false) λ_=>bd (loop (λs0=>br (SW s0.1 (Kb (AS x.1))) (λ_=>RX s0.1 λb=>ix x.1 b λd=>RX s0.1 λc=>ix x.2 c λe=>br (RT d e) (λ_=>some (.dn ((0,((s0.1,false),()))))) λ_=>some (.nx (Rl .i64 s0.1 1,s0.2))) λ_=>some (.dn ((1,(s0,()))))) (0,false)) λa=>br (neq a.1 0) (λ_=>some a.2.1.2) λ_=>some true
def Vm (x:(Vc×Vc)):Option Bool :=
 br (RR x.1.2.2 x.2.2.2) (λ_=>bd (TQ (x.1.1,x.2.1)) λa=>br a (λ_=>bd (TK (x.1.2.1,x.2.2.1)) λb=>some b) λ_=>some false) λ_=>some false
def WO (x:Vc):Option (Int×Int) :=
 bd (VM x.1) λc=>br (RT c 0) (λ_=>some (0,c)) λ_=>br (RT (Kb (AS x.2.1)) (Kb (AS x.1))) (λ_=>some (0,6)) λ_=>bd (V9 x.1) λa=>bd (loop (λs2=>br (SW s2.2.1 (Kb (AS a.2.1))) (λ_=>RX s2.2.1 λd=>ix a.2.1 d λf=>RX s2.2.1 λe=>ix x.2.1 e λg=>br (RT g f) (λ_=>some (.dn ((0,((6,(s2.2.1,s2.2.1)),()))))) λ_=>some (.nx ((s2.1,(Rl .i64 s2.2.1 1,s2.2.2))))) λ_=>some (.dn ((1,(s2,()))))) ((0,(0,0)))) λb=>br (neq b.1 0) (λ_=>some (b.2.1.2.2,b.2.1.1)) λ_=>br (RT x.2.2 a.2.2) (λ_=>some (0,6)) λ_=>some (0,0)
def V8 (x:Vc):Option Int :=
 bd (WO x) λa=>br (RT a.2 0) (λ_=>some a.2) λ_=>RX x.2.2 λb=>ix x.1 b λc=>br c.2 (λ_=>some 12) λ_=>some 0
def Um (x:Vc):Option (Int×((List UInt8)×Int)) :=
 bd (V8 x) λa=>br (RT a 0) (λ_=>some ((0,([],a)))) λ_=>RX x.2.2 λb=>ix x.1 b λc=>some ((x.2.2,(c.1,0)))
def U4 (x:(List UInt8)):Option Bool :=
 some (Hf (seq x x))
def Uj (x:((List UInt8)×(List UInt8))):Option Int :=
 bd (U4 x.1) λb=>bd (U4 x.2) λa=>br b (λ_=>br a (λ_=>some 0) λ_=>some (-1)) λ_=>br a (λ_=>some 1) λ_=>br (Rz x.1 x.2) (λ_=>some (-1)) λ_=>br (Rz x.2 x.1) (λ_=>some 1) λ_=>some 0
def Vh (x:Int):Option Bool :=
 some (RT x x)
def UV (x:(Int×Int)):Option Int :=
 bd (Vh x.1) λb=>bd (Vh x.2) λa=>br b (λ_=>br a (λ_=>some 0) λ_=>some (-1)) λ_=>br a (λ_=>some 1) λ_=>br (SW x.1 x.2) (λ_=>some (-1)) λ_=>br (SU x.1 x.2) (λ_=>some 1) λ_=>some 0
def Wh (x:(List Int)):Option Int :=
 bd (loop (λs0=>br (SW s0.2 (Kb (AS x))) (λ_=>RX s0.2 λc=>ix x c λb=>br (RT b 0) (λ_=>some (.dn ((0,((b,s0.2),()))))) λ_=>some (.nx (s0.1,Rl .i64 s0.2 1))) λ_=>some (.dn ((1,(s0,()))))) (0,0)) λa=>br (neq a.1 0) (λ_=>some a.2.1.1) λ_=>some 0
def VN (x:TC):Option (Int×Int) :=
 bd (VO x.1) λn=>br (RT n.2 0) (λ_=>some n) λ_=>br (RT (Kb (AS x.2.1)) (Kb (AS x.1))) (λ_=>some (((-1),6))) λ_=>bd (loop (λs1=>br (SW s1.2.2 (Kb (AS x.2.1))) (λ_=>RX s1.2.2 λp=>ix x.2.1 p λo=>br (SW o 0) (λ_=>some (.dn ((0,((6,(s1.2.2,s1.2.2)),()))))) λ_=>RX s1.2.2 λq=>ix x.1 q λt=>br (SU o (Kb (AS t))) (λ_=>some (.dn ((0,((6,(s1.2.2,s1.2.2)),()))))) λ_=>some (.nx ((s1.1,(s1.2.1,Rl .i64 s1.2.2 1))))) λ_=>some (.dn ((1,(s1,()))))) ((0,(0,0)))) λe=>br (neq e.1 0) (λ_=>some (e.2.1.2.1,e.2.1.1)) λ_=>bd (Wk (x.1,x.2.1)) λr=>bd (Vm (x.2.2,r)) λs=>br (Hf s) (λ_=>some (((-1),6))) λ_=>bd (Um x.2.2) λc=>br (RT c.2.2 0) (λ_=>some (0,0)) λ_=>bd (loop (λa=>br (SW a.2.2 (Kb (AS x.2.1))) (λ_=>RX a.2.2 λf=>ix x.2.1 f λd=>br (SU d 0) (λ_=>RX a.2.2 λg=>ix x.1 g λl=>RX (Rp .i64 d 1) λh=>ix l h λm=>bd (Uj (m.1,c.2.1)) λi=>bd (UV (a.2.2,c.1)) λj=>bd (Wh ([i,j])) λk=>br (SU k 0) (λ_=>some (.dn ((0,((6,(c.1,a.2.2)),()))))) λ_=>some (.nx ((a.1,(a.2.1,Rl .i64 a.2.2 1))))) λ_=>some (.nx ((a.1,(a.2.1,Rl .i64 a.2.2 1))))) λ_=>some (.dn ((1,(a,()))))) ((c.2.2,(e.2.1.2.1,0)))) λb=>br (neq b.1 0) (λ_=>some (b.2.1.2.1,b.2.1.1)) λ_=>some (0,0)
def TW (x:(List Int)):Option (List Int) :=
 gd (CD (AS x) 1048576) λ_=>some x
def UB (x:(Int×(Int×((List TD)×Unit)))):Option Bool :=
 RX x.1 λc=>ix x.2.2.1 c λb=>RX x.2.1 λd=>ix x.2.2.1 d λa=>br (Hf (beq b.2 a.2)) (λ_=>some a.2) λ_=>br (Hf (seq b.1 a.1)) (λ_=>some (Rz b.1 a.1)) λ_=>some (SW x.1 x.2.1)
def Ua (x:(Vc×TD)):Option (Vc×(Int×Int)) :=
 bd (V8 x.1) λw=>br (RT w 0) (λ_=>some ((([],([],0)),(0,w)))) λ_=>bd (VM [x.2]) λy=>br (RT y 0) (λ_=>some ((([],([],0)),(0,y)))) λ_=>br (Hf x.2.2) (λ_=>RX x.1.2.2 λz=>ix x.1.1 z λE=>br (Rz x.2.1 E.1) (λ_=>some ((([],([],0)),(0,6)))) λ_=>bd (TP x.1.1) λm=>bd (TW x.1.2.1) λA=>RX x.1.2.2 λj=>gd (KC j (AS m)) λ_=>ix m j λF=>bd (loop (λb=>br (RR (SX .i64 b.2.1 2) 0) (λ_=>some (.dn ((0,((b.1,(SX .i64 b.2.1 2,((),b.2.2.2))),()))))) λ_=>RX (SX .i64 b.2.1 2) λu=>gd (KC u (AS b.2.2.2.1)) λ_=>ix b.2.2.2.1 u λq=>bd (UB ((q,(b.2.2.2.2,(lset m j x.2,()))))) λn=>br n (λ_=>RX (SX .i64 b.2.1 2) λg=>gd (KC g (AS b.2.2.2.1)) λ_=>ix b.2.2.2.1 g λr=>RX (SX .i64 b.2.1 2) λe=>gd (KC e (AS b.2.2.2.1)) λ_=>ix b.2.2.2.1 e λB=>some (.nx ((Rl .i64 b.1 1,(SX .i64 b.2.1 2,((),(lset b.2.2.2.1 e b.2.2.2.2,r))))))) λ_=>some (.nx ((Rl .i64 b.1 1,(SX .i64 b.2.1 2,((),b.2.2.2)))))) ((0,(Rl .i64 (Kb (AS (lset m j x.2))) x.1.2.2,((),(A,x.1.2.2)))))) λk=>some (((lset m j x.2,k.2.1.2.2.2),(k.2.1.1,0)))) λ_=>bd (TP x.1.1) λd=>bd (TW x.1.2.1) λo=>RX x.1.2.2 λc=>gd (KC c (AS d)) λ_=>ix d c λC=>bd (loop (λa=>br (RR (SX .i64 a.2.1 2) 0) (λ_=>some (.dn ((0,((a.1,(SX .i64 a.2.1 2,((),a.2.2.2))),()))))) λ_=>RX (SX .i64 a.2.1 2) λh=>gd (KC h (AS a.2.2.2.1)) λ_=>ix a.2.2.2.1 h λs=>bd (UB ((s,(a.2.2.2.2,(lset d c x.2,()))))) λp=>br p (λ_=>RX (SX .i64 a.2.1 2) λi=>gd (KC i (AS a.2.2.2.1)) λ_=>ix a.2.2.2.1 i λt=>RX (SX .i64 a.2.1 2) λf=>gd (KC f (AS a.2.2.2.1)) λ_=>ix a.2.2.2.1 f λD=>some (.nx ((Rl .i64 a.1 1,(SX .i64 a.2.1 2,((),(lset a.2.2.2.1 f a.2.2.2.2,t))))))) λ_=>some (.nx ((Rl .i64 a.1 1,(SX .i64 a.2.1 2,((),a.2.2.2)))))) ((0,(Rl .i64 (Kb (AS (lset d c x.2))) x.1.2.2,((),(o,x.1.2.2)))))) λl=>some (((lset d c x.2,l.2.1.2.2.2),(l.2.1.1,0)))
def XD (x:(List (List S8))):Option ((List S8)×((List Int)×Int)) :=
 bd (VO x) λt=>br (RT t.2 0) (λ_=>br (RT t.2 0) (λ_=>some (([],([],t.2)))) λ_=>bd (loop (λs1=>bd (Um (([],([],0)))) λz=>br (RT z.2.2 0) (λ_=>br (RT z.2.2 0) (λ_=>some (.dn ((0,(s1,()))))) λ_=>gd (CD (BD (AS s1.1) (AS ([(([],([],(false,0))):S8)]))) 1048576) λ_=>gd (CD (BD (AS s1.2) (AS [0])) 1048576) λ_=>none) λ_=>RX z.1 λW=>none) ([],[])) λO=>some ((O.2.1.1,(O.2.1.2,0)))) λ_=>RX (Kb (AS x)) λX=>RX (Kb (AS x)) λq=>gd (CD q 1048576) λ_=>bd (TN x) λh=>RX (Kb (AS x)) λY=>RX (Kb (AS x)) λN=>gd (CD N 1048576) λ_=>bd (loop (λc=>br (SW c.1 (Kb (AS x))) (λ_=>RX c.1 λr=>ix x r λE=>RX c.1 λi=>gd (KC i (AS (Q8 q (0:Int)))) λ_=>ix (Q8 q 0) i λF=>bd (Tl (E,F)) λu=>RX c.1 λe=>gd (KC e (AS c.2)) λ_=>ix c.2 e λP=>some (.nx (Rl .i64 c.1 1,lset c.2 e u))) λ_=>some (.dn ((0,(c,()))))) ((0,Q8 N ([],false)))) λw=>bd (Ug w.2.1.2) λy=>bd (loop (λa=>bd (Um a.2.2.2.2) λb=>br (RT b.2.2 0) (λ_=>br (RT b.2.2 0) (λ_=>some (.dn ((0,((a.1,(a.2.1,((),a.2.2.2))),()))))) λ_=>gd (CD (BD (AS a.1) (AS ([(([],([],(false,0))):S8)]))) 1048576) λ_=>gd (CD (BD (AS a.2.1) (AS [0])) 1048576) λ_=>gd (KC 0 (AS a.2.2.2.1)) λ_=>ix a.2.2.2.1 0 λf=>gd (KC 0 (AS a.2.2.2.1)) λ_=>ix a.2.2.2.1 0 λS=>gd (KC 0 (AS h)) λ_=>ix h 0 λG=>gd (KC 0 (AS (lset a.2.2.2.1 0 (Rl .i64 f 1)))) λ_=>ix (lset a.2.2.2.1 0 (Rl .i64 f 1)) 0 λI=>bd (Tl (G,I)) λA=>bd (Ua (a.2.2.2.2,A)) λB=>some (.nx ((Ik a.1 ([(([],([],(false,0))):S8)]),(Ik a.2.1 [0],((),(lset a.2.2.2.1 0 (Rl .i64 f 1),B.1))))))) λ_=>RX b.1 λj=>gd (KC j (AS h)) λ_=>ix h j λJ=>RX b.1 λk=>gd (KC k (AS a.2.2.2.1)) λ_=>ix a.2.2.2.1 k λK=>RX K λs=>ix J s λp=>gd (CD (BD (AS a.1) (AS [p])) 1048576) λ_=>gd (CD (BD (AS a.2.1) (AS [b.1])) 1048576) λ_=>RX b.1 λl=>gd (KC l (AS a.2.2.2.1)) λ_=>ix a.2.2.2.1 l λg=>RX b.1 λd=>gd (KC d (AS a.2.2.2.1)) λ_=>ix a.2.2.2.1 d λU=>RX b.1 λm=>gd (KC m (AS h)) λ_=>ix h m λL=>RX b.1 λn=>gd (KC n (AS (lset a.2.2.2.1 d (Rl .i64 g 1)))) λ_=>ix (lset a.2.2.2.1 d (Rl .i64 g 1)) n λM=>bd (Tl (L,M)) λC=>bd (Ua (a.2.2.2.2,C)) λD=>some (.nx ((Ik a.1 [p],(Ik a.2.1 [b.1],((),(lset a.2.2.2.1 d (Rl .i64 g 1),D.1))))))) (([],([],((),(Q8 q 0,y.1)))))) λo=>some ((o.2.1.1,(o.2.1.2.1,0)))
def VX (x:(Bool×TD)):Option Int :=
 bd (V7 x.2.1) λa=>br (RT a 0) (λ_=>some a) λ_=>br (Hf x.1) (λ_=>br (Hf (seq x.2.1 [])) (λ_=>some 6) λ_=>some 0) λ_=>some 0
def Td (x:S8):Option S8 :=
 some x
def Vk (x:((List S8)×Bool)):Option ((List S8)×(Int×Int)) :=
 br (SU (Kb (AS x.1)) 20000) (λ_=>some (([],((-1),3)))) λ_=>bd (Un x.2) λn=>bd (loop (λs1=>br (SW s1.2.1 (Kb (AS x.1))) (λ_=>RX s1.2.1 λm=>ix x.1 m λa=>bd (VX s1.2.2.2.1) λg=>br (RT g 0) (λ_=>br (RT g 0) (λ_=>some (.dn ((0,((g,(s1.2.1,(s1.2.1,s1.2.2.2))),()))))) λ_=>some (.nx ((s1.1,(Rl .i64 s1.2.1 1,(s1.2.2.1,((false,([],false)),s1.2.2.2.2))))))) λ_=>bd (UZ a) λh=>br (RT h 0) (λ_=>br (RT h 0) (λ_=>some (.dn ((0,((h,(s1.2.1,(s1.2.1,s1.2.2.2))),()))))) λ_=>some (.nx ((s1.1,(Rl .i64 s1.2.1 1,(s1.2.2.1,((false,([],false)),s1.2.2.2.2))))))) λ_=>br s1.2.2.2.1.1 (λ_=>br (Rz a.1 s1.2.2.2.1.2.1) (λ_=>some (.dn ((0,((6,(s1.2.1,(s1.2.1,s1.2.2.2))),()))))) λ_=>br s1.2.2.2.1.1 (λ_=>br (seq a.1 s1.2.2.2.1.2.1) (λ_=>some (.nx ((s1.1,(Rl .i64 s1.2.1 1,(s1.2.2.1,((true,(a.1,s1.2.2.2.1.2.2)),s1.2.2.2.2))))))) λ_=>br s1.2.2.2.1.2.2 (λ_=>br a.2.2.1 (λ_=>some (.nx ((s1.1,(Rl .i64 s1.2.1 1,(s1.2.2.1,((true,(a.1,s1.2.2.2.1.2.2)),s1.2.2.2.2))))))) λ_=>bd (Td a) λi=>gd (CD (BD (AS s1.2.2.2.2) (AS [i])) 1048576) λ_=>some (.nx ((s1.1,(Rl .i64 s1.2.1 1,(s1.2.2.1,((true,(a.1,s1.2.2.2.1.2.2)),Ik s1.2.2.2.2 [i]))))))) λ_=>bd (Td a) λj=>gd (CD (BD (AS s1.2.2.2.2) (AS [j])) 1048576) λ_=>some (.nx ((s1.1,(Rl .i64 s1.2.1 1,(s1.2.2.1,((true,(a.1,s1.2.2.2.1.2.2)),Ik s1.2.2.2.2 [j]))))))) λ_=>br s1.2.2.2.1.2.2 (λ_=>br a.2.2.1 (λ_=>some (.nx ((s1.1,(Rl .i64 s1.2.1 1,(s1.2.2.1,((true,(a.1,s1.2.2.2.1.2.2)),s1.2.2.2.2))))))) λ_=>bd (Td a) λk=>gd (CD (BD (AS s1.2.2.2.2) (AS [k])) 1048576) λ_=>some (.nx ((s1.1,(Rl .i64 s1.2.1 1,(s1.2.2.1,((true,(a.1,s1.2.2.2.1.2.2)),Ik s1.2.2.2.2 [k]))))))) λ_=>bd (Td a) λl=>gd (CD (BD (AS s1.2.2.2.2) (AS [l])) 1048576) λ_=>some (.nx ((s1.1,(Rl .i64 s1.2.1 1,(s1.2.2.1,((true,(a.1,s1.2.2.2.1.2.2)),Ik s1.2.2.2.2 [l]))))))) λ_=>br s1.2.2.2.1.1 (λ_=>br (seq a.1 s1.2.2.2.1.2.1) (λ_=>some (.nx ((s1.1,(Rl .i64 s1.2.1 1,(s1.2.2.1,((true,(a.1,s1.2.2.2.1.2.2)),s1.2.2.2.2))))))) λ_=>br s1.2.2.2.1.2.2 (λ_=>br a.2.2.1 (λ_=>some (.nx ((s1.1,(Rl .i64 s1.2.1 1,(s1.2.2.1,((true,(a.1,s1.2.2.2.1.2.2)),s1.2.2.2.2))))))) λ_=>bd (Td a) λc=>gd (CD (BD (AS s1.2.2.2.2) (AS [c])) 1048576) λ_=>some (.nx ((s1.1,(Rl .i64 s1.2.1 1,(s1.2.2.1,((true,(a.1,s1.2.2.2.1.2.2)),Ik s1.2.2.2.2 [c]))))))) λ_=>bd (Td a) λd=>gd (CD (BD (AS s1.2.2.2.2) (AS [d])) 1048576) λ_=>some (.nx ((s1.1,(Rl .i64 s1.2.1 1,(s1.2.2.1,((true,(a.1,s1.2.2.2.1.2.2)),Ik s1.2.2.2.2 [d]))))))) λ_=>br s1.2.2.2.1.2.2 (λ_=>br a.2.2.1 (λ_=>some (.nx ((s1.1,(Rl .i64 s1.2.1 1,(s1.2.2.1,((true,(a.1,s1.2.2.2.1.2.2)),s1.2.2.2.2))))))) λ_=>bd (Td a) λe=>gd (CD (BD (AS s1.2.2.2.2) (AS [e])) 1048576) λ_=>some (.nx ((s1.1,(Rl .i64 s1.2.1 1,(s1.2.2.1,((true,(a.1,s1.2.2.2.1.2.2)),Ik s1.2.2.2.2 [e]))))))) λ_=>bd (Td a) λf=>gd (CD (BD (AS s1.2.2.2.2) (AS [f])) 1048576) λ_=>some (.nx ((s1.1,(Rl .i64 s1.2.1 1,(s1.2.2.1,((true,(a.1,s1.2.2.2.1.2.2)),Ik s1.2.2.2.2 [f]))))))) λ_=>some (.dn ((1,(s1,()))))) ((0,(0,(0,(n,[])))))) λb=>br (neq b.1 0) (λ_=>br (RT b.2.1.1 0) (λ_=>some (([],(b.2.1.2.2.1,b.2.1.1)))) λ_=>some ((b.2.1.2.2.2.2,(0,0)))) λ_=>some ((b.2.1.2.2.2.2,(0,0)))
def VY (x:((List S8)×(List S8))):Option Bool :=
 br (RT (Kb (AS x.1)) (Kb (AS x.2))) (λ_=>some false) λ_=>bd (loop (λs0=>br (SW s0.2 (Kb (AS x.1))) (λ_=>RX s0.2 λd=>ix x.1 d λa=>RX s0.2 λe=>ix x.2 e λb=>br (Hf (NX (seq a.1 b.1) (NX (seq a.2.1 b.2.1) (NX (beq a.2.2.1 b.2.2.1) (NX (RR a.2.2.2 b.2.2.2) true))))) (λ_=>some (.dn ((0,((false,s0.2),()))))) λ_=>some (.nx (s0.1,Rl .i64 s0.2 1))) λ_=>some (.dn ((1,(s0,()))))) (false,0)) λc=>br (neq c.1 0) (λ_=>some c.2.1.1) λ_=>some true
def V2 (x:(TC×((Bool×TD)×((List S8)×Int)))):Option Int :=
 bd (VN x.1) λi=>br (RT i.2 0) (λ_=>some i.2) λ_=>bd (loop (λs1=>br (SW s1.1 (Kb (AS x.1.2.1))) (λ_=>RX s1.1 λj=>ix x.1.2.1 j λl=>some (.nx (Rl .i64 s1.1 1,Rl .i64 s1.2 l))) λ_=>some (.dn ((0,(s1,()))))) (0,0)) λa=>br (SU (Kb (AS x.2.2.1)) 20000) (λ_=>some 3) λ_=>br (SU a.2.1.2 20000) (λ_=>some 3) λ_=>br (RT x.2.2.2 a.2.1.2) (λ_=>some 7) λ_=>bd (XD x.1.1) λb=>br (RT b.2.2 0) (λ_=>some b.2.2) λ_=>RX a.2.1.2 λe=>gd (CD e (AS b.1)) λ_=>gd (CD 0 e) λ_=>bd (Vk (Dy b.1 0 e,x.2.1.2.2)) λc=>br (RT c.2.2 0) (λ_=>some c.2.2) λ_=>bd (Un x.2.1.2.2) λd=>br (SU a.2.1.2 0) (λ_=>RX (Rp .i64 a.2.1.2 1) λk=>ix b.1 k λh=>bd (VY (x.2.2.1,c.1)) λf=>br (Hf f) (λ_=>some 6) λ_=>br (Hf (NX (beq x.2.1.1 true) (NX (seq x.2.1.2.1 h.1) (NX (beq x.2.1.2.2 d.2.2) true)))) (λ_=>some 6) λ_=>some 0) λ_=>bd (VY (x.2.2.1,c.1)) λg=>br (Hf g) (λ_=>some 6) λ_=>br (Hf (NX (beq x.2.1.1 d.1) (NX (seq x.2.1.2.1 d.2.1) (NX (beq x.2.1.2.2 d.2.2) true)))) (λ_=>some 6) λ_=>some 0
def Wj (x:TC):Option (Int×Int) :=
 bd (VN x) λa=>br (RT a.2 0) (λ_=>some (0,a.2)) λ_=>bd (loop (λs1=>br (SW s1.1 (Kb (AS x.1))) (λ_=>RX s1.1 λb=>ix x.1 b λe=>RX s1.1 λc=>ix x.2.1 c λf=>some (.nx ((Rl .i64 s1.1 1,Rl .i64 s1.2 (Rp .i64 (Kb (AS e)) f))))) λ_=>some (.dn ((0,(s1,()))))) (0,0)) λd=>some (d.2.1.2,0)
def UD (x:(TC×((Bool×TD)×((List S8)×Int)))):Option (Int×Int) :=
 bd (V2 x) λa=>br (RT a 0) (λ_=>some (0,a)) λ_=>bd (Wj x.1) λb=>some b
def UQ (x:TC):Option (S8×(Int×(TC×Int))) :=
 bd (VN x) λl=>br (RT l.2 0) (λ_=>br (RT l.2 0) (λ_=>some (((([],([],(false,0))):S8),(0,(([],([],([],([],0)))),l.2))))) λ_=>none) λ_=>bd (TN x.1) λd=>bd (TW x.2.1) λa=>bd (Um x.2.2) λc=>br (RT c.2.2 0) (λ_=>br (RT c.2.2 0) (λ_=>some (((([],([],(false,0))):S8),(0,(([],([],([],([],0)))),c.2.2))))) λ_=>gd (KC 0 (AS a)) λ_=>ix a 0 λt=>gd (KC 0 (AS a)) λ_=>ix a 0 λB=>gd (KC 0 (AS d)) λ_=>ix d 0 λz=>gd (KC 0 (AS (lset a 0 (Rl .i64 t 1)))) λ_=>ix (lset a 0 (Rl .i64 t 1)) 0 λA=>bd (Tl (z,A)) λu=>bd (Ua (x.2.2,u)) λw=>some (((([],([],(false,0))):S8),(0,((d,(lset a 0 (Rl .i64 t 1),w.1)),0))))) λ_=>RX c.1 λf=>gd (KC f (AS d)) λ_=>ix d f λo=>RX c.1 λg=>gd (KC g (AS a)) λ_=>ix a g λp=>RX p λk=>ix o k λq=>RX c.1 λh=>gd (KC h (AS a)) λ_=>ix a h λe=>RX c.1 λb=>gd (KC b (AS a)) λ_=>ix a b λy=>RX c.1 λi=>gd (KC i (AS d)) λ_=>ix d i λr=>RX c.1 λj=>gd (KC j (AS (lset a b (Rl .i64 e 1)))) λ_=>ix (lset a b (Rl .i64 e 1)) j λs=>bd (Tl (r,s)) λm=>bd (Ua (x.2.2,m)) λn=>some ((q,(c.1,((d,(lset a b (Rl .i64 e 1),n.1)),0))))
def UU (x:((Bool×TD)×S8)):Option (Bool×((Bool×TD)×Int)) :=
 bd (VX x.1) λa=>br (RT a 0) (λ_=>some ((false,((false,([],false)),a)))) λ_=>bd (UZ x.2) λb=>br (RT b 0) (λ_=>some ((false,((false,([],false)),b)))) λ_=>br x.1.1 (λ_=>br (Rz x.2.1 x.1.2.1) (λ_=>some ((false,((false,([],false)),6)))) λ_=>br x.1.1 (λ_=>br (seq x.2.1 x.1.2.1) (λ_=>some ((false,((true,(x.2.1,x.1.2.2)),0)))) λ_=>br x.1.2.2 (λ_=>br x.2.2.2.1 (λ_=>some ((false,((true,(x.2.1,x.1.2.2)),0)))) λ_=>some ((true,((true,(x.2.1,x.1.2.2)),0)))) λ_=>some ((true,((true,(x.2.1,x.1.2.2)),0)))) λ_=>br x.1.2.2 (λ_=>br x.2.2.2.1 (λ_=>some ((false,((true,(x.2.1,x.1.2.2)),0)))) λ_=>some ((true,((true,(x.2.1,x.1.2.2)),0)))) λ_=>some ((true,((true,(x.2.1,x.1.2.2)),0)))) λ_=>br x.1.1 (λ_=>br (seq x.2.1 x.1.2.1) (λ_=>some ((false,((true,(x.2.1,x.1.2.2)),0)))) λ_=>br x.1.2.2 (λ_=>br x.2.2.2.1 (λ_=>some ((false,((true,(x.2.1,x.1.2.2)),0)))) λ_=>some ((true,((true,(x.2.1,x.1.2.2)),0)))) λ_=>some ((true,((true,(x.2.1,x.1.2.2)),0)))) λ_=>br x.1.2.2 (λ_=>br x.2.2.2.1 (λ_=>some ((false,((true,(x.2.1,x.1.2.2)),0)))) λ_=>some ((true,((true,(x.2.1,x.1.2.2)),0)))) λ_=>some ((true,((true,(x.2.1,x.1.2.2)),0)))
def UO (x:((TC×((Bool×TD)×((List S8)×Int)))×Int)):Option ((TC×((Bool×TD)×((List S8)×Int)))×(Int×Int)) :=
 bd (UD x.1) λh=>br (RT h.2 0) (λ_=>some (((([],([],([],([],0)))),((false,([],false)),([],0))),(0,h.2)))) λ_=>br (SW x.2 0) (λ_=>some (((([],([],([],([],0)))),((false,([],false)),([],0))),(0,7)))) λ_=>br (SU (Rl .i64 x.1.2.2.2 (Sz x.2 h.1)) 20000) (λ_=>some (((([],([],([],([],0)))),((false,([],false)),([],0))),(0,3)))) λ_=>gd (CD (AS x.1.2.2.1) 1048576) λ_=>gd (CD (AS x.1.1.2.1) 1048576) λ_=>br (SW 0 (Sz x.2 h.1)) (λ_=>bd (UQ x.1.1) λe=>br (RT e.2.2.2 0) (λ_=>br (RT e.2.2.2 0) (λ_=>br (RT e.2.2.2 0) (λ_=>some (((([],([],([],([],0)))),((false,([],false)),([],0))),(0,e.2.2.2)))) λ_=>some ((x.1,(Sz x.2 h.1,0)))) λ_=>none) λ_=>bd (UU (x.1.2.1,e.1)) λi=>br (RT i.2.2 0) (λ_=>br (RT i.2.2 0) (λ_=>br (RT i.2.2 0) (λ_=>some (((([],([],([],([],0)))),((false,([],false)),([],0))),(0,i.2.2)))) λ_=>some ((x.1,(Sz x.2 h.1,0)))) λ_=>none) λ_=>br i.1 (λ_=>gd (CD (BD (AS x.1.2.2.1) (AS [e.1])) 1048576) λ_=>bd (loop (λb=>br (SW b.1 (Sz x.2 h.1)) (λ_=>bd (UQ ((b.2.2.1,(b.2.2.2.1,(b.2.2.2.2.1,(b.2.2.2.2.2.1,b.2.2.2.2.2.2.1)))))) λf=>br (RT f.2.2.2 0) (λ_=>br (RT f.2.2.2 0) (λ_=>some (.dn ((0,((b.1,(f.2.2.2,b.2.2)),()))))) λ_=>some (.nx (Rl .i64 b.1 1,b.2))) λ_=>bd (UU (((b.2.2.2.2.2.2.2.1,(b.2.2.2.2.2.2.2.2.1,b.2.2.2.2.2.2.2.2.2.1)),f.1))) λj=>br (RT j.2.2 0) (λ_=>br (RT j.2.2 0) (λ_=>some (.dn ((0,((b.1,(j.2.2,b.2.2)),()))))) λ_=>some (.nx (Rl .i64 b.1 1,b.2))) λ_=>br j.1 (λ_=>gd (CD (BD (AS b.2.2.2.2.2.2.2.2.2.2.1) (AS [f.1])) 1048576) λ_=>some (.nx ((Rl .i64 b.1 1,(b.2.1,(f.2.2.1.1,(f.2.2.1.2.1,(f.2.2.1.2.2.1,(f.2.2.1.2.2.2.1,(f.2.2.1.2.2.2.2,(j.2.1.1,(j.2.1.2.1,(j.2.1.2.2,(Ik b.2.2.2.2.2.2.2.2.2.2.1 [f.1],Rl .i64 b.2.2.2.2.2.2.2.2.2.2.2 1)))))))))))))) λ_=>some (.nx ((Rl .i64 b.1 1,(b.2.1,(f.2.2.1.1,(f.2.2.1.2.1,(f.2.2.1.2.2.1,(f.2.2.1.2.2.2.1,(f.2.2.1.2.2.2.2,(j.2.1.1,(j.2.1.2.1,(j.2.1.2.2,(b.2.2.2.2.2.2.2.2.2.2.1,Rl .i64 b.2.2.2.2.2.2.2.2.2.2.2 1)))))))))))))) λ_=>some (.dn ((1,(b,()))))) ((1,(0,(e.2.2.1.1,(e.2.2.1.2.1,(e.2.2.1.2.2.1,(e.2.2.1.2.2.2.1,(e.2.2.1.2.2.2.2,(i.2.1.1,(i.2.1.2.1,(i.2.1.2.2,(Ik x.1.2.2.1 [e.1],Rl .i64 x.1.2.2.2 1))))))))))))) λd=>br (neq d.1 0) (λ_=>br (RT d.2.1.2.1 0) (λ_=>some (((([],([],([],([],0)))),((false,([],false)),([],0))),(0,d.2.1.2.1)))) λ_=>some ((((d.2.1.2.2.1,(d.2.1.2.2.2.1,(d.2.1.2.2.2.2.1,(d.2.1.2.2.2.2.2.1,d.2.1.2.2.2.2.2.2.1)))),((d.2.1.2.2.2.2.2.2.2.1,(d.2.1.2.2.2.2.2.2.2.2.1,d.2.1.2.2.2.2.2.2.2.2.2.1)),d.2.1.2.2.2.2.2.2.2.2.2.2)),(Sz x.2 h.1,0)))) λ_=>some ((((d.2.1.2.2.1,(d.2.1.2.2.2.1,(d.2.1.2.2.2.2.1,(d.2.1.2.2.2.2.2.1,d.2.1.2.2.2.2.2.2.1)))),((d.2.1.2.2.2.2.2.2.2.1,(d.2.1.2.2.2.2.2.2.2.2.1,d.2.1.2.2.2.2.2.2.2.2.2.1)),d.2.1.2.2.2.2.2.2.2.2.2.2)),(Sz x.2 h.1,0)))) λ_=>bd (loop (λc=>br (SW c.1 (Sz x.2 h.1)) (λ_=>bd (UQ ((c.2.2.1,(c.2.2.2.1,(c.2.2.2.2.1,(c.2.2.2.2.2.1,c.2.2.2.2.2.2.1)))))) λg=>br (RT g.2.2.2 0) (λ_=>br (RT g.2.2.2 0) (λ_=>some (.dn ((0,((c.1,(g.2.2.2,c.2.2)),()))))) λ_=>some (.nx (Rl .i64 c.1 1,c.2))) λ_=>bd (UU (((c.2.2.2.2.2.2.2.1,(c.2.2.2.2.2.2.2.2.1,c.2.2.2.2.2.2.2.2.2.1)),g.1))) λk=>br (RT k.2.2 0) (λ_=>br (RT k.2.2 0) (λ_=>some (.dn ((0,((c.1,(k.2.2,c.2.2)),()))))) λ_=>some (.nx (Rl .i64 c.1 1,c.2))) λ_=>br k.1 (λ_=>gd (CD (BD (AS c.2.2.2.2.2.2.2.2.2.2.1) (AS [g.1])) 1048576) λ_=>some (.nx ((Rl .i64 c.1 1,(c.2.1,(g.2.2.1.1,(g.2.2.1.2.1,(g.2.2.1.2.2.1,(g.2.2.1.2.2.2.1,(g.2.2.1.2.2.2.2,(k.2.1.1,(k.2.1.2.1,(k.2.1.2.2,(Ik c.2.2.2.2.2.2.2.2.2.2.1 [g.1],Rl .i64 c.2.2.2.2.2.2.2.2.2.2.2 1)))))))))))))) λ_=>some (.nx ((Rl .i64 c.1 1,(c.2.1,(g.2.2.1.1,(g.2.2.1.2.1,(g.2.2.1.2.2.1,(g.2.2.1.2.2.2.1,(g.2.2.1.2.2.2.2,(k.2.1.1,(k.2.1.2.1,(k.2.1.2.2,(c.2.2.2.2.2.2.2.2.2.2.1,Rl .i64 c.2.2.2.2.2.2.2.2.2.2.2 1)))))))))))))) λ_=>some (.dn ((1,(c,()))))) ((1,(0,(e.2.2.1.1,(e.2.2.1.2.1,(e.2.2.1.2.2.1,(e.2.2.1.2.2.2.1,(e.2.2.1.2.2.2.2,(i.2.1.1,(i.2.1.2.1,(i.2.1.2.2,(x.1.2.2.1,Rl .i64 x.1.2.2.2 1))))))))))))) λa=>br (neq a.1 0) (λ_=>br (RT a.2.1.2.1 0) (λ_=>some (((([],([],([],([],0)))),((false,([],false)),([],0))),(0,a.2.1.2.1)))) λ_=>some ((((a.2.1.2.2.1,(a.2.1.2.2.2.1,(a.2.1.2.2.2.2.1,(a.2.1.2.2.2.2.2.1,a.2.1.2.2.2.2.2.2.1)))),((a.2.1.2.2.2.2.2.2.2.1,(a.2.1.2.2.2.2.2.2.2.2.1,a.2.1.2.2.2.2.2.2.2.2.2.1)),a.2.1.2.2.2.2.2.2.2.2.2.2)),(Sz x.2 h.1,0)))) λ_=>some ((((a.2.1.2.2.1,(a.2.1.2.2.2.1,(a.2.1.2.2.2.2.1,(a.2.1.2.2.2.2.2.1,a.2.1.2.2.2.2.2.2.1)))),((a.2.1.2.2.2.2.2.2.2.1,(a.2.1.2.2.2.2.2.2.2.2.1,a.2.1.2.2.2.2.2.2.2.2.2.1)),a.2.1.2.2.2.2.2.2.2.2.2.2)),(Sz x.2 h.1,0)))) λ_=>some ((x.1,(Sz x.2 h.1,0)))
def Tf (x:((List S8)×(List S8))):Option Bool :=
 br (RT (Kb (AS x.1)) (Kb (AS x.2))) (λ_=>some false) λ_=>bd (loop (λs0=>br (SW s0.1 (Kb (AS x.1))) (λ_=>RX s0.1 λd=>ix x.1 d λa=>RX s0.1 λe=>ix x.2 e λb=>br (Hf (NX (seq a.1 b.1) (NX (seq a.2.1 b.2.1) (NX (beq a.2.2.1 b.2.2.1) (NX (RR a.2.2.2 b.2.2.2) true))))) (λ_=>some (.dn ((0,((s0.1,false),()))))) λ_=>some (.nx (Rl .i64 s0.1 1,s0.2))) λ_=>some (.dn ((1,(s0,()))))) (0,false)) λc=>br (neq c.1 0) (λ_=>some c.2.1.2) λ_=>some true
def UH (x:((List S8)×(List S8))):Option Bool :=
 bd (Tf x) λa=>some a
def VD (x:((TC×((Bool×TD)×((List S8)×Int)))×(TC×((Bool×TD)×((List S8)×Int))))):Option Bool :=
 br (RT (Kb (AS x.1.1.1)) (Kb (AS x.2.1.1))) (λ_=>some false) λ_=>bd (loop (λs0=>br (SW s0.1 (Kb (AS x.1.1.1))) (λ_=>RX s0.1 λg=>ix x.1.1.1 g λm=>RX s0.1 λh=>ix x.2.1.1 h λn=>bd (UH (m,n)) λi=>br (Hf i) (λ_=>some (.dn ((0,((s0.1,false),()))))) λ_=>some (.nx (Rl .i64 s0.1 1,s0.2))) λ_=>some (.dn ((1,(s0,()))))) (0,false)) λf=>br (neq f.1 0) (λ_=>br f.2.1.2 (λ_=>bd (TK (x.1.1.2.1,x.2.1.2.1)) λj=>br j (λ_=>bd (TQ (x.1.1.2.2.1,x.2.1.2.2.1)) λk=>br k (λ_=>bd (TK (x.1.1.2.2.2.1,x.2.1.2.2.2.1)) λl=>br l (λ_=>br (RR x.1.1.2.2.2.2 x.2.1.2.2.2.2) (λ_=>br (NX (beq x.1.2.1.1 x.2.2.1.1) (NX (seq x.1.2.1.2.1 x.2.2.1.2.1) (NX (beq x.1.2.1.2.2 x.2.2.1.2.2) true))) (λ_=>bd (UH (x.1.2.2.1,x.2.2.2.1)) λa=>br a (λ_=>some (RR x.1.2.2.2 x.2.2.2.2)) λ_=>some false) λ_=>some false) λ_=>some false) λ_=>some false) λ_=>some false) λ_=>some false) λ_=>some false) λ_=>bd (TK (x.1.1.2.1,x.2.1.2.1)) λb=>br b (λ_=>bd (TQ (x.1.1.2.2.1,x.2.1.2.2.1)) λc=>br c (λ_=>bd (TK (x.1.1.2.2.2.1,x.2.1.2.2.2.1)) λd=>br d (λ_=>br (RR x.1.1.2.2.2.2 x.2.1.2.2.2.2) (λ_=>br (NX (beq x.1.2.1.1 x.2.2.1.1) (NX (seq x.1.2.1.2.1 x.2.2.1.2.1) (NX (beq x.1.2.1.2.2 x.2.2.1.2.2) true))) (λ_=>bd (UH (x.1.2.2.1,x.2.2.2.1)) λe=>br e (λ_=>some (RR x.1.2.2.2 x.2.2.2.2)) λ_=>some false) λ_=>some false) λ_=>some false) λ_=>some false) λ_=>some false) λ_=>some false
def UP (x:(TB×((List (Int×(TC×((Bool×TD)×((List S8)×Int)))))×Int))):Option (Int×Int) :=
 bd (U5 x.1) λg=>br (RT g.2.2 0) (λ_=>some (((-1),g.2.2))) λ_=>br (SW x.2.2 1) (λ_=>some (((-1),7))) λ_=>br (SU x.2.2 1000001) (λ_=>some (((-1),7))) λ_=>bd (Vi x.1) λs=>br (SV x.2.2 s) (λ_=>some (((-1),6))) λ_=>bd (loop (λs2=>br (SW s2.1 (Kb (AS x.1.2))) (λ_=>RX s2.1 λq=>ix x.1.2 q λt=>br (RR (Kb (AS t)) 2) (λ_=>gd (CD (BD (AS s2.2) (AS [s2.1])) 1048576) λ_=>some (.nx (Rl .i64 s2.1 1,Ik s2.2 [s2.1]))) λ_=>some (.nx (Rl .i64 s2.1 1,s2.2))) λ_=>some (.dn ((0,(s2,()))))) (0,[])) λf=>bd (loop (λa=>br (SW a.2.2 (Kb (AS x.2.1))) (λ_=>RX a.2.2 λr=>ix x.2.1 r λb=>br (RS a.2.2 (Kb (AS f.2.1.2))) (λ_=>some (.dn ((0,((6,(a.2.2,a.2.2)),()))))) λ_=>RX a.2.2 λp=>gd (KC p (AS f.2.1.2)) λ_=>ix f.2.1.2 p λo=>br (RT b.1 o) (λ_=>some (.dn ((0,((6,(a.2.2,a.2.2)),()))))) λ_=>br b.2.2.1.2.2 (λ_=>bd (Ux (x.1,b.1)) λh=>br (Hf h) (λ_=>some (.dn ((0,((6,(a.2.2,a.2.2)),()))))) λ_=>bd (Uf ((x.1,(b.1,b.2.2.1.2.2)))) λd=>bd (UD d.2) λi=>br (SW b.2.2.2.2 0) (λ_=>some (.dn ((0,((6,(a.2.2,a.2.2)),()))))) λ_=>br (SU b.2.2.2.2 i.1) (λ_=>some (.dn ((0,((6,(a.2.2,a.2.2)),()))))) λ_=>bd (UO (d.2,b.2.2.2.2)) λj=>bd (VD (j.1,b.2)) λk=>br (Hf k) (λ_=>some (.dn ((0,((6,(a.2.2,a.2.2)),()))))) λ_=>some (.nx ((a.1,(a.2.1,Rl .i64 a.2.2 1))))) λ_=>bd (Uf ((x.1,(b.1,b.2.2.1.2.2)))) λe=>bd (UD e.2) λl=>br (SW b.2.2.2.2 0) (λ_=>some (.dn ((0,((6,(a.2.2,a.2.2)),()))))) λ_=>br (SU b.2.2.2.2 l.1) (λ_=>some (.dn ((0,((6,(a.2.2,a.2.2)),()))))) λ_=>bd (UO (e.2,b.2.2.2.2)) λm=>bd (VD (m.1,b.2)) λn=>br (Hf n) (λ_=>some (.dn ((0,((6,(a.2.2,a.2.2)),()))))) λ_=>some (.nx ((a.1,(a.2.1,Rl .i64 a.2.2 1))))) λ_=>some (.dn ((1,(a,()))))) ((g.2.2,(0,0)))) λc=>br (neq c.1 0) (λ_=>some (c.2.1.2.1,c.2.1.1)) λ_=>br (SW (Kb (AS x.2.1)) (Kb (AS f.2.1.2))) (λ_=>some (((-1),4))) λ_=>some (0,0)
end
section
open Go Go.Proofs.YtfilfloanndddaaGreat.Sv
set_option linter.unusedVariables false
def VF (x:(Int×Int)):Option Int :=
 bd (loop (λs0=>br (SW s0.2 x.2) (λ_=>some (.nx (Rm .i64 2 s0.1,Rl .i64 s0.2 1))) λ_=>some (.dn ((0,(s0,()))))) (x.1,0)) λa=>some a.2.1.1
def VP (x:S8):Option Int :=
 br (SU (Kb (MW x.1)) 32) (λ_=>some 3) λ_=>br (SU (Kb (MW x.2.1)) 64) (λ_=>some 3) λ_=>br x.2.2.1 (λ_=>br (Hf (seq x.2.1 [])) (λ_=>some 6) λ_=>br (SW x.2.2.2 1) (λ_=>some 7) λ_=>br (SU x.2.2.2 1000000000) (λ_=>some 7) λ_=>some 0) λ_=>br (SW x.2.2.2 1) (λ_=>some 7) λ_=>br (SU x.2.2.2 1000000000) (λ_=>some 7) λ_=>some 0
def Vy (x:((List UInt8)×(List UInt8))):Option Int :=
 bd (loop (λs0=>br (SW s0 (Kb (MW x.1))) (λ_=>br (SW s0 (Kb (MW x.2))) (λ_=>RX s0 λa=>ix x.1 a λd=>RX s0 λb=>ix x.2 b λe=>br (RR (S4 d) (S4 e)) (λ_=>some (.nx (Rl .i64 s0 1))) λ_=>some (.dn ((0,(s0,()))))) λ_=>some (.dn ((0,(s0,()))))) λ_=>some (.dn ((0,(s0,()))))) 0) λc=>some c.2.1
def Vn (x:((List UInt8)×(List UInt8))):Option Int :=
 bd (Vy x) λa=>br (RR a (Kb (MW x.1))) (λ_=>br (RR a (Kb (MW x.2))) (λ_=>some 0) λ_=>br (RR a (Kb (MW x.1))) (λ_=>some (-1)) λ_=>br (SW a (Kb (MW x.2))) (λ_=>RX a λb=>ix x.1 b λf=>RX a λc=>ix x.2 c λg=>br (SW (S4 f) (S4 g)) (λ_=>some (-1)) λ_=>some 1) λ_=>some 1) λ_=>br (RR a (Kb (MW x.1))) (λ_=>some (-1)) λ_=>br (SW a (Kb (MW x.2))) (λ_=>RX a λd=>ix x.1 d λh=>RX a λe=>ix x.2 e λi=>br (SW (S4 h) (S4 i)) (λ_=>some (-1)) λ_=>some 1) λ_=>some 1
def Ur (x:(List S8)):Option (Int×Int) :=
 br (SU (Kb (AS x)) 5000) (λ_=>some (((-1),3))) λ_=>bd (loop (λs0=>br (SW s0.2.2 (Kb (AS x))) (λ_=>RX s0.2.2 λc=>ix x c λg=>bd (VP g) λa=>br (RR a 0) (λ_=>br (SU s0.2.2 0) (λ_=>RX (Rp .i64 s0.2.2 1) λd=>ix x d λh=>RX s0.2.2 λe=>ix x e λi=>bd (Vn (h.1,i.1)) λf=>br (RS f 0) (λ_=>some (.dn ((0,((6,(s0.2.2,s0.2.2)),()))))) λ_=>br (RT a 0) (λ_=>some (.dn ((0,((a,(s0.2.2,s0.2.2)),()))))) λ_=>some (.nx ((s0.1,(s0.2.1,Rl .i64 s0.2.2 1))))) λ_=>br (RT a 0) (λ_=>some (.dn ((0,((a,(s0.2.2,s0.2.2)),()))))) λ_=>some (.nx ((s0.1,(s0.2.1,Rl .i64 s0.2.2 1))))) λ_=>br (RT a 0) (λ_=>some (.dn ((0,((a,(s0.2.2,s0.2.2)),()))))) λ_=>some (.nx ((s0.1,(s0.2.1,Rl .i64 s0.2.2 1))))) λ_=>some (.dn ((1,(s0,()))))) ((0,(0,0)))) λb=>br (neq b.1 0) (λ_=>some (b.2.1.2.1,b.2.1.1)) λ_=>some (0,0)
def WP (x:TY):Option (Int×Int) :=
 br (SW x.1 1) (λ_=>some (((-1),7))) λ_=>br (SU x.1 1000000) (λ_=>some (((-1),7))) λ_=>bd (Ur x.2) λa=>some a
def Vf (x:(TY×(Int×(List Int)))):Option Int :=
 bd (WP x.1) λa=>br (RT a.2 0) (λ_=>some a.2) λ_=>br (RR (Kb (AS x.1.2)) 0) (λ_=>some 4) λ_=>br (SU (Kb (AS x.1.2)) x.2.1) (λ_=>some 3) λ_=>bd (loop (λs1=>br (SW s1.1 (Kb (AS x.2.2))) (λ_=>RX s1.1 λc=>ix x.2.2 c λd=>br (RR d x.1.1) (λ_=>some (.dn ((0,((s1.1,8),()))))) λ_=>some (.nx (Rl .i64 s1.1 1,s1.2))) λ_=>some (.dn ((1,(s1,()))))) (0,0)) λb=>br (neq b.1 0) (λ_=>some b.2.1.2) λ_=>some 0
def Uh (x:TB):Option (Int×(Int×Int)) :=
 br (SW x.1 1) (λ_=>some ((0,(0,7)))) λ_=>br (SU x.1 16) (λ_=>some ((0,(0,7)))) λ_=>br (SU (Kb (AS x.2)) 12) (λ_=>some ((0,(0,3)))) λ_=>bd (loop (λ(s0:(Int×((List Int)×(Int×(Int×Int)))))=>br (SW s0.2.2.2.2 (Kb (AS x.2))) (λ_=>RX s0.2.2.2.2 λi=>ix x.2 i λd=>br (SU (Kb (AS d)) 2) (λ_=>some (.dn ((0,((0,(s0.2.1,(s0.2.2.2.2,(3,s0.2.2.2.2)))),()))))) λ_=>bd (loop (λ(b:(Int×((List Int)×(Int×(Int×Int)))))=>br (SW b.2.2.2.2 (Kb (AS d))) (λ_=>RX b.2.2.2.2 λj=>ix d j λm=>bd (VF (x.1,s0.2.2.2.2)) λl=>bd (Vf ((m,(l,b.2.1)))) λg=>br (RT g 0) (λ_=>some (.dn ((0,((b.2.2.2.2,(b.2.1,(s0.2.2.2.2,(g,b.2.2.2.2)))),()))))) λ_=>RX b.2.2.2.2 λk=>ix d k λh=>gd (CD (BD (AS b.2.1) (AS [h.1])) 1048576) λ_=>some (.nx ((b.1,(Ik b.2.1 [h.1],(b.2.2.1,(b.2.2.2.1,Rl .i64 b.2.2.2.2 1))))))) λ_=>some (.dn ((1,(b,()))))) ((s0.1,(s0.2.1,(s0.2.2.1,(s0.2.2.2.1,0)))))) λa=>br (neq a.1 0) (λ_=>some (.dn ((0,((a.2.1.1,(a.2.1.2.1,(a.2.1.2.2.1,(a.2.1.2.2.2.1,s0.2.2.2.2)))),()))))) λ_=>some (.nx ((a.2.1.1,(a.2.1.2.1,(a.2.1.2.2.1,(a.2.1.2.2.2.1,Rl .i64 s0.2.2.2.2 1))))))) λ_=>some (.dn ((1,(s0,()))))) ((0,([],(0,(0,0)))))) λc=>br (neq c.1 0) (λ_=>some ((c.2.1.2.2.1,(c.2.1.1,c.2.1.2.2.2.1)))) λ_=>br (SU (Kb (AS x.2)) 0) (λ_=>RX (Rp .i64 (Kb (AS x.2)) 1) λe=>ix x.2 e λf=>br (RR (Kb (AS f)) 0) (λ_=>some ((Rp .i64 (Kb (AS x.2)) 1,(0,6)))) λ_=>some ((0,(0,0)))) λ_=>some ((0,(0,0)))
def VW (x:TB):Option ((List TY)×Int) :=
 bd (Uh x) λc=>br (RT c.2.2 0) (λ_=>some ([],c.2.2)) λ_=>bd (loop (λs1=>br (SW s1.2 (Kb (AS x.2))) (λ_=>RX s1.2 λe=>ix x.2 e λi=>bd (loop (λa=>br (RS a.2 0) (λ_=>RX s1.2 λf=>ix x.2 f λj=>RX a.2 λg=>ix j g λd=>gd (CD (BD (AS a.1) (AS [d])) 1048576) λ_=>some (.nx (Ik a.1 [d],Rp .i64 a.2 1))) λ_=>some (.dn ((0,(a,()))))) ((s1.1,Rp .i64 (Kb (AS i)) 1))) λh=>some (.nx (h.2.1.1,Rl .i64 s1.2 1))) λ_=>some (.dn ((0,(s1,()))))) ([],0)) λb=>some (b.2.1.1,0)
def Uc (x:TB):Option Int :=
 bd (VW x) λa=>bd (loop (λs1=>br (SW s1.2 (Kb (AS a.1))) (λ_=>RX s1.2 λb=>ix a.1 b λd=>some (.nx (S0 s1.1 d.1,Rl .i64 s1.2 1))) λ_=>some (.dn ((0,(s1,()))))) (0,0)) λc=>some c.2.1.1
def UE (x:TB):Option (List Int) :=
 bd (loop (λs0=>br (SW s0.2 (Kb (AS x.2))) (λ_=>RX s0.2 λa=>ix x.2 a λc=>br (RR (Kb (AS c)) 2) (λ_=>gd (CD (BD (AS s0.1) (AS [s0.2])) 1048576) λ_=>some (.nx (Ik s0.1 [s0.2],Rl .i64 s0.2 1))) λ_=>some (.nx (s0.1,Rl .i64 s0.2 1))) λ_=>some (.dn ((0,(s0,()))))) ([],0)) λb=>some b.2.1.1
def XP (x:(TB×Int)):Option Int :=
 bd (Uh x.1) λa=>br (RR a.2.2 0) (λ_=>br (SW x.2 0) (λ_=>some 7) λ_=>br (RS x.2 12) (λ_=>some 7) λ_=>some a.2.2) λ_=>some a.2.2
def W5 (x:(TB×Int)):Option (Bool×Int) :=
 bd (XP x) λa=>br (RT a 0) (λ_=>some (false,a)) λ_=>some ((SU (Kb (AS x.1.2)) (Rl .i64 x.2 1),0))
def Tn (x:(TB×Int)):Option Bool :=
 bd (W5 x) λa=>some (Hf a.1)
def VT (x:(List (List S8))):Option (Int×Int) :=
 br (RR (Kb (AS x)) 0) (λ_=>some (((-1),6))) λ_=>br (SU (Kb (AS x)) 32) (λ_=>some (((-1),3))) λ_=>bd (loop (λs0=>br (SW s0.2.2 (Kb (AS x))) (λ_=>RX s0.2.2 λc=>ix x c λd=>bd (Ur d) λb=>br (RT b.2 0) (λ_=>some (.dn ((0,((b.2,(s0.2.2,s0.2.2)),()))))) λ_=>some (.nx ((s0.1,(s0.2.1,Rl .i64 s0.2.2 1))))) λ_=>some (.dn ((1,(s0,()))))) ((0,(0,0)))) λa=>br (neq a.1 0) (λ_=>some (a.2.1.2.1,a.2.1.1)) λ_=>some (0,0)
def WQ (x:(List TD)):Option Int :=
 br (RR (Kb (AS x)) 0) (λ_=>some 6) λ_=>br (SU (Kb (AS x)) 32) (λ_=>some 3) λ_=>bd (loop (λs0=>br (SW s0.1 (Kb (AS x))) (λ_=>RX s0.1 λb=>ix x b λd=>br d.2 (λ_=>RX s0.1 λc=>ix x c λe=>br (Hf (seq e.1 [])) (λ_=>some (.dn ((0,((s0.1,2),()))))) λ_=>some (.nx (Rl .i64 s0.1 1,s0.2))) λ_=>some (.nx (Rl .i64 s0.1 1,s0.2))) λ_=>some (.dn ((1,(s0,()))))) (0,0)) λa=>br (neq a.1 0) (λ_=>some a.2.1.2) λ_=>some 0
def WB (x:((List TD)×(Int×Int))):Option Bool :=
 RX x.2.1 λc=>ix x.1 c λa=>RX x.2.2 λd=>ix x.1 d λb=>br (Hf (beq a.2 b.2)) (λ_=>some b.2) λ_=>br (Hf a.2) (λ_=>br (Hf (seq a.1 b.1)) (λ_=>some (Rz a.1 b.1)) λ_=>some (SW x.2.1 x.2.2)) λ_=>some (SW x.2.1 x.2.2)
def TV (rec:((List TD)×Int)->Option (Int×Int)) (x:((List TD)×Int)):Option (Int×Int) :=
 br (RS x.2 (Kb (AS x.1))) (λ_=>some ((Rp .i64 x.2 (Kb (AS x.1)),0))) λ_=>bd (rec (x.1,Rm .i64 2 x.2)) λa=>bd (rec ((x.1,Rl .i64 (Rm .i64 2 x.2) 1))) λb=>bd (WB ((x.1,(a.1,b.1)))) λc=>br c (λ_=>some (a.1,b.1)) λ_=>some (b.1,a.1)
def Wn:((List TD)×Int)->Option (Int×Int):=Mx TV 100
def Wo (x:(List TD)):Option Vc :=
 gd (CD (AS x) 1048576) λ_=>RX (Kb (AS x)) λf=>RX (Kb (AS x)) λb=>gd (CD b 1048576) λ_=>bd (loop (λs2=>br (SW s2.1 (Kb (AS x))) (λ_=>bd (Wn (x,s2.1)) λd=>RX s2.1 λa=>gd (KC a (AS s2.2.2.1)) λ_=>ix s2.2.2.1 a λg=>some (.nx ((Rl .i64 s2.1 1,(s2.2.1,(lset s2.2.2.1 a d.2,s2.2.2.2)))))) λ_=>some (.dn ((0,(s2,()))))) ((1,(x,(Q8 b 0,(0:Int)))))) λc=>bd (Wn (x,1)) λe=>some ((c.2.1.2.1,(c.2.1.2.2.1,e.1)))
def Vo (x:(List TD)):Option (Vc×Int) :=
 bd (WQ x) λa=>br (RT a 0) (λ_=>some ((([],([],0)),a))) λ_=>bd (Wo x) λb=>some (b,0)
def Uz (x:((List (List S8))×(List Int))):Option TC :=
 gd (CD (AS x.1) 1048576) λ_=>gd (CD (AS x.2) 1048576) λ_=>bd (loop (λs0=>br (SW s0.1 (Kb (AS x.1))) (λ_=>RX s0.1 λf=>ix x.2 f λb=>RX s0.1 λg=>ix x.1 g λc=>br (Hf (RR b (Kb (AS c)))) (λ_=>RX s0.1 λh=>ix x.1 h λk=>RX s0.1 λi=>ix x.2 i λl=>RX l λj=>ix k j λa=>gd (CD (BD (AS s0.2) (AS ([(a.1,RR b (Kb (AS c)))]))) 1048576) λ_=>some (.nx ((Rl .i64 s0.1 1,Ik s0.2 ([(a.1,RR b (Kb (AS c)))]))))) λ_=>gd (CD (BD (AS s0.2) (AS ([(([]:List UInt8),RR b (Kb (AS c)))]))) 1048576) λ_=>some (.nx ((Rl .i64 s0.1 1,Ik s0.2 ([([],RR b (Kb (AS c)))]))))) λ_=>some (.dn ((0,(s0,()))))) (0,[])) λd=>bd (Vo d.2.1.2) λe=>some ((x.1,(x.2,e.1)))
def W4 (x:(List (List S8))):Option (TC×(Int×Int)) :=
 bd (VT x) λb=>br (RT b.2 0) (λ_=>some ((([],([],([],([],0)))),b))) λ_=>RX (Kb (AS x)) λd=>RX (Kb (AS x)) λa=>gd (CD a 1048576) λ_=>bd (Uz (x,Q8 a 0)) λc=>some ((c,(0,0)))
def U0 (x:Bool):Option (Bool×TD) :=
 some ((false,([],x)))
def WS (x:((List (List S8))×Bool)):Option ((TC×((Bool×TD)×((List S8)×Int)))×(Int×Int)) :=
 bd (W4 x.1) λa=>br (RT a.2.2 0) (λ_=>some (((([],([],([],([],0)))),((false,([],false)),([],0))),a.2))) λ_=>bd (U0 x.2) λb=>some (((a.1,(b,([],0))),(0,0)))
def TT (x:(TB×(Int×Bool))):Option (Int×(TC×((Bool×TD)×((List S8)×Int)))) :=
 br (RS x.2.1 (Kb (AS x.1.2))) (λ_=>none) λ_=>RX x.2.1 λb=>ix x.1.2 b λa=>ix a 1 λd=>ix a 0 λe=>bd (WS ([d.2,e.2],x.2.2)) λc=>some (x.2.1,c.1)
def Wm (x:((List Int)×(List Int))):Option Bool :=
 br (RT (Kb (AS x.1)) (Kb (AS x.2))) (λ_=>some false) λ_=>bd (loop (λs0=>br (SW s0.1 (Kb (AS x.1))) (λ_=>RX s0.1 λb=>ix x.1 b λd=>RX s0.1 λc=>ix x.2 c λe=>br (RT d e) (λ_=>some (.dn ((0,((s0.1,false),()))))) λ_=>some (.nx (Rl .i64 s0.1 1,s0.2))) λ_=>some (.dn ((1,(s0,()))))) (0,false)) λa=>br (neq a.1 0) (λ_=>some a.2.1.2) λ_=>some true
def WA (x:(Vc×Vc)):Option Bool :=
 br (RT (Kb (AS x.1.1)) (Kb (AS x.2.1))) (λ_=>some false) λ_=>br (RT x.1.2.2 x.2.2.2) (λ_=>some false) λ_=>bd (Wm (x.1.2.1,x.2.2.1)) λf=>br (Hf f) (λ_=>some false) λ_=>bd (loop (λs1=>br (SW s1.1 (Kb (AS x.1.1))) (λ_=>RX s1.1 λd=>ix x.1.1 d λb=>RX s1.1 λe=>ix x.2.1 e λc=>br (Hf (NX (seq b.1 c.1) (NX (beq b.2 c.2) true))) (λ_=>some (.dn ((0,((s1.1,false),()))))) λ_=>some (.nx (Rl .i64 s1.1 1,s1.2))) λ_=>some (.dn ((1,(s1,()))))) (0,false)) λa=>br (neq a.1 0) (λ_=>some a.2.1.2) λ_=>some true
def VS (x:((List (List S8))×(List Int))):Option Int :=
 bd (loop (λs0=>br (SW s0.2 (Kb (AS x.1))) (λ_=>RX s0.2 λi=>ix x.2 i λn=>RX s0.2 λj=>ix x.1 j λo=>br (SW n (Kb (AS o))) (λ_=>br (SW s0.1 0) (λ_=>some (.nx (s0.2,Rl .i64 s0.2 1))) λ_=>RX s0.2 λk=>ix x.1 k λp=>RX s0.2 λl=>ix x.2 l λq=>RX q λm=>ix p m λe=>RX s0.1 λa=>ix x.1 a λf=>RX s0.1 λb=>ix x.2 b λg=>RX g λc=>ix f c λh=>br (Rz e.1 h.1) (λ_=>some (.nx (s0.2,Rl .i64 s0.2 1))) λ_=>some (.nx (s0.1,Rl .i64 s0.2 1))) λ_=>some (.nx (s0.1,Rl .i64 s0.2 1))) λ_=>some (.dn ((0,(s0,()))))) (((-1),0))) λd=>some d.2.1.1
def VQ (x:TC):Option (Int×Int) :=
 bd (VT x.1) λt=>br (RT t.2 0) (λ_=>some t) λ_=>br (RT (Kb (AS x.2.1)) (Kb (AS x.1))) (λ_=>some (((-1),6))) λ_=>bd (loop (λs1=>br (SW s1.2.2 (Kb (AS x.2.1))) (λ_=>RX s1.2.2 λu=>ix x.2.1 u λA=>br (SW A 0) (λ_=>some (.dn ((0,((6,(s1.2.2,s1.2.2)),()))))) λ_=>RX s1.2.2 λw=>ix x.2.1 w λB=>RX s1.2.2 λy=>ix x.1 y λC=>br (SU B (Kb (AS C))) (λ_=>some (.dn ((0,((6,(s1.2.2,s1.2.2)),()))))) λ_=>some (.nx ((s1.1,(s1.2.1,Rl .i64 s1.2.2 1))))) λ_=>some (.dn ((1,(s1,()))))) ((0,(0,0)))) λd=>br (neq d.1 0) (λ_=>some (d.2.1.2.1,d.2.1.1)) λ_=>bd (Uz (x.1,x.2.1)) λz=>bd (WA (x.2.2,z.2.2)) λn=>br (Hf n) (λ_=>some (((-1),6))) λ_=>bd (VS (x.1,x.2.1)) λb=>bd (loop (λa=>br (SW a.2.2 (Kb (AS x.1))) (λ_=>br (RS b 0) (λ_=>RX a.2.2 λg=>ix x.2.1 g λo=>br (RR o 0) (λ_=>some (.nx ((a.1,(a.2.1,Rl .i64 a.2.2 1))))) λ_=>RX a.2.2 λh=>ix x.1 h λp=>RX a.2.2 λi=>ix x.2.1 i λq=>RX (Rp .i64 q 1) λj=>ix p j λe=>RX b λk=>ix x.1 k λr=>RX b λl=>ix x.2.1 l λs=>RX s λm=>ix r m λf=>br (Rz f.1 e.1) (λ_=>some (.dn ((0,((6,(b,a.2.2)),()))))) λ_=>br (seq e.1 f.1) (λ_=>br (SU a.2.2 b) (λ_=>some (.dn ((0,((6,(b,a.2.2)),()))))) λ_=>some (.nx ((a.1,(a.2.1,Rl .i64 a.2.2 1))))) λ_=>some (.nx ((a.1,(a.2.1,Rl .i64 a.2.2 1))))) λ_=>some (.dn ((1,(a,()))))) λ_=>some (.dn ((1,(a,()))))) ((d.2.1.1,(d.2.1.2.1,0)))) λc=>br (neq c.1 0) (λ_=>some (c.2.1.2.1,c.2.1.1)) λ_=>some (0,0)
def Ve (x:(TC×((Bool×TD)×((List S8)×Int)))):Option Int :=
 bd (loop (λs0=>br (SW s0.2 (Kb (AS x.1.2.1))) (λ_=>RX s0.2 λa=>ix x.1.2.1 a λc=>some (.nx (Rl .i64 s0.1 c,Rl .i64 s0.2 1))) λ_=>some (.dn ((0,(s0,()))))) (0,0)) λb=>some b.2.1.1
def Vz (x:(List (List S8))):Option ((List S8)×((List Int)×Int)) :=
 bd (VT x) λj=>br (RT j.2 0) (λ_=>some (([],([],j.2)))) λ_=>RX (Kb (AS x)) λp=>RX (Kb (AS x)) λh=>gd (CD h 1048576) λ_=>bd (loop (λ(a:((List Int)×((List S8)×((List S8)×(Int×((List Int)×(List Int)))))))=>bd (VS (x,a.2.2.2.2.2)) λd=>br (SW d 0) (λ_=>some (.dn ((0,((a.2.2.2.2.1,(a.2.1,0)),()))))) λ_=>RX d λk=>ix x k λn=>RX d λi=>gd (KC i (AS a.2.2.2.2.2)) λ_=>ix a.2.2.2.2.2 i λo=>RX o λl=>ix n l λf=>gd (CD (BD (AS a.2.1) (AS [f])) 1048576) λ_=>gd (CD (BD (AS a.2.2.2.2.1) (AS [d])) 1048576) λ_=>RX d λe=>gd (KC e (AS a.2.2.2.2.2)) λ_=>ix a.2.2.2.2.2 e λg=>RX d λb=>gd (KC b (AS a.2.2.2.2.2)) λ_=>ix a.2.2.2.2.2 b λm=>some (.nx ((a.1,(Ik a.2.1 [f],(a.2.2.1,(a.2.2.2.1,(Ik a.2.2.2.2.1 [d],lset a.2.2.2.2.2 b (Rl .i64 g 1))))))))) (([],([],([],(0,([],Q8 h 0))))))) λc=>some ((c.2.1.2.1,(c.2.1.1,c.2.1.2.2)))
def WR (x:(Bool×TD)):Option Int :=
 br (SU (Kb (MW x.2.1)) 32) (λ_=>some 3) λ_=>br (Hf x.1) (λ_=>br (Hf (seq x.2.1 [])) (λ_=>some 6) λ_=>some 0) λ_=>some 0
def Wr (x:((Bool×TD)×S8)):Option (Bool×((Bool×TD)×Int)) :=
 bd (WR x.1) λa=>br (RR a 0) (λ_=>bd (VP x.2) λb=>br (RR b 0) (λ_=>br x.1.1 (λ_=>br (Rz x.2.1 x.1.2.1) (λ_=>some ((false,((false,([],false)),6)))) λ_=>br (RT b 0) (λ_=>some ((false,((false,([],false)),b)))) λ_=>br (Hf x.1.1) (λ_=>br x.1.2.2 (λ_=>some ((Hf x.2.2.2.1,((true,(x.2.1,x.1.2.2)),0)))) λ_=>some ((true,((true,(x.2.1,x.1.2.2)),0)))) λ_=>br (Hf (seq x.2.1 x.1.2.1)) (λ_=>br x.1.2.2 (λ_=>some ((Hf x.2.2.2.1,((true,(x.2.1,x.1.2.2)),0)))) λ_=>some ((true,((true,(x.2.1,x.1.2.2)),0)))) λ_=>some ((false,((true,(x.2.1,x.1.2.2)),0)))) λ_=>br (RT b 0) (λ_=>some ((false,((false,([],false)),b)))) λ_=>br (Hf x.1.1) (λ_=>br x.1.2.2 (λ_=>some ((Hf x.2.2.2.1,((true,(x.2.1,x.1.2.2)),0)))) λ_=>some ((true,((true,(x.2.1,x.1.2.2)),0)))) λ_=>br (Hf (seq x.2.1 x.1.2.1)) (λ_=>br x.1.2.2 (λ_=>some ((Hf x.2.2.2.1,((true,(x.2.1,x.1.2.2)),0)))) λ_=>some ((true,((true,(x.2.1,x.1.2.2)),0)))) λ_=>some ((false,((true,(x.2.1,x.1.2.2)),0)))) λ_=>br (RT b 0) (λ_=>some ((false,((false,([],false)),b)))) λ_=>br (Hf x.1.1) (λ_=>br x.1.2.2 (λ_=>some ((Hf x.2.2.2.1,((true,(x.2.1,x.1.2.2)),0)))) λ_=>some ((true,((true,(x.2.1,x.1.2.2)),0)))) λ_=>br (Hf (seq x.2.1 x.1.2.1)) (λ_=>br x.1.2.2 (λ_=>some ((Hf x.2.2.2.1,((true,(x.2.1,x.1.2.2)),0)))) λ_=>some ((true,((true,(x.2.1,x.1.2.2)),0)))) λ_=>some ((false,((true,(x.2.1,x.1.2.2)),0)))) λ_=>br (RR a 0) (λ_=>br x.1.1 (λ_=>br (Rz x.2.1 x.1.2.1) (λ_=>some ((false,((false,([],false)),6)))) λ_=>br (RT a 0) (λ_=>some ((false,((false,([],false)),a)))) λ_=>br (Hf x.1.1) (λ_=>br x.1.2.2 (λ_=>some ((Hf x.2.2.2.1,((true,(x.2.1,x.1.2.2)),0)))) λ_=>some ((true,((true,(x.2.1,x.1.2.2)),0)))) λ_=>br (Hf (seq x.2.1 x.1.2.1)) (λ_=>br x.1.2.2 (λ_=>some ((Hf x.2.2.2.1,((true,(x.2.1,x.1.2.2)),0)))) λ_=>some ((true,((true,(x.2.1,x.1.2.2)),0)))) λ_=>some ((false,((true,(x.2.1,x.1.2.2)),0)))) λ_=>br (RT a 0) (λ_=>some ((false,((false,([],false)),a)))) λ_=>br (Hf x.1.1) (λ_=>br x.1.2.2 (λ_=>some ((Hf x.2.2.2.1,((true,(x.2.1,x.1.2.2)),0)))) λ_=>some ((true,((true,(x.2.1,x.1.2.2)),0)))) λ_=>br (Hf (seq x.2.1 x.1.2.1)) (λ_=>br x.1.2.2 (λ_=>some ((Hf x.2.2.2.1,((true,(x.2.1,x.1.2.2)),0)))) λ_=>some ((true,((true,(x.2.1,x.1.2.2)),0)))) λ_=>some ((false,((true,(x.2.1,x.1.2.2)),0)))) λ_=>br (RT a 0) (λ_=>some ((false,((false,([],false)),a)))) λ_=>br (Hf x.1.1) (λ_=>br x.1.2.2 (λ_=>some ((Hf x.2.2.2.1,((true,(x.2.1,x.1.2.2)),0)))) λ_=>some ((true,((true,(x.2.1,x.1.2.2)),0)))) λ_=>br (Hf (seq x.2.1 x.1.2.1)) (λ_=>br x.1.2.2 (λ_=>some ((Hf x.2.2.2.1,((true,(x.2.1,x.1.2.2)),0)))) λ_=>some ((true,((true,(x.2.1,x.1.2.2)),0)))) λ_=>some ((false,((true,(x.2.1,x.1.2.2)),0)))
def V0 (x:((List S8)×Bool)):Option ((List S8)×(Int×Int)) :=
 br (SU (Kb (AS x.1)) 20000) (λ_=>some (([],((-1),3)))) λ_=>bd (U0 x.2) λf=>bd (loop (λ(s1:(Int×(Int×((List S8)×((List S8)×(Int×(Bool×TD)))))))=>br (SW s1.2.1 (Kb (AS x.1))) (λ_=>RX s1.2.1 λd=>ix x.1 d λg=>bd (Wr (s1.2.2.2.2.2,g)) λa=>br (RT a.2.2 0) (λ_=>some (.dn ((0,((s1.2.1,(s1.2.1,([],(s1.2.2.2.1,(a.2.2,s1.2.2.2.2.2))))),()))))) λ_=>br a.1 (λ_=>RX s1.2.1 λe=>ix x.1 e λc=>gd (CD (BD (AS s1.2.2.2.1) (AS [c])) 1048576) λ_=>some (.nx ((s1.1,(Rl .i64 s1.2.1 1,(s1.2.2.1,(Ik s1.2.2.2.1 [c],(s1.2.2.2.2.1,a.2.1)))))))) λ_=>some (.nx ((s1.1,(Rl .i64 s1.2.1 1,(s1.2.2.1,(s1.2.2.2.1,(s1.2.2.2.2.1,a.2.1)))))))) λ_=>some (.dn ((1,(s1,()))))) ((0,(0,([],([],(0,f))))))) λb=>br (neq b.1 0) (λ_=>some ((b.2.1.2.2.1,(b.2.1.1,b.2.1.2.2.2.2.1)))) λ_=>some ((b.2.1.2.2.2.1,(0,0)))
def U7 (x:((List S8)×Bool)):Option ((List S8)×(Bool×TD)) :=
 bd (V0 x) λa=>bd (U0 x.2) λb=>br (SU (Kb (AS x.1)) 0) (λ_=>RX (Rp .i64 (Kb (AS x.1)) 1) λc=>ix x.1 c λd=>some ((a.1,(true,(d.1,b.2.2))))) λ_=>some (a.1,b)
def UL (x:((List S8)×(List S8))):Option Bool :=
 br (RT (Kb (AS x.1)) (Kb (AS x.2))) (λ_=>some false) λ_=>bd (loop (λs0=>br (SW s0.1 (Kb (AS x.1))) (λ_=>RX s0.1 λd=>ix x.1 d λa=>RX s0.1 λe=>ix x.2 e λb=>br (Hf (NX (seq a.1 b.1) (NX (seq a.2.1 b.2.1) (NX (beq a.2.2.1 b.2.2.1) (NX (RR a.2.2.2 b.2.2.2) true))))) (λ_=>some (.dn ((0,((s0.1,false),()))))) λ_=>some (.nx (Rl .i64 s0.1 1,s0.2))) λ_=>some (.dn ((1,(s0,()))))) (0,false)) λc=>br (neq c.1 0) (λ_=>some c.2.1.2) λ_=>some true
def WT (x:(TC×((Bool×TD)×((List S8)×Int)))):Option Int :=
 bd (VQ x.1) λd=>br (RT d.2 0) (λ_=>some d.2) λ_=>bd (Ve x) λc=>br (SU (Kb (AS x.2.2.1)) 20000) (λ_=>some 3) λ_=>br (SU c 20000) (λ_=>some 3) λ_=>br (RT x.2.2.2 c) (λ_=>some 7) λ_=>bd (Vz x.1.1) λe=>RX c λb=>gd (CD b (AS e.1)) λ_=>gd (CD 0 b) λ_=>bd (U7 (Dy e.1 0 b,x.2.1.2.2)) λa=>bd (UL (x.2.2.1,a.1)) λf=>br (Hf f) (λ_=>some 6) λ_=>br (Hf (NX (beq x.2.1.1 a.2.1) (NX (seq x.2.1.2.1 a.2.2.1) (NX (beq x.2.1.2.2 a.2.2.2) true)))) (λ_=>some 6) λ_=>some 0
def Wp (x:TC):Option (Int×Int) :=
 bd (VQ x) λa=>br (RT a.2 0) (λ_=>some (0,a.2)) λ_=>bd (loop (λs1=>br (SW s1.1 (Kb (AS x.1))) (λ_=>RX s1.1 λb=>ix x.1 b λe=>RX s1.1 λc=>ix x.2.1 c λf=>some (.nx ((Rl .i64 s1.1 1,Rp .i64 (Rl .i64 s1.2 (Kb (AS e))) f)))) λ_=>some (.dn ((0,(s1,()))))) (0,0)) λd=>some (d.2.1.2,0)
def Ti (x:(TC×((Bool×TD)×((List S8)×Int)))):Option (Int×Int) :=
 bd (WT x) λa=>br (RT a 0) (λ_=>some (0,a)) λ_=>bd (Wp x.1) λb=>some b
def Vd (x:TC):Option (S8×(Int×(TC×Int))) :=
 bd (VQ x) λg=>br (RT g.2 0) (λ_=>some (((([],([],(false,0))):S8),(0,(([],([],([],([],0)))),g.2))))) λ_=>bd (VS (x.1,x.2.1)) λa=>br (SW a 0) (λ_=>some (((([],([],(false,0))):S8),(0,(([],([],([],([],0)))),12))))) λ_=>gd (CD (AS x.2.1) 1048576) λ_=>RX a λf=>gd (KC f (AS x.2.1)) λ_=>ix x.2.1 f λj=>RX a λc=>gd (KC c (AS x.2.1)) λ_=>ix x.2.1 c λm=>RX a λh=>ix x.1 h λk=>RX a λi=>ix x.2.1 i λl=>RX l λb=>ix k b λe=>bd (Uz ((x.1,lset x.2.1 c (Rl .i64 j 1)))) λd=>some ((e,(a,(d,0))))
def Ta (x:((TC×((Bool×TD)×((List S8)×Int)))×Int)):Option ((TC×((Bool×TD)×((List S8)×Int)))×(Int×Int)) :=
 bd (Ti x.1) λa=>br (RR a.2 0) (λ_=>br (SW x.2 0) (λ_=>some (((([],([],([],([],0)))),((false,([],false)),([],0))),(0,7)))) λ_=>br (RT a.2 0) (λ_=>some (((([],([],([],([],0)))),((false,([],false)),([],0))),(0,a.2)))) λ_=>bd (Ve x.1) λm=>br (SU (Rl .i64 m (Sz x.2 a.1)) 20000) (λ_=>some (((([],([],([],([],0)))),((false,([],false)),([],0))),(0,3)))) λ_=>bd (loop (λ(s2:(Int×((List (List S8))×((List Int)×((List TD)×((List Int)×(Int×(Bool×((List UInt8)×(Bool×((List S8)×Int)))))))))))=>br (SW s2.1 (Sz x.2 a.1)) (λ_=>bd (Vd ((s2.2.1,(s2.2.2.1,(s2.2.2.2.1,(s2.2.2.2.2.1,s2.2.2.2.2.2.1)))))) λh=>some (.nx ((Rl .i64 s2.1 1,(h.2.2.1.1,(h.2.2.1.2.1,(h.2.2.1.2.2.1,(h.2.2.1.2.2.2.1,(h.2.2.1.2.2.2.2,s2.2.2.2.2.2.2))))))))) λ_=>some (.dn ((0,(s2,()))))) ((0,(x.1.1.1,(x.1.1.2.1,(x.1.1.2.2.1,(x.1.1.2.2.2.1,(x.1.1.2.2.2.2,(x.1.2.1.1,(x.1.2.1.2.1,(x.1.2.1.2.2,x.1.2.2))))))))))) λi=>bd (Vz x.1.1.1) λk=>RX (Rl .i64 x.1.2.2.2 (Sz x.2 a.1)) λj=>gd (CD j (AS k.1)) λ_=>gd (CD 0 j) λ_=>bd (U7 (Dy k.1 0 j,x.1.2.1.2.2)) λl=>some ((((i.2.1.2.1,(i.2.1.2.2.1,(i.2.1.2.2.2.1,(i.2.1.2.2.2.2.1,i.2.1.2.2.2.2.2.1)))),(l.2,(l.1,Rl .i64 x.1.2.2.2 (Sz x.2 a.1)))),(Sz x.2 a.1,0)))) λ_=>br (RT a.2 0) (λ_=>some (((([],([],([],([],0)))),((false,([],false)),([],0))),(0,a.2)))) λ_=>bd (Ve x.1) λn=>br (SU (Rl .i64 n (Sz x.2 a.1)) 20000) (λ_=>some (((([],([],([],([],0)))),((false,([],false)),([],0))),(0,3)))) λ_=>bd (loop (λ(d:(Int×((List (List S8))×((List Int)×((List TD)×((List Int)×(Int×(Bool×((List UInt8)×(Bool×((List S8)×Int)))))))))))=>br (SW d.1 (Sz x.2 a.1)) (λ_=>bd (Vd ((d.2.1,(d.2.2.1,(d.2.2.2.1,(d.2.2.2.2.1,d.2.2.2.2.2.1)))))) λb=>some (.nx ((Rl .i64 d.1 1,(b.2.2.1.1,(b.2.2.1.2.1,(b.2.2.1.2.2.1,(b.2.2.1.2.2.2.1,(b.2.2.1.2.2.2.2,d.2.2.2.2.2.2))))))))) λ_=>some (.dn ((0,(d,()))))) ((0,(x.1.1.1,(x.1.1.2.1,(x.1.1.2.2.1,(x.1.1.2.2.2.1,(x.1.1.2.2.2.2,(x.1.2.1.1,(x.1.2.1.2.1,(x.1.2.1.2.2,x.1.2.2))))))))))) λc=>bd (Vz x.1.1.1) λf=>RX (Rl .i64 x.1.2.2.2 (Sz x.2 a.1)) λe=>gd (CD e (AS f.1)) λ_=>gd (CD 0 e) λ_=>bd (U7 (Dy f.1 0 e,x.1.2.1.2.2)) λg=>some ((((c.2.1.2.1,(c.2.1.2.2.1,(c.2.1.2.2.2.1,(c.2.1.2.2.2.2.1,c.2.1.2.2.2.2.2.1)))),(g.2,(g.1,Rl .i64 x.1.2.2.2 (Sz x.2 a.1)))),(Sz x.2 a.1,0)))
def Wq (x:(TC×TC)):Option Bool :=
 br (RT (Kb (AS x.1.1)) (Kb (AS x.2.1))) (λ_=>some false) λ_=>bd (Wm (x.1.2.1,x.2.2.1)) λd=>br (Hf d) (λ_=>some false) λ_=>bd (WA (x.1.2.2,x.2.2.2)) λe=>br (Hf e) (λ_=>some false) λ_=>bd (loop (λs2=>br (SW s2.1 (Kb (AS x.1.1))) (λ_=>RX s2.1 λb=>ix x.1.1 b λg=>RX s2.1 λc=>ix x.2.1 c λh=>bd (UL (g,h)) λf=>br (Hf f) (λ_=>some (.dn ((0,((s2.1,false),()))))) λ_=>some (.nx (Rl .i64 s2.1 1,s2.2))) λ_=>some (.dn ((1,(s2,()))))) (0,false)) λa=>br (neq a.1 0) (λ_=>some a.2.1.2) λ_=>some true
def Tz (x:((TC×((Bool×TD)×((List S8)×Int)))×(TC×((Bool×TD)×((List S8)×Int))))):Option Bool :=
 bd (Wq (x.1.1,x.2.1)) λa=>br a (λ_=>br (NX (beq x.1.2.1.1 x.2.2.1.1) (NX (seq x.1.2.1.2.1 x.2.2.1.2.1) (NX (beq x.1.2.1.2.2 x.2.2.1.2.2) true))) (λ_=>bd (UL (x.1.2.2.1,x.2.2.2.1)) λb=>br b (λ_=>some (RR x.1.2.2.2 x.2.2.2.2)) λ_=>some false) λ_=>some false) λ_=>some false
def U1 (x:(TB×((List (Int×(TC×((Bool×TD)×((List S8)×Int)))))×Int))):Option (Int×Int) :=
 bd (Uh x.1) λi=>br (RR i.2.2 0) (λ_=>br (SW x.2.2 1) (λ_=>some (((-1),7))) λ_=>br (SU x.2.2 1000001) (λ_=>some (((-1),7))) λ_=>br (RR i.2.2 0) (λ_=>bd (Uc x.1) λr1=>br (SV x.2.2 r1) (λ_=>some (((-1),6))) λ_=>br (RT i.2.2 0) (λ_=>some (((-1),i.2.2))) λ_=>bd (UE x.1) λM=>bd (loop (λg=>br (SW g.2.2 (Kb (AS x.2.1))) (λ_=>RX g.2.2 λk4=>ix x.2.1 k4 λh=>br (RS g.2.2 (Kb (AS M))) (λ_=>some (.dn ((0,((6,(g.2.2,g.2.2)),()))))) λ_=>RX g.2.2 λk6=>ix M k6 λx7=>br (RT h.1 x7) (λ_=>some (.dn ((0,((6,(g.2.2,g.2.2)),()))))) λ_=>br h.2.2.1.2.2 (λ_=>bd (Tn (x.1,h.1)) λr8=>br (Hf r8) (λ_=>some (.dn ((0,((6,(g.2.2,g.2.2)),()))))) λ_=>bd (TT ((x.1,(h.1,h.2.2.1.2.2)))) λr9=>bd (Ti r9.2) λF=>br (SW h.2.2.2.2 0) (λ_=>some (.dn ((0,((6,(g.2.2,g.2.2)),()))))) λ_=>br (SU h.2.2.2.2 F.1) (λ_=>some (.dn ((0,((6,(g.2.2,g.2.2)),()))))) λ_=>bd (Ta (r9.2,h.2.2.2.2)) λG=>bd (Tz (G.1,h.2)) λI=>br (Hf I) (λ_=>some (.dn ((0,((6,(g.2.2,g.2.2)),()))))) λ_=>some (.nx ((g.1,(g.2.1,Rl .i64 g.2.2 1))))) λ_=>bd (TT ((x.1,(h.1,h.2.2.1.2.2)))) λq=>bd (Ti q.2) λJ=>br (SW h.2.2.2.2 0) (λ_=>some (.dn ((0,((6,(g.2.2,g.2.2)),()))))) λ_=>br (SU h.2.2.2.2 J.1) (λ_=>some (.dn ((0,((6,(g.2.2,g.2.2)),()))))) λ_=>bd (Ta (q.2,h.2.2.2.2)) λK=>bd (Tz (K.1,h.2)) λL=>br (Hf L) (λ_=>some (.dn ((0,((6,(g.2.2,g.2.2)),()))))) λ_=>some (.nx ((g.1,(g.2.1,Rl .i64 g.2.2 1))))) λ_=>some (.dn ((1,(g,()))))) ((0,(0,0)))) λj=>br (neq j.1 0) (λ_=>some (j.2.1.2.1,j.2.1.1)) λ_=>br (SW (Kb (AS x.2.1)) (Kb (AS M))) (λ_=>some (((-1),4))) λ_=>some (0,0)) λ_=>br (RT i.2.2 0) (λ_=>some (((-1),i.2.2))) λ_=>bd (UE x.1) λk=>bd (loop (λa=>br (SW a.2.2 (Kb (AS x.2.1))) (λ_=>RX a.2.2 λz=>ix x.2.1 z λd=>br (RS a.2.2 (Kb (AS k))) (λ_=>some (.dn ((0,((6,(a.2.2,a.2.2)),()))))) λ_=>RX a.2.2 λA=>ix k A λx23=>br (RT d.1 x23) (λ_=>some (.dn ((0,((6,(a.2.2,a.2.2)),()))))) λ_=>br d.2.2.1.2.2 (λ_=>bd (Tn (x.1,d.1)) λN=>br (Hf N) (λ_=>some (.dn ((0,((6,(a.2.2,a.2.2)),()))))) λ_=>bd (TT ((x.1,(d.1,d.2.2.1.2.2)))) λr=>bd (Ti r.2) λO=>br (SW d.2.2.2.2 0) (λ_=>some (.dn ((0,((6,(a.2.2,a.2.2)),()))))) λ_=>br (SU d.2.2.2.2 O.1) (λ_=>some (.dn ((0,((6,(a.2.2,a.2.2)),()))))) λ_=>bd (Ta (r.2,d.2.2.2.2)) λP=>bd (Tz (P.1,d.2)) λS=>br (Hf S) (λ_=>some (.dn ((0,((6,(a.2.2,a.2.2)),()))))) λ_=>some (.nx ((a.1,(a.2.1,Rl .i64 a.2.2 1))))) λ_=>bd (TT ((x.1,(d.1,d.2.2.1.2.2)))) λs=>bd (Ti s.2) λU=>br (SW d.2.2.2.2 0) (λ_=>some (.dn ((0,((6,(a.2.2,a.2.2)),()))))) λ_=>br (SU d.2.2.2.2 U.1) (λ_=>some (.dn ((0,((6,(a.2.2,a.2.2)),()))))) λ_=>bd (Ta (s.2,d.2.2.2.2)) λW=>bd (Tz (W.1,d.2)) λX=>br (Hf X) (λ_=>some (.dn ((0,((6,(a.2.2,a.2.2)),()))))) λ_=>some (.nx ((a.1,(a.2.1,Rl .i64 a.2.2 1))))) λ_=>some (.dn ((1,(a,()))))) ((0,(0,0)))) λl=>br (neq l.1 0) (λ_=>some (l.2.1.2.1,l.2.1.1)) λ_=>br (SW (Kb (AS x.2.1)) (Kb (AS k))) (λ_=>some (((-1),4))) λ_=>some (0,0)) λ_=>br (RR i.2.2 0) (λ_=>bd (Uc x.1) λY=>br (SV x.2.2 Y) (λ_=>some (((-1),6))) λ_=>br (RT i.2.2 0) (λ_=>some (((-1),i.2.2))) λ_=>bd (UE x.1) λm=>bd (loop (λb=>br (SW b.2.2 (Kb (AS x.2.1))) (λ_=>RX b.2.2 λB=>ix x.2.1 B λe=>br (RS b.2.2 (Kb (AS m))) (λ_=>some (.dn ((0,((6,(b.2.2,b.2.2)),()))))) λ_=>RX b.2.2 λC=>ix m C λx40=>br (RT e.1 x40) (λ_=>some (.dn ((0,((6,(b.2.2,b.2.2)),()))))) λ_=>br e.2.2.1.2.2 (λ_=>bd (Tn (x.1,e.1)) λZ=>br (Hf Z) (λ_=>some (.dn ((0,((6,(b.2.2,b.2.2)),()))))) λ_=>bd (TT ((x.1,(e.1,e.2.2.1.2.2)))) λt=>bd (Ti t.2) λr43=>br (SW e.2.2.2.2 0) (λ_=>some (.dn ((0,((6,(b.2.2,b.2.2)),()))))) λ_=>br (SU e.2.2.2.2 r43.1) (λ_=>some (.dn ((0,((6,(b.2.2,b.2.2)),()))))) λ_=>bd (Ta (t.2,e.2.2.2.2)) λr44=>bd (Tz (r44.1,e.2)) λr45=>br (Hf r45) (λ_=>some (.dn ((0,((6,(b.2.2,b.2.2)),()))))) λ_=>some (.nx ((b.1,(b.2.1,Rl .i64 b.2.2 1))))) λ_=>bd (TT ((x.1,(e.1,e.2.2.1.2.2)))) λu=>bd (Ti u.2) λr47=>br (SW e.2.2.2.2 0) (λ_=>some (.dn ((0,((6,(b.2.2,b.2.2)),()))))) λ_=>br (SU e.2.2.2.2 r47.1) (λ_=>some (.dn ((0,((6,(b.2.2,b.2.2)),()))))) λ_=>bd (Ta (u.2,e.2.2.2.2)) λr48=>bd (Tz (r48.1,e.2)) λr49=>br (Hf r49) (λ_=>some (.dn ((0,((6,(b.2.2,b.2.2)),()))))) λ_=>some (.nx ((b.1,(b.2.1,Rl .i64 b.2.2 1))))) λ_=>some (.dn ((1,(b,()))))) ((0,(0,0)))) λn=>br (neq n.1 0) (λ_=>some (n.2.1.2.1,n.2.1.1)) λ_=>br (SW (Kb (AS x.2.1)) (Kb (AS m))) (λ_=>some (((-1),4))) λ_=>some (0,0)) λ_=>br (RT i.2.2 0) (λ_=>some (((-1),i.2.2))) λ_=>bd (UE x.1) λo=>bd (loop (λc=>br (SW c.2.2 (Kb (AS x.2.1))) (λ_=>RX c.2.2 λD=>ix x.2.1 D λf=>br (RS c.2.2 (Kb (AS o))) (λ_=>some (.dn ((0,((6,(c.2.2,c.2.2)),()))))) λ_=>RX c.2.2 λE=>ix o E λx56=>br (RT f.1 x56) (λ_=>some (.dn ((0,((6,(c.2.2,c.2.2)),()))))) λ_=>br f.2.2.1.2.2 (λ_=>bd (Tn (x.1,f.1)) λr57=>br (Hf r57) (λ_=>some (.dn ((0,((6,(c.2.2,c.2.2)),()))))) λ_=>bd (TT ((x.1,(f.1,f.2.2.1.2.2)))) λw=>bd (Ti w.2) λr59=>br (SW f.2.2.2.2 0) (λ_=>some (.dn ((0,((6,(c.2.2,c.2.2)),()))))) λ_=>br (SU f.2.2.2.2 r59.1) (λ_=>some (.dn ((0,((6,(c.2.2,c.2.2)),()))))) λ_=>bd (Ta (w.2,f.2.2.2.2)) λr60=>bd (Tz (r60.1,f.2)) λr61=>br (Hf r61) (λ_=>some (.dn ((0,((6,(c.2.2,c.2.2)),()))))) λ_=>some (.nx ((c.1,(c.2.1,Rl .i64 c.2.2 1))))) λ_=>bd (TT ((x.1,(f.1,f.2.2.1.2.2)))) λy=>bd (Ti y.2) λr63=>br (SW f.2.2.2.2 0) (λ_=>some (.dn ((0,((6,(c.2.2,c.2.2)),()))))) λ_=>br (SU f.2.2.2.2 r63.1) (λ_=>some (.dn ((0,((6,(c.2.2,c.2.2)),()))))) λ_=>bd (Ta (y.2,f.2.2.2.2)) λr64=>bd (Tz (r64.1,f.2)) λr65=>br (Hf r65) (λ_=>some (.dn ((0,((6,(c.2.2,c.2.2)),()))))) λ_=>some (.nx ((c.1,(c.2.1,Rl .i64 c.2.2 1))))) λ_=>some (.dn ((1,(c,()))))) ((0,(0,0)))) λp=>br (neq p.1 0) (λ_=>some (p.2.1.2.1,p.2.1.1)) λ_=>br (SW (Kb (AS x.2.1)) (Kb (AS o))) (λ_=>some (((-1),4))) λ_=>some (0,0)
def WW (x:(TB×((List (Int×(TC×((Bool×TD)×((List S8)×Int)))))×Int))):Option ((List Int)×Int) :=
 bd (U1 x) λa=>br (RT a.2 0) (λ_=>some ([],a.2)) λ_=>bd (UE x.1) λb=>some (b,0)
def UW (x:((TB×((List (Int×(TC×((Bool×TD)×((List S8)×Int)))))×Int))×Int)):Option (Int×Int) :=
 bd (WW x.1) λa=>br (RT a.2 0) (λ_=>some (0,a.2)) λ_=>bd (loop (λs1=>br (SW s1.2.2 (Kb (AS a.1))) (λ_=>RX s1.2.2 λc=>ix a.1 c λd=>br (RR d x.2) (λ_=>some (.dn ((0,((0,(s1.2.2,s1.2.2)),()))))) λ_=>some (.nx ((s1.1,(s1.2.1,Rl .i64 s1.2.2 1))))) λ_=>some (.dn ((1,(s1,()))))) ((0,(0,0)))) λb=>br (neq b.1 0) (λ_=>some (b.2.1.2.1,b.2.1.1)) λ_=>some (0,4)
def VG (x:((TB×((List (Int×(TC×((Bool×TD)×((List S8)×Int)))))×Int))×Int)):Option (Int×Int) :=
 bd (UW x) λa=>br (RT a.2 0) (λ_=>some (0,a.2)) λ_=>RX a.1 λb=>ix x.1.2.1 b λd=>bd (Ti d.2) λc=>some c
end
section
open Go Go.Proofs.YtfilfloanndddaaGreat.Sv
set_option linter.unusedVariables false
def Yd (x:TB):Option ((TB×((List (Int×(TC×((Bool×TD)×((List S8)×Int)))))×Int))×Int) :=
 bd (Uh x) λd=>br (RT d.2.2 0) (λ_=>some ((((0,[]),([],0)),d.2.2))) λ_=>bd (Uc x) λh=>bd (UE x) λc=>bd (loop (λ(a:(Int×(Int×((List (List TY))×((List (Int×(TC×((Bool×TD)×((List S8)×Int)))))×Int)))))=>br (SW a.1 (Kb (AS c))) (λ_=>RX a.1 λf=>ix c f λj=>RX a.1 λg=>ix c g λk=>bd (Tn (x,k)) λi=>bd (TT ((x,(j,i)))) λe=>gd (CD (BD (AS a.2.2.2.1) (AS [e])) 1048576) λ_=>some (.nx ((Rl .i64 a.1 1,(a.2.1,(a.2.2.1,(Ik a.2.2.2.1 [e],a.2.2.2.2))))))) λ_=>some (.dn ((0,(a,()))))) ((0,(x.1,(x.2,([],Rl .i64 h 1)))))) λb=>some ((((b.2.1.2.1,b.2.1.2.2.1),b.2.1.2.2.2),0))
def Vb (x:((TB×((List (Int×(TC×((Bool×TD)×((List S8)×Int)))))×Int))×Int)):Option (Int×Int) :=
 bd (UP x.1) λb=>br (RT b.2 0) (λ_=>some (0,b.2)) λ_=>bd (loop (λs1=>br (SW s1.2 (Kb (AS x.1.2.1))) (λ_=>RX s1.2 λc=>ix x.1.2.1 c λd=>br (RR d.1 x.2) (λ_=>some (.dn ((0,((s1.2,s1.2),()))))) λ_=>some (.nx (s1.1,Rl .i64 s1.2 1))) λ_=>some (.dn ((1,(s1,()))))) (0,0)) λa=>br (neq a.1 0) (λ_=>br (SW a.2.1.1 0) (λ_=>some (0,4)) λ_=>some (a.2.1.1,0)) λ_=>br (SW (-1) 0) (λ_=>some (0,4)) λ_=>some (((-1),0))
def Ue (x:((TB×((List (Int×(TC×((Bool×TD)×((List S8)×Int)))))×Int))×Int)):Option (((TB×((List (Int×(TC×((Bool×TD)×((List S8)×Int)))))×Int))×((Int×(TC×((Bool×TD)×((List S8)×Int))))×Int))×Int) :=
 bd (Vb x) λa=>br (RT a.2 0) (λ_=>some (((((0,[]),([],0)),((0,(([],([],([],([],0)))),((false,([],false)),([],0)))),0)),a.2))) λ_=>RX a.1 λd=>ix x.1.2.1 d λc=>bd (UD c.2) λb=>some (((x.1,(c,b.1)),b.2))
def TX (x:((TB×((List (Int×(TC×((Bool×TD)×((List S8)×Int)))))×Int))×((Int×(TC×((Bool×TD)×((List S8)×Int))))×Int))):Option Bool :=
 some (SU x.2.2 0)
def WN (x:(Int×Int)):Option (Int×Int) :=
 br (SW x.1 1) (λ_=>some (0,7)) λ_=>br (SU x.1 16) (λ_=>some (0,7)) λ_=>br (SW x.2 0) (λ_=>some (0,7)) λ_=>br (RS x.2 12) (λ_=>some (0,7)) λ_=>gd (RS x.2 0) λ_=>some (SZ .i64 x.1 x.2,0)
def Tk (x:((TB×((List (Int×(TC×((Bool×TD)×((List S8)×Int)))))×Int))×((Int×(TC×((Bool×TD)×((List S8)×Int))))×Int))):Option Bool :=
 bd (WN (x.1.1.1,x.2.1.1)) λa=>br (RR a.2 0) (λ_=>some (SV (Kb (AS x.2.1.2.2.2.1)) a.1)) λ_=>some false
def Vx (x:(TB×Int)):Option Int :=
 bd (U5 x.1) λa=>br (RT a.2.2 0) (λ_=>some a.2.2) λ_=>br (SW x.2 0) (λ_=>some 7) λ_=>br (RS x.2 12) (λ_=>some 7) λ_=>some 0
def WM (x:(TB×Int)):Option (Bool×Int) :=
 bd (Vx x) λa=>br (RT a 0) (λ_=>some (false,a)) λ_=>br (SW x.2 (Kb (AS x.1.2))) (λ_=>RX x.2 λb=>ix x.1.2 b λc=>some ((SW (Kb (AS c)) 2,0))) λ_=>some (true,0)
def Ul (x:((TB×((List (Int×(TC×((Bool×TD)×((List S8)×Int)))))×Int))×((Int×(TC×((Bool×TD)×((List S8)×Int))))×Int))):Option Bool :=
 bd (WM (x.1.1,Rl .i64 x.2.1.1 1)) λa=>br (RR a.2 0) (λ_=>some a.1) λ_=>some false
def Tx (x:((TB×((List (Int×(TC×((Bool×TD)×((List S8)×Int)))))×Int))×((Int×(TC×((Bool×TD)×((List S8)×Int))))×Int))):Option Bool :=
 bd (loop (λs0=>br (SW s0.1 3) (λ_=>RX s0.1 λa=>br (neq a 0) (λ_=>bd (TX x) λc=>br c (λ_=>some (.dn ((0,((s0.1,true),()))))) λ_=>some (.nx (Rl .i64 s0.1 1,s0.2))) λ_=>br (neq a 1) (λ_=>bd (Tk x) λd=>br d (λ_=>some (.dn ((0,((s0.1,true),()))))) λ_=>some (.nx (Rl .i64 s0.1 1,s0.2))) λ_=>gd (neq a 2) λ_=>bd (Ul x) λe=>br e (λ_=>some (.dn ((0,((s0.1,true),()))))) λ_=>some (.nx (Rl .i64 s0.1 1,s0.2))) λ_=>some (.dn ((1,(s0,()))))) (0,false)) λb=>br (neq b.1 0) (λ_=>some b.2.1.2) λ_=>some false
def Tw (x:(List (Int×(TC×((Bool×TD)×((List S8)×Int)))))):Option (List (Int×(TC×((Bool×TD)×((List S8)×Int))))) :=
 gd (CD (AS x) 1048576) λ_=>some x
def XC (x:((TB×((List (Int×(TC×((Bool×TD)×((List S8)×Int)))))×Int))×(Int×Int))):Option ((TB×((List (Int×(TC×((Bool×TD)×((List S8)×Int)))))×Int))×(Int×Int)) :=
 bd (UP x.1) λf=>br (RT f.2 0) (λ_=>some ((((0,[]),([],0)),(0,f.2)))) λ_=>br (SW x.2.2 0) (λ_=>some ((((0,[]),([],0)),(0,7)))) λ_=>bd (Vb (x.1,x.2.1)) λa=>br (RT a.2 0) (λ_=>some ((((0,[]),([],0)),(0,a.2)))) λ_=>RX a.1 λg=>ix x.1.2.1 g λj=>bd (UD j.2) λi=>br (RR i.1 0) (λ_=>some ((((0,[]),([],0)),(0,9)))) λ_=>RX a.1 λh=>ix x.1.2.1 h λk=>bd (UO (k.2,x.2.2)) λb=>br (RT b.2.2 0) (λ_=>some ((((0,[]),([],0)),(0,b.2.2)))) λ_=>bd (Tw x.1.2.1) λd=>RX a.1 λc=>gd (KC c (AS d)) λ_=>ix d c λe=>some (((x.1.1,(lset d c (e.1,b.1),x.1.2.2)),(b.2.1,0)))
def VK (x:(TB×(Int×(List TY)))):Option TB :=
 RX (S0 (Kb (AS x.1.2)) (Rl .i64 x.2.1 1)) λh=>RX (S0 (Kb (AS x.1.2)) (Rl .i64 x.2.1 1)) λa=>gd (CD a 1048576) λ_=>RX x.2.1 λb=>gd (KC b (AS (K5 (Q8 a ([]:List TY)) 0 x.1.2 (AS (Q8 a ([]:List TY)))))) λ_=>ix (K5 (Q8 a ([]:List TY)) 0 x.1.2 (AS (Q8 a ([]:List TY)))) b λi=>bd (loop (λc=>br (SU c 0) (λ_=>RX (Rp .i64 c 1) λe=>gd (KC e (AS (lset (K5 (Q8 a ([]:List TY)) 0 x.1.2 (AS (Q8 a ([]:List TY)))) b x.2.2))) λ_=>ix (lset (K5 (Q8 a ([]:List TY)) 0 x.1.2 (AS (Q8 a ([]:List TY)))) b x.2.2) e λg=>br (RR (Kb (AS g)) 0) (λ_=>some (.nx (Rp .i64 c 1))) λ_=>some (.dn ((0,(c,()))))) λ_=>some (.dn ((0,(c,()))))) (Kb (AS (lset (K5 (Q8 a ([]:List TY)) 0 x.1.2 (AS (Q8 a ([]:List TY)))) b x.2.2)))) λf=>RX f.2.1 λd=>gd (CD d (AS (lset (K5 (Q8 a ([]:List TY)) 0 x.1.2 (AS (Q8 a ([]:List TY)))) b x.2.2))) λ_=>gd (CD 0 d) λ_=>br (KC 0 (AS (lset (K5 (Q8 a ([]:List TY)) 0 x.1.2 (AS (Q8 a ([]:List TY)))) b x.2.2))) (λ_=>gd (CD (BD 0 (PA d 0)) (AS (lset (K5 (Q8 a ([]:List TY)) 0 x.1.2 (AS (Q8 a ([]:List TY)))) b x.2.2))) λ_=>some ((x.1.1,Dy (lset (K5 (Q8 a ([]:List TY)) 0 x.1.2 (AS (Q8 a ([]:List TY)))) b x.2.2) 0 (BD 0 (PA d 0))))) λ_=>some (x.1.1,[])
def U6 (x:(TB×Int)):Option (TB×((List TY)×Int)) :=
 bd (Vx x) λb=>br (RT b 0) (λ_=>some (((0,[]),([],b)))) λ_=>br (SW x.2 (Kb (AS x.1.2))) (λ_=>RX x.2 λc=>ix x.1.2 c λa=>br (RR (Kb (AS a)) 0) (λ_=>some (((0,[]),([],4)))) λ_=>bd (VK ((x.1,(x.2,[])))) λd=>gd (CD (AS a) 1048576) λ_=>some ((d,(a,0)))) λ_=>some (((0,[]),([],4)))
def Tu (x:(TB×(Int×TY))):Option (TB×Int) :=
 bd (Vx (x.1,x.2.1)) λi=>br (RT i 0) (λ_=>some (((0,[]),i))) λ_=>gd (RS x.2.1 0) λ_=>bd (Uy (x.2.2,SZ .i64 x.1.1 x.2.1)) λj=>br (RT j 0) (λ_=>some (((0,[]),j))) λ_=>bd (loop (λ(s2:(Int×(TB×Int)))=>br (SW s2.1 (Kb (AS x.1.2))) (λ_=>RX s2.1 λm=>ix x.1.2 m λl=>bd (loop (λ(c:(Int×(TB×Int)))=>br (RS c.1 0) (λ_=>RX c.1 λn=>ix l n λo=>br (RR o.1 x.2.2.1) (λ_=>some (.dn ((1,((c.1,((0,[]),8)),()))))) λ_=>some (.nx (Rp .i64 c.1 1,c.2))) λ_=>some (.dn ((0,(c,()))))) ((Rp .i64 (Kb (AS l)) 1,s2.2))) λh=>br (neq h.1 0) (λ_=>some (.nx (Rl .i64 s2.1 1,h.2.1.2))) λ_=>some (.dn ((1,((s2.1,h.2.1.2),()))))) λ_=>some (.dn ((0,(s2,()))))) ((0,((0,[]),0)))) λk=>br (neq k.1 0) (λ_=>br (SW x.2.1 (Kb (AS x.1.2))) (λ_=>RX x.2.1 λd=>ix x.1.2 d λa=>br (RR (Kb (AS a)) 2) (λ_=>some (((0,[]),5))) λ_=>RX (Kb (AS a)) λb=>RX (Kb (AS a)) λe=>gd (CD b (AS a)) λ_=>gd (neq b e) λ_=>gd (CD 0 b) λ_=>gd (CD (BD (AS (Dy a 0 b)) (AS [x.2.2])) 1048576) λ_=>bd (VK ((x.1,(x.2.1,Ik (Dy a 0 b) [x.2.2])))) λf=>some (f,0)) λ_=>gd (CD (AS [x.2.2]) 1048576) λ_=>bd (VK ((x.1,(x.2.1,[x.2.2])))) λg=>some (g,0)) λ_=>some k.2.1.2
def Wi (x:(TB×Int)):Option ((Int×(TC×((Bool×TD)×((List S8)×Int))))×Int) :=
 bd (U5 x.1) λa=>br (RT a.2.2 0) (λ_=>some (((0,(([],([],([],([],0)))),((false,([],false)),([],0)))),a.2.2))) λ_=>br (SW x.2 0) (λ_=>some (((0,(([],([],([],([],0)))),((false,([],false)),([],0)))),7))) λ_=>br (RS x.2 12) (λ_=>some (((0,(([],([],([],([],0)))),((false,([],false)),([],0)))),7))) λ_=>br (RS x.2 (Kb (AS x.1.2))) (λ_=>some (((0,(([],([],([],([],0)))),((false,([],false)),([],0)))),4))) λ_=>RX x.2 λb=>ix x.1.2 b λe=>br (SW (Kb (AS e)) 2) (λ_=>some (((0,(([],([],([],([],0)))),((false,([],false)),([],0)))),4))) λ_=>bd (Ux x) λc=>bd (Uf ((x.1,(x.2,c)))) λd=>some (d,0)
def Tc (x:((TB×((List (Int×(TC×((Bool×TD)×((List S8)×Int)))))×Int))×(TB×(Int×Int)))):Option ((TB×((List (Int×(TC×((Bool×TD)×((List S8)×Int)))))×Int))×Int) :=
 bd (loop (λ(s0:(Int×(List (Int×(Int×(TC×((Bool×TD)×((List S8)×Int))))))))=>br (SW s0.1 (Kb (AS x.1.2.1))) (λ_=>RX s0.1 λn=>ix x.1.2.1 n λj=>some (.nx ((Rl .i64 s0.1 1,IR ((λk=>(λl=>RR k l))) s0.2 j.1 j)))) λ_=>some (.dn ((0,(s0,()))))) (0,[])) λi=>bd (loop (λ(c:(Int×(Int×((Int×((List (List TY))×((List (Int×(TC×((Bool×TD)×((List S8)×Int)))))×Int)))×(Int×((List (List TY))×((List (Int×(TC×((Bool×TD)×((List S8)×Int)))))×Int)))))))=>br (SW c.2.1 (Kb (AS x.2.1.2))) (λ_=>RX c.2.1 λo=>ix x.2.1.2 o λp=>br (SW (Kb (AS p)) 2) (λ_=>some (.nx ((c.1,(Rl .i64 c.2.1 1,c.2.2))))) λ_=>br (Hf (S3 (MI ((λm=>(λf=>RR m f))) (IQ ((λg=>(λh=>RR g h))) i.2.1.2 x.2.2.2) c.2.1))) (λ_=>bd (Wi (x.2.1,c.2.1)) λe=>br (RT e.2 0) (λ_=>some (.dn ((1,((e.2,(c.2.1,((0,([],([],0))),c.2.2.2))),()))))) λ_=>gd (CD (BD (AS c.2.2.2.2.2.1) (AS [e.1])) 1048576) λ_=>some (.nx ((c.1,(Rl .i64 c.2.1 1,(c.2.2.1,(c.2.2.2.1,(c.2.2.2.2.1,(Ik c.2.2.2.2.2.1 [e.1],c.2.2.2.2.2.2))))))))) λ_=>gd (CD (BD (AS c.2.2.2.2.2.1) (AS ([Rt (MI (λa b=>RR a b) (IQ (λa b=>RR a b) i.2.1.2 x.2.2.2) c.2.1) (0,(([],([],([],([],0)))),((false,([],false)),([],0))))]))) 1048576) λ_=>some (.nx ((c.1,(Rl .i64 c.2.1 1,(c.2.2.1,(c.2.2.2.1,(c.2.2.2.2.1,(Ik c.2.2.2.2.2.1 ([Rt (MI (λa b=>RR a b) (IQ (λa b=>RR a b) i.2.1.2 x.2.2.2) c.2.1) (0,(([],([],([],([],0)))),((false,([],false)),([],0))))]),c.2.2.2.2.2.2))))))))) λ_=>some (.dn ((0,(c,()))))) ((0,(0,((0,([],([],0))),(x.2.1.1,(x.2.1.2,([],x.2.2.1)))))))) λd=>br (neq d.1 0) (λ_=>some ((((d.2.1.2.2.2.1,d.2.1.2.2.2.2.1),d.2.1.2.2.2.2.2),0))) λ_=>some ((((d.2.1.2.2.1.1,d.2.1.2.2.1.2.1),d.2.1.2.2.1.2.2),d.2.1.1))
def VC (x:((TB×((List (Int×(TC×((Bool×TD)×((List S8)×Int)))))×Int))×Int)):Option ((TB×((List (Int×(TC×((Bool×TD)×((List S8)×Int)))))×Int))×Int) :=
 bd (Ue x) λb=>br (RT b.2 0) (λ_=>some ((((0,[]),([],0)),b.2))) λ_=>bd (TX b.1) λn=>br n (λ_=>some ((((0,[]),([],0)),9))) λ_=>bd (Tx b.1) λo=>br (Hf o) (λ_=>some ((((0,[]),([],0)),9))) λ_=>br (SU x.1.2.2 1000000) (λ_=>br (SU (Kb (AS b.1.2.1.2.2.2.1)) 0) (λ_=>some ((((0,[]),([],0)),5))) λ_=>bd (U6 (x.1.1,x.2)) λc=>br (RR c.2.2 0) (λ_=>br (SU (Kb (AS b.1.2.1.2.2.2.1)) 0) (λ_=>bd (Tk b.1) λp=>br (Hf p) (λ_=>bd (Tu ((c.1,(Rl .i64 x.2 1,(x.1.2.2,b.1.2.1.2.2.2.1))))) λl=>br (RT l.2 0) (λ_=>some ((((0,[]),([],0)),l.2))) λ_=>bd (Tc ((x.1,(l.1,(Rl .i64 x.1.2.2 1,x.2))))) λq=>some q) λ_=>bd (Tu ((c.1,(x.2,(x.1.2.2,b.1.2.1.2.2.2.1))))) λm=>br (RT m.2 0) (λ_=>some ((((0,[]),([],0)),m.2))) λ_=>bd (Tc ((x.1,(m.1,(Rl .i64 x.1.2.2 1,x.2))))) λr=>some r) λ_=>br (RT c.2.2 0) (λ_=>some ((((0,[]),([],0)),c.2.2))) λ_=>bd (Tc ((x.1,(c.1,(x.1.2.2,x.2))))) λs=>some s) λ_=>br (RT c.2.2 0) (λ_=>some ((((0,[]),([],0)),c.2.2))) λ_=>bd (Tc ((x.1,(c.1,(x.1.2.2,x.2))))) λf=>some f) λ_=>bd (U6 (x.1.1,x.2)) λa=>br (RR a.2.2 0) (λ_=>br (SU (Kb (AS b.1.2.1.2.2.2.1)) 0) (λ_=>bd (Tk b.1) λg=>br (Hf g) (λ_=>bd (Tu ((a.1,(Rl .i64 x.2 1,(x.1.2.2,b.1.2.1.2.2.2.1))))) λd=>br (RT d.2 0) (λ_=>some ((((0,[]),([],0)),d.2))) λ_=>bd (Tc ((x.1,(d.1,(Rl .i64 x.1.2.2 1,x.2))))) λh=>some h) λ_=>bd (Tu ((a.1,(x.2,(x.1.2.2,b.1.2.1.2.2.2.1))))) λe=>br (RT e.2 0) (λ_=>some ((((0,[]),([],0)),e.2))) λ_=>bd (Tc ((x.1,(e.1,(Rl .i64 x.1.2.2 1,x.2))))) λi=>some i) λ_=>br (RT a.2.2 0) (λ_=>some ((((0,[]),([],0)),a.2.2))) λ_=>bd (Tc ((x.1,(a.1,(x.1.2.2,x.2))))) λj=>some j) λ_=>br (RT a.2.2 0) (λ_=>some ((((0,[]),([],0)),a.2.2))) λ_=>bd (Tc ((x.1,(a.1,(x.1.2.2,x.2))))) λk=>some k
def Tj (x:((TB×((List (Int×(TC×((Bool×TD)×((List S8)×Int)))))×Int))×Int)):Option ((TB×((List (Int×(TC×((Bool×TD)×((List S8)×Int)))))×Int))×(Bool×Int)) :=
 bd (Ue x) λa=>br (RT a.2 0) (λ_=>some ((((0,[]),([],0)),(false,a.2)))) λ_=>bd (Tx a.1) λd=>br (Hf d) (λ_=>some ((((0,[]),([],0)),(false,9)))) λ_=>bd (TX a.1) λe=>br e (λ_=>bd (XC ((x.1,(x.2,1)))) λc=>some ((c.1,(false,c.2.2)))) λ_=>bd (VC x) λb=>some ((b.1,(RR b.2 0,b.2)))
def Xg (x:((TB×((List (Int×(TC×((Bool×TD)×((List S8)×Int)))))×Int))×Int)):Option (Int×Int) :=
 bd (Ue x) λa=>br (RT a.2 0) (λ_=>some (0,a.2)) λ_=>bd (TX a.1) λb=>br b (λ_=>some (0,9)) λ_=>bd (Tk a.1) λc=>br c (λ_=>some (x.2,0)) λ_=>some (Rl .i64 x.2 1,0)
def Vw (x:(TB×((List (Int×(TC×((Bool×TD)×((List S8)×Int)))))×Int))):Option ((List Int)×Int) :=
 bd (UP x) λa=>br (RT a.2 0) (λ_=>some ([],a.2)) λ_=>bd (loop (λs1=>br (SW s1.1 (Kb (AS x.1.2))) (λ_=>RX s1.1 λb=>ix x.1.2 b λd=>br (RR (Kb (AS d)) 2) (λ_=>gd (CD (BD (AS s1.2) (AS [s1.1])) 1048576) λ_=>some (.nx (Rl .i64 s1.1 1,Ik s1.2 [s1.1]))) λ_=>some (.nx (Rl .i64 s1.1 1,s1.2))) λ_=>some (.dn ((0,(s1,()))))) (0,[])) λc=>some (c.2.1.2,0)
def Tv (x:(TB×((List (Int×(TC×((Bool×TD)×((List S8)×Int)))))×Int))):Option (Int×Int) :=
 bd (Vw x) λa=>br (RT a.2 0) (λ_=>some (0,a.2)) λ_=>br (RR (Kb (AS a.1)) 0) (λ_=>some (0,4)) λ_=>bd (loop (λs1=>br (SW s1.2.2.1 (Kb (AS a.1))) (λ_=>RX s1.2.2.1 λe=>ix a.1 e λd=>bd (Ue (x,d)) λc=>br (RT c.2 0) (λ_=>some (.dn ((0,((c.2,(s1.2.1,(s1.2.2.1,0))),()))))) λ_=>bd (Tx c.1) λf=>br f (λ_=>some (.dn ((1,((s1.1,(true,(s1.2.2.1,d))),()))))) λ_=>some (.nx ((s1.1,(s1.2.1,(Rl .i64 s1.2.2.1 1,s1.2.2.2)))))) λ_=>some (.dn ((1,(s1,()))))) ((a.2,(false,(0,0))))) λb=>br (neq b.1 0) (λ_=>some (b.2.1.2.2.2,b.2.1.1)) λ_=>br (Hf b.2.1.2.1) (λ_=>some (0,9)) λ_=>some (b.2.1.2.2.2,0)
def W3 (x:((TB×((List (Int×(TC×((Bool×TD)×((List S8)×Int)))))×Int))×Int)):Option (Bool×Int) :=
 bd (Ue x) λa=>br (RT a.2 0) (λ_=>some (false,a.2)) λ_=>bd (Tx a.1) λb=>some (b,0)
def Xu (x:(Int×Int)):Option (Int×Int) :=
 br (SW x.1 1) (λ_=>some (0,7)) λ_=>br (SU x.1 16) (λ_=>some (0,7)) λ_=>br (SW x.2 0) (λ_=>some (0,7)) λ_=>br (RS x.2 12) (λ_=>some (0,7)) λ_=>bd (VF x) λa=>some (a,0)
def WU (x:((TB×((List (Int×(TC×((Bool×TD)×((List S8)×Int)))))×Int))×(Int×(TC×((Bool×TD)×((List S8)×Int)))))):Option Bool :=
 bd (Xu (x.1.1.1,x.2.1)) λa=>some (SV (Kb (AS x.2.2.2.2.1)) a.1)
def Xx (x:((TB×((List (Int×(TC×((Bool×TD)×((List S8)×Int)))))×Int))×Int)):Option Bool :=
 br (SW (Rl .i64 x.2 1) 12) (λ_=>br (RS (Rl .i64 x.2 1) (Kb (AS x.1.1.2))) (λ_=>some true) λ_=>RX (Rl .i64 x.2 1) λa=>ix x.1.1.2 a λb=>some (SW (Kb (AS b)) 2)) λ_=>some false
def Wb (x:((TB×((List (Int×(TC×((Bool×TD)×((List S8)×Int)))))×Int))×Int)):Option (Bool×Int) :=
 bd (VG x) λa=>br (RT a.2 0) (λ_=>some (false,a.2)) λ_=>bd (UW x) λc=>br (SU a.1 0) (λ_=>some (true,0)) λ_=>RX c.1 λb=>ix x.1.2.1 b λf=>bd (WU (x.1,f)) λd=>br d (λ_=>some (true,0)) λ_=>bd (Xx x) λe=>some (e,0)
def XQ (x:((TB×((List (Int×(TC×((Bool×TD)×((List S8)×Int)))))×Int))×Int)):Option (Int×Int) :=
 bd (VG x) λa=>br (RR a.2 0) (λ_=>br (SU a.1 0) (λ_=>some (0,9)) λ_=>br (RT a.2 0) (λ_=>some (0,a.2)) λ_=>bd (UW x) λd=>RX d.1 λb=>ix x.1.2.1 b λh=>bd (WU (x.1,h)) λe=>br e (λ_=>some (x.2,0)) λ_=>some (Rl .i64 x.2 1,0)) λ_=>br (RT a.2 0) (λ_=>some (0,a.2)) λ_=>bd (UW x) λf=>RX f.1 λc=>ix x.1.2.1 c λi=>bd (WU (x.1,i)) λg=>br g (λ_=>some (x.2,0)) λ_=>some (Rl .i64 x.2 1,0)
def Xv (x:(TB×((List (Int×(TC×((Bool×TD)×((List S8)×Int)))))×Int))):Option (Int×Int) :=
 bd (WW x) λa=>br (RT a.2 0) (λ_=>some (0,a.2)) λ_=>br (RR (Kb (AS a.1)) 0) (λ_=>some (0,4)) λ_=>bd (loop (λs1=>br (SW s1.2.2 (Kb (AS a.1))) (λ_=>RX s1.2.2 λc=>ix a.1 c λf=>bd (Wb (x,f)) λe=>br e.1 (λ_=>RX s1.2.2 λd=>ix a.1 d λg=>some (.dn ((0,((0,(g,s1.2.2)),()))))) λ_=>some (.nx ((s1.1,(s1.2.1,Rl .i64 s1.2.2 1))))) λ_=>some (.dn ((1,(s1,()))))) ((0,(0,0)))) λb=>br (neq b.1 0) (λ_=>some (b.2.1.2.1,b.2.1.1)) λ_=>some (0,9)
end
section
open Go Go.Proofs.YtfilfloanndddaaGreat.Sv
set_option linter.unusedVariables false
def Wa (x:(TB×((List (Int×(TC×((Bool×TD)×((List S8)×Int)))))×Int))):Option Bool :=
 bd (loop (λs0=>br (SW s0.2.2 (Kb (AS x.1.2))) (λ_=>br (SW s0.2.2 20) (λ_=>bd (loop (λs1=>RX s0.2.2 λs=>ix x.1.2 s λy=>br (SW s1.2.1 (Kb (AS y))) (λ_=>br (SW s1.2.1 9) (λ_=>RX s0.2.2 λt=>ix x.1.2 t λz=>RX s1.2.1 λu=>ix z u λi=>bd (loop (λe=>br (SW e.1 (Kb (AS i.2))) (λ_=>br (SW e.1 50) (λ_=>RX e.1 λw=>ix i.2 w λo=>br (SU (Kb (MW o.1)) 100) (λ_=>some (.dn ((0,((e.1,true),()))))) λ_=>RX e.1 λj=>ix i.2 j λp=>br (SU (Kb (MW p.2.1)) 100) (λ_=>some (.dn ((0,((e.1,true),()))))) λ_=>some (.nx (Rl .i64 e.1 1,e.2))) λ_=>some (.dn ((1,(e,()))))) λ_=>some (.dn ((1,(e,()))))) (0,s1.2.2)) λg=>br (neq g.1 0) (λ_=>some (.dn ((1,((Rl .i64 s1.1 (Kb (AS i.2)),(s1.2.1,g.2.1.2)),()))))) λ_=>some (.nx ((Rl .i64 s1.1 (Kb (AS i.2)),(Rl .i64 s1.2.1 1,g.2.1.2))))) λ_=>some (.dn ((0,(s1,()))))) λ_=>some (.dn ((0,(s1,()))))) ((s0.1,(0,s0.2.1)))) λc=>br (neq c.1 0) (λ_=>RX s0.2.2 λk=>ix x.1.2 k λq=>br (SU (Kb (AS q)) 8) (λ_=>some (.dn ((1,((c.2.1.1,(true,s0.2.2)),()))))) λ_=>some (.nx ((c.2.1.1,(c.2.1.2.2,Rl .i64 s0.2.2 1))))) λ_=>some (.dn ((1,((c.2.1.1,(c.2.1.2.2,s0.2.2)),()))))) λ_=>some (.dn ((0,(s0,()))))) λ_=>some (.dn ((0,(s0,()))))) ((0,(false,0)))) λf=>br (neq f.1 0) (λ_=>bd (loop (λa=>br (SW a.2 (Kb (AS x.2.1))) (λ_=>br (SW a.2 20) (λ_=>RX a.2 λl=>ix x.2.1 l λb=>br (SU (Kb (AS b.2.1.1)) 20) (λ_=>some (.dn ((0,((true,a.2),()))))) λ_=>br (SU (Kb (AS b.2.1.2.1)) 100) (λ_=>some (.dn ((0,((true,a.2),()))))) λ_=>br (SU (Kb (AS b.2.1.2.2.1)) 100) (λ_=>some (.dn ((0,((true,a.2),()))))) λ_=>br (SU (Kb (AS b.2.1.2.2.2.1)) 100) (λ_=>some (.dn ((0,((true,a.2),()))))) λ_=>bd (loop (λd=>br (SW d.1 (Kb (AS b.2.1.1))) (λ_=>RX d.1 λm=>ix b.2.1.1 m λr=>some (.nx ((Rl .i64 d.1 1,Rl .i64 d.2 (Kb (AS r)))))) λ_=>some (.dn ((0,(d,()))))) ((0,Kb (AS b.2.2.2.1)))) λn=>br (SU n.2.1.2 200) (λ_=>some (.dn ((0,((true,a.2),()))))) λ_=>some (.nx (a.1,Rl .i64 a.2 1))) λ_=>some (.dn ((1,(a,()))))) λ_=>some (.dn ((1,(a,()))))) (f.2.1.2.1,0)) λh=>br (neq h.1 0) (λ_=>some h.2.1.1) λ_=>br (SU f.2.1.1 40) (λ_=>some true) λ_=>br (SU (Kb (AS x.1.2)) 15) (λ_=>some true) λ_=>some (SU (Kb (AS x.2.1)) 15)) λ_=>some f.2.1.2.1
end
section
open Go Go.Proofs.YtfilfloanndddaaGreat.Sv
set_option linter.unusedVariables false
def VE (x:(TB×(Int×(List TY)))):Option TB :=
 bd (loop (λ(s0:(Int×TB))=>br (SW s0.1 (Kb (AS x.1.2))) (λ_=>br (RS s0.1 (Kb (AS x.1.2))) (λ_=>br (RR s0.1 x.2.1) (λ_=>gd (CD (AS x.2.2) 1048576) λ_=>gd (CD (BD (AS s0.2.2) (AS [x.2.2])) 1048576) λ_=>some (.nx ((Rl .i64 s0.1 1,(s0.2.1,Ik s0.2.2 [x.2.2]))))) λ_=>gd (CD (BD (AS s0.2.2) (AS ([[]]:(List (List TY))))) 1048576) λ_=>some (.nx ((Rl .i64 s0.1 1,(s0.2.1,Ik s0.2.2 [[]]))))) λ_=>RX s0.1 λf=>ix x.1.2 f λd=>br (RR s0.1 x.2.1) (λ_=>gd (CD (AS x.2.2) 1048576) λ_=>gd (CD (BD (AS s0.2.2) (AS [x.2.2])) 1048576) λ_=>some (.nx ((Rl .i64 s0.1 1,(s0.2.1,Ik s0.2.2 [x.2.2]))))) λ_=>gd (CD (AS d) 1048576) λ_=>gd (CD (BD (AS s0.2.2) (AS [d])) 1048576) λ_=>some (.nx ((Rl .i64 s0.1 1,(s0.2.1,Ik s0.2.2 [d]))))) λ_=>br (SV s0.1 x.2.1) (λ_=>br (RS s0.1 (Kb (AS x.1.2))) (λ_=>br (RR s0.1 x.2.1) (λ_=>gd (CD (AS x.2.2) 1048576) λ_=>gd (CD (BD (AS s0.2.2) (AS [x.2.2])) 1048576) λ_=>some (.nx ((Rl .i64 s0.1 1,(s0.2.1,Ik s0.2.2 [x.2.2]))))) λ_=>gd (CD (BD (AS s0.2.2) (AS ([[]]:(List (List TY))))) 1048576) λ_=>some (.nx ((Rl .i64 s0.1 1,(s0.2.1,Ik s0.2.2 [[]]))))) λ_=>RX s0.1 λg=>ix x.1.2 g λe=>br (RR s0.1 x.2.1) (λ_=>gd (CD (AS x.2.2) 1048576) λ_=>gd (CD (BD (AS s0.2.2) (AS [x.2.2])) 1048576) λ_=>some (.nx ((Rl .i64 s0.1 1,(s0.2.1,Ik s0.2.2 [x.2.2]))))) λ_=>gd (CD (AS e) 1048576) λ_=>gd (CD (BD (AS s0.2.2) (AS [e])) 1048576) λ_=>some (.nx ((Rl .i64 s0.1 1,(s0.2.1,Ik s0.2.2 [e]))))) λ_=>some (.dn ((0,(s0,()))))) ((0,(x.1.1,[])))) λi=>bd (loop (λ(a:TB)=>br (SU (Kb (AS a.2)) 0) (λ_=>RX (Rp .i64 (Kb (AS a.2)) 1) λh=>ix a.2 h λj=>br (RR (Kb (AS j)) 0) (λ_=>RX (Rp .i64 (Kb (AS a.2)) 1) λb=>gd (CD b (AS a.2)) λ_=>gd (CD 0 b) λ_=>some (.nx (a.1,Dy a.2 0 b))) λ_=>some (.dn ((0,(a,()))))) λ_=>some (.dn ((0,(a,()))))) i.2.1.2) λc=>some c.2.1
def Ws (x:(TB×Int)):Option (List TY) :=
 br (RS x.2 (Kb (AS x.1.2))) (λ_=>some []) λ_=>RX x.2 λa=>ix x.1.2 a λb=>some b
def UT (x:(TB×Int)):Option ((Int×(TC×((Bool×TD)×((List S8)×Int))))×Int) :=
 bd (Uh x.1) λa=>br (RR a.2.2 0) (λ_=>br (SW x.2 0) (λ_=>some (((0,(([],([],([],([],0)))),((false,([],false)),([],0)))),7))) λ_=>br (RS x.2 12) (λ_=>some (((0,(([],([],([],([],0)))),((false,([],false)),([],0)))),7))) λ_=>br (RR a.2.2 0) (λ_=>br (RS x.2 (Kb (AS x.1.2))) (λ_=>some (((0,(([],([],([],([],0)))),((false,([],false)),([],0)))),4))) λ_=>RX x.2 λe=>ix x.1.2 e λl=>br (SW (Kb (AS l)) 2) (λ_=>some (((0,(([],([],([],([],0)))),((false,([],false)),([],0)))),4))) λ_=>br (RT a.2.2 0) (λ_=>some (((0,(([],([],([],([],0)))),((false,([],false)),([],0)))),a.2.2))) λ_=>bd (Tn x) λg=>bd (TT ((x.1,(x.2,g)))) λh=>some (h,0)) λ_=>br (RT a.2.2 0) (λ_=>some (((0,(([],([],([],([],0)))),((false,([],false)),([],0)))),a.2.2))) λ_=>bd (Tn x) λi=>bd (TT ((x.1,(x.2,i)))) λj=>some (j,0)) λ_=>br (RR a.2.2 0) (λ_=>br (RS x.2 (Kb (AS x.1.2))) (λ_=>some (((0,(([],([],([],([],0)))),((false,([],false)),([],0)))),4))) λ_=>RX x.2 λf=>ix x.1.2 f λm=>br (SW (Kb (AS m)) 2) (λ_=>some (((0,(([],([],([],([],0)))),((false,([],false)),([],0)))),4))) λ_=>br (RT a.2.2 0) (λ_=>some (((0,(([],([],([],([],0)))),((false,([],false)),([],0)))),a.2.2))) λ_=>bd (Tn x) λk=>bd (TT ((x.1,(x.2,k)))) λb=>some (b,0)) λ_=>br (RT a.2.2 0) (λ_=>some (((0,(([],([],([],([],0)))),((false,([],false)),([],0)))),a.2.2))) λ_=>bd (Tn x) λc=>bd (TT ((x.1,(x.2,c)))) λd=>some (d,0)
def WX (x:((TB×((List (Int×(TC×((Bool×TD)×((List S8)×Int)))))×Int))×Int)):Option ((TB×((List (Int×(TC×((Bool×TD)×((List S8)×Int)))))×Int))×Int) :=
 bd (XQ x) λI=>br (RT I.2 0) (λ_=>some ((((0,[]),([],0)),I.2))) λ_=>bd (UW x) λr1=>RX r1.1 λk2=>ix x.1.2.1 k2 λG=>bd (Wb x) λr4=>br (Hf r4.1) (λ_=>some ((((0,[]),([],0)),9))) λ_=>br (SU x.1.2.2 1000000) (λ_=>br (SU (Kb (AS G.2.2.2.1)) 0) (λ_=>some ((((0,[]),([],0)),5))) λ_=>bd (VE ((x.1.1,(x.2,[])))) λJ=>br (SU (Kb (AS G.2.2.2.1)) 0) (λ_=>bd (Ws (J,I.1)) λr6=>gd (CD (AS r6) 1048576) λ_=>gd (CD (BD (AS r6) (AS ([(x.1.2.2,G.2.2.2.1)]))) 1048576) λ_=>bd (VE ((J,(I.1,Ik r6 ([(x.1.2.2,G.2.2.2.1)]))))) λr7=>bd (UE r7) λK=>bd (loop (λ(t:(Int×(Int×((List (List TY))×((List (Int×(TC×((Bool×TD)×((List S8)×Int)))))×Int)))))=>br (SW t.1 (Kb (AS K))) (λ_=>RX t.1 λL=>ix K L λx11=>bd (UT (((t.2.1,t.2.2.1),x11))) λh=>bd (loop (λ(p:(Int×(Int×((List (List S8))×((List Int)×((List TD)×((List Int)×(Int×(Bool×((List UInt8)×(Bool×((List S8)×Int))))))))))))=>br (SW p.1 (Kb (AS x.1.2.1))) (λ_=>RX p.1 λM=>ix x.1.2.1 M λx15=>RX t.1 λN=>ix K N λx17=>br (RR x15.1 x17) (λ_=>RX t.1 λO=>ix K O λx19=>br (RT x19 x.2) (λ_=>RX p.1 λP=>ix x.1.2.1 P λl=>some (.nx ((Rl .i64 p.1 1,(l.1,(l.2.1.1,(l.2.1.2.1,(l.2.1.2.2.1,(l.2.1.2.2.2.1,(l.2.1.2.2.2.2,(l.2.2.1.1,(l.2.2.1.2.1,(l.2.2.1.2.2,l.2.2.2))))))))))))) λ_=>some (.nx (Rl .i64 p.1 1,p.2))) λ_=>some (.nx (Rl .i64 p.1 1,p.2))) λ_=>some (.dn ((0,(p,()))))) ((0,(h.1.1,(h.1.2.1.1,(h.1.2.1.2.1,(h.1.2.1.2.2.1,(h.1.2.1.2.2.2.1,(h.1.2.1.2.2.2.2,(h.1.2.2.1.1,(h.1.2.2.1.2.1,(h.1.2.2.1.2.2,h.1.2.2.2)))))))))))) λa=>gd (CD (BD (AS t.2.2.2.1) (AS ([(a.2.1.2.1,((a.2.1.2.2.1,(a.2.1.2.2.2.1,(a.2.1.2.2.2.2.1,(a.2.1.2.2.2.2.2.1,a.2.1.2.2.2.2.2.2.1)))),((a.2.1.2.2.2.2.2.2.2.1,(a.2.1.2.2.2.2.2.2.2.2.1,a.2.1.2.2.2.2.2.2.2.2.2.1)),a.2.1.2.2.2.2.2.2.2.2.2.2)))]))) 1048576) λ_=>some (.nx ((Rl .i64 t.1 1,(t.2.1,(t.2.2.1,(Ik t.2.2.2.1 ([(a.2.1.2.1,((a.2.1.2.2.1,(a.2.1.2.2.2.1,(a.2.1.2.2.2.2.1,(a.2.1.2.2.2.2.2.1,a.2.1.2.2.2.2.2.2.1)))),((a.2.1.2.2.2.2.2.2.2.1,(a.2.1.2.2.2.2.2.2.2.2.1,a.2.1.2.2.2.2.2.2.2.2.2.1)),a.2.1.2.2.2.2.2.2.2.2.2.2)))]),t.2.2.2.2))))))) λ_=>some (.dn ((0,(t,()))))) ((0,(r7.1,(r7.2,([],Rl .i64 x.1.2.2 1)))))) λA=>some ((((A.2.1.2.1,A.2.1.2.2.1),A.2.1.2.2.2),0))) λ_=>bd (UE J) λw=>bd (loop (λ(e:(Int×(Int×((List (List TY))×((List (Int×(TC×((Bool×TD)×((List S8)×Int)))))×Int)))))=>br (SW e.1 (Kb (AS w))) (λ_=>RX e.1 λS=>ix w S λx27=>bd (UT (((e.2.1,e.2.2.1),x27))) λi=>bd (loop (λ(q:(Int×(Int×((List (List S8))×((List Int)×((List TD)×((List Int)×(Int×(Bool×((List UInt8)×(Bool×((List S8)×Int))))))))))))=>br (SW q.1 (Kb (AS x.1.2.1))) (λ_=>RX q.1 λU=>ix x.1.2.1 U λx31=>RX e.1 λW=>ix w W λx33=>br (RR x31.1 x33) (λ_=>RX e.1 λX=>ix w X λx35=>br (RT x35 x.2) (λ_=>RX q.1 λY=>ix x.1.2.1 Y λm=>some (.nx ((Rl .i64 q.1 1,(m.1,(m.2.1.1,(m.2.1.2.1,(m.2.1.2.2.1,(m.2.1.2.2.2.1,(m.2.1.2.2.2.2,(m.2.2.1.1,(m.2.2.1.2.1,(m.2.2.1.2.2,m.2.2.2))))))))))))) λ_=>some (.nx (Rl .i64 q.1 1,q.2))) λ_=>some (.nx (Rl .i64 q.1 1,q.2))) λ_=>some (.dn ((0,(q,()))))) ((0,(i.1.1,(i.1.2.1.1,(i.1.2.1.2.1,(i.1.2.1.2.2.1,(i.1.2.1.2.2.2.1,(i.1.2.1.2.2.2.2,(i.1.2.2.1.1,(i.1.2.2.1.2.1,(i.1.2.2.1.2.2,i.1.2.2.2)))))))))))) λb=>gd (CD (BD (AS e.2.2.2.1) (AS ([(b.2.1.2.1,((b.2.1.2.2.1,(b.2.1.2.2.2.1,(b.2.1.2.2.2.2.1,(b.2.1.2.2.2.2.2.1,b.2.1.2.2.2.2.2.2.1)))),((b.2.1.2.2.2.2.2.2.2.1,(b.2.1.2.2.2.2.2.2.2.2.1,b.2.1.2.2.2.2.2.2.2.2.2.1)),b.2.1.2.2.2.2.2.2.2.2.2.2)))]))) 1048576) λ_=>some (.nx ((Rl .i64 e.1 1,(e.2.1,(e.2.2.1,(Ik e.2.2.2.1 ([(b.2.1.2.1,((b.2.1.2.2.1,(b.2.1.2.2.2.1,(b.2.1.2.2.2.2.1,(b.2.1.2.2.2.2.2.1,b.2.1.2.2.2.2.2.2.1)))),((b.2.1.2.2.2.2.2.2.2.1,(b.2.1.2.2.2.2.2.2.2.2.1,b.2.1.2.2.2.2.2.2.2.2.2.1)),b.2.1.2.2.2.2.2.2.2.2.2.2)))]),e.2.2.2.2))))))) λ_=>some (.dn ((0,(e,()))))) ((0,(J.1,(J.2,([],x.1.2.2)))))) λB=>some ((((B.2.1.2.1,B.2.1.2.2.1),B.2.1.2.2.2),0))) λ_=>bd (VE ((x.1.1,(x.2,[])))) λu=>br (SU (Kb (AS G.2.2.2.1)) 0) (λ_=>bd (Ws (u,I.1)) λC=>gd (CD (AS C) 1048576) λ_=>gd (CD (BD (AS C) (AS ([(x.1.2.2,G.2.2.2.1)]))) 1048576) λ_=>bd (VE ((u,(I.1,Ik C ([(x.1.2.2,G.2.2.2.1)]))))) λD=>bd (UE D) λy=>bd (loop (λ(f:(Int×(Int×((List (List TY))×((List (Int×(TC×((Bool×TD)×((List S8)×Int)))))×Int)))))=>br (SW f.1 (Kb (AS y))) (λ_=>RX f.1 λZ=>ix y Z λx46=>bd (UT (((f.2.1,f.2.2.1),x46))) λj=>bd (loop (λ(r:(Int×(Int×((List (List S8))×((List Int)×((List TD)×((List Int)×(Int×(Bool×((List UInt8)×(Bool×((List S8)×Int))))))))))))=>br (SW r.1 (Kb (AS x.1.2.1))) (λ_=>RX r.1 λk49=>ix x.1.2.1 k49 λx50=>RX f.1 λk51=>ix y k51 λx52=>br (RR x50.1 x52) (λ_=>RX f.1 λk53=>ix y k53 λx54=>br (RT x54 x.2) (λ_=>RX r.1 λk55=>ix x.1.2.1 k55 λn=>some (.nx ((Rl .i64 r.1 1,(n.1,(n.2.1.1,(n.2.1.2.1,(n.2.1.2.2.1,(n.2.1.2.2.2.1,(n.2.1.2.2.2.2,(n.2.2.1.1,(n.2.2.1.2.1,(n.2.2.1.2.2,n.2.2.2))))))))))))) λ_=>some (.nx (Rl .i64 r.1 1,r.2))) λ_=>some (.nx (Rl .i64 r.1 1,r.2))) λ_=>some (.dn ((0,(r,()))))) ((0,(j.1.1,(j.1.2.1.1,(j.1.2.1.2.1,(j.1.2.1.2.2.1,(j.1.2.1.2.2.2.1,(j.1.2.1.2.2.2.2,(j.1.2.2.1.1,(j.1.2.2.1.2.1,(j.1.2.2.1.2.2,j.1.2.2.2)))))))))))) λc=>gd (CD (BD (AS f.2.2.2.1) (AS ([(c.2.1.2.1,((c.2.1.2.2.1,(c.2.1.2.2.2.1,(c.2.1.2.2.2.2.1,(c.2.1.2.2.2.2.2.1,c.2.1.2.2.2.2.2.2.1)))),((c.2.1.2.2.2.2.2.2.2.1,(c.2.1.2.2.2.2.2.2.2.2.1,c.2.1.2.2.2.2.2.2.2.2.2.1)),c.2.1.2.2.2.2.2.2.2.2.2.2)))]))) 1048576) λ_=>some (.nx ((Rl .i64 f.1 1,(f.2.1,(f.2.2.1,(Ik f.2.2.2.1 ([(c.2.1.2.1,((c.2.1.2.2.1,(c.2.1.2.2.2.1,(c.2.1.2.2.2.2.1,(c.2.1.2.2.2.2.2.1,c.2.1.2.2.2.2.2.2.1)))),((c.2.1.2.2.2.2.2.2.2.1,(c.2.1.2.2.2.2.2.2.2.2.1,c.2.1.2.2.2.2.2.2.2.2.2.1)),c.2.1.2.2.2.2.2.2.2.2.2.2)))]),f.2.2.2.2))))))) λ_=>some (.dn ((0,(f,()))))) ((0,(D.1,(D.2,([],Rl .i64 x.1.2.2 1)))))) λE=>some ((((E.2.1.2.1,E.2.1.2.2.1),E.2.1.2.2.2),0))) λ_=>bd (UE u) λz=>bd (loop (λ(g:(Int×(Int×((List (List TY))×((List (Int×(TC×((Bool×TD)×((List S8)×Int)))))×Int)))))=>br (SW g.1 (Kb (AS z))) (λ_=>RX g.1 λk61=>ix z k61 λx62=>bd (UT (((g.2.1,g.2.2.1),x62))) λk=>bd (loop (λ(s:(Int×(Int×((List (List S8))×((List Int)×((List TD)×((List Int)×(Int×(Bool×((List UInt8)×(Bool×((List S8)×Int))))))))))))=>br (SW s.1 (Kb (AS x.1.2.1))) (λ_=>RX s.1 λk65=>ix x.1.2.1 k65 λx66=>RX g.1 λk67=>ix z k67 λx68=>br (RR x66.1 x68) (λ_=>RX g.1 λk69=>ix z k69 λx70=>br (RT x70 x.2) (λ_=>RX s.1 λk71=>ix x.1.2.1 k71 λo=>some (.nx ((Rl .i64 s.1 1,(o.1,(o.2.1.1,(o.2.1.2.1,(o.2.1.2.2.1,(o.2.1.2.2.2.1,(o.2.1.2.2.2.2,(o.2.2.1.1,(o.2.2.1.2.1,(o.2.2.1.2.2,o.2.2.2))))))))))))) λ_=>some (.nx (Rl .i64 s.1 1,s.2))) λ_=>some (.nx (Rl .i64 s.1 1,s.2))) λ_=>some (.dn ((0,(s,()))))) ((0,(k.1.1,(k.1.2.1.1,(k.1.2.1.2.1,(k.1.2.1.2.2.1,(k.1.2.1.2.2.2.1,(k.1.2.1.2.2.2.2,(k.1.2.2.1.1,(k.1.2.2.1.2.1,(k.1.2.2.1.2.2,k.1.2.2.2)))))))))))) λd=>gd (CD (BD (AS g.2.2.2.1) (AS ([(d.2.1.2.1,((d.2.1.2.2.1,(d.2.1.2.2.2.1,(d.2.1.2.2.2.2.1,(d.2.1.2.2.2.2.2.1,d.2.1.2.2.2.2.2.2.1)))),((d.2.1.2.2.2.2.2.2.2.1,(d.2.1.2.2.2.2.2.2.2.2.1,d.2.1.2.2.2.2.2.2.2.2.2.1)),d.2.1.2.2.2.2.2.2.2.2.2.2)))]))) 1048576) λ_=>some (.nx ((Rl .i64 g.1 1,(g.2.1,(g.2.2.1,(Ik g.2.2.2.1 ([(d.2.1.2.1,((d.2.1.2.2.1,(d.2.1.2.2.2.1,(d.2.1.2.2.2.2.1,(d.2.1.2.2.2.2.2.1,d.2.1.2.2.2.2.2.2.1)))),((d.2.1.2.2.2.2.2.2.2.1,(d.2.1.2.2.2.2.2.2.2.2.1,d.2.1.2.2.2.2.2.2.2.2.2.1)),d.2.1.2.2.2.2.2.2.2.2.2.2)))]),g.2.2.2.2))))))) λ_=>some (.dn ((0,(g,()))))) ((0,(u.1,(u.2,([],x.1.2.2)))))) λF=>some ((((F.2.1.2.1,F.2.1.2.2.1),F.2.1.2.2.2),0))
def XH (x:((TB×((List (Int×(TC×((Bool×TD)×((List S8)×Int)))))×Int))×(Int×Int))):Option ((TB×((List (Int×(TC×((Bool×TD)×((List S8)×Int)))))×Int))×(Int×Int)) :=
 bd (U1 x.1) λf=>br (RR f.2 0) (λ_=>br (SW x.2.2 0) (λ_=>some ((((0,[]),([],0)),(0,7)))) λ_=>br (RT f.2 0) (λ_=>some ((((0,[]),([],0)),(0,f.2)))) λ_=>bd (VG (x.1,x.2.1)) λe=>br (RR e.2 0) (λ_=>br (RR e.1 0) (λ_=>some ((((0,[]),([],0)),(0,9)))) λ_=>br (RT e.2 0) (λ_=>some ((((0,[]),([],0)),(0,e.2)))) λ_=>bd (UW (x.1,x.2.1)) λr=>RX r.1 λu=>ix x.1.2.1 u λB=>bd (Ta (B.2,x.2.2)) λs=>gd (CD (AS x.1.2.1) 1048576) λ_=>RX r.1 λn=>gd (KC n (AS x.1.2.1)) λ_=>ix x.1.2.1 n λC=>some (((x.1.1,(lset x.1.2.1 n (x.2.1,s.1),x.1.2.2)),(s.2.1,0)))) λ_=>br (RT e.2 0) (λ_=>some ((((0,[]),([],0)),(0,e.2)))) λ_=>bd (UW (x.1,x.2.1)) λt=>RX t.1 λw=>ix x.1.2.1 w λo=>bd (Ta (o.2,x.2.2)) λg=>gd (CD (AS x.1.2.1) 1048576) λ_=>RX t.1 λb=>gd (KC b (AS x.1.2.1)) λ_=>ix x.1.2.1 b λy=>some (((x.1.1,(lset x.1.2.1 b (x.2.1,g.1),x.1.2.2)),(g.2.1,0)))) λ_=>br (RT f.2 0) (λ_=>some ((((0,[]),([],0)),(0,f.2)))) λ_=>bd (VG (x.1,x.2.1)) λa=>br (RR a.2 0) (λ_=>br (RR a.1 0) (λ_=>some ((((0,[]),([],0)),(0,9)))) λ_=>br (RT a.2 0) (λ_=>some ((((0,[]),([],0)),(0,a.2)))) λ_=>bd (UW (x.1,x.2.1)) λh=>RX h.1 λl=>ix x.1.2.1 l λp=>bd (Ta (p.2,x.2.2)) λi=>gd (CD (AS x.1.2.1) 1048576) λ_=>RX h.1 λc=>gd (KC c (AS x.1.2.1)) λ_=>ix x.1.2.1 c λz=>some (((x.1.1,(lset x.1.2.1 c (x.2.1,i.1),x.1.2.2)),(i.2.1,0)))) λ_=>br (RT a.2 0) (λ_=>some ((((0,[]),([],0)),(0,a.2)))) λ_=>bd (UW (x.1,x.2.1)) λj=>RX j.1 λm=>ix x.1.2.1 m λq=>bd (Ta (q.2,x.2.2)) λk=>gd (CD (AS x.1.2.1) 1048576) λ_=>RX j.1 λd=>gd (KC d (AS x.1.2.1)) λ_=>ix x.1.2.1 d λA=>some (((x.1.1,(lset x.1.2.1 d (x.2.1,k.1),x.1.2.2)),(k.2.1,0)))
def Xw (x:((TB×((List (Int×(TC×((Bool×TD)×((List S8)×Int)))))×Int))×Int)):Option ((TB×((List (Int×(TC×((Bool×TD)×((List S8)×Int)))))×Int))×(Bool×Int)) :=
 bd (Wb x) λa=>br (RR a.2 0) (λ_=>br (Hf a.1) (λ_=>some ((((0,[]),([],0)),(false,9)))) λ_=>br (RT a.2 0) (λ_=>some ((((0,[]),([],0)),(false,a.2)))) λ_=>bd (VG x) λf=>br (SU f.1 0) (λ_=>bd (XH ((x.1,(x.2,1)))) λd=>some ((d.1,(false,d.2.2)))) λ_=>bd (WX x) λb=>some ((b.1,(RR b.2 0,b.2)))) λ_=>br (RT a.2 0) (λ_=>some ((((0,[]),([],0)),(false,a.2)))) λ_=>bd (VG x) λg=>br (SU g.1 0) (λ_=>bd (XH ((x.1,(x.2,1)))) λe=>some ((e.1,(false,e.2.2)))) λ_=>bd (WX x) λc=>some ((c.1,(RR c.2 0,c.2)))
end
section
open Go Go.Proofs.YtfilfloanndddaaGreat.Sv
set_option linter.unusedVariables false
end
section
open Go Go.Proofs.YtfilfloanndddaaGreat.Sv
set_option linter.unusedVariables false
def Wc (x:((List S8)×S8)):Option (List S8) :=
 bd (loop (λs0=>br (SW s0 (Kb (AS x.1))) (λ_=>RX s0 λf=>ix x.1 f λh=>br (Rz h.1 x.2.1) (λ_=>some (.nx (Rl .i64 s0 1))) λ_=>some (.dn ((0,(s0,()))))) λ_=>some (.dn ((0,(s0,()))))) 0) λc=>br (SW c.2.1 (Kb (AS x.1))) (λ_=>RX c.2.1 λg=>ix x.1 g λi=>br (seq i.1 x.2.1) (λ_=>some x.1) λ_=>RX c.2.1 λa=>gd (CD a (AS x.1)) λ_=>gd (CD 0 a) λ_=>gd (CD (AS (Dy x.1 0 a)) 1048576) λ_=>gd (CD (BD (AS (Dy x.1 0 a)) (AS [x.2])) 1048576) λ_=>RX c.2.1 λd=>gd (CD (AS x.1) (AS x.1)) λ_=>gd (CD d (AS x.1)) λ_=>gd (CD (BD (AS (Ik (Dy x.1 0 a) [x.2])) (AS (Dy x.1 d (AS x.1)))) 1048576) λ_=>some (Ik (Ik (Dy x.1 0 a) [x.2]) (Dy x.1 d (AS x.1)))) λ_=>RX c.2.1 λb=>gd (CD b (AS x.1)) λ_=>gd (CD 0 b) λ_=>gd (CD (AS (Dy x.1 0 b)) 1048576) λ_=>gd (CD (BD (AS (Dy x.1 0 b)) (AS [x.2])) 1048576) λ_=>RX c.2.1 λe=>gd (CD (AS x.1) (AS x.1)) λ_=>gd (CD e (AS x.1)) λ_=>gd (CD (BD (AS (Ik (Dy x.1 0 b) [x.2])) (AS (Dy x.1 e (AS x.1)))) 1048576) λ_=>some (Ik (Ik (Dy x.1 0 b) [x.2]) (Dy x.1 e (AS x.1)))
def VH (x:TB):Option (List S8) :=
 bd (VW x) λf=>bd (loop (λ(s1:((List S8)×Int))=>br (SW s1.2 (Kb (AS f.1))) (λ_=>bd (loop (λ(s2:TY)=>RX s1.2 λj=>ix f.1 j λn=>br (SW s2.1 (Kb (AS n.2))) (λ_=>RX s1.2 λk=>ix f.1 k λo=>RX s2.1 λl=>ix o.2 l λp=>bd (Wc (s2.2,p)) λm=>some (.nx (Rl .i64 s2.1 1,m))) λ_=>some (.dn ((0,(s2,()))))) (0,s1.1)) λg=>some (.nx (g.2.1.2,Rl .i64 s1.2 1))) λ_=>some (.dn ((0,(s1,()))))) ([],0)) λb=>bd (loop (λ(a:TY)=>br (SW a.1 (Kb (AS b.2.1.1))) (λ_=>RX a.1 λd=>ix b.2.1.1 d λi=>br (Hf i.2.2.1) (λ_=>RX a.1 λe=>ix b.2.1.1 e λc=>gd (CD (BD (AS a.2) (AS [c])) 1048576) λ_=>some (.nx (Rl .i64 a.1 1,Ik a.2 [c]))) λ_=>some (.nx (Rl .i64 a.1 1,a.2))) λ_=>some (.dn ((0,(a,()))))) (0,[])) λh=>some h.2.1.2
end
section
open Go Go.Proofs.YtfilfloanndddaaGreat.Sv
abbrev W8:=List UInt8
theorem Y9 (a:W8):Rz a []=false:=by unfold Rz;cases a<;>rfl
theorem aw (b:UInt8) (y:W8):Rz [] (b::y)=true:=rfl
theorem Xo (a b:UInt8) (x y:W8):Rz (a::x) (b::y)=(decide (a<b)||(a == b&&Rz x y)):=rfl
theorem W2 : ∀ a:W8,Rz a a=false
 | []=>rfl
 | a::x=>by rw [Xo,W2 x];simp
theorem WF : ∀ {a b c:W8},Rz a b=true->Rz b c=true->Rz a c=true
 | [],b,[],e,d=>by rw [Y9] at d;cases d
 | [],b,c::z,_,_=>rfl
 | a::x,[],c,e,_=>by rw [Y9] at e;cases e
 | a::x,b::y,[],_,d=>by rw [Y9] at d;cases d
 | a::x,b::y,c::z,e,d=>by
  rw [Xo] at e d ⊢;simp only [Bool.or_eq_true,decide_eq_true_eq,Bool.and_eq_true,beq_iff_eq] at e d ⊢;rcases e with e | ⟨rfl,e⟩
  ·rcases d with d | ⟨rfl,d⟩
   ·exact .inl (UInt8.lt_trans e d)
   ·exact .inl e
  ·rcases d with d | ⟨rfl,d⟩
   ·exact .inl d
   ·exact .inr ⟨rfl,WF e d⟩
theorem ZY : ∀ a b:W8,Rz a b=true\/a=b\/Rz b a=true
 | [],[] => .inr (.inl rfl)
 | [],_::_ => .inl rfl
 | _::_,[] => .inr (.inr rfl)
 | a::x,b::y=>by
  rw [Xo,Xo];simp only [Bool.or_eq_true,decide_eq_true_eq,Bool.and_eq_true,beq_iff_eq,List.cons.injEq];rcases UInt8.lt_or_lt_of_ne (a:=a) (b:=b) |> λh=>Classical.em (a=b) |>.imp id h with h | h | h
  ·subst h;rcases ZY x y with h | h | h
   ·exact .inl (.inr ⟨rfl,h⟩)
   ·exact .inr (.inl ⟨rfl,h⟩)
   ·exact .inr (.inr (.inr ⟨rfl,h⟩))
  ·exact .inl (.inl h)
  ·exact .inr (.inr (.inl h))
theorem Ut {a b:W8} (h:Rz a b=true):Rz b a=false:=by
 cases c:Rz b a with
 | false=>rfl
 | true=>have:=WF h c;rw [W2] at this;cases this
theorem YH {a b:W8} (h:Rz a b=true):a≠b:=λe=>by subst e;rw [W2] at h;cases h
theorem Yl {a b:W8} (h:Rz a b=false) (c:a≠b):Rz b a=true:=by
 rcases ZY a b with h1 | h1 | h1
 ·rw [h] at h1;cases h1
 ·exact absurd h1 c
 ·exact h1
theorem Z1 {a b c:W8} (h:Rz b a=false) (d:Rz b c=true):Rz a c=true:=by
 rcases ZY a b with h1 | h1 | h1
 ·exact WF h1 d
 ·subst h1;exact d
 ·rw [h] at h1;cases h1
theorem bw {a b c:W8} (h:Rz a b=true) (d:Rz c b=false):Rz a c=true:=by
 rcases ZY b c with h1 | h1 | h1
 ·exact WF h h1
 ·subst h1;exact h
 ·rw [d] at h1;cases h1
theorem ZX {a b:W8}:seq a b=true<->a=b:=by unfold seq;simp
theorem Yk (a b:W8):seq a b=decide (a=b):=by
 cases h:seq a b with
 | true=>rw [ZX] at h;simp [h]
 | false =>
  have : ¬ a=b:=λe=>by rw [<- ZX] at e;rw [h] at e;cases e
  simp [this]
section
variable {α β σ S:Type}
theorem Vp (a b:W8) (x y:Unit->Option β):br (seq a b) x y=if a=b then x () else y ():=Je ZX x y
theorem Wg (a b:W8) (x y:Unit->Option β):br (Rz a b) x y=if Rz a b=true then x () else y ():=Je Iff.rfl x y
theorem Uv (p:Prop) [Decidable p] (x y:Unit->Option β):br (decide p) x y=if p then x () else y ():=Je (by simp) x y
theorem S9 (k:Nat) (c:Nat->Option β):RX (k:Int) c=c k:=by rw [SC (by omega)];simp
theorem mq {l:List α} {k:Nat} {x:α} (h:l[k]? = some x):SW (k:Int) (Kb (AS l))=true:=by
 have:=(List.getElem?_eq_some_iff.1 h).1;unfold SW Kb AS;simp;omega
theorem mB (l:List α):SW (l.length:Int) (Kb (AS l))=false:=by unfold SW Kb AS;simp
theorem TI {k:Nat} (h:k+1<=9223372036854775807):Rl .i64 (k:Int) 1=((k+1:Nat):Int):=by
 rw [R9 (by omega)];omega
theorem TL {l:List α} {k:Nat} {x:α} (h:l[k]? = some x) (a:l.length<=9223372036854775807):Rl .i64 (k:Int) 1=((k+1:Nat):Int):=by
 have:=(List.getElem?_eq_some_iff.1 h).1;exact TI (by omega)
def Zk (step:Nat->α->σ->Option (LR σ β)) (a:σ->Option β):List α->Nat->σ->Option β
 | [],_,s=>a s
 | x::l,k,s=>match step k x s with
  | none=>none
  | some (.nx s')=>Zk step a l (k+1) s'
  | some (.dn b)=>some b
def rq (mk:σ->S):Option (LR σ β)->Option (LR S β)
 | none=>none
 | some (.nx s)=>some (.nx (mk s))
 | some (.dn b)=>some (.dn b)
def oK:Option β->Option (LR S β)
 | none=>none
 | some b=>some (.dn b)
theorem cQ {l:List α} {mk:Nat->σ->S} {f:S->Option (LR S β)} {step:Nat->α->σ->Option (LR σ β)} {c:σ->Option β}
  (hs : ∀ k x a,l[k]? = some x->f (mk k a)=rq (mk (k+1)) (step k x a)) (j : ∀ a,f (mk l.length a)=oK (c a)) :
  ∀ (d n k:Nat) (a:σ),l.length-k=d->k<=l.length->d<n->IJ n f (mk k a)=Zk step c (l.drop k) k a:=by
 intro d
 induction d with
 | zero =>
  intro n k a g h i;have e:k=l.length:=by omega
  obtain ⟨m,rfl⟩ : ∃ m,n=m+1:=⟨n-1,by omega⟩;subst e;unfold IJ;rw [j,List.drop_length];unfold oK Zk;cases c a<;>rfl
 | succ d p =>
  intro n k a g h i;obtain ⟨m,rfl⟩ : ∃ m,n=m+1:=⟨n-1,by omega⟩;have e:k<l.length:=by omega
  have o:l[k]? = some l[k]:=by simp [e]
  unfold IJ;rw [hs k _ a o,List.drop_eq_getElem_cons e]
  show _=match step k l[k] a with
   | none=>none
   | some (.nx s')=>Zk step c (l.drop (k+1)) (k+1) s'
   | some (.dn b)=>some b
  cases step k l[k] a with
  | none=>rfl
  | some r=>cases r with
   | nx s'=>exact p m (k+1) s' (by omega) (by omega) (by omega)
   | dn b=>rfl
theorem eK {l:List α} (mk:Nat->σ->S) (step:Nat->α->σ->Option (LR σ β)) (b:σ->Option β) {f:S->Option (LR S β)} {s:S} (a:σ) (c:s=mk 0 a) (e:l.length<=9223372036854775807)
  (hs : ∀ k x a,l[k]? = some x->f (mk k a)=rq (mk (k+1)) (step k x a)) (d : ∀ a,f (mk l.length a)=oK (b a)) :
  loop f s=Zk step b l 0 a:=by
 subst c;have:=cQ hs d l.length 18446744073709551616 0 a (by omega) (by omega) (by omega);rw [List.drop_zero] at this;exact this
theorem bR {f:α->Option (LR α β)} {x:β} : ∀ {n m:Nat} {s:α},n<=m->IJ n f s=some x->IJ m f s=some x
 | 0,_,_,_,h=>by cases h
 | n+1,0,_,hl,_=>by omega
 | n+1,m+1,s,hl,h=>by
  unfold IJ at h ⊢;split at h
  ·cases h
  ·rename_i s' e;exact bR (by omega) h
  ·exact h
theorem Ui {f:α->Option (LR α β)} {x:β} {n:Nat} {s:α} (a:n<=18446744073709551616) (h:IJ n f s=some x):loop f s=some x:=bR a h
theorem Th {f:α->Option (LR α β)} {n:Nat} {s s':α} (h:f s=some (.nx s')):IJ (n+1) f s=IJ n f s':=by
 show (match f s with
  | none=>none
  | some (.nx s)=>IJ n f s
  | some (.dn x)=>some x)=_
 rw [h]
theorem Tq {f:α->Option (LR α β)} {n:Nat} {s:α} {x:β} (h:f s=some (.dn x)):IJ (n+1) f s=some x:=by
 show (match f s with
  | none=>none
  | some (.nx s)=>IJ n f s
  | some (.dn x)=>some x)=_
 rw [h]
theorem Zm {f : S -> Option (LR S β)} {r : β} (mk : Nat -> S) (n : Nat) {s : S} (h0 : s = mk 0) (hn : n < 18446744073709551616) (hs : ∀ k, k < n -> f (mk k) = some (.nx (mk (k + 1)))) (he : f (mk n) = some (.dn r)) : loop f s = some r := by
  subst h0
  have : ∀ d k, k + d = n -> IJ (d + 1) f (mk k) = some r := by
    intro d
    induction d with
    | zero => intro k hk; have : k = n := by omega
              subst this; exact Tq he
    | succ d ih => intro k hk; rw [Th (hs k (by omega))]; exact ih (k + 1) (by omega)
  exact Ui (n := n + 1) (by omega) (this n 0 (by omega))
end
end
section
open Go Go.Proofs.YtfilfloanndddaaGreat.Sv
def kE (x:S8):Int:=if x.1.length>32\/x.2.1.length>64 then 3 else if x.2.2.1=true/\x.2.1≠[] then 6 else if x.2.2.2<1\/x.2.2.2>1000000000 then 7 else 0
def X8:Option W8->Nat->List S8->Int×Int
 | _,_,[]=>(0,0)
 | p,k,x::l=>if kE x≠0 then ((k:Int),kE x) else match p with
  | some q=>if Rz q x.1=true then X8 (some x.1) (k+1) l else ((k:Int),6)
  | none=>X8 (some x.1) (k+1) l
def WI (l:List S8):Int×Int:=if l.length>5000 then (-1,3) else X8 none 0 l
def Asc:Option W8->List S8->Prop
 | _,[]=>True
 | p,x::l=>(∀ q,p=some q->Rz q x.1=true)/\Asc (some x.1) l
theorem aZ : ∀ {p k l},(X8 p k l).2=0<->(∀ x∈l,kE x=0)/\Asc p l
 | p,k,[]=>by simp [X8,Asc]
 | p,k,x::l=>by
  unfold X8;by_cases h:kE x=0
  ·rw [if_neg (by simp [h])];cases p with
   | none =>
    simp only [aZ (p:=some x.1) (l:=l),Asc,List.mem_cons,forall_eq_or_imp];constructor
    ·rintro ⟨a,b⟩;exact ⟨⟨h,a⟩,(λq c=>by cases c),b⟩
    ·rintro ⟨⟨_,a⟩,_,b⟩;exact ⟨a,b⟩
   | some q =>
    simp only;by_cases c:Rz q x.1=true
    ·rw [if_pos c];simp only [aZ (p:=some x.1) (l:=l),Asc,List.mem_cons,forall_eq_or_imp];constructor
     ·rintro ⟨a,b⟩;exact ⟨⟨h,a⟩,(λe d=>by cases d;exact c),b⟩
     ·rintro ⟨⟨_,a⟩,_,b⟩;exact ⟨a,b⟩
    ·rw [if_neg c];constructor
     ·intro h;cases h
     ·rintro ⟨_,b⟩;exact absurd (b.1 q rfl) c
  ·rw [if_pos h];constructor
   ·intro h';exact absurd h' h
   ·rintro ⟨a,_⟩;exact absurd (a x (by simp)) h
theorem ZD : ∀ {p k l},(X8 p k l).2=0->X8 p k l=(0,0)
 | p,k,[],_=>rfl
 | p,k,x::l,h=>by
  unfold X8 at h ⊢;by_cases a:kE x=0
  ·rw [if_neg (by simp [a])] at h ⊢;cases p with
   | none=>exact ZD h
   | some q =>
    simp only at h ⊢;by_cases b:Rz q x.1=true
    ·rw [if_pos b] at h ⊢;exact ZD h
    ·rw [if_neg b] at h;cases h
  ·rw [if_pos a] at h;exact absurd h a
structure VL (l:List S8):Prop where
 len:l.length<=5000
 ok : ∀ x∈l,kE x=0
 asc:Asc none l
theorem ZE {l:List S8}:(WI l).2=0<->VL l:=by
 unfold WI;by_cases h:l.length>5000
 ·rw [if_pos h];constructor
  ·intro h;cases h
  ·intro h';have:=h'.len;omega
 ·rw [if_neg h];rw [aZ];exact ⟨λ⟨a,b⟩=>⟨by omega,a,b⟩,λh=>⟨h.ok,h.asc⟩⟩
theorem X9 {l:List S8} (h:VL l):WI l=(0,0):=by
 have a:=ZE.2 h;unfold WI at a ⊢;rw [if_neg (by have:=h.len;omega)] at a ⊢;exact ZD a
theorem Asc.lt : ∀ {p:Option W8} {l:List S8},Asc p l -> ∀ {i:Nat} {x y:S8},l[i]? = some x->l[i+1]? = some y->Rz x.1 y.1=true
 | p,x::[],_,0,_,_,_,h2=>by simp at h2
 | p,a::b::l,h,0,x,y,h1,h2=>by
  simp at h1 h2;subst h1;subst h2;exact h.2.1 _ rfl
 | p,a::l,h,i+1,x,y,h1,h2=>by
  simp at h1 h2;exact Asc.lt h.2 h1 h2
theorem VL.lt {l:List S8} (h:VL l) {i:Nat} {x y:S8} (a:l[i]? = some x) (b:l[i+1]? = some y):Rz x.1 y.1=true:=h.asc.lt a b
def kx (l:List S8) (i:Nat):TD:=match l[i]? with
 | some x=>(x.1,false)
 | none=>([],true)
def w0 (p q:TD):Bool:=if p.2≠q.2 then q.2 else if p.1≠q.1 then Rz p.1 q.1 else true
def XK (a b:List S8) (i j:Nat):Bool:=w0 (kx a i) (kx b j)
def TM (a b:List S8):Nat->Nat×Nat
 | 0=>(0,0)
 | n+1=>if XK a b (TM a b n).1 (TM a b n).2=true then ((TM a b n).1+1,(TM a b n).2) else ((TM a b n).1,(TM a b n).2+1)
def ZQ (a b:List S8) (n:Nat):Option S8:=if XK a b (TM a b n).1 (TM a b n).2=true then a[(TM a b n).1]? else b[(TM a b n).2]?
structure Inv (a b:List S8) (i j:Nat):Prop where
 ia:i<=a.length
 jb:j<=b.length
 pa : ∀ i',i=i'+1 -> ∀ x y,a[i']? = some x->b[j]? = some y->Rz y.1 x.1=false
 pb : ∀ j',j=j'+1 -> ∀ x y,b[j']? = some x->a[i]? = some y->Rz x.1 y.1=true
theorem Zh {a b:List S8} {i j:Nat} {x y:S8} (c:a[i]? = some x) (d:b[j]? = some y):XK a b i j = !Rz y.1 x.1:=by
 unfold XK w0 kx;rw [c,d];simp only [ne_eq,not_true,if_false];by_cases h:x.1=y.1
 ·rw [if_neg (by simp [h]),h,W2];rfl
 ·rw [if_pos h];cases hs:Rz x.1 y.1 with
  | true=>rw [Ut hs];rfl
  | false=>rw [Yl hs h];rfl
theorem dg {a b:List S8} {i j:Nat} {x:S8} (c:a[i]? = some x) (d:b[j]? = none):XK a b i j=true:=by
 unfold XK w0 kx;rw [c,d];rfl
theorem dh {a b:List S8} {i j:Nat} {y:S8} (c:a[i]? = none) (d:b[j]? = some y):XK a b i j=false:=by
 unfold XK w0 kx;rw [c,d];rfl
theorem bL {a b:List S8} {i j:Nat} (c:a[i]? = none) (d:b[j]? = none):XK a b i j=true:=by
 unfold XK w0 kx;rw [c,d];rfl
theorem Inv.zero (a b:List S8):Inv a b 0 0:=⟨by omega,by omega,λ_ h=>by omega,λ_ h=>by omega⟩
theorem Inv.stepA {a b:List S8} (va:VL a) {i j:Nat} (h:Inv a b i j) {x:S8} (c:a[i]? = some x) (g:XK a b i j=true):Inv a b (i+1) j:=by
 have hi:=(List.getElem?_eq_some_iff.1 c).1;refine ⟨by omega,h.jb,λl e k y d f => ?_,λj' e k y d f => ?_⟩
 ·have:l=i:=by omega
  subst this;rw [c] at d;cases d;rw [Zh c f] at g;simpa using g
 ·exact WF (h.pb j' e k x d c) (va.lt c f)
theorem Inv.stepB {a b:List S8} (n:VL b) {i j:Nat} (h:Inv a b i j) {y:S8} (c:b[j]? = some y) (g:XK a b i j=false):Inv a b i (j+1):=by
 have p:=(List.getElem?_eq_some_iff.1 c).1;refine ⟨h.ia,by omega,λm e k o d f => ?_,λj' e k o d f => ?_⟩
 ·have l:=h.pa m e k y d c;exact Ut (Z1 l (n.lt c f))
 ·have:j'=j:=by omega
  subst this;rw [c] at d;cases d;rw [Zh f c] at g;simpa using g
theorem V4 {a b:List S8} (va:VL a) (f:VL b) : ∀ {n:Nat},n<=a.length+b.length->Inv a b (TM a b n).1 (TM a b n).2/\(TM a b n).1+(TM a b n).2=n
 | 0,_=>⟨Inv.zero a b,rfl⟩
 | n+1,h=>by
  obtain ⟨c,hs⟩:=V4 va f (n:=n) (by omega);rw [show TM a b (n+1)=if XK a b (TM a b n).1 (TM a b n).2=true then ((TM a b n).1+1,(TM a b n).2) else ((TM a b n).1,(TM a b n).2+1) from rfl]
  revert c hs;generalize (TM a b n).1=i;generalize (TM a b n).2=j;intro c hs;cases g:XK a b i j with
  | true =>
   have hi:i<a.length:=by
    refine Nat.lt_of_not_le λh' => ?_;have d:a[i]? = none:=List.getElem?_eq_none h';have e:j<b.length:=by have:=c.ia;omega
    rw [dh d (by simp [e]:b[j]? = some b[j])] at g;cases g
   have:=c.stepA va (by simp [hi]:a[i]? = some a[i]) g;rw [if_pos rfl];exact ⟨this,by omega⟩
  | false =>
   have k:j<b.length:=by
    refine Nat.lt_of_not_le λh' => ?_;have d:b[j]? = none:=List.getElem?_eq_none h';cases e:a[i]? with
    | none=>rw [bL e d] at g;cases g
    | some x=>rw [dg e d] at g;cases g
   have:=c.stepB f (by simp [k]:b[j]? = some b[j]) g;rw [if_neg (by simp)];exact ⟨this,by omega⟩
end
section
open Go Go.Proofs.YtfilfloanndddaaGreat.Sv
def Tt (p q:TD):Vc:=([p,q],([0,if w0 p q=true then 1 else 0],if w0 p q=true then 0 else 1))
def Yn (a b:List S8) (i j:Nat):TC:=([a,b],([(i:Int),(j:Int)],Tt (kx a i) (kx b j)))
def mS (a b:List S8) (n:Nat):W8:=match ZQ a b n with
 | some x=>x.1
 | none=>[]
def fresh (a b:List S8) (n:Nat) (x:S8):Bool:=decide (n=0)||decide (mS a b (n-1)≠x.1)
def lz (a b:List S8) (c:Bool):Nat->List S8
 | 0=>[]
 | n+1=>match ZQ a b n with
  | some x=>if (fresh a b n x && !(c&&x.2.2.1))=true then lz a b c n++[x] else lz a b c n
  | none=>lz a b c n
def tR (a b:List S8) (c:Bool) (n:Nat):UI:=(decide (n≠0),(if n=0 then [] else mS a b (n-1),c))
def rt (a b:List S8) (c:Bool) (n:Nat):XG:=(Yn a b (TM a b n).1 (TM a b n).2,(tR a b c n,(lz a b c n,(n:Int))))
def TU (a b:List S8):Nat->List S8
 | 0=>[]
 | n+1=>match ZQ a b n with
  | some x=>TU a b n++[x]
  | none=>TU a b n
section
variable {a b:List S8} (va:VL a) (vb:VL b)
include va vb
theorem Va {n:Nat} (h:n<a.length+b.length) : ∃ x,ZQ a b n=some x/\(x∈a\/x∈b):=by
 obtain ⟨e,hs⟩:=V4 va vb (n:=n) (by omega);unfold ZQ;revert e hs;generalize (TM a b n).1=i;generalize (TM a b n).2=j;intro e hs;cases g:XK a b i j with
 | true =>
  have hi:i<a.length:=by
   refine Nat.lt_of_not_le λh' => ?_;have c:a[i]? = none:=List.getElem?_eq_none h';have d:j<b.length:=by have:=e.ia;omega
   rw [dh c (by simp [d]:b[j]? = some b[j])] at g;cases g
  exact ⟨a[i],by simp [hi],.inl (List.getElem_mem hi)⟩
 | false =>
  have f:j<b.length:=by
   refine Nat.lt_of_not_le λh' => ?_;have c:b[j]? = none:=List.getElem?_eq_none h';cases d:a[i]? with
   | none=>rw [bL d c] at g;cases g
   | some x=>rw [dg d c] at g;cases g
  exact ⟨b[j],by simp [f],.inr (List.getElem_mem f)⟩
theorem gI {n:Nat} {x:S8} (h:ZQ a b n=some x):kE x=0:=by
 have:x∈a\/x∈b:=by
  unfold ZQ at h;split at h
  ·exact .inl (List.mem_of_getElem? h)
  ·exact .inr (List.mem_of_getElem? h)
 rcases this with h | h
 ·exact va.ok x h
 ·exact vb.ok x h
theorem dm {n:Nat} (k:n+1<a.length+b.length) {x y:S8} (d:ZQ a b n=some x) (c:ZQ a b (n+1)=some y):Rz y.1 x.1=false:=by
 obtain ⟨h,hs⟩:=V4 va vb (n:=n) (by omega);unfold ZQ at d c;rw [show TM a b (n+1)=if XK a b (TM a b n).1 (TM a b n).2=true then ((TM a b n).1+1,(TM a b n).2) else ((TM a b n).1,(TM a b n).2+1) from rfl] at c
 revert h hs d c;generalize (TM a b n).1=i;generalize (TM a b n).2=j;intro d c h hs;cases g:XK a b i j with
 | true =>
  rw [if_pos g] at d;simp only [g,if_true] at c;have e:=h.stepA va d g;cases f:XK a b (i+1) j with
  | true=>rw [if_pos f] at c;exact Ut (va.lt d c)
  | false=>rw [if_neg (by simp [f])] at c;exact e.pa i rfl x y d c
 | false =>
  rw [if_neg (by simp [g])] at d;simp only [g,if_false,Bool.false_eq_true] at c;have e:=h.stepB vb d g;cases f:XK a b i (j+1) with
  | true=>rw [if_pos f] at c;exact Ut (e.pb j rfl x y d c)
  | false=>rw [if_neg (by simp [f])] at c;exact Ut (vb.lt d c)
theorem Us : ∀ {n:Nat},n<=a.length+b.length->(TU a b n).length=n
 | 0,_=>rfl
 | n+1,h=>by
  obtain ⟨x,c,_⟩:=Va va vb (n:=n) (by omega);unfold TU;rw [c];simp [Us (n:=n) (by omega)]
theorem Xl : ∀ {n k:Nat},n<=a.length+b.length->k<n->(TU a b n)[k]? = ZQ a b k
 | n+1,k,h,hk=>by
  obtain ⟨x,d,_⟩:=Va va vb (n:=n) (by omega);unfold TU;rw [d];show (TU a b n++[x])[k]? = _;have e:=Us va vb (n:=n) (by omega);by_cases c:k<n
  ·rw [List.getElem?_append_left (by omega)];exact Xl (by omega) c
  ·have:k=n:=by omega
   subst this;rw [List.getElem?_append_right (by omega),e];simp [d]
theorem cS {n m:Nat} (d:m<=a.length+b.length) (h:n<=m):(TU a b m).take n=TU a b n:=by
 apply List.ext_getElem?;intro k;rw [List.getElem?_take];by_cases c:k<n
 ·rw [if_pos c,Xl va vb d (by omega),Xl va vb (by omega) c]
 ·rw [if_neg c,List.getElem?_eq_none];rw [Us va vb (by omega)];omega
end
end
section
open Go Go.Proofs.YtfilfloanndddaaGreat.Sv
theorem TH (n:Nat):Kb n=(n:Int):=rfl
theorem TF {α:Type} (l:List α):AS l=l.length:=rfl
theorem X5 (l:List UInt8):MW l=l.length:=rfl
theorem aX:Hf true=false:=rfl
theorem mc:Hf false=true:=rfl
theorem To {β:Type} (c:Bool) (x y:Unit->Option β):br (Hf c) x y=br c y x:=SO c x y
theorem Te {β:Type} {a b:Nat} (h:a<=b) (k:Unit->Option β):gd (CD a b) k=k ():=by rw [SQ,if_pos h]
theorem YW (k:W8):V7 k=some (if k.length>32 then 3 else 0):=by
 unfold V7;rw [Sp,TH,X5];by_cases h:k.length>32
 ·rw [if_pos (by omega),if_pos h]
 ·rw [if_neg (by omega),if_neg h]
theorem Wy (x:S8):UZ x=some (kE x):=by
 unfold UZ kE;rw [YW,SL,Ss];by_cases e:x.1.length>32
 ·simp [e]
 rw [if_neg e,if_pos rfl,Sp,TH,X5];by_cases f:x.2.1.length>64
 ·rw [if_pos (by omega),if_pos (.inr f)]
 rw [if_neg (by omega : ¬ (x.2.1.length:Int)>64),if_neg (by omega),Sx];by_cases b:x.2.2.1=true
 ·rw [if_pos b,To,Vp];by_cases c:x.2.1=[]
  ·rw [if_pos c,if_neg (by simp [c]),Sr,Sp];by_cases a:x.2.2.2<1
   ·simp [a]
   ·by_cases d:x.2.2.2>1000000000<;>simp [a,d]
  ·rw [if_neg c,if_pos ⟨b,c⟩]
 ·rw [if_neg b,if_neg (by simp [b]),Sr,Sp];by_cases a:x.2.2.2<1
  ·simp [a]
  ·by_cases d:x.2.2.2>1000000000<;>simp [a,d]
theorem XB (l:List S8) (q:l.length<=9223372036854775807):Ts l=some (WI l):=by
 unfold Ts WI;rw [Sp,TH,TF];by_cases h:l.length>5000
 ·rw [if_pos (by omega),if_pos h]
 rw [if_neg (by omega),if_neg h]
 have key:=eK (β:=Nat×(Int×Int×Int)×Unit) (l:=l) (λk (_:Int)=>((0:Int),((0:Int),(k:Int))))
  (λk x _=>if kE x≠0 then some (.dn (0,((kE x,((k:Int),(k:Int))),()))) else if k>0 then
    (match l[k-1]? with
    | some y=>if Rz y.1 x.1=true then some (.nx 0) else some (.dn (0,(((6:Int),((k:Int),(k:Int))),())))
    | none=>none) else some (.nx 0))
  (λ_=>some (1,((0,(0,(l.length:Int))),()))) (s:=(0,(0,0))) (0:Int) rfl q (f:=(λs0=>br (SW s0.2.2 (Kb (AS l))) (λ_=>RX s0.2.2 λB=>ix l B λz=>bd (UZ z) λw=>br (RT w 0) (λ_=>some (.dn ((0,((w,(s0.2.2,s0.2.2)),()))))) λ_=>br (SU s0.2.2 0) (λ_=>RX (Rp .i64 s0.2.2 1) λC=>ix l C λD=>br (Hf (Rz D.1 z.1)) (λ_=>some (.dn ((0,((6,(s0.2.2,s0.2.2)),()))))) λ_=>some (.nx ((s0.1,(s0.2.1,Rl .i64 s0.2.2 1))))) λ_=>some (.nx ((s0.1,(s0.2.1,Rl .i64 s0.2.2 1))))) λ_=>some (.dn ((1,(s0,()))))))
  (λk x j b=>by
   simp only;rw [mq b,R5,S9,Sb b,Wy,SL,Ss];by_cases c:kE x=0
   ·have A:k<l.length:=(List.getElem?_eq_some_iff.1 b).1;simp only [c,if_true,ne_eq,not_true,if_false];rw [Sp];by_cases d:k>0
    ·rw [if_pos (by omega:(k:Int)>0),if_pos d,SB (by omega),show ((k:Int)-1)=((k-1:Nat):Int) by omega,S9];have g:l[k-1]? = some l[k-1]:=by rw [List.getElem?_eq_getElem (by omega)]
     rw [Sb g,g,To,Wg];simp only;by_cases a:Rz l[k-1].1 x.1=true
     ·rw [if_pos a,if_pos a,TL b q];rfl
     ·rw [if_neg a,if_neg a];rfl
    ·rw [if_neg (by omega : ¬ (k:Int)>0),if_neg d,TL b q];rfl
   ·simp only [c,if_false,ne_eq,not_false_iff,if_true];rfl)
  (λj=>by
   simp only
   rw [mB,Rd];rfl)
 simp only [TH,TF] at key;rw [key]
 have i : ∀ (m:List S8) (k:Nat) (p:Option W8),l.drop k=m->(p=if k=0 then none else (l[k-1]?).map (·.1)) -> ∀ j,bd (Zk (β:=Nat×(Int×Int×Int)×Unit) (λk x (_:Int)=>if kE x≠0 then some (.dn (0,((kE x,((k:Int),(k:Int))),()))) else if k>0 then
    (match l[k-1]? with
    | some y=>if Rz y.1 x.1=true then some (.nx 0) else some (.dn (0,(((6:Int),((k:Int),(k:Int))),())))
    | none=>none) else some (.nx (0:Int))) (λ_=>some (1,((0,(0,(l.length:Int))),()))) m k j) (λr=>br (neq r.1 0) (λ_=>some (r.2.1.2.1,r.2.1.1)) λ_=>some ((0:Int),(0:Int)))=some (X8 p k m):=by
  intro m
  induction m with
  | nil=>intro k p _ _ j;rfl
  | cons x m u =>
   intro k p t n j
   have b:l[k]? = some x:=by
    have:=congrArg List.head? t;rw [List.head?_drop] at this;simpa using this
   have A:k<l.length:=(List.getElem?_eq_some_iff.1 b).1
   have e:l.drop (k+1)=m:=by
    have:=congrArg List.tail t;rw [List.tail_drop] at this;simpa using this
   unfold Zk X8;by_cases c:kE x=0
   ·simp only [c,ne_eq,not_true,if_false];by_cases d:k>0
    ·have g:l[k-1]? = some l[k-1]:=by rw [List.getElem?_eq_getElem (by omega)]
     rw [if_pos d,g];rw [if_neg (by omega : ¬ k=0),g] at n;subst n;simp only [Option.map_some];by_cases a:Rz l[k-1].1 x.1=true
     ·rw [if_pos a,if_pos a];exact u (k+1) (some x.1) e (by rw [if_neg (by omega)];simp [b]) 0
     ·rw [if_neg a,if_neg a];rfl
    ·have o:k=0:=by omega
     subst o;rw [if_neg d];simp only [if_true] at n;subst n;exact u 1 (some x.1) e (by simp [b]) 0
   ·simp only [c,ne_eq,not_false_iff,if_true];rfl
 exact i l 0 none (by simp) (by simp) 0
theorem Y6 {α β σ S:Type} {l:List α} (mk:Nat->σ->S) (F:List α->Nat->σ->Option β) {f:S->Option (LR S β)} {s:S} (a:σ) (p:s=mk 0 a) (w:l.length<=9223372036854775807)
  (t : ∀ a,f (mk l.length a)=oK (F [] l.length a))
  (hc : ∀ k x m a,l.drop k=x::m->l[k]? = some x->k<l.length->(∃ b,f (mk k a)=some (.nx (mk (k+1) b))/\F (x::m) k a=F m (k+1) b)\/f (mk k a)=oK (F (x::m) k a)):loop f s=F l 0 a:=by
 subst p
 have e : ∀ (m:List α) (k n:Nat) (a:σ),l.drop k=m->k<=l.length->m.length<n->IJ n f (mk k a)=F m k a:=by
  intro m
  induction m with
  | nil =>
   intro k n a c r d;obtain ⟨n,rfl⟩ : ∃ j,n=j+1:=⟨n-1,by omega⟩
   have h:k=l.length:=by
    have:=congrArg List.length c;simp at this;omega
   subst h;unfold IJ;rw [t];cases F [] l.length a<;>rfl
  | cons x m u =>
   intro k n a c r d;obtain ⟨n,rfl⟩ : ∃ j,n=j+1:=⟨n-1,by omega⟩
   have o:l[k]? = some x:=by
    have:=congrArg List.head? c;rw [List.head?_drop] at this;simpa using this
   have g:k<l.length:=(List.getElem?_eq_some_iff.1 o).1
   have i:l.drop (k+1)=m:=by
    have:=congrArg List.tail c;rw [List.tail_drop] at this;simpa using this
   rcases hc k x m a c o g with ⟨b,h1,q⟩ | h1
   ·rw [Th h1,q];exact u (k+1) n b i (by omega) (by simp at d;omega)
   ·unfold IJ;rw [h1];cases F (x::m) k a<;>rfl
 exact e l 0 _ a (by simp) (by omega) (by omega)
theorem rl {α:Type} {l:List α} {k:Nat} (h:k<l.length):SW (k:Int) (l.length:Int)=true:=by unfold SW;simp;omega
theorem re {α:Type} (l:List α):SW (l.length:Int) (l.length:Int)=false:=by unfold SW;simp
theorem TZ {α β:Type} {m:Option α} {x:α} {k:α->Option β} {r:Option β} (h:m=some x) (e:k x=r):bd m k=r:=by subst h;exact e
theorem ZI (k:TD):VB k=some (k.2&&decide (k.1≠[])):=by
 unfold VB;rw [Sx];cases h:k.2 with
 | true=>rw [if_pos rfl,Yk];simp [Hf]
 | false=>rw [if_neg (by simp)];rfl
def Vr (k:TD):Prop:=k.2=true->k.1=[]
theorem lq {k:TD} (h:Vr k):VB k=some false:=by
 rw [ZI];cases a:k.2 with
 | true=>simp [h a]
 | false=>rfl
theorem UC (l:List S8) (i:Nat):Vr (kx l i):=by
 unfold kx Vr;split<;>simp
theorem Wz {l:List TD} (h : ∀ k∈l,Vr k) (b:l≠[]) (e:l.length<=32):VM l=some 0:=by
 unfold VM;simp only [TH,TF];rw [Sn,Sp,if_neg (by have:=List.length_pos_iff.2 b;omega),if_neg (by omega)]
 rw [Y6 (l:=l) (σ:=Unit) (s:=(0,0)) (λk _=>((0:Int),(k:Int))) (λ_ _ _=>some (1,((0,(l.length:Int)),()))) () rfl (by omega) (λd=>by
  simp only;rw [re];rfl) (λk x m d _ a c => .inl ⟨(),by
   simp only;rw [rl c,R5,S9,Sb a,lq (h x (List.mem_of_getElem? a)),SL,Rd,TL a (by omega)],rfl⟩),SL]
 rfl
theorem YA {α:Type} {l:List α} (h:l.length<=1048576):(gd (CD (AS l) 1048576) λ_=>some l)=some l:=Te h _
theorem bY (p q:TD):V9 [p,q]=some (Tt p q):=by
 have g:w0 p q=(if p.2≠q.2 then q.2 else if p.1≠q.1 then Rz p.1 q.1 else true):=rfl
 unfold V9;simp only [TH,TF,List.length_cons,List.length_nil];rw [show Rm .i64 2 ((0+1+1:Nat):Int)=4 from rfl,show Rp .i64 4 1=3 from rfl];unfold TP;rw [show RX 4=λk=>k 4 from rfl];simp only [Te (show 4<=1048576 by omega),YA (show [p,q].length<=1048576 by simp),SL];rw [show RX ((0+1+1:Nat):Int)=λk=>k 2 from rfl];simp only [Te (show 2<=1048576 by omega)];have i : ∀ {w l:Int} {x:Nat×((Int×(List Int×(List TD×(List Int×Int))))×Unit)},x=(0,((0,([0,w,0,1],([p,q],([0,l],0)))),()))->(gd (KC 1 (AS x.2.1.2.1)) λ_=>ix x.2.1.2.1 1 λd=>some ((x.2.1.2.2.1,(x.2.1.2.2.2.1,d))))=some ([p,q],([0,l],w)):=λe=>by subst e;rfl
 have r : ∀ {f:(Int×(List Int×(List TD×(List Int×Int))))->Option (LR (Int×(List Int×(List TD×(List Int×Int)))) (Nat×((Int×(List Int×(List TD×(List Int×Int))))×Unit)))} {w l:Int},f (3,([0,0,0,0],([p,q],([0,0],0))))=some (.nx (2,([0,0,0,1],([p,q],([0,0],0)))))->f (2,([0,0,0,1],([p,q],([0,0],0))))=some (.nx (1,([0,0,0,1],([p,q],([0,0],0))))) ->
   f (1,([0,0,0,1],([p,q],([0,0],0))))=some (.nx (0,([0,w,0,1],([p,q],([0,l],0)))))->f (0,([0,w,0,1],([p,q],([0,l],0))))=some (.dn (0,((0,([0,w,0,1],([p,q],([0,l],0)))),()))) ->
   loop f (3,([0,0,0,0],([p,q],([0,0],0))))=some (0,((0,([0,w,0,1],([p,q],([0,l],0)))),())):=λa b j m =>
  Ui (n:=4) (by omega) ((Th a).trans ((Th b).trans ((Th j).trans (Tq m))))
 have o : ∀ {β:Type} (A B:Option β),w0 p q=true->br (Hf (beq p.2 q.2)) (λ_=>br (Hf q.2) (λ_=>B) λ_=>A) (λ_=>br (Hf (seq p.1 q.1)) (λ_=>br (Hf (Rz p.1 q.1)) (λ_=>B) λ_=>A) λ_=>A)=A:=fun {β} A B h=>by
  rw [g] at h;rw [To (beq p.2 q.2),Sx (beq p.2 q.2),To q.2,Sx q.2,To (seq p.1 q.1),Vp,To (Rz p.1 q.1),Wg];by_cases a:p.2=q.2
  ·rw [if_neg (by simp [a])] at h;rw [if_pos (by simp [Sv.beq,a])];by_cases b:p.1=q.1
   ·rw [if_pos b]
   ·rw [if_neg b];rw [if_pos b] at h;rw [if_pos h]
  ·rw [if_pos a] at h;rw [if_neg (by simp [Sv.beq,a]),if_pos h]
 have c : ∀ {β:Type} (A B:Option β),w0 p q≠true->br (Hf (beq p.2 q.2)) (λ_=>br (Hf q.2) (λ_=>B) λ_=>A) (λ_=>br (Hf (seq p.1 q.1)) (λ_=>br (Hf (Rz p.1 q.1)) (λ_=>B) λ_=>A) λ_=>A)=B:=fun {β} A B h=>by
  rw [g] at h;rw [To (beq p.2 q.2),Sx (beq p.2 q.2),To q.2,Sx q.2,To (seq p.1 q.1),Vp,To (Rz p.1 q.1),Wg];by_cases a:p.2=q.2
  ·rw [if_neg (by simp [a])] at h;rw [if_pos (by simp [Sv.beq,a])];by_cases b:p.1=q.1
   ·rw [if_neg (by simp [b])] at h;exact absurd rfl h
   ·rw [if_neg b];rw [if_pos b] at h;rw [if_neg h]
  ·rw [if_pos a] at h;rw [if_neg (by simp [Sv.beq,a]),if_neg h]
 rw [show Q8 4 (0:Int)=[0,0,0,0] from rfl,show Q8 2 (0:Int)=[0,0] from rfl];by_cases h:w0 p q=true
 ·refine TZ (x:=(0,((0,([0,0,0,1],([p,q],([0,1],0)))),()))) ?_ ?_;refine Ui (n:=4) (by omega) ?_;refine (Th (s':=(2,([0,0,0,1],([p,q],([0,0],0))))) ?_).trans ((Th (s':=(1,([0,0,0,1],([p,q],([0,0],0))))) ?_).trans ((Th (s':=(0,([0,0,0,1],([p,q],([0,1],0))))) ?_).trans (Tq ?_)))
  ·rfl
  ·rfl
  ·exact o _ _ h
  ·rfl
  ·show some ([p,q],([0,1],0))=_;unfold Tt;simp [h]
 ·refine TZ (x:=(0,((0,([0,1,0,1],([p,q],([0,0],0)))),()))) ?_ ?_;refine Ui (n:=4) (by omega) ?_;refine (Th (s':=(2,([0,0,0,1],([p,q],([0,0],0))))) ?_).trans ((Th (s':=(1,([0,0,0,1],([p,q],([0,0],0))))) ?_).trans ((Th (s':=(0,([0,1,0,1],([p,q],([0,0],0))))) ?_).trans (Tq ?_)))
  ·rfl
  ·rfl
  ·exact c _ _ h
  ·rfl
  ·show some ([p,q],([0,0],1))=_;unfold Tt;simp [h]
theorem ZC {p q:TD} (a:Vr p) (b:Vr q):Ug [p,q]=some (Tt p q,0):=by
 unfold Ug;rw [Wz (by simp [a,b]) (by simp) (by simp),SL,Ss,if_pos rfl,bY,SL]
theorem cO {p q:TD} (c:Vr p) (d:Vr q):WO (Tt p q)=some (0,0):=by
 unfold WO;rw [show (Tt p q).1=[p,q] from rfl,Wz (by simp [c,d]) (by simp) (by simp),SL,Ss,if_pos rfl,Ss,if_pos (show Kb (AS (Tt p q).2.1)=Kb (AS [p,q]) from rfl),bY,SL];simp only [TH,TF]
 rw [Y6 (l:=(Tt p q).2.1) (σ:=Unit) (s:=(0,(0,0))) (λk _=>((0:Int),((k:Int),(0:Int)))) (λ_ _ _=>some (1,((0,(((Tt p q).2.1.length:Int),0)),()))) () rfl (show 2<=9223372036854775807 by omega) (λe=>by
  simp only;rw [re];rfl) (λk x m e _ a b => .inl ⟨(),by
   simp only;rw [rl b,R5,S9,Sb a,S9,Sb a,Ss,if_pos rfl,TL a (show 2<=9223372036854775807 by omega)],rfl⟩),SL]
 rw [show neq 1 0=false from rfl,Rd,Ss,if_pos rfl]
def wn (p q:TD):Nat:=if w0 p q=true then 0 else 1
def wk (p q:TD):TD:=if w0 p q=true then p else q
theorem cD (p q:TD):(Tt p q).2.2=(wn p q:Int):=by unfold Tt wn;split<;>rfl
theorem cC (p q:TD):(Tt p q).1[wn p q]? = some (wk p q):=by unfold Tt wn wk;split<;>rfl
theorem bW {p q:TD} (a:Vr p) (b:Vr q):V8 (Tt p q)=some (if (wk p q).2=true then 12 else 0):=by
 unfold V8;rw [cO a b,SL,Ss,if_pos rfl,cD,S9,Sb (cC p q),Sx];split<;>rfl
theorem XT {p q:TD} (a:Vr p) (b:Vr q):Um (Tt p q)=some (if (wk p q).2=true then (0,([],12)) else ((wn p q:Int),((wk p q).1,0))):=by
 unfold Um;rw [bW a b,SL,Ss,cD,S9,Sb (cC p q)];by_cases h:(wk p q).2=true<;>simp [h]
def rk (p q k:TD):TD×TD:=if w0 p q=true then (k,q) else (p,k)
theorem f6 (p q:TD):UB (0,(1,([p,q],())))=some (w0 p q):=by
 unfold UB w0;show br (Hf (beq p.2 q.2)) (λ_=>some q.2) (λ_=>br (Hf (seq p.1 q.1)) (λ_=>some (Rz p.1 q.1)) λ_=>some (SW 0 1))=_;rw [To (beq p.2 q.2),Sx (beq p.2 q.2),To (seq p.1 q.1),Vp];by_cases a:p.2=q.2
 ·rw [if_pos (show Sv.beq p.2 q.2=true by simp [Sv.beq,a]),if_neg (show ¬ p.2≠q.2 by simp [a])];by_cases b:p.1=q.1
  ·rw [if_pos b,if_neg (show ¬ p.1≠q.1 by simp [b])];rfl
  ·rw [if_neg b,if_pos b]
 ·rw [if_neg (show ¬ Sv.beq p.2 q.2=true by simp [Sv.beq,a]),if_pos a]
theorem f7 (p q:TD):UB (1,(0,([p,q],())))=some (!w0 p q):=by
 unfold UB w0;show br (Hf (beq q.2 p.2)) (λ_=>some p.2) (λ_=>br (Hf (seq q.1 p.1)) (λ_=>some (Rz q.1 p.1)) λ_=>some (SW 1 0))=_;rw [To (beq q.2 p.2),Sx (beq q.2 p.2),To (seq q.1 p.1),Vp];by_cases b:p.2=q.2
 ·rw [if_pos (show Sv.beq q.2 p.2=true by simp [Sv.beq,b]),if_neg (show ¬ p.2≠q.2 by simp [b])];by_cases a:p.1=q.1
  ·rw [if_pos a.symm,if_neg (show ¬ p.1≠q.1 by simp [a])];rfl
  ·rw [if_neg (show ¬ q.1=p.1 from λe=>a e.symm),if_pos a];cases hs:Rz p.1 q.1 with
   | true=>rw [Ut hs];rfl
   | false=>rw [Yl hs a];rfl
 ·rw [if_neg (show ¬ Sv.beq q.2 p.2=true by simp [Sv.beq,Ne.symm b]),if_pos b];cases c:p.2<;>cases d:q.2<;>simp_all
theorem XX {p q k:TD} (y:Vr p) (z:Vr q) (x:Vr k) (A:(wk p q).2=false) (l:k.2=true\/Rz k.1 (wk p q).1=false) :
  ∃ n,Ua (Tt p q,k)=some (Tt (rk p q k).1 (rk p q k).2,(n,0)):=by
 have g:(Tt p q).1.length<=1048576:=by show 2<=_;omega
 have c:(Tt p q).2.1.length<=1048576:=by show 2<=_;omega
 have i:lset (Tt p q).1 (wn p q) k=[(rk p q k).1,(rk p q k).2]:=by unfold Tt wn rk;split<;>rfl
 have d:(Tt p q).2.1=[0,(1-(wn p q:Int))]:=by unfold Tt wn;split<;>rfl
 have o:wn p q=0\/wn p q=1:=by unfold wn;split<;>simp
 have up : ∀ {f:(Int×(Int×(Unit×(List Int×Int))))->Option (LR (Int×(Int×(Unit×(List Int×Int)))) (Nat×((Int×(Int×(Unit×(List Int×Int))))×Unit)))},
   (f=λa=>br (RR (SX .i64 a.2.1 2) 0) (λ_=>some (.dn ((0,((a.1,(SX .i64 a.2.1 2,((),a.2.2.2))),()))))) λ_=>RX (SX .i64 a.2.1 2) λu=>gd (KC u (AS a.2.2.2.1)) λ_=>ix a.2.2.2.1 u λs=>bd (UB ((s,(a.2.2.2.2,([(rk p q k).1,(rk p q k).2],()))))) λr=>br r (λ_=>RX (SX .i64 a.2.1 2) λj=>gd (KC j (AS a.2.2.2.1)) λ_=>ix a.2.2.2.1 j λt=>RX (SX .i64 a.2.1 2) λe=>gd (KC e (AS a.2.2.2.1)) λ_=>ix a.2.2.2.1 e λD=>some (.nx ((Rl .i64 a.1 1,(SX .i64 a.2.1 2,((),(lset a.2.2.2.1 e a.2.2.2.2,t))))))) λ_=>some (.nx ((Rl .i64 a.1 1,(SX .i64 a.2.1 2,((),a.2.2.2))))))
   -> loop f (0,((2:Int)+wn p q,((),([0,(1-(wn p q:Int))],(wn p q:Int)))))=some (0,((1,(0,((),(Tt (rk p q k).1 (rk p q k).2).2))),())):=by
  intro f w;subst w;refine Ui (n:=2) (by omega) ((Th (s':=(1,(1,((),(Tt (rk p q k).1 (rk p q k).2).2)))) ?_).trans (Tq rfl));rcases o with h | h
  ·rw [h]
   have B:w0 p q=true:=by
    unfold wn at h;by_cases hh:w0 p q=true
    ·exact hh
    ·rw [if_neg hh] at h;cases h
   show bd (UB (1,(0,([(rk p q k).1,(rk p q k).2],())))) _=_;rw [f7,SL];unfold Tt;cases C:w0 (rk p q k).1 (rk p q k).2<;>rfl
  ·rw [h];show bd (UB (0,(1,([(rk p q k).1,(rk p q k).2],())))) _=_;rw [f6,SL];unfold Tt;cases C:w0 (rk p q k).1 (rk p q k).2<;>rfl
 unfold Ua;simp only [bW y z,A,SL,Ss,if_true,if_false,Bool.false_eq_true];rw [Wz (by simp [x]) (by simp) (by simp),SL];simp only [if_true,To];rw [Sx];unfold TP TW;simp only [cD,S9,Sb (cC p q),Te g,Te c,SL,Wg,SR,TF,TH,i];have m:wn p q<(Tt p q).1.length:=by show wn p q<2;omega
 have hi:Rl .i64 (([(rk p q k).1,(rk p q k).2].length:Nat):Int) (wn p q:Int)=(2:Int)+wn p q:=by
  rw [R9 (by simp;omega)];rfl
 rw [hi,d];simp only [TF,SR] at up;have key:=up rfl;rw [if_pos m];by_cases b:k.2=true
 ·rw [if_pos b,key,SL];exact ⟨_,rfl⟩
 ·rw [if_neg b,if_neg (by rcases l with h | h;exact absurd h b;rw [h];simp),key,SL]
  exact ⟨_,rfl⟩
end
end Go.Proofs.YtfilfloanndddaaGreat.Pl
