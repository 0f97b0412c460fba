/- Functions of the program and of the specification as plain functions, and laws about them. No condition. -/
import Derived.Test.YtfilfloanndddaaGreatPs3
set_option linter.all false
namespace Go.Proofs.YtfilfloanndddaaGreat.Pl
open Go Go.Proofs.YtfilfloanndddaaGreat.Sv
set_option linter.unusedVariables false
abbrev AD:=((List UInt8)×((List UInt8)×(Bool×Int)))
abbrev BI:=(Int×(List AD))
abbrev AJ:=(Int×(List (List BI)))
abbrev AN:=((List UInt8)×Bool)
abbrev ET:=((List AN)×((List Int)×Int))
abbrev AM:=((List (List AD))×((List Int)×ET))
abbrev B0:=(Bool×((List UInt8)×Bool))
abbrev H3:=(AM×(B0×((List AD)×Int)))
abbrev Job:=(Int×H3)
abbrev AG:=(AJ×((List Job)×Int))
abbrev Rp:=(Int×(Int×(Int×(Int×(Int×(Int×(Int×(Int×(Int×(Int×(Int×Int)))))))))))
def FX (x:(List UInt8)):Option Int :=
 br (CD (Ab (Gc x)) 32) (λ_=>some 3) λ_=>some 0
def CW (x:AD):Option Int :=
 bd (FX x.1) λa=>br (Ay a 0) (λ_=>some 3) λ_=>br (CD (Ab (Gc x.2.1)) 64) (λ_=>some 3) λ_=>br x.2.2.1 (λ_=>br (Ad (seq x.2.1 [])) (λ_=>some 6) λ_=>br (Ak x.2.2.2 1) (λ_=>some 7) λ_=>br (CD x.2.2.2 1000000000) (λ_=>some 7) λ_=>some 0) λ_=>br (Ak x.2.2.2 1) (λ_=>some 7) λ_=>br (CD x.2.2.2 1000000000) (λ_=>some 7) λ_=>some 0
def BZ (x:(List AD)):Option (Int×Int) :=
 br (CD (Ab (AA x)) 5000) (λ_=>some (((-1),3))) λ_=>bd (loop (λs0=>br (Ak s0.2.2 (Ab (AA x))) (λ_=>AT s0.2.2 λf=>ix x f λc=>bd (CW c) λb=>br (Ay b 0) (λ_=>some (.dn ((0,((b,(s0.2.2,s0.2.2)),()))))) λ_=>br (CD s0.2.2 0) (λ_=>AT (CA .i64 s0.2.2 1) λe=>ix x e λd=>br (Ad (Cy d.1 c.1)) (λ_=>some (.dn ((0,((6,(s0.2.2,s0.2.2)),()))))) λ_=>some (.nx ((s0.1,(s0.2.1,AI .i64 s0.2.2 1))))) λ_=>some (.nx ((s0.1,(s0.2.1,AI .i64 s0.2.2 1))))) λ_=>some (.dn ((1,(s0,()))))) ((0,(0,0)))) λa=>br (neq a.1 0) (λ_=>some (a.2.1.2.1,a.2.1.1)) λ_=>some (0,0)
def Gm (x:BI):Option (Int×Int) :=
 br (Ak x.1 1) (λ_=>some (((-1),7))) λ_=>br (CD x.1 1000000) (λ_=>some (((-1),7))) λ_=>bd (BZ x.2) λa=>some a
def DE (x:(BI×Int)):Option Int :=
 bd (Gm x.1) λa=>br (Ay a.2 0) (λ_=>some a.2) λ_=>br (A8 (Ab (AA x.1.2)) 0) (λ_=>some 4) λ_=>br (CD (Ab (AA x.1.2)) x.2) (λ_=>some 3) λ_=>some 0
def DM (x:AJ):Option (Int×(Int×Int)) :=
 br (Ak x.1 1) (λ_=>some ((0,(0,7)))) λ_=>br (CD x.1 16) (λ_=>some ((0,(0,7)))) λ_=>br (CD (Ab (AA x.2)) 12) (λ_=>some ((0,(0,3)))) λ_=>bd (loop (λs0=>br (Ak s0.2.2.2.1 (Ab (AA x.2))) (λ_=>AT s0.2.2.2.1 λp=>ix x.2 p λi=>br (CD (Ab (AA i)) 2) (λ_=>some (.dn ((0,((0,(s0.2.2.2.1,(3,s0.2.2.2))),()))))) λ_=>bd (loop (λa=>br (Ak a.2.1 (Ab (AA i))) (λ_=>AT a.2.1 λn=>ix i n λe=>gd (HY s0.2.2.2.1 0) λ_=>bd (DE (e,UO .i64 x.1 s0.2.2.2.1)) λd=>br (A8 d 0) (λ_=>br (Qy (JF ((λm=>(λo=>A8 m o))) a.2.2.2 e.1) false) (λ_=>some (.dn ((0,((a.2.1,(a.2.1,(8,a.2.2.2))),()))))) λ_=>br (Ay d 0) (λ_=>some (.dn ((0,((a.2.1,(a.2.1,(d,a.2.2.2))),()))))) λ_=>some (.nx ((a.2.1,(AI .i64 a.2.1 1,(d,IW ((λl=>(λh=>A8 l h))) a.2.2.2 e.1 true)))))) λ_=>br (Ay d 0) (λ_=>some (.dn ((0,((a.2.1,(a.2.1,(d,a.2.2.2))),()))))) λ_=>some (.nx ((a.2.1,(AI .i64 a.2.1 1,(d,IW ((λg=>(λf=>A8 g f))) a.2.2.2 e.1 true)))))) λ_=>some (.dn ((1,(a,()))))) ((0,(0,(s0.2.2.1,s0.2.2.2.2))))) λb=>br (neq b.1 0) (λ_=>some (.dn ((0,((b.2.1.1,(s0.2.2.2.1,(b.2.1.2.2.1,(s0.2.2.2.1,b.2.1.2.2.2)))),()))))) λ_=>some (.nx ((b.2.1.1,(s0.2.2.2.1,(b.2.1.2.2.1,(AI .i64 s0.2.2.2.1 1,b.2.1.2.2.2))))))) λ_=>some (.dn ((0,(s0,()))))) ((0,(0,(0,(0,[])))))) λc=>br (Ay c.2.1.2.2.1 0) (λ_=>some ((c.2.1.2.1,(c.2.1.1,c.2.1.2.2.1)))) λ_=>br (CD (Ab (AA x.2)) 0) (λ_=>AT (CA .i64 (Ab (AA x.2)) 1) λj=>ix x.2 j λk=>br (A8 (Ab (AA k)) 0) (λ_=>some ((CA .i64 (Ab (AA x.2)) 1,(0,6)))) λ_=>some ((0,(0,0)))) λ_=>some ((0,(0,0)))
def Ee (x:AJ):Option Int :=
 bd (loop (λs0=>br (Ak s0.2 (Ab (AA x.2))) (λ_=>AT s0.2 λf=>ix x.2 f λb=>bd (loop (λa=>br (Ak a.1 (Ab (AA b))) (λ_=>AT a.1 λd=>ix b d λc=>some (.nx (AI .i64 a.1 1,LL a.2 c.1))) λ_=>some (.dn ((0,(a,()))))) (0,s0.1)) λg=>some (.nx (g.2.1.2,AI .i64 s0.2 1))) λ_=>some (.dn ((0,(s0,()))))) (0,0)) λe=>some e.2.1.1
def DG (x:(AJ×Int)):Option Bool :=
 some (A8 x.2 (CA .i64 (Ab (AA x.1.2)) 1))
def Dp (x:(List (List AD))):Option (Int×Int) :=
 br (A8 (Ab (AA x)) 0) (λ_=>some (((-1),6))) λ_=>br (CD (Ab (AA x)) 32) (λ_=>some (((-1),3))) λ_=>bd (loop (λs0=>br (Ak s0.2.2 (Ab (AA x))) (λ_=>AT s0.2.2 λd=>ix x d λc=>bd (BZ c) λb=>br (Ay b.2 0) (λ_=>some (.dn ((0,((b.2,(s0.2.2,s0.2.2)),()))))) λ_=>some (.nx ((s0.1,(s0.2.1,AI .i64 s0.2.2 1))))) λ_=>some (.dn ((1,(s0,()))))) ((0,(0,0)))) λa=>br (neq a.1 0) (λ_=>some (a.2.1.2.1,a.2.1.1)) λ_=>some (0,0)
def Cq (x:Bool):Option (Bool×AN) :=
 some ((false,([],x)))
def Aq (x:(List (List AD))):Option (List (List AD)) :=
 gd (BP (AA x) 1048576) λ_=>some x
def BS (x:((List AD)×Int)):Option AN :=
 br (A8 x.2 (Ab (AA x.1))) (λ_=>some ([],true)) λ_=>AT x.2 λa=>ix x.1 a λb=>some (b.1,false)
def Dd (x:AN):Option Bool :=
 br x.2 (λ_=>some (Ad (seq x.1 []))) λ_=>some false
def Dq (x:(List AN)):Option Int :=
 br (A8 (Ab (AA x)) 0) (λ_=>some 6) λ_=>br (CD (Ab (AA x)) 32) (λ_=>some 3) λ_=>bd (loop (λs0=>br (Ak s0.2 (Ab (AA x))) (λ_=>AT s0.2 λc=>ix x c λb=>bd (Dd b) λd=>br d (λ_=>some (.dn ((0,((s0.2,s0.2),()))))) λ_=>some (.nx (s0.1,AI .i64 s0.2 1))) λ_=>some (.dn ((1,(s0,()))))) (0,0)) λa=>br (neq a.1 0) (λ_=>br (HY a.2.1.1 0) (λ_=>some 2) λ_=>some 0) λ_=>br (HY (-1) 0) (λ_=>some 2) λ_=>some 0
def Ar (x:(List AN)):Option (List AN) :=
 gd (BP (AA x) 1048576) λ_=>some x
def FY (x:(List AN)):Option ET :=
 AT (Pd .i64 2 (Ab (AA x))) λS=>AT (Pd .i64 2 (Ab (AA x))) λA=>gd (BP A 1048576) λ_=>bd (Ar x) λO=>AT (Ab (AA x)) λU=>AT (Ab (AA x)) λB=>gd (BP B 1048576) λ_=>bd (loop (λa=>br (CD a.1 0) (λ_=>br (HY a.1 (Ab (AA x))) (λ_=>AT a.1 λy=>gd (C7 y (AA a.2.1)) λ_=>ix a.2.1 y λW=>some (.nx ((CA .i64 a.1 1,(lset a.2.1 y (CA .i64 a.1 (Ab (AA x))),a.2.2))))) λ_=>AT (Pd .i64 2 a.1) λz=>gd (C7 z (AA a.2.1)) λ_=>ix a.2.1 z λe=>AT (AI .i64 (Pd .i64 2 a.1) 1) λs=>gd (C7 s (AA a.2.1)) λ_=>ix a.2.1 s λb=>AT e λu=>ix x u λg=>AT b λw=>ix x w λd=>br (Ad (beq g.2 d.2)) (λ_=>br (Ad d.2) (λ_=>AT a.1 λk=>gd (C7 k (AA a.2.1)) λ_=>ix a.2.1 k λP=>AT a.1 λp=>gd (C7 p (AA a.2.2.2.1)) λ_=>ix a.2.2.2.1 p λN=>some (.nx ((CA .i64 a.1 1,(lset a.2.1 k b,(a.2.2.1,(lset a.2.2.2.1 p e,a.2.2.2.2))))))) λ_=>AT a.1 λh=>gd (C7 h (AA a.2.1)) λ_=>ix a.2.1 h λI=>AT a.1 λi=>gd (C7 i (AA a.2.2.2.1)) λ_=>ix a.2.2.2.1 i λE=>some (.nx ((CA .i64 a.1 1,(lset a.2.1 h e,(a.2.2.1,(lset a.2.2.2.1 i b,a.2.2.2.2))))))) λ_=>br (Ad (seq g.1 d.1)) (λ_=>br (Ad (Cy g.1 d.1)) (λ_=>AT a.1 λj=>gd (C7 j (AA a.2.1)) λ_=>ix a.2.1 j λD=>AT a.1 λf=>gd (C7 f (AA a.2.2.2.1)) λ_=>ix a.2.2.2.1 f λJ=>some (.nx ((CA .i64 a.1 1,(lset a.2.1 j b,(a.2.2.1,(lset a.2.2.2.1 f e,a.2.2.2.2))))))) λ_=>AT a.1 λn=>gd (C7 n (AA a.2.1)) λ_=>ix a.2.1 n λG=>AT a.1 λq=>gd (C7 q (AA a.2.2.2.1)) λ_=>ix a.2.2.2.1 q λL=>some (.nx ((CA .i64 a.1 1,(lset a.2.1 n e,(a.2.2.1,(lset a.2.2.2.1 q b,a.2.2.2.2))))))) λ_=>br (Ad (Ak e b)) (λ_=>AT a.1 λm=>gd (C7 m (AA a.2.1)) λ_=>ix a.2.1 m λM=>AT a.1 λo=>gd (C7 o (AA a.2.2.2.1)) λ_=>ix a.2.2.2.1 o λF=>some (.nx ((CA .i64 a.1 1,(lset a.2.1 m b,(a.2.2.1,(lset a.2.2.2.1 o e,a.2.2.2.2))))))) λ_=>AT a.1 λl=>gd (C7 l (AA a.2.1)) λ_=>ix a.2.1 l λC=>AT a.1 λr=>gd (C7 r (AA a.2.2.2.1)) λ_=>ix a.2.2.2.1 r λK=>some (.nx ((CA .i64 a.1 1,(lset a.2.1 l e,(a.2.2.1,(lset a.2.2.2.1 r b,a.2.2.2.2))))))) λ_=>some (.dn ((0,(a,()))))) ((CA .i64 (Pd .i64 2 (Ab (AA x))) 1,(D2 A 0,(O,(D2 B 0,(0:Int))))))) λc=>gd (C7 1 (AA c.2.1.2.1)) λ_=>ix c.2.1.2.1 1 λt=>some ((c.2.1.2.2.1,(c.2.1.2.2.2.1,t)))
def Cg (x:(List AN)):Option (ET×Int) :=
 bd (Dq x) λa=>br (Ay a 0) (λ_=>some ((([],([],0)),a))) λ_=>bd (FY x) λb=>some (b,0)
def FB (x:((List (List AD))×Bool)):Option ((AM×((Bool×AN)×((List AD)×Int)))×(Int×Int)) :=
 bd (Dp x.1) λf=>br (Ay f.2 0) (λ_=>br (Ay f.2 0) (λ_=>some (((([],([],([],([],0)))),((false,([],false)),([],0))),f))) λ_=>bd (Cq x.2) λp=>some (((([],([],([],([],0)))),(p,([],0))),(0,0)))) λ_=>AT (Ab (AA x.1)) λr=>AT (Ab (AA x.1)) λd=>gd (BP d 1048576) λ_=>bd (Aq x.1) λo=>AT (Ab (AA x.1)) λq=>AT (Ab (AA x.1)) λk=>gd (BP k 1048576) λ_=>bd (loop (λa=>br (Ak a.1 (Ab (AA x.1))) (λ_=>AT a.1 λl=>ix x.1 l λm=>AT a.1 λc=>gd (C7 c (AA (D2 d (0:Int)))) λ_=>ix (D2 d 0) c λj=>bd (BS (m,j)) λh=>AT a.1 λb=>gd (C7 b (AA a.2)) λ_=>ix a.2 b λn=>some (.nx (AI .i64 a.1 1,lset a.2 b h))) λ_=>some (.dn ((0,(a,()))))) ((0,D2 k ([],false)))) λg=>bd (Cg g.2.1.2) λe=>bd (Cq x.2) λi=>some ((((o,(D2 d 0,e.1)),(i,([],0))),(0,0)))
def Ch (x:(AJ×(Int×Bool))):Option (Int×(AM×((Bool×AN)×((List AD)×Int)))) :=
 AT x.2.1 λb=>ix x.1.2 b λa=>ix a 1 λd=>ix a 0 λe=>bd (FB ([d.2,e.2],x.2.2)) λc=>some (x.2.1,c.1)
def Gn (x:((List (List AD))×(List Int))):Option ET :=
 AT (Ab (AA x.1)) λj=>AT (Ab (AA x.1)) λd=>gd (BP d 1048576) λ_=>bd (loop (λs2=>br (Ak s2.1 (Ab (AA x.1))) (λ_=>AT s2.1 λh=>ix x.1 h λe=>AT s2.1 λf=>ix x.2 f λg=>bd (BS (e,g)) λi=>AT s2.1 λb=>gd (C7 b (AA s2.2)) λ_=>ix s2.2 b λk=>some (.nx (AI .i64 s2.1 1,lset s2.2 b i))) λ_=>some (.dn ((0,(s2,()))))) ((0,D2 d ([],false)))) λa=>bd (Cg a.2.1.2) λc=>some c.1
def As (x:((List AN)×(List AN))):Option Bool :=
 br (Ay (Ab (AA x.1)) (Ab (AA x.2))) (λ_=>some false) λ_=>bd (loop (λs0=>br (Ak s0.1 (Ab (AA x.1))) (λ_=>AT s0.1 λe=>ix x.1 e λb=>AT s0.1 λd=>ix x.2 d λa=>br (Ad (Az (seq b.1 a.1) (Az (beq b.2 a.2) true))) (λ_=>some (.dn ((0,((s0.1,false),()))))) λ_=>some (.nx (AI .i64 s0.1 1,s0.2))) λ_=>some (.dn ((1,(s0,()))))) (0,false)) λc=>br (neq c.1 0) (λ_=>some c.2.1.2) λ_=>some true
def Ah (x:((List Int)×(List Int))):Option Bool :=
 br (Ay (Ab (AA x.1)) (Ab (AA x.2))) (λ_=>some false) λ_=>bd (loop (λs0=>br (Ak s0.1 (Ab (AA x.1))) (λ_=>AT s0.1 λe=>ix x.1 e λc=>AT s0.1 λd=>ix x.2 d λb=>br (Ay c b) (λ_=>some (.dn ((0,((s0.1,false),()))))) λ_=>some (.nx (AI .i64 s0.1 1,s0.2))) λ_=>some (.dn ((1,(s0,()))))) (0,false)) λa=>br (neq a.1 0) (λ_=>some a.2.1.2) λ_=>some true
def En (x:(ET×ET)):Option Bool :=
 br (A8 x.1.2.2 x.2.2.2) (λ_=>bd (As (x.1.1,x.2.1)) λb=>br b (λ_=>bd (Ah (x.1.2.1,x.2.2.1)) λa=>some a) λ_=>some false) λ_=>some false
def Fq (x:ET):Option (Int×Int) :=
 bd (Dq x.1) λc=>br (Ay c 0) (λ_=>some (0,c)) λ_=>br (Ay (Ab (AA x.2.1)) (Ab (AA x.1))) (λ_=>some (0,6)) λ_=>bd (FY x.1) λa=>bd (loop (λs2=>br (Ak s2.2.1 (Ab (AA a.2.1))) (λ_=>AT s2.2.1 λg=>ix a.2.1 g λd=>AT s2.2.1 λe=>ix x.2.1 e λf=>br (Ay f d) (λ_=>some (.dn ((0,((6,(s2.2.1,s2.2.1)),()))))) λ_=>some (.nx ((s2.1,(AI .i64 s2.2.1 1,s2.2.2))))) λ_=>some (.dn ((1,(s2,()))))) ((0,(0,0)))) λb=>br (neq b.1 0) (λ_=>some (b.2.1.2.2,b.2.1.1)) λ_=>br (Ay x.2.2 a.2.2) (λ_=>some (0,6)) λ_=>some (0,0)
def Fa (x:ET):Option Int :=
 bd (Fq x) λa=>br (Ay a.2 0) (λ_=>some a.2) λ_=>AT x.2.2 λc=>ix x.1 c λb=>br b.2 (λ_=>some 12) λ_=>some 0
def Cr (x:ET):Option (Int×((List UInt8)×Int)) :=
 bd (Fa x) λa=>br (Ay a 0) (λ_=>some ((0,([],a)))) λ_=>AT x.2.2 λc=>ix x.1 c λb=>some ((x.2.2,(b.1,0)))
def DN (x:(List UInt8)):Option Bool :=
 some (Ad (seq x x))
def Cs (x:((List UInt8)×(List UInt8))):Option Int :=
 bd (DN x.1) λb=>bd (DN x.2) λa=>br b (λ_=>br a (λ_=>some 0) λ_=>some (-1)) λ_=>br a (λ_=>some 1) λ_=>br (Cy x.1 x.2) (λ_=>some (-1)) λ_=>br (Cy x.2 x.1) (λ_=>some 1) λ_=>some 0
def Ef (x:Int):Option Bool :=
 some (Ay x x)
def CS (x:(Int×Int)):Option Int :=
 bd (Ef x.1) λb=>bd (Ef x.2) λa=>br b (λ_=>br a (λ_=>some 0) λ_=>some (-1)) λ_=>br a (λ_=>some 1) λ_=>br (Ak x.1 x.2) (λ_=>some (-1)) λ_=>br (CD x.1 x.2) (λ_=>some 1) λ_=>some 0
def Gp (x:(List Int)):Option Int :=
 bd (loop (λs0=>br (Ak s0.2 (Ab (AA x))) (λ_=>AT s0.2 λc=>ix x c λa=>br (Ay a 0) (λ_=>some (.dn ((0,((a,s0.2),()))))) λ_=>some (.nx (s0.1,AI .i64 s0.2 1))) λ_=>some (.dn ((1,(s0,()))))) (0,0)) λb=>br (neq b.1 0) (λ_=>some b.2.1.1) λ_=>some 0
def Dr (x:AM):Option (Int×Int) :=
 bd (Dp x.1) λo=>br (Ay o.2 0) (λ_=>some o) λ_=>br (Ay (Ab (AA x.2.1)) (Ab (AA x.1))) (λ_=>some (((-1),6))) λ_=>bd (loop (λs1=>br (Ak s1.2.2 (Ab (AA x.2.1))) (λ_=>AT s1.2.2 λt=>ix x.2.1 t λn=>br (Ak n 0) (λ_=>some (.dn ((0,((6,(s1.2.2,s1.2.2)),()))))) λ_=>AT s1.2.2 λr=>ix x.1 r λp=>br (CD n (Ab (AA p))) (λ_=>some (.dn ((0,((6,(s1.2.2,s1.2.2)),()))))) λ_=>some (.nx ((s1.1,(s1.2.1,AI .i64 s1.2.2 1))))) λ_=>some (.dn ((1,(s1,()))))) ((0,(0,0)))) λe=>br (neq e.1 0) (λ_=>some (e.2.1.2.1,e.2.1.1)) λ_=>bd (Gn (x.1,x.2.1)) λs=>bd (En (x.2.2,s)) λq=>br (Ad q) (λ_=>some (((-1),6))) λ_=>bd (Cr x.2.2) λc=>br (Ay c.2.2 0) (λ_=>some (0,0)) λ_=>bd (loop (λa=>br (Ak a.2.2 (Ab (AA x.2.1))) (λ_=>AT a.2.2 λj=>ix x.2.1 j λd=>br (CD d 0) (λ_=>AT a.2.2 λl=>ix x.1 l λi=>AT (CA .i64 d 1) λh=>ix i h λk=>bd (Cs (k.1,c.2.1)) λm=>bd (CS (a.2.2,c.1)) λf=>bd (Gp ([m,f])) λg=>br (CD g 0) (λ_=>some (.dn ((0,((6,(c.1,a.2.2)),()))))) λ_=>some (.nx ((a.1,(a.2.1,AI .i64 a.2.2 1))))) λ_=>some (.nx ((a.1,(a.2.1,AI .i64 a.2.2 1))))) λ_=>some (.dn ((1,(a,()))))) ((c.2.2,(e.2.1.2.1,0)))) λb=>br (neq b.1 0) (λ_=>some (b.2.1.2.1,b.2.1.1)) λ_=>some (0,0)
def A7 (x:(List Int)):Option (List Int) :=
 gd (BP (AA x) 1048576) λ_=>some x
def Bm (x:(Int×(Int×((List AN)×Unit)))):Option Bool :=
 AT x.1 λc=>ix x.2.2.1 c λb=>AT x.2.1 λd=>ix x.2.2.1 d λa=>br (Ad (beq b.2 a.2)) (λ_=>some a.2) λ_=>br (Ad (seq b.1 a.1)) (λ_=>some (Cy b.1 a.1)) λ_=>some (Ak x.1 x.2.1)
def CX (x:(ET×AN)):Option (ET×(Int×Int)) :=
 bd (Fa x.1) λy=>br (Ay y 0) (λ_=>some ((([],([],0)),(0,y)))) λ_=>bd (Dq [x.2]) λw=>br (Ay w 0) (λ_=>some ((([],([],0)),(0,w)))) λ_=>br (Ad x.2.2) (λ_=>AT x.1.2.2 λE=>ix x.1.1 E λC=>br (Cy x.2.1 C.1) (λ_=>some ((([],([],0)),(0,6)))) λ_=>bd (Ar x.1.1) λl=>bd (A7 x.1.2.1) λB=>AT x.1.2.2 λm=>gd (C7 m (AA l)) λ_=>ix l m λF=>bd (loop (λb=>br (A8 (IY .i64 b.2.1 2) 0) (λ_=>some (.dn ((0,((b.1,(IY .i64 b.2.1 2,((),b.2.2.2))),()))))) λ_=>AT (IY .i64 b.2.1 2) λu=>gd (C7 u (AA b.2.2.2.1)) λ_=>ix b.2.2.2.1 u λr=>bd (Bm ((r,(b.2.2.2.2,(lset l m x.2,()))))) λs=>br s (λ_=>AT (IY .i64 b.2.1 2) λk=>gd (C7 k (AA b.2.2.2.1)) λ_=>ix b.2.2.2.1 k λo=>AT (IY .i64 b.2.1 2) λe=>gd (C7 e (AA b.2.2.2.1)) λ_=>ix b.2.2.2.1 e λA=>some (.nx ((AI .i64 b.1 1,(IY .i64 b.2.1 2,((),(lset b.2.2.2.1 e b.2.2.2.2,o))))))) λ_=>some (.nx ((AI .i64 b.1 1,(IY .i64 b.2.1 2,((),b.2.2.2)))))) ((0,(AI .i64 (Ab (AA (lset l m x.2))) x.1.2.2,((),(B,x.1.2.2)))))) λg=>some (((lset l m x.2,g.2.1.2.2.2),(g.2.1.1,0)))) λ_=>bd (Ar x.1.1) λc=>bd (A7 x.1.2.1) λn=>AT x.1.2.2 λd=>gd (C7 d (AA c)) λ_=>ix c d λD=>bd (loop (λa=>br (A8 (IY .i64 a.2.1 2) 0) (λ_=>some (.dn ((0,((a.1,(IY .i64 a.2.1 2,((),a.2.2.2))),()))))) λ_=>AT (IY .i64 a.2.1 2) λh=>gd (C7 h (AA a.2.2.2.1)) λ_=>ix a.2.2.2.1 h λp=>bd (Bm ((p,(a.2.2.2.2,(lset c d x.2,()))))) λq=>br q (λ_=>AT (IY .i64 a.2.1 2) λj=>gd (C7 j (AA a.2.2.2.1)) λ_=>ix a.2.2.2.1 j λt=>AT (IY .i64 a.2.1 2) λf=>gd (C7 f (AA a.2.2.2.1)) λ_=>ix a.2.2.2.1 f λz=>some (.nx ((AI .i64 a.1 1,(IY .i64 a.2.1 2,((),(lset a.2.2.2.1 f a.2.2.2.2,t))))))) λ_=>some (.nx ((AI .i64 a.1 1,(IY .i64 a.2.1 2,((),a.2.2.2)))))) ((0,(AI .i64 (Ab (AA (lset c d x.2))) x.1.2.2,((),(n,x.1.2.2)))))) λi=>some (((lset c d x.2,i.2.1.2.2.2),(i.2.1.1,0)))
def Hl (x:(List (List AD))):Option ((List AD)×((List Int)×Int)) :=
 bd (Dp x) λF=>br (Ay F.2 0) (λ_=>br (Ay F.2 0) (λ_=>some (([],([],F.2)))) λ_=>bd (loop (λs1=>bd (Cr (([],([],0)))) λJ=>br (Ay J.2.2 0) (λ_=>br (Ay J.2.2 0) (λ_=>some (.dn ((0,(s1,()))))) λ_=>gd (BP (Ag (AA s1.1) (AA ([(([],([],(false,0))):AD)]))) 1048576) λ_=>gd (BP (Ag (AA s1.2) (AA [0])) 1048576) λ_=>none) λ_=>AT J.1 λY=>none) ([],[])) λO=>some ((O.2.1.1,(O.2.1.2,0)))) λ_=>AT (Ab (AA x)) λX=>AT (Ab (AA x)) λq=>gd (BP q 1048576) λ_=>bd (Aq x) λh=>AT (Ab (AA x)) λW=>AT (Ab (AA x)) λN=>gd (BP N 1048576) λ_=>bd (loop (λc=>br (Ak c.1 (Ab (AA x))) (λ_=>AT c.1 λG=>ix x G λK=>AT c.1 λn=>gd (C7 n (AA (D2 q (0:Int)))) λ_=>ix (D2 q 0) n λB=>bd (BS (K,B)) λM=>AT c.1 λf=>gd (C7 f (AA c.2)) λ_=>ix c.2 f λU=>some (.nx (AI .i64 c.1 1,lset c.2 f M))) λ_=>some (.dn ((0,(c,()))))) ((0,D2 N ([],false)))) λr=>bd (Cg r.2.1.2) λy=>bd (loop (λa=>bd (Cr a.2.2.2.2) λb=>br (Ay b.2.2 0) (λ_=>br (Ay b.2.2 0) (λ_=>some (.dn ((0,((a.1,(a.2.1,((),a.2.2.2))),()))))) λ_=>gd (BP (Ag (AA a.1) (AA ([(([],([],(false,0))):AD)]))) 1048576) λ_=>gd (BP (Ag (AA a.2.1) (AA [0])) 1048576) λ_=>gd (C7 0 (AA a.2.2.2.1)) λ_=>ix a.2.2.2.1 0 λg=>gd (C7 0 (AA a.2.2.2.1)) λ_=>ix a.2.2.2.1 0 λS=>gd (C7 0 (AA h)) λ_=>ix h 0 λC=>gd (C7 0 (AA (lset a.2.2.2.1 0 (AI .i64 g 1)))) λ_=>ix (lset a.2.2.2.1 0 (AI .i64 g 1)) 0 λu=>bd (BS (C,u)) λI=>bd (CX (a.2.2.2.2,I)) λs=>some (.nx ((Bu a.1 ([(([],([],(false,0))):AD)]),(Bu a.2.1 [0],((),(lset a.2.2.2.1 0 (AI .i64 g 1),s.1))))))) λ_=>AT b.1 λj=>gd (C7 j (AA h)) λ_=>ix h j λw=>AT b.1 λl=>gd (C7 l (AA a.2.2.2.1)) λ_=>ix a.2.2.2.1 l λE=>AT E λz=>ix w z λm=>gd (BP (Ag (AA a.1) (AA [m])) 1048576) λ_=>gd (BP (Ag (AA a.2.1) (AA [b.1])) 1048576) λ_=>AT b.1 λk=>gd (C7 k (AA a.2.2.2.1)) λ_=>ix a.2.2.2.1 k λe=>AT b.1 λd=>gd (C7 d (AA a.2.2.2.1)) λ_=>ix a.2.2.2.1 d λP=>AT b.1 λp=>gd (C7 p (AA h)) λ_=>ix h p λD=>AT b.1 λi=>gd (C7 i (AA (lset a.2.2.2.1 d (AI .i64 e 1)))) λ_=>ix (lset a.2.2.2.1 d (AI .i64 e 1)) i λA=>bd (BS (D,A)) λL=>bd (CX (a.2.2.2.2,L)) λt=>some (.nx ((Bu a.1 [m],(Bu a.2.1 [b.1],((),(lset a.2.2.2.1 d (AI .i64 e 1),t.1))))))) (([],([],((),(D2 q 0,y.1)))))) λo=>some ((o.2.1.1,(o.2.1.2.1,0)))
def D7 (x:(Bool×AN)):Option Int :=
 bd (FX x.2.1) λa=>br (Ay a 0) (λ_=>some a) λ_=>br (Ad x.1) (λ_=>br (Ad (seq x.2.1 [])) (λ_=>some 6) λ_=>some 0) λ_=>some 0
def BJ (x:AD):Option AD :=
 some x
def Eg (x:((List AD)×Bool)):Option ((List AD)×(Int×Int)) :=
 br (CD (Ab (AA x.1)) 20000) (λ_=>some (([],((-1),3)))) λ_=>bd (Cq x.2) λm=>bd (loop (λs1=>br (Ak s1.2.1 (Ab (AA x.1))) (λ_=>AT s1.2.1 λn=>ix x.1 n λa=>bd (D7 s1.2.2.2.1) λg=>br (Ay g 0) (λ_=>br (Ay g 0) (λ_=>some (.dn ((0,((g,(s1.2.1,(s1.2.1,s1.2.2.2))),()))))) λ_=>some (.nx ((s1.1,(AI .i64 s1.2.1 1,(s1.2.2.1,((false,([],false)),s1.2.2.2.2))))))) λ_=>bd (CW a) λh=>br (Ay h 0) (λ_=>br (Ay h 0) (λ_=>some (.dn ((0,((h,(s1.2.1,(s1.2.1,s1.2.2.2))),()))))) λ_=>some (.nx ((s1.1,(AI .i64 s1.2.1 1,(s1.2.2.1,((false,([],false)),s1.2.2.2.2))))))) λ_=>br s1.2.2.2.1.1 (λ_=>br (Cy a.1 s1.2.2.2.1.2.1) (λ_=>some (.dn ((0,((6,(s1.2.1,(s1.2.1,s1.2.2.2))),()))))) λ_=>br s1.2.2.2.1.1 (λ_=>br (seq a.1 s1.2.2.2.1.2.1) (λ_=>some (.nx ((s1.1,(AI .i64 s1.2.1 1,(s1.2.2.1,((true,(a.1,s1.2.2.2.1.2.2)),s1.2.2.2.2))))))) λ_=>br s1.2.2.2.1.2.2 (λ_=>br a.2.2.1 (λ_=>some (.nx ((s1.1,(AI .i64 s1.2.1 1,(s1.2.2.1,((true,(a.1,s1.2.2.2.1.2.2)),s1.2.2.2.2))))))) λ_=>bd (BJ a) λl=>gd (BP (Ag (AA s1.2.2.2.2) (AA [l])) 1048576) λ_=>some (.nx ((s1.1,(AI .i64 s1.2.1 1,(s1.2.2.1,((true,(a.1,s1.2.2.2.1.2.2)),Bu s1.2.2.2.2 [l]))))))) λ_=>bd (BJ a) λk=>gd (BP (Ag (AA s1.2.2.2.2) (AA [k])) 1048576) λ_=>some (.nx ((s1.1,(AI .i64 s1.2.1 1,(s1.2.2.1,((true,(a.1,s1.2.2.2.1.2.2)),Bu s1.2.2.2.2 [k]))))))) λ_=>br s1.2.2.2.1.2.2 (λ_=>br a.2.2.1 (λ_=>some (.nx ((s1.1,(AI .i64 s1.2.1 1,(s1.2.2.1,((true,(a.1,s1.2.2.2.1.2.2)),s1.2.2.2.2))))))) λ_=>bd (BJ a) λi=>gd (BP (Ag (AA s1.2.2.2.2) (AA [i])) 1048576) λ_=>some (.nx ((s1.1,(AI .i64 s1.2.1 1,(s1.2.2.1,((true,(a.1,s1.2.2.2.1.2.2)),Bu s1.2.2.2.2 [i]))))))) λ_=>bd (BJ a) λj=>gd (BP (Ag (AA s1.2.2.2.2) (AA [j])) 1048576) λ_=>some (.nx ((s1.1,(AI .i64 s1.2.1 1,(s1.2.2.1,((true,(a.1,s1.2.2.2.1.2.2)),Bu s1.2.2.2.2 [j]))))))) λ_=>br s1.2.2.2.1.1 (λ_=>br (seq a.1 s1.2.2.2.1.2.1) (λ_=>some (.nx ((s1.1,(AI .i64 s1.2.1 1,(s1.2.2.1,((true,(a.1,s1.2.2.2.1.2.2)),s1.2.2.2.2))))))) λ_=>br s1.2.2.2.1.2.2 (λ_=>br a.2.2.1 (λ_=>some (.nx ((s1.1,(AI .i64 s1.2.1 1,(s1.2.2.1,((true,(a.1,s1.2.2.2.1.2.2)),s1.2.2.2.2))))))) λ_=>bd (BJ a) λc=>gd (BP (Ag (AA s1.2.2.2.2) (AA [c])) 1048576) λ_=>some (.nx ((s1.1,(AI .i64 s1.2.1 1,(s1.2.2.1,((true,(a.1,s1.2.2.2.1.2.2)),Bu s1.2.2.2.2 [c]))))))) λ_=>bd (BJ a) λf=>gd (BP (Ag (AA s1.2.2.2.2) (AA [f])) 1048576) λ_=>some (.nx ((s1.1,(AI .i64 s1.2.1 1,(s1.2.2.1,((true,(a.1,s1.2.2.2.1.2.2)),Bu s1.2.2.2.2 [f]))))))) λ_=>br s1.2.2.2.1.2.2 (λ_=>br a.2.2.1 (λ_=>some (.nx ((s1.1,(AI .i64 s1.2.1 1,(s1.2.2.1,((true,(a.1,s1.2.2.2.1.2.2)),s1.2.2.2.2))))))) λ_=>bd (BJ a) λe=>gd (BP (Ag (AA s1.2.2.2.2) (AA [e])) 1048576) λ_=>some (.nx ((s1.1,(AI .i64 s1.2.1 1,(s1.2.2.1,((true,(a.1,s1.2.2.2.1.2.2)),Bu s1.2.2.2.2 [e]))))))) λ_=>bd (BJ a) λd=>gd (BP (Ag (AA s1.2.2.2.2) (AA [d])) 1048576) λ_=>some (.nx ((s1.1,(AI .i64 s1.2.1 1,(s1.2.2.1,((true,(a.1,s1.2.2.2.1.2.2)),Bu s1.2.2.2.2 [d]))))))) λ_=>some (.dn ((1,(s1,()))))) ((0,(0,(0,(m,[])))))) λb=>br (neq b.1 0) (λ_=>br (Ay b.2.1.1 0) (λ_=>some (([],(b.2.1.2.2.1,b.2.1.1)))) λ_=>some ((b.2.1.2.2.2.2,(0,0)))) λ_=>some ((b.2.1.2.2.2.2,(0,0)))
def D8 (x:((List AD)×(List AD))):Option Bool :=
 br (Ay (Ab (AA x.1)) (Ab (AA x.2))) (λ_=>some false) λ_=>bd (loop (λs0=>br (Ak s0.2 (Ab (AA x.1))) (λ_=>AT s0.2 λe=>ix x.1 e λb=>AT s0.2 λd=>ix x.2 d λa=>br (Ad (Az (seq b.1 a.1) (Az (seq b.2.1 a.2.1) (Az (beq b.2.2.1 a.2.2.1) (Az (A8 b.2.2.2 a.2.2.2) true))))) (λ_=>some (.dn ((0,((false,s0.2),()))))) λ_=>some (.nx (s0.1,AI .i64 s0.2 1))) λ_=>some (.dn ((1,(s0,()))))) (false,0)) λc=>br (neq c.1 0) (λ_=>some c.2.1.1) λ_=>some true
def FC (x:(AM×((Bool×AN)×((List AD)×Int)))):Option Int :=
 bd (Dr x.1) λi=>br (Ay i.2 0) (λ_=>some i.2) λ_=>bd (loop (λs1=>br (Ak s1.1 (Ab (AA x.1.2.1))) (λ_=>AT s1.1 λk=>ix x.1.2.1 k λl=>some (.nx (AI .i64 s1.1 1,AI .i64 s1.2 l))) λ_=>some (.dn ((0,(s1,()))))) (0,0)) λa=>br (CD (Ab (AA x.2.2.1)) 20000) (λ_=>some 3) λ_=>br (CD a.2.1.2 20000) (λ_=>some 3) λ_=>br (Ay x.2.2.2 a.2.1.2) (λ_=>some 7) λ_=>bd (Hl x.1.1) λb=>br (Ay b.2.2 0) (λ_=>some b.2.2) λ_=>AT a.2.1.2 λh=>gd (BP h (AA b.1)) λ_=>gd (BP 0 h) λ_=>bd (Eg (EI b.1 0 h,x.2.1.2.2)) λd=>br (Ay d.2.2 0) (λ_=>some d.2.2) λ_=>bd (Cq x.2.1.2.2) λc=>br (CD a.2.1.2 0) (λ_=>AT (CA .i64 a.2.1.2 1) λj=>ix b.1 j λe=>bd (D8 (x.2.2.1,d.1)) λf=>br (Ad f) (λ_=>some 6) λ_=>br (Ad (Az (beq x.2.1.1 true) (Az (seq x.2.1.2.1 e.1) (Az (beq x.2.1.2.2 c.2.2) true)))) (λ_=>some 6) λ_=>some 0) λ_=>bd (D8 (x.2.2.1,d.1)) λg=>br (Ad g) (λ_=>some 6) λ_=>br (Ad (Az (beq x.2.1.1 c.1) (Az (seq x.2.1.2.1 c.2.1) (Az (beq x.2.1.2.2 c.2.2) true)))) (λ_=>some 6) λ_=>some 0
def Gq (x:AM):Option (Int×Int) :=
 bd (Dr x) λa=>br (Ay a.2 0) (λ_=>some (0,a.2)) λ_=>bd (loop (λs1=>br (Ak s1.1 (Ab (AA x.1))) (λ_=>AT s1.1 λc=>ix x.1 c λe=>AT s1.1 λd=>ix x.2.1 d λb=>some (.nx ((AI .i64 s1.1 1,AI .i64 s1.2 (CA .i64 (Ab (AA e)) b))))) λ_=>some (.dn ((0,(s1,()))))) (0,0)) λf=>some (f.2.1.2,0)
def Bp (x:(AM×((Bool×AN)×((List AD)×Int)))):Option (Int×Int) :=
 bd (FC x) λa=>br (Ay a 0) (λ_=>some (0,a)) λ_=>bd (Gq x.1) λb=>some b
def CF (x:AM):Option (AD×(Int×(AM×Int))) :=
 bd (Dr x) λq=>br (Ay q.2 0) (λ_=>br (Ay q.2 0) (λ_=>some (((([],([],(false,0))):AD),(0,(([],([],([],([],0)))),q.2))))) λ_=>none) λ_=>bd (Aq x.1) λd=>bd (A7 x.2.1) λa=>bd (Cr x.2.2) λc=>br (Ay c.2.2 0) (λ_=>br (Ay c.2.2 0) (λ_=>some (((([],([],(false,0))):AD),(0,(([],([],([],([],0)))),c.2.2))))) λ_=>gd (C7 0 (AA a)) λ_=>ix a 0 λs=>gd (C7 0 (AA a)) λ_=>ix a 0 λB=>gd (C7 0 (AA d)) λ_=>ix d 0 λy=>gd (C7 0 (AA (lset a 0 (AI .i64 s 1)))) λ_=>ix (lset a 0 (AI .i64 s 1)) 0 λA=>bd (BS (y,A)) λu=>bd (CX (x.2.2,u)) λw=>some (((([],([],(false,0))):AD),(0,((d,(lset a 0 (AI .i64 s 1),w.1)),0))))) λ_=>AT c.1 λi=>gd (C7 i (AA d)) λ_=>ix d i λo=>AT c.1 λj=>gd (C7 j (AA a)) λ_=>ix a j λk=>AT k λr=>ix o r λn=>AT c.1 λh=>gd (C7 h (AA a)) λ_=>ix a h λe=>AT c.1 λb=>gd (C7 b (AA a)) λ_=>ix a b λz=>AT c.1 λf=>gd (C7 f (AA d)) λ_=>ix d f λp=>AT c.1 λg=>gd (C7 g (AA (lset a b (AI .i64 e 1)))) λ_=>ix (lset a b (AI .i64 e 1)) g λl=>bd (BS (p,l)) λm=>bd (CX (x.2.2,m)) λt=>some ((n,(c.1,((d,(lset a b (AI .i64 e 1),t.1)),0))))
def CO (x:((Bool×AN)×AD)):Option (Bool×((Bool×AN)×Int)) :=
 bd (D7 x.1) λb=>br (Ay b 0) (λ_=>some ((false,((false,([],false)),b)))) λ_=>bd (CW x.2) λa=>br (Ay a 0) (λ_=>some ((false,((false,([],false)),a)))) λ_=>br x.1.1 (λ_=>br (Cy x.2.1 x.1.2.1) (λ_=>some ((false,((false,([],false)),6)))) λ_=>br x.1.1 (λ_=>br (seq x.2.1 x.1.2.1) (λ_=>some ((false,((true,(x.2.1,x.1.2.2)),0)))) λ_=>br x.1.2.2 (λ_=>br x.2.2.2.1 (λ_=>some ((false,((true,(x.2.1,x.1.2.2)),0)))) λ_=>some ((true,((true,(x.2.1,x.1.2.2)),0)))) λ_=>some ((true,((true,(x.2.1,x.1.2.2)),0)))) λ_=>br x.1.2.2 (λ_=>br x.2.2.2.1 (λ_=>some ((false,((true,(x.2.1,x.1.2.2)),0)))) λ_=>some ((true,((true,(x.2.1,x.1.2.2)),0)))) λ_=>some ((true,((true,(x.2.1,x.1.2.2)),0)))) λ_=>br x.1.1 (λ_=>br (seq x.2.1 x.1.2.1) (λ_=>some ((false,((true,(x.2.1,x.1.2.2)),0)))) λ_=>br x.1.2.2 (λ_=>br x.2.2.2.1 (λ_=>some ((false,((true,(x.2.1,x.1.2.2)),0)))) λ_=>some ((true,((true,(x.2.1,x.1.2.2)),0)))) λ_=>some ((true,((true,(x.2.1,x.1.2.2)),0)))) λ_=>br x.1.2.2 (λ_=>br x.2.2.2.1 (λ_=>some ((false,((true,(x.2.1,x.1.2.2)),0)))) λ_=>some ((true,((true,(x.2.1,x.1.2.2)),0)))) λ_=>some ((true,((true,(x.2.1,x.1.2.2)),0)))
def CC (x:((AM×((Bool×AN)×((List AD)×Int)))×Int)):Option ((AM×((Bool×AN)×((List AD)×Int)))×(Int×Int)) :=
 bd (Bp x.1) λh=>br (Ay h.2 0) (λ_=>some (((([],([],([],([],0)))),((false,([],false)),([],0))),(0,h.2)))) λ_=>br (Ak x.2 0) (λ_=>some (((([],([],([],([],0)))),((false,([],false)),([],0))),(0,7)))) λ_=>br (CD (AI .i64 x.1.2.2.2 (Ok x.2 h.1)) 20000) (λ_=>some (((([],([],([],([],0)))),((false,([],false)),([],0))),(0,3)))) λ_=>gd (BP (AA x.1.2.2.1) 1048576) λ_=>gd (BP (AA x.1.1.2.1) 1048576) λ_=>br (Ak 0 (Ok x.2 h.1)) (λ_=>bd (CF x.1.1) λe=>br (Ay e.2.2.2 0) (λ_=>br (Ay e.2.2.2 0) (λ_=>br (Ay e.2.2.2 0) (λ_=>some (((([],([],([],([],0)))),((false,([],false)),([],0))),(0,e.2.2.2)))) λ_=>some ((x.1,(Ok x.2 h.1,0)))) λ_=>none) λ_=>bd (CO (x.1.2.1,e.1)) λi=>br (Ay i.2.2 0) (λ_=>br (Ay i.2.2 0) (λ_=>br (Ay i.2.2 0) (λ_=>some (((([],([],([],([],0)))),((false,([],false)),([],0))),(0,i.2.2)))) λ_=>some ((x.1,(Ok x.2 h.1,0)))) λ_=>none) λ_=>br i.1 (λ_=>gd (BP (Ag (AA x.1.2.2.1) (AA [e.1])) 1048576) λ_=>bd (loop (λb=>br (Ak b.1 (Ok x.2 h.1)) (λ_=>bd (CF ((b.2.2.1,(b.2.2.2.1,(b.2.2.2.2.1,(b.2.2.2.2.2.1,b.2.2.2.2.2.2.1)))))) λg=>br (Ay g.2.2.2 0) (λ_=>br (Ay g.2.2.2 0) (λ_=>some (.dn ((0,((b.1,(g.2.2.2,b.2.2)),()))))) λ_=>some (.nx (AI .i64 b.1 1,b.2))) λ_=>bd (CO (((b.2.2.2.2.2.2.2.1,(b.2.2.2.2.2.2.2.2.1,b.2.2.2.2.2.2.2.2.2.1)),g.1))) λj=>br (Ay j.2.2 0) (λ_=>br (Ay j.2.2 0) (λ_=>some (.dn ((0,((b.1,(j.2.2,b.2.2)),()))))) λ_=>some (.nx (AI .i64 b.1 1,b.2))) λ_=>br j.1 (λ_=>gd (BP (Ag (AA b.2.2.2.2.2.2.2.2.2.2.1) (AA [g.1])) 1048576) λ_=>some (.nx ((AI .i64 b.1 1,(b.2.1,(g.2.2.1.1,(g.2.2.1.2.1,(g.2.2.1.2.2.1,(g.2.2.1.2.2.2.1,(g.2.2.1.2.2.2.2,(j.2.1.1,(j.2.1.2.1,(j.2.1.2.2,(Bu b.2.2.2.2.2.2.2.2.2.2.1 [g.1],AI .i64 b.2.2.2.2.2.2.2.2.2.2.2 1)))))))))))))) λ_=>some (.nx ((AI .i64 b.1 1,(b.2.1,(g.2.2.1.1,(g.2.2.1.2.1,(g.2.2.1.2.2.1,(g.2.2.1.2.2.2.1,(g.2.2.1.2.2.2.2,(j.2.1.1,(j.2.1.2.1,(j.2.1.2.2,(b.2.2.2.2.2.2.2.2.2.2.1,AI .i64 b.2.2.2.2.2.2.2.2.2.2.2 1)))))))))))))) λ_=>some (.dn ((1,(b,()))))) ((1,(0,(e.2.2.1.1,(e.2.2.1.2.1,(e.2.2.1.2.2.1,(e.2.2.1.2.2.2.1,(e.2.2.1.2.2.2.2,(i.2.1.1,(i.2.1.2.1,(i.2.1.2.2,(Bu x.1.2.2.1 [e.1],AI .i64 x.1.2.2.2 1))))))))))))) λd=>br (neq d.1 0) (λ_=>br (Ay d.2.1.2.1 0) (λ_=>some (((([],([],([],([],0)))),((false,([],false)),([],0))),(0,d.2.1.2.1)))) λ_=>some ((((d.2.1.2.2.1,(d.2.1.2.2.2.1,(d.2.1.2.2.2.2.1,(d.2.1.2.2.2.2.2.1,d.2.1.2.2.2.2.2.2.1)))),((d.2.1.2.2.2.2.2.2.2.1,(d.2.1.2.2.2.2.2.2.2.2.1,d.2.1.2.2.2.2.2.2.2.2.2.1)),d.2.1.2.2.2.2.2.2.2.2.2.2)),(Ok x.2 h.1,0)))) λ_=>some ((((d.2.1.2.2.1,(d.2.1.2.2.2.1,(d.2.1.2.2.2.2.1,(d.2.1.2.2.2.2.2.1,d.2.1.2.2.2.2.2.2.1)))),((d.2.1.2.2.2.2.2.2.2.1,(d.2.1.2.2.2.2.2.2.2.2.1,d.2.1.2.2.2.2.2.2.2.2.2.1)),d.2.1.2.2.2.2.2.2.2.2.2.2)),(Ok x.2 h.1,0)))) λ_=>bd (loop (λc=>br (Ak c.1 (Ok x.2 h.1)) (λ_=>bd (CF ((c.2.2.1,(c.2.2.2.1,(c.2.2.2.2.1,(c.2.2.2.2.2.1,c.2.2.2.2.2.2.1)))))) λf=>br (Ay f.2.2.2 0) (λ_=>br (Ay f.2.2.2 0) (λ_=>some (.dn ((0,((c.1,(f.2.2.2,c.2.2)),()))))) λ_=>some (.nx (AI .i64 c.1 1,c.2))) λ_=>bd (CO (((c.2.2.2.2.2.2.2.1,(c.2.2.2.2.2.2.2.2.1,c.2.2.2.2.2.2.2.2.2.1)),f.1))) λk=>br (Ay k.2.2 0) (λ_=>br (Ay k.2.2 0) (λ_=>some (.dn ((0,((c.1,(k.2.2,c.2.2)),()))))) λ_=>some (.nx (AI .i64 c.1 1,c.2))) λ_=>br k.1 (λ_=>gd (BP (Ag (AA c.2.2.2.2.2.2.2.2.2.2.1) (AA [f.1])) 1048576) λ_=>some (.nx ((AI .i64 c.1 1,(c.2.1,(f.2.2.1.1,(f.2.2.1.2.1,(f.2.2.1.2.2.1,(f.2.2.1.2.2.2.1,(f.2.2.1.2.2.2.2,(k.2.1.1,(k.2.1.2.1,(k.2.1.2.2,(Bu c.2.2.2.2.2.2.2.2.2.2.1 [f.1],AI .i64 c.2.2.2.2.2.2.2.2.2.2.2 1)))))))))))))) λ_=>some (.nx ((AI .i64 c.1 1,(c.2.1,(f.2.2.1.1,(f.2.2.1.2.1,(f.2.2.1.2.2.1,(f.2.2.1.2.2.2.1,(f.2.2.1.2.2.2.2,(k.2.1.1,(k.2.1.2.1,(k.2.1.2.2,(c.2.2.2.2.2.2.2.2.2.2.1,AI .i64 c.2.2.2.2.2.2.2.2.2.2.2 1)))))))))))))) λ_=>some (.dn ((1,(c,()))))) ((1,(0,(e.2.2.1.1,(e.2.2.1.2.1,(e.2.2.1.2.2.1,(e.2.2.1.2.2.2.1,(e.2.2.1.2.2.2.2,(i.2.1.1,(i.2.1.2.1,(i.2.1.2.2,(x.1.2.2.1,AI .i64 x.1.2.2.2 1))))))))))))) λa=>br (neq a.1 0) (λ_=>br (Ay a.2.1.2.1 0) (λ_=>some (((([],([],([],([],0)))),((false,([],false)),([],0))),(0,a.2.1.2.1)))) λ_=>some ((((a.2.1.2.2.1,(a.2.1.2.2.2.1,(a.2.1.2.2.2.2.1,(a.2.1.2.2.2.2.2.1,a.2.1.2.2.2.2.2.2.1)))),((a.2.1.2.2.2.2.2.2.2.1,(a.2.1.2.2.2.2.2.2.2.2.1,a.2.1.2.2.2.2.2.2.2.2.2.1)),a.2.1.2.2.2.2.2.2.2.2.2.2)),(Ok x.2 h.1,0)))) λ_=>some ((((a.2.1.2.2.1,(a.2.1.2.2.2.1,(a.2.1.2.2.2.2.1,(a.2.1.2.2.2.2.2.1,a.2.1.2.2.2.2.2.2.1)))),((a.2.1.2.2.2.2.2.2.2.1,(a.2.1.2.2.2.2.2.2.2.2.1,a.2.1.2.2.2.2.2.2.2.2.2.1)),a.2.1.2.2.2.2.2.2.2.2.2.2)),(Ok x.2 h.1,0)))) λ_=>some ((x.1,(Ok x.2 h.1,0)))
def Bd (x:((List AD)×(List AD))):Option Bool :=
 br (Ay (Ab (AA x.1)) (Ab (AA x.2))) (λ_=>some false) λ_=>bd (loop (λs0=>br (Ak s0.1 (Ab (AA x.1))) (λ_=>AT s0.1 λe=>ix x.1 e λb=>AT s0.1 λd=>ix x.2 d λa=>br (Ad (Az (seq b.1 a.1) (Az (seq b.2.1 a.2.1) (Az (beq b.2.2.1 a.2.2.1) (Az (A8 b.2.2.2 a.2.2.2) true))))) (λ_=>some (.dn ((0,((s0.1,false),()))))) λ_=>some (.nx (AI .i64 s0.1 1,s0.2))) λ_=>some (.dn ((1,(s0,()))))) (0,false)) λc=>br (neq c.1 0) (λ_=>some c.2.1.2) λ_=>some true
def Bw (x:((List AD)×(List AD))):Option Bool :=
 bd (Bd x) λa=>some a
def Dj (x:((AM×((Bool×AN)×((List AD)×Int)))×(AM×((Bool×AN)×((List AD)×Int))))):Option Bool :=
 br (Ay (Ab (AA x.1.1.1)) (Ab (AA x.2.1.1))) (λ_=>some false) λ_=>bd (loop (λs0=>br (Ak s0.1 (Ab (AA x.1.1.1))) (λ_=>AT s0.1 λn=>ix x.1.1.1 n λi=>AT s0.1 λl=>ix x.2.1.1 l λg=>bd (Bw (i,g)) λj=>br (Ad j) (λ_=>some (.dn ((0,((s0.1,false),()))))) λ_=>some (.nx (AI .i64 s0.1 1,s0.2))) λ_=>some (.dn ((1,(s0,()))))) (0,false)) λf=>br (neq f.1 0) (λ_=>br f.2.1.2 (λ_=>bd (Ah (x.1.1.2.1,x.2.1.2.1)) λm=>br m (λ_=>bd (As (x.1.1.2.2.1,x.2.1.2.2.1)) λh=>br h (λ_=>bd (Ah (x.1.1.2.2.2.1,x.2.1.2.2.2.1)) λk=>br k (λ_=>br (A8 x.1.1.2.2.2.2 x.2.1.2.2.2.2) (λ_=>br (Az (beq x.1.2.1.1 x.2.2.1.1) (Az (seq x.1.2.1.2.1 x.2.2.1.2.1) (Az (beq x.1.2.1.2.2 x.2.2.1.2.2) true))) (λ_=>bd (Bw (x.1.2.2.1,x.2.2.2.1)) λa=>br a (λ_=>some (A8 x.1.2.2.2 x.2.2.2.2)) λ_=>some false) λ_=>some false) λ_=>some false) λ_=>some false) λ_=>some false) λ_=>some false) λ_=>some false) λ_=>bd (Ah (x.1.1.2.1,x.2.1.2.1)) λc=>br c (λ_=>bd (As (x.1.1.2.2.1,x.2.1.2.2.1)) λd=>br d (λ_=>bd (Ah (x.1.1.2.2.2.1,x.2.1.2.2.2.1)) λb=>br b (λ_=>br (A8 x.1.1.2.2.2.2 x.2.1.2.2.2.2) (λ_=>br (Az (beq x.1.2.1.1 x.2.2.1.1) (Az (seq x.1.2.1.2.1 x.2.2.1.2.1) (Az (beq x.1.2.1.2.2 x.2.2.1.2.2) true))) (λ_=>bd (Bw (x.1.2.2.1,x.2.2.2.1)) λe=>br e (λ_=>some (A8 x.1.2.2.2 x.2.2.2.2)) λ_=>some false) λ_=>some false) λ_=>some false) λ_=>some false) λ_=>some false) λ_=>some false
def CT (x:(AJ×((List (Int×(AM×((Bool×AN)×((List AD)×Int)))))×Int))):Option (Int×Int) :=
 bd (DM x.1) λl=>br (Ay l.2.2 0) (λ_=>some (((-1),l.2.2))) λ_=>br (Ak x.2.2 1) (λ_=>some (((-1),7))) λ_=>br (CD x.2.2 1000001) (λ_=>some (((-1),7))) λ_=>bd (Ee x.1) λr=>br (j9 x.2.2 r) (λ_=>some (((-1),6))) λ_=>bd (loop (λs2=>br (Ak s2.1 (Ab (AA x.1.2))) (λ_=>AT s2.1 λt=>ix x.1.2 t λs=>br (A8 (Ab (AA s)) 2) (λ_=>gd (BP (Ag (AA s2.2) (AA [s2.1])) 1048576) λ_=>some (.nx (AI .i64 s2.1 1,Bu s2.2 [s2.1]))) λ_=>some (.nx (AI .i64 s2.1 1,s2.2))) λ_=>some (.dn ((0,(s2,()))))) (0,[])) λf=>bd (loop (λa=>br (Ak a.2.2 (Ab (AA x.2.1))) (λ_=>AT a.2.2 λq=>ix x.2.1 q λb=>br (HY a.2.2 (Ab (AA f.2.1.2))) (λ_=>some (.dn ((0,((6,(a.2.2,a.2.2)),()))))) λ_=>AT a.2.2 λp=>gd (C7 p (AA f.2.1.2)) λ_=>ix f.2.1.2 p λi=>br (Ay b.1 i) (λ_=>some (.dn ((0,((6,(a.2.2,a.2.2)),()))))) λ_=>br b.2.2.1.2.2 (λ_=>bd (DG (x.1,b.1)) λm=>br (Ad m) (λ_=>some (.dn ((0,((6,(a.2.2,a.2.2)),()))))) λ_=>bd (Ch ((x.1,(b.1,b.2.2.1.2.2)))) λe=>bd (Bp e.2) λk=>br (Ak b.2.2.2.2 0) (λ_=>some (.dn ((0,((6,(a.2.2,a.2.2)),()))))) λ_=>br (CD b.2.2.2.2 k.1) (λ_=>some (.dn ((0,((6,(a.2.2,a.2.2)),()))))) λ_=>bd (CC (e.2,b.2.2.2.2)) λh=>bd (Dj (h.1,b.2)) λn=>br (Ad n) (λ_=>some (.dn ((0,((6,(a.2.2,a.2.2)),()))))) λ_=>some (.nx ((a.1,(a.2.1,AI .i64 a.2.2 1))))) λ_=>bd (Ch ((x.1,(b.1,b.2.2.1.2.2)))) λd=>bd (Bp d.2) λo=>br (Ak b.2.2.2.2 0) (λ_=>some (.dn ((0,((6,(a.2.2,a.2.2)),()))))) λ_=>br (CD b.2.2.2.2 o.1) (λ_=>some (.dn ((0,((6,(a.2.2,a.2.2)),()))))) λ_=>bd (CC (d.2,b.2.2.2.2)) λg=>bd (Dj (g.1,b.2)) λj=>br (Ad j) (λ_=>some (.dn ((0,((6,(a.2.2,a.2.2)),()))))) λ_=>some (.nx ((a.1,(a.2.1,AI .i64 a.2.2 1))))) λ_=>some (.dn ((1,(a,()))))) ((l.2.2,(0,0)))) λc=>br (neq c.1 0) (λ_=>some (c.2.1.2.1,c.2.1.1)) λ_=>br (Ak (Ab (AA x.2.1)) (Ab (AA f.2.1.2))) (λ_=>some (((-1),4))) λ_=>some (0,0)
end Go.Proofs.YtfilfloanndddaaGreat.Pl
namespace Go.Proofs.YtfilfloanndddaaGreat.Pl
open Go Go.Proofs.YtfilfloanndddaaGreat.Sv
set_option linter.unusedVariables false
def Dk (x:(Int×Int)):Option Int :=
 bd (loop (λs0=>br (Ak s0.2 x.2) (λ_=>some (.nx (Pd .i64 2 s0.1,AI .i64 s0.2 1))) λ_=>some (.dn ((0,(s0,()))))) (x.1,0)) λa=>some a.2.1.1
def Du (x:AD):Option Int :=
 br (CD (Ab (Gc x.1)) 32) (λ_=>some 3) λ_=>br (CD (Ab (Gc x.2.1)) 64) (λ_=>some 3) λ_=>br x.2.2.1 (λ_=>br (Ad (seq x.2.1 [])) (λ_=>some 6) λ_=>br (Ak x.2.2.2 1) (λ_=>some 7) λ_=>br (CD x.2.2.2 1000000000) (λ_=>some 7) λ_=>some 0) λ_=>br (Ak x.2.2.2 1) (λ_=>some 7) λ_=>br (CD x.2.2.2 1000000000) (λ_=>some 7) λ_=>some 0
def FD (x:((List UInt8)×(List UInt8))):Option Int :=
 bd (loop (λs0=>br (Ak s0 (Ab (Gc x.1))) (λ_=>br (Ak s0 (Ab (Gc x.2))) (λ_=>AT s0 λe=>ix x.1 e λb=>AT s0 λd=>ix x.2 d λa=>br (A8 (UP b) (UP a)) (λ_=>some (.nx (AI .i64 s0 1))) λ_=>some (.dn ((0,(s0,()))))) λ_=>some (.dn ((0,(s0,()))))) λ_=>some (.dn ((0,(s0,()))))) 0) λc=>some c.2.1
def Eo (x:((List UInt8)×(List UInt8))):Option Int :=
 bd (FD x) λa=>br (A8 a (Ab (Gc x.1))) (λ_=>br (A8 a (Ab (Gc x.2))) (λ_=>some 0) λ_=>br (A8 a (Ab (Gc x.1))) (λ_=>some (-1)) λ_=>br (Ak a (Ab (Gc x.2))) (λ_=>AT a λh=>ix x.1 h λe=>AT a λg=>ix x.2 g λb=>br (Ak (UP e) (UP b)) (λ_=>some (-1)) λ_=>some 1) λ_=>some 1) λ_=>br (A8 a (Ab (Gc x.1))) (λ_=>some (-1)) λ_=>br (Ak a (Ab (Gc x.2))) (λ_=>AT a λd=>ix x.1 d λf=>AT a λc=>ix x.2 c λi=>br (Ak (UP f) (UP i)) (λ_=>some (-1)) λ_=>some 1) λ_=>some 1
def C2 (x:(List AD)):Option (Int×Int) :=
 br (CD (Ab (AA x)) 5000) (λ_=>some (((-1),3))) λ_=>bd (loop (λs0=>br (Ak s0.2.2 (Ab (AA x))) (λ_=>AT s0.2.2 λh=>ix x h λe=>bd (Du e) λa=>br (A8 a 0) (λ_=>br (CD s0.2.2 0) (λ_=>AT (CA .i64 s0.2.2 1) λf=>ix x f λd=>AT s0.2.2 λg=>ix x g λi=>bd (Eo (d.1,i.1)) λc=>br (HY c 0) (λ_=>some (.dn ((0,((6,(s0.2.2,s0.2.2)),()))))) λ_=>br (Ay a 0) (λ_=>some (.dn ((0,((a,(s0.2.2,s0.2.2)),()))))) λ_=>some (.nx ((s0.1,(s0.2.1,AI .i64 s0.2.2 1))))) λ_=>br (Ay a 0) (λ_=>some (.dn ((0,((a,(s0.2.2,s0.2.2)),()))))) λ_=>some (.nx ((s0.1,(s0.2.1,AI .i64 s0.2.2 1))))) λ_=>br (Ay a 0) (λ_=>some (.dn ((0,((a,(s0.2.2,s0.2.2)),()))))) λ_=>some (.nx ((s0.1,(s0.2.1,AI .i64 s0.2.2 1))))) λ_=>some (.dn ((1,(s0,()))))) ((0,(0,0)))) λb=>br (neq b.1 0) (λ_=>some (b.2.1.2.1,b.2.1.1)) λ_=>some (0,0)
def Fs (x:BI):Option (Int×Int) :=
 br (Ak x.1 1) (λ_=>some (((-1),7))) λ_=>br (CD x.1 1000000) (λ_=>some (((-1),7))) λ_=>bd (C2 x.2) λa=>some a
def EU (x:(BI×(Int×(List Int)))):Option Int :=
 bd (Fs x.1) λa=>br (Ay a.2 0) (λ_=>some a.2) λ_=>br (A8 (Ab (AA x.1.2)) 0) (λ_=>some 4) λ_=>br (CD (Ab (AA x.1.2)) x.2.1) (λ_=>some 3) λ_=>bd (loop (λs1=>br (Ak s1.1 (Ab (AA x.2.2))) (λ_=>AT s1.1 λd=>ix x.2.2 d λc=>br (A8 c x.1.1) (λ_=>some (.dn ((0,((s1.1,8),()))))) λ_=>some (.nx (AI .i64 s1.1 1,s1.2))) λ_=>some (.dn ((1,(s1,()))))) (0,0)) λb=>br (neq b.1 0) (λ_=>some b.2.1.2) λ_=>some 0
def Ci (x:AJ):Option (Int×(Int×Int)) :=
 br (Ak x.1 1) (λ_=>some ((0,(0,7)))) λ_=>br (CD x.1 16) (λ_=>some ((0,(0,7)))) λ_=>br (CD (Ab (AA x.2)) 12) (λ_=>some ((0,(0,3)))) λ_=>bd (loop (λ(s0:(Int×((List Int)×(Int×(Int×Int)))))=>br (Ak s0.2.2.2.2 (Ab (AA x.2))) (λ_=>AT s0.2.2.2.2 λl=>ix x.2 l λd=>br (CD (Ab (AA d)) 2) (λ_=>some (.dn ((0,((0,(s0.2.1,(s0.2.2.2.2,(3,s0.2.2.2.2)))),()))))) λ_=>bd (loop (λ(b:(Int×((List Int)×(Int×(Int×Int)))))=>br (Ak b.2.2.2.2 (Ab (AA d))) (λ_=>AT b.2.2.2.2 λk=>ix d k λi=>bd (Dk (x.1,s0.2.2.2.2)) λm=>bd (EU ((i,(m,b.2.1)))) λh=>br (Ay h 0) (λ_=>some (.dn ((0,((b.2.2.2.2,(b.2.1,(s0.2.2.2.2,(h,b.2.2.2.2)))),()))))) λ_=>AT b.2.2.2.2 λj=>ix d j λg=>gd (BP (Ag (AA b.2.1) (AA [g.1])) 1048576) λ_=>some (.nx ((b.1,(Bu b.2.1 [g.1],(b.2.2.1,(b.2.2.2.1,AI .i64 b.2.2.2.2 1))))))) λ_=>some (.dn ((1,(b,()))))) ((s0.1,(s0.2.1,(s0.2.2.1,(s0.2.2.2.1,0)))))) λa=>br (neq a.1 0) (λ_=>some (.dn ((0,((a.2.1.1,(a.2.1.2.1,(a.2.1.2.2.1,(a.2.1.2.2.2.1,s0.2.2.2.2)))),()))))) λ_=>some (.nx ((a.2.1.1,(a.2.1.2.1,(a.2.1.2.2.1,(a.2.1.2.2.2.1,AI .i64 s0.2.2.2.2 1))))))) λ_=>some (.dn ((1,(s0,()))))) ((0,([],(0,(0,0)))))) λc=>br (neq c.1 0) (λ_=>some ((c.2.1.2.2.1,(c.2.1.1,c.2.1.2.2.2.1)))) λ_=>br (CD (Ab (AA x.2)) 0) (λ_=>AT (CA .i64 (Ab (AA x.2)) 1) λe=>ix x.2 e λf=>br (A8 (Ab (AA f)) 0) (λ_=>some ((CA .i64 (Ab (AA x.2)) 1,(0,6)))) λ_=>some ((0,(0,0)))) λ_=>some ((0,(0,0)))
def FE (x:AJ):Option ((List BI)×Int) :=
 bd (Ci x) λc=>br (Ay c.2.2 0) (λ_=>some ([],c.2.2)) λ_=>bd (loop (λs1=>br (Ak s1.2 (Ab (AA x.2))) (λ_=>AT s1.2 λh=>ix x.2 h λj=>bd (loop (λa=>br (HY a.2 0) (λ_=>AT s1.2 λf=>ix x.2 f λi=>AT a.2 λe=>ix i e λd=>gd (BP (Ag (AA a.1) (AA [d])) 1048576) λ_=>some (.nx (Bu a.1 [d],CA .i64 a.2 1))) λ_=>some (.dn ((0,(a,()))))) ((s1.1,CA .i64 (Ab (AA j)) 1))) λg=>some (.nx (g.2.1.1,AI .i64 s1.2 1))) λ_=>some (.dn ((0,(s1,()))))) ([],0)) λb=>some (b.2.1.1,0)
def Cd (x:AJ):Option Int :=
 bd (FE x) λa=>bd (loop (λs1=>br (Ak s1.2 (Ab (AA a.1))) (λ_=>AT s1.2 λc=>ix a.1 c λb=>some (.nx (LL s1.1 b.1,AI .i64 s1.2 1))) λ_=>some (.dn ((0,(s1,()))))) (0,0)) λd=>some d.2.1.1
def Bq (x:AJ):Option (List Int) :=
 bd (loop (λs0=>br (Ak s0.2 (Ab (AA x.2))) (λ_=>AT s0.2 λb=>ix x.2 b λa=>br (A8 (Ab (AA a)) 2) (λ_=>gd (BP (Ag (AA s0.1) (AA [s0.2])) 1048576) λ_=>some (.nx (Bu s0.1 [s0.2],AI .i64 s0.2 1))) λ_=>some (.nx (s0.1,AI .i64 s0.2 1))) λ_=>some (.dn ((0,(s0,()))))) ([],0)) λc=>some c.2.1.1
def IQ (x:(AJ×Int)):Option Int :=
 bd (Ci x.1) λa=>br (A8 a.2.2 0) (λ_=>br (Ak x.2 0) (λ_=>some 7) λ_=>br (HY x.2 12) (λ_=>some 7) λ_=>some a.2.2) λ_=>some a.2.2
def HZ (x:(AJ×Int)):Option (Bool×Int) :=
 bd (IQ x) λa=>br (Ay a 0) (λ_=>some (false,a)) λ_=>some ((CD (Ab (AA x.1.2)) (AI .i64 x.2 1),0))
def BT (x:(AJ×Int)):Option Bool :=
 bd (HZ x) λa=>some (Ad a.1)
def Dv (x:(List (List AD))):Option (Int×Int) :=
 br (A8 (Ab (AA x)) 0) (λ_=>some (((-1),6))) λ_=>br (CD (Ab (AA x)) 32) (λ_=>some (((-1),3))) λ_=>bd (loop (λs0=>br (Ak s0.2.2 (Ab (AA x))) (λ_=>AT s0.2.2 λd=>ix x d λc=>bd (C2 c) λb=>br (Ay b.2 0) (λ_=>some (.dn ((0,((b.2,(s0.2.2,s0.2.2)),()))))) λ_=>some (.nx ((s0.1,(s0.2.1,AI .i64 s0.2.2 1))))) λ_=>some (.dn ((1,(s0,()))))) ((0,(0,0)))) λa=>br (neq a.1 0) (λ_=>some (a.2.1.2.1,a.2.1.1)) λ_=>some (0,0)
def Ft (x:(List AN)):Option Int :=
 br (A8 (Ab (AA x)) 0) (λ_=>some 6) λ_=>br (CD (Ab (AA x)) 32) (λ_=>some 3) λ_=>bd (loop (λs0=>br (Ak s0.1 (Ab (AA x))) (λ_=>AT s0.1 λe=>ix x e λc=>br c.2 (λ_=>AT s0.1 λd=>ix x d λb=>br (Ad (seq b.1 [])) (λ_=>some (.dn ((0,((s0.1,2),()))))) λ_=>some (.nx (AI .i64 s0.1 1,s0.2))) λ_=>some (.nx (AI .i64 s0.1 1,s0.2))) λ_=>some (.dn ((1,(s0,()))))) (0,0)) λa=>br (neq a.1 0) (λ_=>some a.2.1.2) λ_=>some 0
def Fb (x:((List AN)×(Int×Int))):Option Bool :=
 AT x.2.1 λc=>ix x.1 c λb=>AT x.2.2 λd=>ix x.1 d λa=>br (Ad (beq b.2 a.2)) (λ_=>some a.2) λ_=>br (Ad b.2) (λ_=>br (Ad (seq b.1 a.1)) (λ_=>some (Cy b.1 a.1)) λ_=>some (Ak x.2.1 x.2.2)) λ_=>some (Ak x.2.1 x.2.2)
def A4 (rec:((List AN)×Int)->Option (Int×Int)) (x:((List AN)×Int)):Option (Int×Int) :=
 br (HY x.2 (Ab (AA x.1))) (λ_=>some ((CA .i64 x.2 (Ab (AA x.1)),0))) λ_=>bd (rec (x.1,Pd .i64 2 x.2)) λb=>bd (rec ((x.1,AI .i64 (Pd .i64 2 x.2) 1))) λa=>bd (Fb ((x.1,(b.1,a.1)))) λc=>br c (λ_=>some (b.1,a.1)) λ_=>some (a.1,b.1)
def Gr:((List AN)×Int)->Option (Int×Int):=Ko A4 100
def Gs (x:(List AN)):Option ET :=
 gd (BP (AA x) 1048576) λ_=>AT (Ab (AA x)) λg=>AT (Ab (AA x)) λb=>gd (BP b 1048576) λ_=>bd (loop (λs2=>br (Ak s2.1 (Ab (AA x))) (λ_=>bd (Gr (x,s2.1)) λd=>AT s2.1 λa=>gd (C7 a (AA s2.2.2.1)) λ_=>ix s2.2.2.1 a λf=>some (.nx ((AI .i64 s2.1 1,(s2.2.1,(lset s2.2.2.1 a d.2,s2.2.2.2)))))) λ_=>some (.dn ((0,(s2,()))))) ((1,(x,(D2 b 0,(0:Int)))))) λc=>bd (Gr (x,1)) λe=>some ((c.2.1.2.1,(c.2.1.2.2.1,e.1)))
def Ep (x:(List AN)):Option (ET×Int) :=
 bd (Ft x) λa=>br (Ay a 0) (λ_=>some ((([],([],0)),a))) λ_=>bd (Gs x) λb=>some (b,0)
def DH (x:((List (List AD))×(List Int))):Option AM :=
 gd (BP (AA x.1) 1048576) λ_=>gd (BP (AA x.2) 1048576) λ_=>bd (loop (λs0=>br (Ak s0.1 (Ab (AA x.1))) (λ_=>AT s0.1 λk=>ix x.2 k λc=>AT s0.1 λj=>ix x.1 j λa=>br (Ad (A8 c (Ab (AA a)))) (λ_=>AT s0.1 λh=>ix x.1 h λi=>AT s0.1 λg=>ix x.2 g λl=>AT l λf=>ix i f λb=>gd (BP (Ag (AA s0.2) (AA ([(b.1,A8 c (Ab (AA a)))]))) 1048576) λ_=>some (.nx ((AI .i64 s0.1 1,Bu s0.2 ([(b.1,A8 c (Ab (AA a)))]))))) λ_=>gd (BP (Ag (AA s0.2) (AA ([(([]:List UInt8),A8 c (Ab (AA a)))]))) 1048576) λ_=>some (.nx ((AI .i64 s0.1 1,Bu s0.2 ([([],A8 c (Ab (AA a)))]))))) λ_=>some (.dn ((0,(s0,()))))) (0,[])) λd=>bd (Ep d.2.1.2) λe=>some ((x.1,(x.2,e.1)))
def Ha (x:(List (List AD))):Option (AM×(Int×Int)) :=
 bd (Dv x) λa=>br (Ay a.2 0) (λ_=>some ((([],([],([],([],0)))),a))) λ_=>AT (Ab (AA x)) λd=>AT (Ab (AA x)) λb=>gd (BP b 1048576) λ_=>bd (DH (x,D2 b 0)) λc=>some ((c,(0,0)))
def DI (x:Bool):Option (Bool×AN) :=
 some ((false,([],x)))
def Fu (x:((List (List AD))×Bool)):Option ((AM×((Bool×AN)×((List AD)×Int)))×(Int×Int)) :=
 bd (Ha x.1) λa=>br (Ay a.2.2 0) (λ_=>some (((([],([],([],([],0)))),((false,([],false)),([],0))),a.2))) λ_=>bd (DI x.2) λb=>some (((a.1,(b,([],0))),(0,0)))
def Aw (x:(AJ×(Int×Bool))):Option (Int×(AM×((Bool×AN)×((List AD)×Int)))) :=
 br (HY x.2.1 (Ab (AA x.1.2))) (λ_=>none) λ_=>AT x.2.1 λb=>ix x.1.2 b λa=>ix a 1 λd=>ix a 0 λe=>bd (Fu ([d.2,e.2],x.2.2)) λc=>some (x.2.1,c.1)
def Gt (x:((List Int)×(List Int))):Option Bool :=
 br (Ay (Ab (AA x.1)) (Ab (AA x.2))) (λ_=>some false) λ_=>bd (loop (λs0=>br (Ak s0.1 (Ab (AA x.1))) (λ_=>AT s0.1 λe=>ix x.1 e λc=>AT s0.1 λd=>ix x.2 d λb=>br (Ay c b) (λ_=>some (.dn ((0,((s0.1,false),()))))) λ_=>some (.nx (AI .i64 s0.1 1,s0.2))) λ_=>some (.dn ((1,(s0,()))))) (0,false)) λa=>br (neq a.1 0) (λ_=>some a.2.1.2) λ_=>some true
def Fc (x:(ET×ET)):Option Bool :=
 br (Ay (Ab (AA x.1.1)) (Ab (AA x.2.1))) (λ_=>some false) λ_=>br (Ay x.1.2.2 x.2.2.2) (λ_=>some false) λ_=>bd (Gt (x.1.2.1,x.2.2.1)) λd=>br (Ad d) (λ_=>some false) λ_=>bd (loop (λs1=>br (Ak s1.1 (Ab (AA x.1.1))) (λ_=>AT s1.1 λe=>ix x.1.1 e λb=>AT s1.1 λf=>ix x.2.1 f λa=>br (Ad (Az (seq b.1 a.1) (Az (beq b.2 a.2) true))) (λ_=>some (.dn ((0,((s1.1,false),()))))) λ_=>some (.nx (AI .i64 s1.1 1,s1.2))) λ_=>some (.dn ((1,(s1,()))))) (0,false)) λc=>br (neq c.1 0) (λ_=>some c.2.1.2) λ_=>some true
def Dw (x:((List (List AD))×(List Int))):Option Int :=
 bd (loop (λs0=>br (Ak s0.2 (Ab (AA x.1))) (λ_=>AT s0.2 λq=>ix x.2 q λm=>AT s0.2 λp=>ix x.1 p λj=>br (Ak m (Ab (AA j))) (λ_=>br (Ak s0.1 0) (λ_=>some (.nx (s0.2,AI .i64 s0.2 1))) λ_=>AT s0.2 λl=>ix x.1 l λn=>AT s0.2 λk=>ix x.2 k λo=>AT o λi=>ix n i λc=>AT s0.1 λd=>ix x.1 d λb=>AT s0.1 λa=>ix x.2 a λe=>AT e λg=>ix b g λh=>br (Cy c.1 h.1) (λ_=>some (.nx (s0.2,AI .i64 s0.2 1))) λ_=>some (.nx (s0.1,AI .i64 s0.2 1))) λ_=>some (.nx (s0.1,AI .i64 s0.2 1))) λ_=>some (.dn ((0,(s0,()))))) (((-1),0))) λf=>some f.2.1.1
def Dx (x:AM):Option (Int×Int) :=
 bd (Dv x.1) λt=>br (Ay t.2 0) (λ_=>some t) λ_=>br (Ay (Ab (AA x.2.1)) (Ab (AA x.1))) (λ_=>some (((-1),6))) λ_=>bd (loop (λs1=>br (Ak s1.2.2 (Ab (AA x.2.1))) (λ_=>AT s1.2.2 λA=>ix x.2.1 A λy=>br (Ak y 0) (λ_=>some (.dn ((0,((6,(s1.2.2,s1.2.2)),()))))) λ_=>AT s1.2.2 λw=>ix x.2.1 w λu=>AT s1.2.2 λB=>ix x.1 B λC=>br (CD u (Ab (AA C))) (λ_=>some (.dn ((0,((6,(s1.2.2,s1.2.2)),()))))) λ_=>some (.nx ((s1.1,(s1.2.1,AI .i64 s1.2.2 1))))) λ_=>some (.dn ((1,(s1,()))))) ((0,(0,0)))) λd=>br (neq d.1 0) (λ_=>some (d.2.1.2.1,d.2.1.1)) λ_=>bd (DH (x.1,x.2.1)) λz=>bd (Fc (x.2.2,z.2.2)) λg=>br (Ad g) (λ_=>some (((-1),6))) λ_=>bd (Dw (x.1,x.2.1)) λb=>bd (loop (λa=>br (Ak a.2.2 (Ab (AA x.1))) (λ_=>br (HY b 0) (λ_=>AT a.2.2 λp=>ix x.2.1 p λj=>br (A8 j 0) (λ_=>some (.nx ((a.1,(a.2.1,AI .i64 a.2.2 1))))) λ_=>AT a.2.2 λi=>ix x.1 i λo=>AT a.2.2 λq=>ix x.2.1 q λk=>AT (CA .i64 k 1) λs=>ix o s λf=>AT b λh=>ix x.1 h λn=>AT b λr=>ix x.2.1 r λl=>AT l λm=>ix n m λe=>br (Cy e.1 f.1) (λ_=>some (.dn ((0,((6,(b,a.2.2)),()))))) λ_=>br (seq f.1 e.1) (λ_=>br (CD a.2.2 b) (λ_=>some (.dn ((0,((6,(b,a.2.2)),()))))) λ_=>some (.nx ((a.1,(a.2.1,AI .i64 a.2.2 1))))) λ_=>some (.nx ((a.1,(a.2.1,AI .i64 a.2.2 1))))) λ_=>some (.dn ((1,(a,()))))) λ_=>some (.dn ((1,(a,()))))) ((d.2.1.1,(d.2.1.2.1,0)))) λc=>br (neq c.1 0) (λ_=>some (c.2.1.2.1,c.2.1.1)) λ_=>some (0,0)
def EV (x:(AM×((Bool×AN)×((List AD)×Int)))):Option Int :=
 bd (loop (λs0=>br (Ak s0.2 (Ab (AA x.1.2.1))) (λ_=>AT s0.2 λb=>ix x.1.2.1 b λa=>some (.nx (AI .i64 s0.1 a,AI .i64 s0.2 1))) λ_=>some (.dn ((0,(s0,()))))) (0,0)) λc=>some c.2.1.1
def FG (x:(List (List AD))):Option ((List AD)×((List Int)×Int)) :=
 bd (Dv x) λi=>br (Ay i.2 0) (λ_=>some (([],([],i.2)))) λ_=>AT (Ab (AA x)) λp=>AT (Ab (AA x)) λj=>gd (BP j 1048576) λ_=>bd (loop (λ(a:((List Int)×((List AD)×((List AD)×(Int×((List Int)×(List Int)))))))=>bd (Dw (x,a.2.2.2.2.2)) λc=>br (Ak c 0) (λ_=>some (.dn ((0,((a.2.2.2.2.1,(a.2.1,0)),()))))) λ_=>AT c λl=>ix x l λn=>AT c λh=>gd (C7 h (AA a.2.2.2.2.2)) λ_=>ix a.2.2.2.2.2 h λo=>AT o λk=>ix n k λe=>gd (BP (Ag (AA a.2.1) (AA [e])) 1048576) λ_=>gd (BP (Ag (AA a.2.2.2.2.1) (AA [c])) 1048576) λ_=>AT c λf=>gd (C7 f (AA a.2.2.2.2.2)) λ_=>ix a.2.2.2.2.2 f λg=>AT c λb=>gd (C7 b (AA a.2.2.2.2.2)) λ_=>ix a.2.2.2.2.2 b λm=>some (.nx ((a.1,(Bu a.2.1 [e],(a.2.2.1,(a.2.2.2.1,(Bu a.2.2.2.2.1 [c],lset a.2.2.2.2.2 b (AI .i64 g 1))))))))) (([],([],([],(0,([],D2 j 0))))))) λd=>some ((d.2.1.2.1,(d.2.1.1,d.2.1.2.2)))
def Fv (x:(Bool×AN)):Option Int :=
 br (CD (Ab (Gc x.2.1)) 32) (λ_=>some 3) λ_=>br (Ad x.1) (λ_=>br (Ad (seq x.2.1 [])) (λ_=>some 6) λ_=>some 0) λ_=>some 0
def Gu (x:((Bool×AN)×AD)):Option (Bool×((Bool×AN)×Int)) :=
 bd (Fv x.1) λa=>br (A8 a 0) (λ_=>bd (Du x.2) λb=>br (A8 b 0) (λ_=>br x.1.1 (λ_=>br (Cy x.2.1 x.1.2.1) (λ_=>some ((false,((false,([],false)),6)))) λ_=>br (Ay b 0) (λ_=>some ((false,((false,([],false)),b)))) λ_=>br (Ad x.1.1) (λ_=>br x.1.2.2 (λ_=>some ((Ad x.2.2.2.1,((true,(x.2.1,x.1.2.2)),0)))) λ_=>some ((true,((true,(x.2.1,x.1.2.2)),0)))) λ_=>br (Ad (seq x.2.1 x.1.2.1)) (λ_=>br x.1.2.2 (λ_=>some ((Ad x.2.2.2.1,((true,(x.2.1,x.1.2.2)),0)))) λ_=>some ((true,((true,(x.2.1,x.1.2.2)),0)))) λ_=>some ((false,((true,(x.2.1,x.1.2.2)),0)))) λ_=>br (Ay b 0) (λ_=>some ((false,((false,([],false)),b)))) λ_=>br (Ad x.1.1) (λ_=>br x.1.2.2 (λ_=>some ((Ad x.2.2.2.1,((true,(x.2.1,x.1.2.2)),0)))) λ_=>some ((true,((true,(x.2.1,x.1.2.2)),0)))) λ_=>br (Ad (seq x.2.1 x.1.2.1)) (λ_=>br x.1.2.2 (λ_=>some ((Ad x.2.2.2.1,((true,(x.2.1,x.1.2.2)),0)))) λ_=>some ((true,((true,(x.2.1,x.1.2.2)),0)))) λ_=>some ((false,((true,(x.2.1,x.1.2.2)),0)))) λ_=>br (Ay b 0) (λ_=>some ((false,((false,([],false)),b)))) λ_=>br (Ad x.1.1) (λ_=>br x.1.2.2 (λ_=>some ((Ad x.2.2.2.1,((true,(x.2.1,x.1.2.2)),0)))) λ_=>some ((true,((true,(x.2.1,x.1.2.2)),0)))) λ_=>br (Ad (seq x.2.1 x.1.2.1)) (λ_=>br x.1.2.2 (λ_=>some ((Ad x.2.2.2.1,((true,(x.2.1,x.1.2.2)),0)))) λ_=>some ((true,((true,(x.2.1,x.1.2.2)),0)))) λ_=>some ((false,((true,(x.2.1,x.1.2.2)),0)))) λ_=>br (A8 a 0) (λ_=>br x.1.1 (λ_=>br (Cy x.2.1 x.1.2.1) (λ_=>some ((false,((false,([],false)),6)))) λ_=>br (Ay a 0) (λ_=>some ((false,((false,([],false)),a)))) λ_=>br (Ad x.1.1) (λ_=>br x.1.2.2 (λ_=>some ((Ad x.2.2.2.1,((true,(x.2.1,x.1.2.2)),0)))) λ_=>some ((true,((true,(x.2.1,x.1.2.2)),0)))) λ_=>br (Ad (seq x.2.1 x.1.2.1)) (λ_=>br x.1.2.2 (λ_=>some ((Ad x.2.2.2.1,((true,(x.2.1,x.1.2.2)),0)))) λ_=>some ((true,((true,(x.2.1,x.1.2.2)),0)))) λ_=>some ((false,((true,(x.2.1,x.1.2.2)),0)))) λ_=>br (Ay a 0) (λ_=>some ((false,((false,([],false)),a)))) λ_=>br (Ad x.1.1) (λ_=>br x.1.2.2 (λ_=>some ((Ad x.2.2.2.1,((true,(x.2.1,x.1.2.2)),0)))) λ_=>some ((true,((true,(x.2.1,x.1.2.2)),0)))) λ_=>br (Ad (seq x.2.1 x.1.2.1)) (λ_=>br x.1.2.2 (λ_=>some ((Ad x.2.2.2.1,((true,(x.2.1,x.1.2.2)),0)))) λ_=>some ((true,((true,(x.2.1,x.1.2.2)),0)))) λ_=>some ((false,((true,(x.2.1,x.1.2.2)),0)))) λ_=>br (Ay a 0) (λ_=>some ((false,((false,([],false)),a)))) λ_=>br (Ad x.1.1) (λ_=>br x.1.2.2 (λ_=>some ((Ad x.2.2.2.1,((true,(x.2.1,x.1.2.2)),0)))) λ_=>some ((true,((true,(x.2.1,x.1.2.2)),0)))) λ_=>br (Ad (seq x.2.1 x.1.2.1)) (λ_=>br x.1.2.2 (λ_=>some ((Ad x.2.2.2.1,((true,(x.2.1,x.1.2.2)),0)))) λ_=>some ((true,((true,(x.2.1,x.1.2.2)),0)))) λ_=>some ((false,((true,(x.2.1,x.1.2.2)),0)))
def FH (x:((List AD)×Bool)):Option ((List AD)×(Int×Int)) :=
 br (CD (Ab (AA x.1)) 20000) (λ_=>some (([],((-1),3)))) λ_=>bd (DI x.2) λe=>bd (loop (λ(s1:(Int×(Int×((List AD)×((List AD)×(Int×(Bool×AN)))))))=>br (Ak s1.2.1 (Ab (AA x.1))) (λ_=>AT s1.2.1 λf=>ix x.1 f λg=>bd (Gu (s1.2.2.2.2.2,g)) λa=>br (Ay a.2.2 0) (λ_=>some (.dn ((0,((s1.2.1,(s1.2.1,([],(s1.2.2.2.1,(a.2.2,s1.2.2.2.2.2))))),()))))) λ_=>br a.1 (λ_=>AT s1.2.1 λd=>ix x.1 d λc=>gd (BP (Ag (AA s1.2.2.2.1) (AA [c])) 1048576) λ_=>some (.nx ((s1.1,(AI .i64 s1.2.1 1,(s1.2.2.1,(Bu s1.2.2.2.1 [c],(s1.2.2.2.2.1,a.2.1)))))))) λ_=>some (.nx ((s1.1,(AI .i64 s1.2.1 1,(s1.2.2.1,(s1.2.2.2.1,(s1.2.2.2.2.1,a.2.1)))))))) λ_=>some (.dn ((1,(s1,()))))) ((0,(0,([],([],(0,e))))))) λb=>br (neq b.1 0) (λ_=>some ((b.2.1.2.2.1,(b.2.1.1,b.2.1.2.2.2.2.1)))) λ_=>some ((b.2.1.2.2.2.1,(0,0)))
def DO (x:((List AD)×Bool)):Option ((List AD)×(Bool×AN)) :=
 bd (FH x) λb=>bd (DI x.2) λa=>br (CD (Ab (AA x.1)) 0) (λ_=>AT (CA .i64 (Ab (AA x.1)) 1) λd=>ix x.1 d λc=>some ((b.1,(true,(c.1,a.2.2))))) λ_=>some (b.1,a)
def B6 (x:((List AD)×(List AD))):Option Bool :=
 br (Ay (Ab (AA x.1)) (Ab (AA x.2))) (λ_=>some false) λ_=>bd (loop (λs0=>br (Ak s0.1 (Ab (AA x.1))) (λ_=>AT s0.1 λe=>ix x.1 e λb=>AT s0.1 λd=>ix x.2 d λa=>br (Ad (Az (seq b.1 a.1) (Az (seq b.2.1 a.2.1) (Az (beq b.2.2.1 a.2.2.1) (Az (A8 b.2.2.2 a.2.2.2) true))))) (λ_=>some (.dn ((0,((s0.1,false),()))))) λ_=>some (.nx (AI .i64 s0.1 1,s0.2))) λ_=>some (.dn ((1,(s0,()))))) (0,false)) λc=>br (neq c.1 0) (λ_=>some c.2.1.2) λ_=>some true
def Fw (x:(AM×((Bool×AN)×((List AD)×Int)))):Option Int :=
 bd (Dx x.1) λe=>br (Ay e.2 0) (λ_=>some e.2) λ_=>bd (EV x) λb=>br (CD (Ab (AA x.2.2.1)) 20000) (λ_=>some 3) λ_=>br (CD b 20000) (λ_=>some 3) λ_=>br (Ay x.2.2.2 b) (λ_=>some 7) λ_=>bd (FG x.1.1) λd=>AT b λc=>gd (BP c (AA d.1)) λ_=>gd (BP 0 c) λ_=>bd (DO (EI d.1 0 c,x.2.1.2.2)) λa=>bd (B6 (x.2.2.1,a.1)) λf=>br (Ad f) (λ_=>some 6) λ_=>br (Ad (Az (beq x.2.1.1 a.2.1) (Az (seq x.2.1.2.1 a.2.2.1) (Az (beq x.2.1.2.2 a.2.2.2) true)))) (λ_=>some 6) λ_=>some 0
def Gv (x:AM):Option (Int×Int) :=
 bd (Dx x) λa=>br (Ay a.2 0) (λ_=>some (0,a.2)) λ_=>bd (loop (λs1=>br (Ak s1.1 (Ab (AA x.1))) (λ_=>AT s1.1 λc=>ix x.1 c λe=>AT s1.1 λd=>ix x.2.1 d λb=>some (.nx ((AI .i64 s1.1 1,CA .i64 (AI .i64 s1.2 (Ab (AA e))) b)))) λ_=>some (.dn ((0,(s1,()))))) (0,0)) λf=>some (f.2.1.2,0)
def BN (x:(AM×((Bool×AN)×((List AD)×Int)))):Option (Int×Int) :=
 bd (Fw x) λa=>br (Ay a 0) (λ_=>some (0,a)) λ_=>bd (Gv x.1) λb=>some b
def EW (x:AM):Option (AD×(Int×(AM×Int))) :=
 bd (Dx x) λf=>br (Ay f.2 0) (λ_=>some (((([],([],(false,0))):AD),(0,(([],([],([],([],0)))),f.2))))) λ_=>bd (Dw (x.1,x.2.1)) λa=>br (Ak a 0) (λ_=>some (((([],([],(false,0))):AD),(0,(([],([],([],([],0)))),12))))) λ_=>gd (BP (AA x.2.1) 1048576) λ_=>AT a λg=>gd (C7 g (AA x.2.1)) λ_=>ix x.2.1 g λk=>AT a λc=>gd (C7 c (AA x.2.1)) λ_=>ix x.2.1 c λm=>AT a λj=>ix x.1 j λl=>AT a λh=>ix x.2.1 h λi=>AT i λd=>ix l d λe=>bd (DH ((x.1,lset x.2.1 c (AI .i64 k 1)))) λb=>some ((e,(a,(b,0))))
def BE (x:((AM×((Bool×AN)×((List AD)×Int)))×Int)):Option ((AM×((Bool×AN)×((List AD)×Int)))×(Int×Int)) :=
 bd (BN x.1) λa=>br (A8 a.2 0) (λ_=>br (Ak x.2 0) (λ_=>some (((([],([],([],([],0)))),((false,([],false)),([],0))),(0,7)))) λ_=>br (Ay a.2 0) (λ_=>some (((([],([],([],([],0)))),((false,([],false)),([],0))),(0,a.2)))) λ_=>bd (EV x.1) λn=>br (CD (AI .i64 n (Ok x.2 a.1)) 20000) (λ_=>some (((([],([],([],([],0)))),((false,([],false)),([],0))),(0,3)))) λ_=>bd (loop (λ(s2:(Int×((List (List AD))×((List Int)×((List AN)×((List Int)×(Int×(Bool×((List UInt8)×(Bool×((List AD)×Int)))))))))))=>br (Ak s2.1 (Ok x.2 a.1)) (λ_=>bd (EW ((s2.2.1,(s2.2.2.1,(s2.2.2.2.1,(s2.2.2.2.2.1,s2.2.2.2.2.2.1)))))) λf=>some (.nx ((AI .i64 s2.1 1,(f.2.2.1.1,(f.2.2.1.2.1,(f.2.2.1.2.2.1,(f.2.2.1.2.2.2.1,(f.2.2.1.2.2.2.2,s2.2.2.2.2.2.2))))))))) λ_=>some (.dn ((0,(s2,()))))) ((0,(x.1.1.1,(x.1.1.2.1,(x.1.1.2.2.1,(x.1.1.2.2.2.1,(x.1.1.2.2.2.2,(x.1.2.1.1,(x.1.2.1.2.1,(x.1.2.1.2.2,x.1.2.2))))))))))) λg=>bd (FG x.1.1.1) λk=>AT (AI .i64 x.1.2.2.2 (Ok x.2 a.1)) λj=>gd (BP j (AA k.1)) λ_=>gd (BP 0 j) λ_=>bd (DO (EI k.1 0 j,x.1.2.1.2.2)) λl=>some ((((g.2.1.2.1,(g.2.1.2.2.1,(g.2.1.2.2.2.1,(g.2.1.2.2.2.2.1,g.2.1.2.2.2.2.2.1)))),(l.2,(l.1,AI .i64 x.1.2.2.2 (Ok x.2 a.1)))),(Ok x.2 a.1,0)))) λ_=>br (Ay a.2 0) (λ_=>some (((([],([],([],([],0)))),((false,([],false)),([],0))),(0,a.2)))) λ_=>bd (EV x.1) λm=>br (CD (AI .i64 m (Ok x.2 a.1)) 20000) (λ_=>some (((([],([],([],([],0)))),((false,([],false)),([],0))),(0,3)))) λ_=>bd (loop (λ(d:(Int×((List (List AD))×((List Int)×((List AN)×((List Int)×(Int×(Bool×((List UInt8)×(Bool×((List AD)×Int)))))))))))=>br (Ak d.1 (Ok x.2 a.1)) (λ_=>bd (EW ((d.2.1,(d.2.2.1,(d.2.2.2.1,(d.2.2.2.2.1,d.2.2.2.2.2.1)))))) λb=>some (.nx ((AI .i64 d.1 1,(b.2.2.1.1,(b.2.2.1.2.1,(b.2.2.1.2.2.1,(b.2.2.1.2.2.2.1,(b.2.2.1.2.2.2.2,d.2.2.2.2.2.2))))))))) λ_=>some (.dn ((0,(d,()))))) ((0,(x.1.1.1,(x.1.1.2.1,(x.1.1.2.2.1,(x.1.1.2.2.2.1,(x.1.1.2.2.2.2,(x.1.2.1.1,(x.1.2.1.2.1,(x.1.2.1.2.2,x.1.2.2))))))))))) λc=>bd (FG x.1.1.1) λi=>AT (AI .i64 x.1.2.2.2 (Ok x.2 a.1)) λe=>gd (BP e (AA i.1)) λ_=>gd (BP 0 e) λ_=>bd (DO (EI i.1 0 e,x.1.2.1.2.2)) λh=>some ((((c.2.1.2.1,(c.2.1.2.2.1,(c.2.1.2.2.2.1,(c.2.1.2.2.2.2.1,c.2.1.2.2.2.2.2.1)))),(h.2,(h.1,AI .i64 x.1.2.2.2 (Ok x.2 a.1)))),(Ok x.2 a.1,0)))
def Gw (x:(AM×AM)):Option Bool :=
 br (Ay (Ab (AA x.1.1)) (Ab (AA x.2.1))) (λ_=>some false) λ_=>bd (Gt (x.1.2.1,x.2.2.1)) λd=>br (Ad d) (λ_=>some false) λ_=>bd (Fc (x.1.2.2,x.2.2.2)) λf=>br (Ad f) (λ_=>some false) λ_=>bd (loop (λs2=>br (Ak s2.1 (Ab (AA x.1.1))) (λ_=>AT s2.1 λg=>ix x.1.1 g λb=>AT s2.1 λc=>ix x.2.1 c λe=>bd (B6 (b,e)) λh=>br (Ad h) (λ_=>some (.dn ((0,((s2.1,false),()))))) λ_=>some (.nx (AI .i64 s2.1 1,s2.2))) λ_=>some (.dn ((1,(s2,()))))) (0,false)) λa=>br (neq a.1 0) (λ_=>some a.2.1.2) λ_=>some true
def Ba (x:((AM×((Bool×AN)×((List AD)×Int)))×(AM×((Bool×AN)×((List AD)×Int))))):Option Bool :=
 bd (Gw (x.1.1,x.2.1)) λb=>br b (λ_=>br (Az (beq x.1.2.1.1 x.2.2.1.1) (Az (seq x.1.2.1.2.1 x.2.2.1.2.1) (Az (beq x.1.2.1.2.2 x.2.2.1.2.2) true))) (λ_=>bd (B6 (x.1.2.2.1,x.2.2.2.1)) λa=>br a (λ_=>some (A8 x.1.2.2.2 x.2.2.2.2)) λ_=>some false) λ_=>some false) λ_=>some false
def DJ (x:(AJ×((List (Int×(AM×((Bool×AN)×((List AD)×Int)))))×Int))):Option (Int×Int) :=
 bd (Ci x.1) λi=>br (A8 i.2.2 0) (λ_=>br (Ak x.2.2 1) (λ_=>some (((-1),7))) λ_=>br (CD x.2.2 1000001) (λ_=>some (((-1),7))) λ_=>br (A8 i.2.2 0) (λ_=>bd (Cd x.1) λr1=>br (j9 x.2.2 r1) (λ_=>some (((-1),6))) λ_=>br (Ay i.2.2 0) (λ_=>some (((-1),i.2.2))) λ_=>bd (Bq x.1) λr2=>bd (loop (λg=>br (Ak g.2.2 (Ab (AA x.2.1))) (λ_=>AT g.2.2 λk4=>ix x.2.1 k4 λh=>br (HY g.2.2 (Ab (AA r2))) (λ_=>some (.dn ((0,((6,(g.2.2,g.2.2)),()))))) λ_=>AT g.2.2 λk6=>ix r2 k6 λx7=>br (Ay h.1 x7) (λ_=>some (.dn ((0,((6,(g.2.2,g.2.2)),()))))) λ_=>br h.2.2.1.2.2 (λ_=>bd (BT (x.1,h.1)) λr8=>br (Ad r8) (λ_=>some (.dn ((0,((6,(g.2.2,g.2.2)),()))))) λ_=>bd (Aw ((x.1,(h.1,h.2.2.1.2.2)))) λr9=>bd (BN r9.2) λW=>br (Ak h.2.2.2.2 0) (λ_=>some (.dn ((0,((6,(g.2.2,g.2.2)),()))))) λ_=>br (CD h.2.2.2.2 W.1) (λ_=>some (.dn ((0,((6,(g.2.2,g.2.2)),()))))) λ_=>bd (BE (r9.2,h.2.2.2.2)) λr11=>bd (Ba (r11.1,h.2)) λZ=>br (Ad Z) (λ_=>some (.dn ((0,((6,(g.2.2,g.2.2)),()))))) λ_=>some (.nx ((g.1,(g.2.1,AI .i64 g.2.2 1))))) λ_=>bd (Aw ((x.1,(h.1,h.2.2.1.2.2)))) λt=>bd (BN t.2) λI=>br (Ak h.2.2.2.2 0) (λ_=>some (.dn ((0,((6,(g.2.2,g.2.2)),()))))) λ_=>br (CD h.2.2.2.2 I.1) (λ_=>some (.dn ((0,((6,(g.2.2,g.2.2)),()))))) λ_=>bd (BE (t.2,h.2.2.2.2)) λr15=>bd (Ba (r15.1,h.2)) λC=>br (Ad C) (λ_=>some (.dn ((0,((6,(g.2.2,g.2.2)),()))))) λ_=>some (.nx ((g.1,(g.2.1,AI .i64 g.2.2 1))))) λ_=>some (.dn ((1,(g,()))))) ((0,(0,0)))) λp=>br (neq p.1 0) (λ_=>some (p.2.1.2.1,p.2.1.1)) λ_=>br (Ak (Ab (AA x.2.1)) (Ab (AA r2))) (λ_=>some (((-1),4))) λ_=>some (0,0)) λ_=>br (Ay i.2.2 0) (λ_=>some (((-1),i.2.2))) λ_=>bd (Bq x.1) λl=>bd (loop (λb=>br (Ak b.2.2 (Ab (AA x.2.1))) (λ_=>AT b.2.2 λO=>ix x.2.1 O λe=>br (HY b.2.2 (Ab (AA l))) (λ_=>some (.dn ((0,((6,(b.2.2,b.2.2)),()))))) λ_=>AT b.2.2 λX=>ix l X λM=>br (Ay e.1 M) (λ_=>some (.dn ((0,((6,(b.2.2,b.2.2)),()))))) λ_=>br e.2.2.1.2.2 (λ_=>bd (BT (x.1,e.1)) λN=>br (Ad N) (λ_=>some (.dn ((0,((6,(b.2.2,b.2.2)),()))))) λ_=>bd (Aw ((x.1,(e.1,e.2.2.1.2.2)))) λw=>bd (BN w.2) λr26=>br (Ak e.2.2.2.2 0) (λ_=>some (.dn ((0,((6,(b.2.2,b.2.2)),()))))) λ_=>br (CD e.2.2.2.2 r26.1) (λ_=>some (.dn ((0,((6,(b.2.2,b.2.2)),()))))) λ_=>bd (BE (w.2,e.2.2.2.2)) λz=>bd (Ba (z.1,e.2)) λL=>br (Ad L) (λ_=>some (.dn ((0,((6,(b.2.2,b.2.2)),()))))) λ_=>some (.nx ((b.1,(b.2.1,AI .i64 b.2.2 1))))) λ_=>bd (Aw ((x.1,(e.1,e.2.2.1.2.2)))) λs=>bd (BN s.2) λr30=>br (Ak e.2.2.2.2 0) (λ_=>some (.dn ((0,((6,(b.2.2,b.2.2)),()))))) λ_=>br (CD e.2.2.2.2 r30.1) (λ_=>some (.dn ((0,((6,(b.2.2,b.2.2)),()))))) λ_=>bd (BE (s.2,e.2.2.2.2)) λr31=>bd (Ba (r31.1,e.2)) λr32=>br (Ad r32) (λ_=>some (.dn ((0,((6,(b.2.2,b.2.2)),()))))) λ_=>some (.nx ((b.1,(b.2.1,AI .i64 b.2.2 1))))) λ_=>some (.dn ((1,(b,()))))) ((0,(0,0)))) λj=>br (neq j.1 0) (λ_=>some (j.2.1.2.1,j.2.1.1)) λ_=>br (Ak (Ab (AA x.2.1)) (Ab (AA l))) (λ_=>some (((-1),4))) λ_=>some (0,0)) λ_=>br (A8 i.2.2 0) (λ_=>bd (Cd x.1) λP=>br (j9 x.2.2 P) (λ_=>some (((-1),6))) λ_=>br (Ay i.2.2 0) (λ_=>some (((-1),i.2.2))) λ_=>bd (Bq x.1) λk=>bd (loop (λa=>br (Ak a.2.2 (Ab (AA x.2.1))) (λ_=>AT a.2.2 λk37=>ix x.2.1 k37 λf=>br (HY a.2.2 (Ab (AA k))) (λ_=>some (.dn ((0,((6,(a.2.2,a.2.2)),()))))) λ_=>AT a.2.2 λk39=>ix k k39 λA=>br (Ay f.1 A) (λ_=>some (.dn ((0,((6,(a.2.2,a.2.2)),()))))) λ_=>br f.2.2.1.2.2 (λ_=>bd (BT (x.1,f.1)) λJ=>br (Ad J) (λ_=>some (.dn ((0,((6,(a.2.2,a.2.2)),()))))) λ_=>bd (Aw ((x.1,(f.1,f.2.2.1.2.2)))) λu=>bd (BN u.2) λG=>br (Ak f.2.2.2.2 0) (λ_=>some (.dn ((0,((6,(a.2.2,a.2.2)),()))))) λ_=>br (CD f.2.2.2.2 G.1) (λ_=>some (.dn ((0,((6,(a.2.2,a.2.2)),()))))) λ_=>bd (BE (u.2,f.2.2.2.2)) λr44=>bd (Ba (r44.1,f.2)) λr45=>br (Ad r45) (λ_=>some (.dn ((0,((6,(a.2.2,a.2.2)),()))))) λ_=>some (.nx ((a.1,(a.2.1,AI .i64 a.2.2 1))))) λ_=>bd (Aw ((x.1,(f.1,f.2.2.1.2.2)))) λy=>bd (BN y.2) λr47=>br (Ak f.2.2.2.2 0) (λ_=>some (.dn ((0,((6,(a.2.2,a.2.2)),()))))) λ_=>br (CD f.2.2.2.2 r47.1) (λ_=>some (.dn ((0,((6,(a.2.2,a.2.2)),()))))) λ_=>bd (BE (y.2,f.2.2.2.2)) λY=>bd (Ba (Y.1,f.2)) λF=>br (Ad F) (λ_=>some (.dn ((0,((6,(a.2.2,a.2.2)),()))))) λ_=>some (.nx ((a.1,(a.2.1,AI .i64 a.2.2 1))))) λ_=>some (.dn ((1,(a,()))))) ((0,(0,0)))) λo=>br (neq o.1 0) (λ_=>some (o.2.1.2.1,o.2.1.1)) λ_=>br (Ak (Ab (AA x.2.1)) (Ab (AA k))) (λ_=>some (((-1),4))) λ_=>some (0,0)) λ_=>br (Ay i.2.2 0) (λ_=>some (((-1),i.2.2))) λ_=>bd (Bq x.1) λm=>bd (loop (λc=>br (Ak c.2.2 (Ab (AA x.2.1))) (λ_=>AT c.2.2 λS=>ix x.2.1 S λd=>br (HY c.2.2 (Ab (AA m))) (λ_=>some (.dn ((0,((6,(c.2.2,c.2.2)),()))))) λ_=>AT c.2.2 λk55=>ix m k55 λU=>br (Ay d.1 U) (λ_=>some (.dn ((0,((6,(c.2.2,c.2.2)),()))))) λ_=>br d.2.2.1.2.2 (λ_=>bd (BT (x.1,d.1)) λK=>br (Ad K) (λ_=>some (.dn ((0,((6,(c.2.2,c.2.2)),()))))) λ_=>bd (Aw ((x.1,(d.1,d.2.2.1.2.2)))) λq=>bd (BN q.2) λD=>br (Ak d.2.2.2.2 0) (λ_=>some (.dn ((0,((6,(c.2.2,c.2.2)),()))))) λ_=>br (CD d.2.2.2.2 D.1) (λ_=>some (.dn ((0,((6,(c.2.2,c.2.2)),()))))) λ_=>bd (BE (q.2,d.2.2.2.2)) λr60=>bd (Ba (r60.1,d.2)) λr61=>br (Ad r61) (λ_=>some (.dn ((0,((6,(c.2.2,c.2.2)),()))))) λ_=>some (.nx ((c.1,(c.2.1,AI .i64 c.2.2 1))))) λ_=>bd (Aw ((x.1,(d.1,d.2.2.1.2.2)))) λr=>bd (BN r.2) λr63=>br (Ak d.2.2.2.2 0) (λ_=>some (.dn ((0,((6,(c.2.2,c.2.2)),()))))) λ_=>br (CD d.2.2.2.2 r63.1) (λ_=>some (.dn ((0,((6,(c.2.2,c.2.2)),()))))) λ_=>bd (BE (r.2,d.2.2.2.2)) λE=>bd (Ba (E.1,d.2)) λB=>br (Ad B) (λ_=>some (.dn ((0,((6,(c.2.2,c.2.2)),()))))) λ_=>some (.nx ((c.1,(c.2.1,AI .i64 c.2.2 1))))) λ_=>some (.dn ((1,(c,()))))) ((0,(0,0)))) λn=>br (neq n.1 0) (λ_=>some (n.2.1.2.1,n.2.1.1)) λ_=>br (Ak (Ab (AA x.2.1)) (Ab (AA m))) (λ_=>some (((-1),4))) λ_=>some (0,0)
def De (x:(AJ×((List (Int×(AM×((Bool×AN)×((List AD)×Int)))))×Int))):Option ((List Int)×Int) :=
 bd (DJ x) λa=>br (Ay a.2 0) (λ_=>some ([],a.2)) λ_=>bd (Bq x.1) λb=>some (b,0)
def B3 (x:((AJ×((List (Int×(AM×((Bool×AN)×((List AD)×Int)))))×Int))×Int)):Option (Int×Int) :=
 bd (De x.1) λa=>br (Ay a.2 0) (λ_=>some (0,a.2)) λ_=>bd (loop (λs1=>br (Ak s1.2.2 (Ab (AA a.1))) (λ_=>AT s1.2.2 λd=>ix a.1 d λc=>br (A8 c x.2) (λ_=>some (.dn ((0,((0,(s1.2.2,s1.2.2)),()))))) λ_=>some (.nx ((s1.1,(s1.2.1,AI .i64 s1.2.2 1))))) λ_=>some (.dn ((1,(s1,()))))) ((0,(0,0)))) λb=>br (neq b.1 0) (λ_=>some (b.2.1.2.1,b.2.1.1)) λ_=>some (0,4)
def Cj (x:((AJ×((List (Int×(AM×((Bool×AN)×((List AD)×Int)))))×Int))×Int)):Option (Int×Int) :=
 bd (B3 x) λa=>br (Ay a.2 0) (λ_=>some (0,a.2)) λ_=>AT a.1 λc=>ix x.1.2.1 c λb=>bd (BN b.2) λd=>some d
end Go.Proofs.YtfilfloanndddaaGreat.Pl
namespace Go.Proofs.YtfilfloanndddaaGreat.Pl
open Go Go.Proofs.YtfilfloanndddaaGreat.Sv
set_option linter.unusedVariables false
def MN (x:AJ):Option ((AJ×((List (Int×(AM×((Bool×AN)×((List AD)×Int)))))×Int))×Int) :=
 bd (Ci x) λd=>br (Ay d.2.2 0) (λ_=>some ((((0,[]),([],0)),d.2.2))) λ_=>bd (Cd x) λj=>bd (Bq x) λc=>bd (loop (λ(a:(Int×(Int×((List (List BI))×((List (Int×(AM×((Bool×AN)×((List AD)×Int)))))×Int)))))=>br (Ak a.1 (Ab (AA c))) (λ_=>AT a.1 λh=>ix c h λg=>AT a.1 λi=>ix c i λk=>bd (BT (x,k)) λf=>bd (Aw ((x,(g,f)))) λe=>gd (BP (Ag (AA a.2.2.2.1) (AA [e])) 1048576) λ_=>some (.nx ((AI .i64 a.1 1,(a.2.1,(a.2.2.1,(Bu a.2.2.2.1 [e],a.2.2.2.2))))))) λ_=>some (.dn ((0,(a,()))))) ((0,(x.1,(x.2,([],AI .i64 j 1)))))) λb=>some ((((b.2.1.2.1,b.2.1.2.2.1),b.2.1.2.2.2),0))
def EL (x:((AJ×((List (Int×(AM×((Bool×AN)×((List AD)×Int)))))×Int))×Int)):Option (Int×Int) :=
 bd (CT x.1) λb=>br (Ay b.2 0) (λ_=>some (0,b.2)) λ_=>bd (loop (λs1=>br (Ak s1.2 (Ab (AA x.1.2.1))) (λ_=>AT s1.2 λd=>ix x.1.2.1 d λc=>br (A8 c.1 x.2) (λ_=>some (.dn ((0,((s1.2,s1.2),()))))) λ_=>some (.nx (s1.1,AI .i64 s1.2 1))) λ_=>some (.dn ((1,(s1,()))))) (0,0)) λa=>br (neq a.1 0) (λ_=>br (Ak a.2.1.1 0) (λ_=>some (0,4)) λ_=>some (a.2.1.1,0)) λ_=>br (Ak (-1) 0) (λ_=>some (0,4)) λ_=>some (((-1),0))
def Ck (x:((AJ×((List (Int×(AM×((Bool×AN)×((List AD)×Int)))))×Int))×Int)):Option (((AJ×((List (Int×(AM×((Bool×AN)×((List AD)×Int)))))×Int))×((Int×(AM×((Bool×AN)×((List AD)×Int))))×Int))×Int) :=
 bd (EL x) λa=>br (Ay a.2 0) (λ_=>some (((((0,[]),([],0)),((0,(([],([],([],([],0)))),((false,([],false)),([],0)))),0)),a.2))) λ_=>AT a.1 λd=>ix x.1.2.1 d λb=>bd (Bp b.2) λc=>some (((x.1,(b,c.1)),c.2))
def BB (x:((AJ×((List (Int×(AM×((Bool×AN)×((List AD)×Int)))))×Int))×((Int×(AM×((Bool×AN)×((List AD)×Int))))×Int))):Option Bool :=
 some (CD x.2.2 0)
def Fx (x:(Int×Int)):Option (Int×Int) :=
 br (Ak x.1 1) (λ_=>some (0,7)) λ_=>br (CD x.1 16) (λ_=>some (0,7)) λ_=>br (Ak x.2 0) (λ_=>some (0,7)) λ_=>br (HY x.2 12) (λ_=>some (0,7)) λ_=>gd (HY x.2 0) λ_=>some (UO .i64 x.1 x.2,0)
def BU (x:((AJ×((List (Int×(AM×((Bool×AN)×((List AD)×Int)))))×Int))×((Int×(AM×((Bool×AN)×((List AD)×Int))))×Int))):Option Bool :=
 bd (Fx (x.1.1.1,x.2.1.1)) λa=>br (A8 a.2 0) (λ_=>some (j9 (Ab (AA x.2.1.2.2.2.1)) a.1)) λ_=>some false
def FI (x:(AJ×Int)):Option Int :=
 bd (DM x.1) λa=>br (Ay a.2.2 0) (λ_=>some a.2.2) λ_=>br (Ak x.2 0) (λ_=>some 7) λ_=>br (HY x.2 12) (λ_=>some 7) λ_=>some 0
def Fy (x:(AJ×Int)):Option (Bool×Int) :=
 bd (FI x) λa=>br (Ay a 0) (λ_=>some (false,a)) λ_=>br (Ak x.2 (Ab (AA x.1.2))) (λ_=>AT x.2 λc=>ix x.1.2 c λb=>some ((Ak (Ab (AA b)) 2,0))) λ_=>some (true,0)
def Ct (x:((AJ×((List (Int×(AM×((Bool×AN)×((List AD)×Int)))))×Int))×((Int×(AM×((Bool×AN)×((List AD)×Int))))×Int))):Option Bool :=
 bd (Fy (x.1.1,AI .i64 x.2.1.1 1)) λa=>br (A8 a.2 0) (λ_=>some a.1) λ_=>some false
def Bi (x:((AJ×((List (Int×(AM×((Bool×AN)×((List AD)×Int)))))×Int))×((Int×(AM×((Bool×AN)×((List AD)×Int))))×Int))):Option Bool :=
 bd (loop (λs0=>br (Ak s0.1 3) (λ_=>AT s0.1 λa=>br (neq a 0) (λ_=>bd (BB x) λc=>br c (λ_=>some (.dn ((0,((s0.1,true),()))))) λ_=>some (.nx (AI .i64 s0.1 1,s0.2))) λ_=>br (neq a 1) (λ_=>bd (BU x) λe=>br e (λ_=>some (.dn ((0,((s0.1,true),()))))) λ_=>some (.nx (AI .i64 s0.1 1,s0.2))) λ_=>gd (neq a 2) λ_=>bd (Ct x) λd=>br d (λ_=>some (.dn ((0,((s0.1,true),()))))) λ_=>some (.nx (AI .i64 s0.1 1,s0.2))) λ_=>some (.dn ((1,(s0,()))))) (0,false)) λb=>br (neq b.1 0) (λ_=>some b.2.1.2) λ_=>some false
def Be (x:(List (Int×(AM×((Bool×AN)×((List AD)×Int)))))):Option (List (Int×(AM×((Bool×AN)×((List AD)×Int))))) :=
 gd (BP (AA x) 1048576) λ_=>some x
def Hm (x:((AJ×((List (Int×(AM×((Bool×AN)×((List AD)×Int)))))×Int))×(Int×Int))):Option ((AJ×((List (Int×(AM×((Bool×AN)×((List AD)×Int)))))×Int))×(Int×Int)) :=
 bd (CT x.1) λf=>br (Ay f.2 0) (λ_=>some ((((0,[]),([],0)),(0,f.2)))) λ_=>br (Ak x.2.2 0) (λ_=>some ((((0,[]),([],0)),(0,7)))) λ_=>bd (EL (x.1,x.2.1)) λa=>br (Ay a.2 0) (λ_=>some ((((0,[]),([],0)),(0,a.2)))) λ_=>AT a.1 λi=>ix x.1.2.1 i λk=>bd (Bp k.2) λh=>br (A8 h.1 0) (λ_=>some ((((0,[]),([],0)),(0,9)))) λ_=>AT a.1 λg=>ix x.1.2.1 g λj=>bd (CC (j.2,x.2.2)) λb=>br (Ay b.2.2 0) (λ_=>some ((((0,[]),([],0)),(0,b.2.2)))) λ_=>bd (Be x.1.2.1) λd=>AT a.1 λc=>gd (C7 c (AA d)) λ_=>ix d c λe=>some (((x.1.1,(lset d c (e.1,b.1),x.1.2.2)),(b.2.1,0)))
def Dy (x:(AJ×(Int×(List BI)))):Option AJ :=
 AT (LL (Ab (AA x.1.2)) (AI .i64 x.2.1 1)) λh=>AT (LL (Ab (AA x.1.2)) (AI .i64 x.2.1 1)) λa=>gd (BP a 1048576) λ_=>AT x.2.1 λb=>gd (C7 b (AA (Jl (D2 a ([]:List BI)) 0 x.1.2 (AA (D2 a ([]:List BI)))))) λ_=>ix (Jl (D2 a ([]:List BI)) 0 x.1.2 (AA (D2 a ([]:List BI)))) b λi=>bd (loop (λc=>br (CD c 0) (λ_=>AT (CA .i64 c 1) λe=>gd (C7 e (AA (lset (Jl (D2 a ([]:List BI)) 0 x.1.2 (AA (D2 a ([]:List BI)))) b x.2.2))) λ_=>ix (lset (Jl (D2 a ([]:List BI)) 0 x.1.2 (AA (D2 a ([]:List BI)))) b x.2.2) e λf=>br (A8 (Ab (AA f)) 0) (λ_=>some (.nx (CA .i64 c 1))) λ_=>some (.dn ((0,(c,()))))) λ_=>some (.dn ((0,(c,()))))) (Ab (AA (lset (Jl (D2 a ([]:List BI)) 0 x.1.2 (AA (D2 a ([]:List BI)))) b x.2.2)))) λg=>AT g.2.1 λd=>gd (BP d (AA (lset (Jl (D2 a ([]:List BI)) 0 x.1.2 (AA (D2 a ([]:List BI)))) b x.2.2))) λ_=>gd (BP 0 d) λ_=>br (C7 0 (AA (lset (Jl (D2 a ([]:List BI)) 0 x.1.2 (AA (D2 a ([]:List BI)))) b x.2.2))) (λ_=>gd (BP (Ag 0 (SV d 0)) (AA (lset (Jl (D2 a ([]:List BI)) 0 x.1.2 (AA (D2 a ([]:List BI)))) b x.2.2))) λ_=>some ((x.1.1,EI (lset (Jl (D2 a ([]:List BI)) 0 x.1.2 (AA (D2 a ([]:List BI)))) b x.2.2) 0 (Ag 0 (SV d 0))))) λ_=>some (x.1.1,[])
def DQ (x:(AJ×Int)):Option (AJ×((List BI)×Int)) :=
 bd (FI x) λb=>br (Ay b 0) (λ_=>some (((0,[]),([],b)))) λ_=>br (Ak x.2 (Ab (AA x.1.2))) (λ_=>AT x.2 λc=>ix x.1.2 c λa=>br (A8 (Ab (AA a)) 0) (λ_=>some (((0,[]),([],4)))) λ_=>bd (Dy ((x.1,(x.2,[])))) λd=>gd (BP (AA a) 1048576) λ_=>some ((d,(a,0)))) λ_=>some (((0,[]),([],4)))
def Bb (x:(AJ×(Int×BI))):Option (AJ×Int) :=
 bd (FI (x.1,x.2.1)) λj=>br (Ay j 0) (λ_=>some (((0,[]),j))) λ_=>gd (HY x.2.1 0) λ_=>bd (DE (x.2.2,UO .i64 x.1.1 x.2.1)) λl=>br (Ay l 0) (λ_=>some (((0,[]),l))) λ_=>bd (loop (λ(s2:(Int×(AJ×Int)))=>br (Ak s2.1 (Ab (AA x.1.2))) (λ_=>AT s2.1 λn=>ix x.1.2 n λi=>bd (loop (λ(c:(Int×(AJ×Int)))=>br (HY c.1 0) (λ_=>AT c.1 λm=>ix i m λo=>br (A8 o.1 x.2.2.1) (λ_=>some (.dn ((1,((c.1,((0,[]),8)),()))))) λ_=>some (.nx (CA .i64 c.1 1,c.2))) λ_=>some (.dn ((0,(c,()))))) ((CA .i64 (Ab (AA i)) 1,s2.2))) λd=>br (neq d.1 0) (λ_=>some (.nx (AI .i64 s2.1 1,d.2.1.2))) λ_=>some (.dn ((1,((s2.1,d.2.1.2),()))))) λ_=>some (.dn ((0,(s2,()))))) ((0,((0,[]),0)))) λk=>br (neq k.1 0) (λ_=>br (Ak x.2.1 (Ab (AA x.1.2))) (λ_=>AT x.2.1 λh=>ix x.1.2 h λa=>br (A8 (Ab (AA a)) 2) (λ_=>some (((0,[]),5))) λ_=>AT (Ab (AA a)) λb=>AT (Ab (AA a)) λe=>gd (BP b (AA a)) λ_=>gd (neq b e) λ_=>gd (BP 0 b) λ_=>gd (BP (Ag (AA (EI a 0 b)) (AA [x.2.2])) 1048576) λ_=>bd (Dy ((x.1,(x.2.1,Bu (EI a 0 b) [x.2.2])))) λf=>some (f,0)) λ_=>gd (BP (AA [x.2.2]) 1048576) λ_=>bd (Dy ((x.1,(x.2.1,[x.2.2])))) λg=>some (g,0)) λ_=>some k.2.1.2
def Gx (x:(AJ×Int)):Option ((Int×(AM×((Bool×AN)×((List AD)×Int))))×Int) :=
 bd (DM x.1) λa=>br (Ay a.2.2 0) (λ_=>some (((0,(([],([],([],([],0)))),((false,([],false)),([],0)))),a.2.2))) λ_=>br (Ak x.2 0) (λ_=>some (((0,(([],([],([],([],0)))),((false,([],false)),([],0)))),7))) λ_=>br (HY x.2 12) (λ_=>some (((0,(([],([],([],([],0)))),((false,([],false)),([],0)))),7))) λ_=>br (HY x.2 (Ab (AA x.1.2))) (λ_=>some (((0,(([],([],([],([],0)))),((false,([],false)),([],0)))),4))) λ_=>AT x.2 λe=>ix x.1.2 e λd=>br (Ak (Ab (AA d)) 2) (λ_=>some (((0,(([],([],([],([],0)))),((false,([],false)),([],0)))),4))) λ_=>bd (DG x) λc=>bd (Ch ((x.1,(x.2,c)))) λb=>some (b,0)
def BK (x:((AJ×((List (Int×(AM×((Bool×AN)×((List AD)×Int)))))×Int))×(AJ×(Int×Int)))):Option ((AJ×((List (Int×(AM×((Bool×AN)×((List AD)×Int)))))×Int))×Int) :=
 bd (loop (λ(s0:(Int×(List (Int×(Int×(AM×((Bool×AN)×((List AD)×Int))))))))=>br (Ak s0.1 (Ab (AA x.1.2.1))) (λ_=>AT s0.1 λp=>ix x.1.2.1 p λj=>some (.nx ((AI .i64 s0.1 1,IW ((λo=>(λm=>A8 o m))) s0.2 j.1 j)))) λ_=>some (.dn ((0,(s0,()))))) (0,[])) λi=>bd (loop (λ(c:(Int×(Int×((Int×((List (List BI))×((List (Int×(AM×((Bool×AN)×((List AD)×Int)))))×Int)))×(Int×((List (List BI))×((List (Int×(AM×((Bool×AN)×((List AD)×Int)))))×Int)))))))=>br (Ak c.2.1 (Ab (AA x.2.1.2))) (λ_=>AT c.2.1 λk=>ix x.2.1.2 k λn=>br (Ak (Ab (AA n)) 2) (λ_=>some (.nx ((c.1,(AI .i64 c.2.1 1,c.2.2))))) λ_=>br (Ad (nX (JF ((λl=>(λh=>A8 l h))) (KN ((λg=>(λf=>A8 g f))) i.2.1.2 x.2.2.2) c.2.1))) (λ_=>bd (Gx (x.2.1,c.2.1)) λe=>br (Ay e.2 0) (λ_=>some (.dn ((1,((e.2,(c.2.1,((0,([],([],0))),c.2.2.2))),()))))) λ_=>gd (BP (Ag (AA c.2.2.2.2.2.1) (AA [e.1])) 1048576) λ_=>some (.nx ((c.1,(AI .i64 c.2.1 1,(c.2.2.1,(c.2.2.2.1,(c.2.2.2.2.1,(Bu c.2.2.2.2.2.1 [e.1],c.2.2.2.2.2.2))))))))) λ_=>gd (BP (Ag (AA c.2.2.2.2.2.1) (AA ([Qy (JF (λa b=>A8 a b) (KN (λa b=>A8 a b) i.2.1.2 x.2.2.2) c.2.1) (0,(([],([],([],([],0)))),((false,([],false)),([],0))))]))) 1048576) λ_=>some (.nx ((c.1,(AI .i64 c.2.1 1,(c.2.2.1,(c.2.2.2.1,(c.2.2.2.2.1,(Bu c.2.2.2.2.2.1 ([Qy (JF (λa b=>A8 a b) (KN (λa b=>A8 a b) i.2.1.2 x.2.2.2) c.2.1) (0,(([],([],([],([],0)))),((false,([],false)),([],0))))]),c.2.2.2.2.2.2))))))))) λ_=>some (.dn ((0,(c,()))))) ((0,(0,((0,([],([],0))),(x.2.1.1,(x.2.1.2,([],x.2.2.1)))))))) λd=>br (neq d.1 0) (λ_=>some ((((d.2.1.2.2.2.1,d.2.1.2.2.2.2.1),d.2.1.2.2.2.2.2),0))) λ_=>some ((((d.2.1.2.2.1.1,d.2.1.2.2.1.2.1),d.2.1.2.2.1.2.2),d.2.1.1))
def Dl (x:((AJ×((List (Int×(AM×((Bool×AN)×((List AD)×Int)))))×Int))×Int)):Option ((AJ×((List (Int×(AM×((Bool×AN)×((List AD)×Int)))))×Int))×Int) :=
 bd (Ck x) λb=>br (Ay b.2 0) (λ_=>some ((((0,[]),([],0)),b.2))) λ_=>bd (BB b.1) λo=>br o (λ_=>some ((((0,[]),([],0)),9))) λ_=>bd (Bi b.1) λr=>br (Ad r) (λ_=>some ((((0,[]),([],0)),9))) λ_=>br (CD x.1.2.2 1000000) (λ_=>br (CD (Ab (AA b.1.2.1.2.2.2.1)) 0) (λ_=>some ((((0,[]),([],0)),5))) λ_=>bd (DQ (x.1.1,x.2)) λc=>br (A8 c.2.2 0) (λ_=>br (CD (Ab (AA b.1.2.1.2.2.2.1)) 0) (λ_=>bd (BU b.1) λs=>br (Ad s) (λ_=>bd (Bb ((c.1,(AI .i64 x.2 1,(x.1.2.2,b.1.2.1.2.2.2.1))))) λj=>br (Ay j.2 0) (λ_=>some ((((0,[]),([],0)),j.2))) λ_=>bd (BK ((x.1,(j.1,(AI .i64 x.1.2.2 1,x.2))))) λp=>some p) λ_=>bd (Bb ((c.1,(x.2,(x.1.2.2,b.1.2.1.2.2.2.1))))) λl=>br (Ay l.2 0) (λ_=>some ((((0,[]),([],0)),l.2))) λ_=>bd (BK ((x.1,(l.1,(AI .i64 x.1.2.2 1,x.2))))) λn=>some n) λ_=>br (Ay c.2.2 0) (λ_=>some ((((0,[]),([],0)),c.2.2))) λ_=>bd (BK ((x.1,(c.1,(x.1.2.2,x.2))))) λq=>some q) λ_=>br (Ay c.2.2 0) (λ_=>some ((((0,[]),([],0)),c.2.2))) λ_=>bd (BK ((x.1,(c.1,(x.1.2.2,x.2))))) λi=>some i) λ_=>bd (DQ (x.1.1,x.2)) λa=>br (A8 a.2.2 0) (λ_=>br (CD (Ab (AA b.1.2.1.2.2.2.1)) 0) (λ_=>bd (BU b.1) λk=>br (Ad k) (λ_=>bd (Bb ((a.1,(AI .i64 x.2 1,(x.1.2.2,b.1.2.1.2.2.2.1))))) λd=>br (Ay d.2 0) (λ_=>some ((((0,[]),([],0)),d.2))) λ_=>bd (BK ((x.1,(d.1,(AI .i64 x.1.2.2 1,x.2))))) λh=>some h) λ_=>bd (Bb ((a.1,(x.2,(x.1.2.2,b.1.2.1.2.2.2.1))))) λe=>br (Ay e.2 0) (λ_=>some ((((0,[]),([],0)),e.2))) λ_=>bd (BK ((x.1,(e.1,(AI .i64 x.1.2.2 1,x.2))))) λg=>some g) λ_=>br (Ay a.2.2 0) (λ_=>some ((((0,[]),([],0)),a.2.2))) λ_=>bd (BK ((x.1,(a.1,(x.1.2.2,x.2))))) λm=>some m) λ_=>br (Ay a.2.2 0) (λ_=>some ((((0,[]),([],0)),a.2.2))) λ_=>bd (BK ((x.1,(a.1,(x.1.2.2,x.2))))) λf=>some f
def BV (x:((AJ×((List (Int×(AM×((Bool×AN)×((List AD)×Int)))))×Int))×Int)):Option ((AJ×((List (Int×(AM×((Bool×AN)×((List AD)×Int)))))×Int))×(Bool×Int)) :=
 bd (Ck x) λa=>br (Ay a.2 0) (λ_=>some ((((0,[]),([],0)),(false,a.2)))) λ_=>bd (Bi a.1) λe=>br (Ad e) (λ_=>some ((((0,[]),([],0)),(false,9)))) λ_=>bd (BB a.1) λd=>br d (λ_=>bd (Hm ((x.1,(x.2,1)))) λc=>some ((c.1,(false,c.2.2)))) λ_=>bd (Dl x) λb=>some ((b.1,(A8 b.2 0,b.2)))
def JP (x:((AJ×((List (Int×(AM×((Bool×AN)×((List AD)×Int)))))×Int))×Int)):Option (Int×Int) :=
 bd (Ck x) λa=>br (Ay a.2 0) (λ_=>some (0,a.2)) λ_=>bd (BB a.1) λb=>br b (λ_=>some (0,9)) λ_=>bd (BU a.1) λc=>br c (λ_=>some (x.2,0)) λ_=>some (AI .i64 x.2 1,0)
def FJ (x:(AJ×((List (Int×(AM×((Bool×AN)×((List AD)×Int)))))×Int))):Option ((List Int)×Int) :=
 bd (CT x) λa=>br (Ay a.2 0) (λ_=>some ([],a.2)) λ_=>bd (loop (λs1=>br (Ak s1.1 (Ab (AA x.1.2))) (λ_=>AT s1.1 λc=>ix x.1.2 c λb=>br (A8 (Ab (AA b)) 2) (λ_=>gd (BP (Ag (AA s1.2) (AA [s1.1])) 1048576) λ_=>some (.nx (AI .i64 s1.1 1,Bu s1.2 [s1.1]))) λ_=>some (.nx (AI .i64 s1.1 1,s1.2))) λ_=>some (.dn ((0,(s1,()))))) (0,[])) λd=>some (d.2.1.2,0)
def BW (x:(AJ×((List (Int×(AM×((Bool×AN)×((List AD)×Int)))))×Int))):Option (Int×Int) :=
 bd (FJ x) λa=>br (Ay a.2 0) (λ_=>some (0,a.2)) λ_=>br (A8 (Ab (AA a.1)) 0) (λ_=>some (0,4)) λ_=>bd (loop (λs1=>br (Ak s1.2.2.1 (Ab (AA a.1))) (λ_=>AT s1.2.2.1 λf=>ix a.1 f λd=>bd (Ck (x,d)) λc=>br (Ay c.2 0) (λ_=>some (.dn ((0,((c.2,(s1.2.1,(s1.2.2.1,0))),()))))) λ_=>bd (Bi c.1) λe=>br e (λ_=>some (.dn ((1,((s1.1,(true,(s1.2.2.1,d))),()))))) λ_=>some (.nx ((s1.1,(s1.2.1,(AI .i64 s1.2.2.1 1,s1.2.2.2)))))) λ_=>some (.dn ((1,(s1,()))))) ((a.2,(false,(0,0))))) λb=>br (neq b.1 0) (λ_=>some (b.2.1.2.2.2,b.2.1.1)) λ_=>br (Ad b.2.1.2.1) (λ_=>some (0,9)) λ_=>some (b.2.1.2.2.2,0)
def Hb (x:((AJ×((List (Int×(AM×((Bool×AN)×((List AD)×Int)))))×Int))×Int)):Option (Bool×Int) :=
 bd (Ck x) λa=>br (Ay a.2 0) (λ_=>some (false,a.2)) λ_=>bd (Bi a.1) λb=>some (b,0)
def Gy (x:(Int×Int)):Option (Int×Int) :=
 br (Ak x.1 1) (λ_=>some (0,7)) λ_=>br (CD x.1 16) (λ_=>some (0,7)) λ_=>br (Ak x.2 0) (λ_=>some (0,7)) λ_=>br (HY x.2 12) (λ_=>some (0,7)) λ_=>bd (Dk x) λa=>some (a,0)
def Dz (x:((AJ×((List (Int×(AM×((Bool×AN)×((List AD)×Int)))))×Int))×(Int×(AM×((Bool×AN)×((List AD)×Int)))))):Option Bool :=
 bd (Gy (x.1.1.1,x.2.1)) λa=>some (j9 (Ab (AA x.2.2.2.2.1)) a.1)
def Gz (x:((AJ×((List (Int×(AM×((Bool×AN)×((List AD)×Int)))))×Int))×Int)):Option Bool :=
 br (Ak (AI .i64 x.2 1) 12) (λ_=>br (HY (AI .i64 x.2 1) (Ab (AA x.1.1.2))) (λ_=>some true) λ_=>AT (AI .i64 x.2 1) λa=>ix x.1.1.2 a λb=>some (Ak (Ab (AA b)) 2)) λ_=>some false
def EM (x:((AJ×((List (Int×(AM×((Bool×AN)×((List AD)×Int)))))×Int))×Int)):Option (Bool×Int) :=
 bd (Cj x) λa=>br (Ay a.2 0) (λ_=>some (false,a.2)) λ_=>bd (B3 x) λe=>br (CD a.1 0) (λ_=>some (true,0)) λ_=>AT e.1 λd=>ix x.1.2.1 d λf=>bd (Dz (x.1,f)) λb=>br b (λ_=>some (true,0)) λ_=>bd (Gz x) λc=>some (c,0)
def FK (x:((AJ×((List (Int×(AM×((Bool×AN)×((List AD)×Int)))))×Int))×Int)):Option (Int×Int) :=
 bd (Cj x) λa=>br (A8 a.2 0) (λ_=>br (CD a.1 0) (λ_=>some (0,9)) λ_=>br (Ay a.2 0) (λ_=>some (0,a.2)) λ_=>bd (B3 x) λg=>AT g.1 λe=>ix x.1.2.1 e λh=>bd (Dz (x.1,h)) λc=>br c (λ_=>some (x.2,0)) λ_=>some (AI .i64 x.2 1,0)) λ_=>br (Ay a.2 0) (λ_=>some (0,a.2)) λ_=>bd (B3 x) λd=>AT d.1 λf=>ix x.1.2.1 f λi=>bd (Dz (x.1,i)) λb=>br b (λ_=>some (x.2,0)) λ_=>some (AI .i64 x.2 1,0)
def Fe (x:(AJ×((List (Int×(AM×((Bool×AN)×((List AD)×Int)))))×Int))):Option (Int×Int) :=
 bd (De x) λa=>br (Ay a.2 0) (λ_=>some (0,a.2)) λ_=>br (A8 (Ab (AA a.1)) 0) (λ_=>some (0,4)) λ_=>bd (loop (λs1=>br (Ak s1.2.2 (Ab (AA a.1))) (λ_=>AT s1.2.2 λe=>ix a.1 e λg=>bd (EM (x,g)) λd=>br d.1 (λ_=>AT s1.2.2 λc=>ix a.1 c λf=>some (.dn ((0,((0,(f,s1.2.2)),()))))) λ_=>some (.nx ((s1.1,(s1.2.1,AI .i64 s1.2.2 1))))) λ_=>some (.dn ((1,(s1,()))))) ((0,(0,0)))) λb=>br (neq b.1 0) (λ_=>some (b.2.1.2.1,b.2.1.1)) λ_=>some (0,9)
end Go.Proofs.YtfilfloanndddaaGreat.Pl
namespace Go.Proofs.YtfilfloanndddaaGreat.Pl
open Go Go.Proofs.YtfilfloanndddaaGreat.Sv
set_option linter.unusedVariables false
def GP (x:(AJ×((List (Int×(AM×((Bool×AN)×((List AD)×Int)))))×Int))):Option Bool :=
 bd (loop (λs0=>br (Ak s0.2.2 (Ab (AA x.1.2))) (λ_=>br (Ak s0.2.2 20) (λ_=>bd (loop (λs1=>AT s0.2.2 λy=>ix x.1.2 y λw=>br (Ak s1.2.1 (Ab (AA w))) (λ_=>br (Ak s1.2.1 9) (λ_=>AT s0.2.2 λu=>ix x.1.2 u λt=>AT s1.2.1 λz=>ix t z λi=>bd (loop (λe=>br (Ak e.1 (Ab (AA i.2))) (λ_=>br (Ak e.1 50) (λ_=>AT e.1 λs=>ix i.2 s λl=>br (CD (Ab (Gc l.1)) 100) (λ_=>some (.dn ((0,((e.1,true),()))))) λ_=>AT e.1 λo=>ix i.2 o λq=>br (CD (Ab (Gc q.2.1)) 100) (λ_=>some (.dn ((0,((e.1,true),()))))) λ_=>some (.nx (AI .i64 e.1 1,e.2))) λ_=>some (.dn ((1,(e,()))))) λ_=>some (.dn ((1,(e,()))))) (0,s1.2.2)) λg=>br (neq g.1 0) (λ_=>some (.dn ((1,((AI .i64 s1.1 (Ab (AA i.2)),(s1.2.1,g.2.1.2)),()))))) λ_=>some (.nx ((AI .i64 s1.1 (Ab (AA i.2)),(AI .i64 s1.2.1 1,g.2.1.2))))) λ_=>some (.dn ((0,(s1,()))))) λ_=>some (.dn ((0,(s1,()))))) ((s0.1,(0,s0.2.1)))) λc=>br (neq c.1 0) (λ_=>AT s0.2.2 λn=>ix x.1.2 n λp=>br (CD (Ab (AA p)) 8) (λ_=>some (.dn ((1,((c.2.1.1,(true,s0.2.2)),()))))) λ_=>some (.nx ((c.2.1.1,(c.2.1.2.2,AI .i64 s0.2.2 1))))) λ_=>some (.dn ((1,((c.2.1.1,(c.2.1.2.2,s0.2.2)),()))))) λ_=>some (.dn ((0,(s0,()))))) λ_=>some (.dn ((0,(s0,()))))) ((0,(false,0)))) λf=>br (neq f.1 0) (λ_=>bd (loop (λa=>br (Ak a.2 (Ab (AA x.2.1))) (λ_=>br (Ak a.2 20) (λ_=>AT a.2 λr=>ix x.2.1 r λb=>br (CD (Ab (AA b.2.1.1)) 20) (λ_=>some (.dn ((0,((true,a.2),()))))) λ_=>br (CD (Ab (AA b.2.1.2.1)) 100) (λ_=>some (.dn ((0,((true,a.2),()))))) λ_=>br (CD (Ab (AA b.2.1.2.2.1)) 100) (λ_=>some (.dn ((0,((true,a.2),()))))) λ_=>br (CD (Ab (AA b.2.1.2.2.2.1)) 100) (λ_=>some (.dn ((0,((true,a.2),()))))) λ_=>bd (loop (λd=>br (Ak d.1 (Ab (AA b.2.1.1))) (λ_=>AT d.1 λm=>ix b.2.1.1 m λj=>some (.nx ((AI .i64 d.1 1,AI .i64 d.2 (Ab (AA j)))))) λ_=>some (.dn ((0,(d,()))))) ((0,Ab (AA b.2.2.2.1)))) λk=>br (CD k.2.1.2 200) (λ_=>some (.dn ((0,((true,a.2),()))))) λ_=>some (.nx (a.1,AI .i64 a.2 1))) λ_=>some (.dn ((1,(a,()))))) λ_=>some (.dn ((1,(a,()))))) (f.2.1.2.1,0)) λh=>br (neq h.1 0) (λ_=>some h.2.1.1) λ_=>br (CD f.2.1.1 40) (λ_=>some true) λ_=>br (CD (Ab (AA x.1.2)) 15) (λ_=>some true) λ_=>some (CD (Ab (AA x.2.1)) 15)) λ_=>some f.2.1.2.1
end Go.Proofs.YtfilfloanndddaaGreat.Pl
namespace Go.Proofs.YtfilfloanndddaaGreat.Pl
open Go Go.Proofs.YtfilfloanndddaaGreat.Sv
set_option linter.unusedVariables false
def Cl (x:(AJ×(Int×(List BI)))):Option AJ :=
 bd (loop (λ(s0:(Int×AJ))=>br (Ak s0.1 (Ab (AA x.1.2))) (λ_=>br (HY s0.1 (Ab (AA x.1.2))) (λ_=>br (A8 s0.1 x.2.1) (λ_=>gd (BP (AA x.2.2) 1048576) λ_=>gd (BP (Ag (AA s0.2.2) (AA [x.2.2])) 1048576) λ_=>some (.nx ((AI .i64 s0.1 1,(s0.2.1,Bu s0.2.2 [x.2.2]))))) λ_=>gd (BP (Ag (AA s0.2.2) (AA ([[]]:(List (List BI))))) 1048576) λ_=>some (.nx ((AI .i64 s0.1 1,(s0.2.1,Bu s0.2.2 [[]]))))) λ_=>AT s0.1 λj=>ix x.1.2 j λe=>br (A8 s0.1 x.2.1) (λ_=>gd (BP (AA x.2.2) 1048576) λ_=>gd (BP (Ag (AA s0.2.2) (AA [x.2.2])) 1048576) λ_=>some (.nx ((AI .i64 s0.1 1,(s0.2.1,Bu s0.2.2 [x.2.2]))))) λ_=>gd (BP (AA e) 1048576) λ_=>gd (BP (Ag (AA s0.2.2) (AA [e])) 1048576) λ_=>some (.nx ((AI .i64 s0.1 1,(s0.2.1,Bu s0.2.2 [e]))))) λ_=>br (j9 s0.1 x.2.1) (λ_=>br (HY s0.1 (Ab (AA x.1.2))) (λ_=>br (A8 s0.1 x.2.1) (λ_=>gd (BP (AA x.2.2) 1048576) λ_=>gd (BP (Ag (AA s0.2.2) (AA [x.2.2])) 1048576) λ_=>some (.nx ((AI .i64 s0.1 1,(s0.2.1,Bu s0.2.2 [x.2.2]))))) λ_=>gd (BP (Ag (AA s0.2.2) (AA ([[]]:(List (List BI))))) 1048576) λ_=>some (.nx ((AI .i64 s0.1 1,(s0.2.1,Bu s0.2.2 [[]]))))) λ_=>AT s0.1 λi=>ix x.1.2 i λc=>br (A8 s0.1 x.2.1) (λ_=>gd (BP (AA x.2.2) 1048576) λ_=>gd (BP (Ag (AA s0.2.2) (AA [x.2.2])) 1048576) λ_=>some (.nx ((AI .i64 s0.1 1,(s0.2.1,Bu s0.2.2 [x.2.2]))))) λ_=>gd (BP (AA c) 1048576) λ_=>gd (BP (Ag (AA s0.2.2) (AA [c])) 1048576) λ_=>some (.nx ((AI .i64 s0.1 1,(s0.2.1,Bu s0.2.2 [c]))))) λ_=>some (.dn ((0,(s0,()))))) ((0,(x.1.1,[])))) λg=>bd (loop (λ(a:AJ)=>br (CD (Ab (AA a.2)) 0) (λ_=>AT (CA .i64 (Ab (AA a.2)) 1) λf=>ix a.2 f λh=>br (A8 (Ab (AA h)) 0) (λ_=>AT (CA .i64 (Ab (AA a.2)) 1) λb=>gd (BP b (AA a.2)) λ_=>gd (BP 0 b) λ_=>some (.nx (a.1,EI a.2 0 b))) λ_=>some (.dn ((0,(a,()))))) λ_=>some (.dn ((0,(a,()))))) g.2.1.2) λd=>some d.2.1
def EX (x:(AJ×Int)):Option (List BI) :=
 br (HY x.2 (Ab (AA x.1.2))) (λ_=>some []) λ_=>AT x.2 λa=>ix x.1.2 a λb=>some b
def Bx (x:(AJ×Int)):Option ((Int×(AM×((Bool×AN)×((List AD)×Int))))×Int) :=
 bd (Ci x.1) λa=>br (A8 a.2.2 0) (λ_=>br (Ak x.2 0) (λ_=>some (((0,(([],([],([],([],0)))),((false,([],false)),([],0)))),7))) λ_=>br (HY x.2 12) (λ_=>some (((0,(([],([],([],([],0)))),((false,([],false)),([],0)))),7))) λ_=>br (A8 a.2.2 0) (λ_=>br (HY x.2 (Ab (AA x.1.2))) (λ_=>some (((0,(([],([],([],([],0)))),((false,([],false)),([],0)))),4))) λ_=>AT x.2 λk=>ix x.1.2 k λh=>br (Ak (Ab (AA h)) 2) (λ_=>some (((0,(([],([],([],([],0)))),((false,([],false)),([],0)))),4))) λ_=>br (Ay a.2.2 0) (λ_=>some (((0,(([],([],([],([],0)))),((false,([],false)),([],0)))),a.2.2))) λ_=>bd (BT x) λg=>bd (Aw ((x.1,(x.2,g)))) λf=>some (f,0)) λ_=>br (Ay a.2.2 0) (λ_=>some (((0,(([],([],([],([],0)))),((false,([],false)),([],0)))),a.2.2))) λ_=>bd (BT x) λi=>bd (Aw ((x.1,(x.2,i)))) λl=>some (l,0)) λ_=>br (A8 a.2.2 0) (λ_=>br (HY x.2 (Ab (AA x.1.2))) (λ_=>some (((0,(([],([],([],([],0)))),((false,([],false)),([],0)))),4))) λ_=>AT x.2 λe=>ix x.1.2 e λm=>br (Ak (Ab (AA m)) 2) (λ_=>some (((0,(([],([],([],([],0)))),((false,([],false)),([],0)))),4))) λ_=>br (Ay a.2.2 0) (λ_=>some (((0,(([],([],([],([],0)))),((false,([],false)),([],0)))),a.2.2))) λ_=>bd (BT x) λj=>bd (Aw ((x.1,(x.2,j)))) λb=>some (b,0)) λ_=>br (Ay a.2.2 0) (λ_=>some (((0,(([],([],([],([],0)))),((false,([],false)),([],0)))),a.2.2))) λ_=>bd (BT x) λc=>bd (Aw ((x.1,(x.2,c)))) λd=>some (d,0)
def Df (x:((AJ×((List (Int×(AM×((Bool×AN)×((List AD)×Int)))))×Int))×Int)):Option ((AJ×((List (Int×(AM×((Bool×AN)×((List AD)×Int)))))×Int))×Int) :=
 bd (FK x) λI=>br (Ay I.2 0) (λ_=>some ((((0,[]),([],0)),I.2))) λ_=>bd (B3 x) λr1=>AT r1.1 λk2=>ix x.1.2.1 k2 λE=>bd (EM x) λr4=>br (Ad r4.1) (λ_=>some ((((0,[]),([],0)),9))) λ_=>br (CD x.1.2.2 1000000) (λ_=>br (CD (Ab (AA E.2.2.2.1)) 0) (λ_=>some ((((0,[]),([],0)),5))) λ_=>bd (Cl ((x.1.1,(x.2,[])))) λJ=>br (CD (Ab (AA E.2.2.2.1)) 0) (λ_=>bd (EX (J,I.1)) λr6=>gd (BP (AA r6) 1048576) λ_=>gd (BP (Ag (AA r6) (AA ([(x.1.2.2,E.2.2.2.1)]))) 1048576) λ_=>bd (Cl ((J,(I.1,Bu r6 ([(x.1.2.2,E.2.2.2.1)]))))) λr7=>bd (Bq r7) λK=>bd (loop (λ(t:(Int×(Int×((List (List BI))×((List (Int×(AM×((Bool×AN)×((List AD)×Int)))))×Int)))))=>br (Ak t.1 (Ab (AA K))) (λ_=>AT t.1 λk10=>ix K k10 λx11=>bd (Bx (((t.2.1,t.2.2.1),x11))) λl=>bd (loop (λ(s:(Int×(Int×((List (List AD))×((List Int)×((List AN)×((List Int)×(Int×(Bool×((List UInt8)×(Bool×((List AD)×Int))))))))))))=>br (Ak s.1 (Ab (AA x.1.2.1))) (λ_=>AT s.1 λk14=>ix x.1.2.1 k14 λx15=>AT t.1 λk16=>ix K k16 λx17=>br (A8 x15.1 x17) (λ_=>AT t.1 λk18=>ix K k18 λx19=>br (Ay x19 x.2) (λ_=>AT s.1 λU=>ix x.1.2.1 U λm=>some (.nx ((AI .i64 s.1 1,(m.1,(m.2.1.1,(m.2.1.2.1,(m.2.1.2.2.1,(m.2.1.2.2.2.1,(m.2.1.2.2.2.2,(m.2.2.1.1,(m.2.2.1.2.1,(m.2.2.1.2.2,m.2.2.2))))))))))))) λ_=>some (.nx (AI .i64 s.1 1,s.2))) λ_=>some (.nx (AI .i64 s.1 1,s.2))) λ_=>some (.dn ((0,(s,()))))) ((0,(l.1.1,(l.1.2.1.1,(l.1.2.1.2.1,(l.1.2.1.2.2.1,(l.1.2.1.2.2.2.1,(l.1.2.1.2.2.2.2,(l.1.2.2.1.1,(l.1.2.2.1.2.1,(l.1.2.2.1.2.2,l.1.2.2.2)))))))))))) λc=>gd (BP (Ag (AA t.2.2.2.1) (AA ([(c.2.1.2.1,((c.2.1.2.2.1,(c.2.1.2.2.2.1,(c.2.1.2.2.2.2.1,(c.2.1.2.2.2.2.2.1,c.2.1.2.2.2.2.2.2.1)))),((c.2.1.2.2.2.2.2.2.2.1,(c.2.1.2.2.2.2.2.2.2.2.1,c.2.1.2.2.2.2.2.2.2.2.2.1)),c.2.1.2.2.2.2.2.2.2.2.2.2)))]))) 1048576) λ_=>some (.nx ((AI .i64 t.1 1,(t.2.1,(t.2.2.1,(Bu t.2.2.2.1 ([(c.2.1.2.1,((c.2.1.2.2.1,(c.2.1.2.2.2.1,(c.2.1.2.2.2.2.1,(c.2.1.2.2.2.2.2.1,c.2.1.2.2.2.2.2.2.1)))),((c.2.1.2.2.2.2.2.2.2.1,(c.2.1.2.2.2.2.2.2.2.2.1,c.2.1.2.2.2.2.2.2.2.2.2.1)),c.2.1.2.2.2.2.2.2.2.2.2.2)))]),t.2.2.2.2))))))) λ_=>some (.dn ((0,(t,()))))) ((0,(r7.1,(r7.2,([],AI .i64 x.1.2.2 1)))))) λA=>some ((((A.2.1.2.1,A.2.1.2.2.1),A.2.1.2.2.2),0))) λ_=>bd (Bq J) λz=>bd (loop (λ(f:(Int×(Int×((List (List BI))×((List (Int×(AM×((Bool×AN)×((List AD)×Int)))))×Int)))))=>br (Ak f.1 (Ab (AA z))) (λ_=>AT f.1 λM=>ix z M λx27=>bd (Bx (((f.2.1,f.2.2.1),x27))) λi=>bd (loop (λ(p:(Int×(Int×((List (List AD))×((List Int)×((List AN)×((List Int)×(Int×(Bool×((List UInt8)×(Bool×((List AD)×Int))))))))))))=>br (Ak p.1 (Ab (AA x.1.2.1))) (λ_=>AT p.1 λk30=>ix x.1.2.1 k30 λx31=>AT f.1 λk32=>ix z k32 λx33=>br (A8 x31.1 x33) (λ_=>AT f.1 λk34=>ix z k34 λZ=>br (Ay Z x.2) (λ_=>AT p.1 λk36=>ix x.1.2.1 k36 λh=>some (.nx ((AI .i64 p.1 1,(h.1,(h.2.1.1,(h.2.1.2.1,(h.2.1.2.2.1,(h.2.1.2.2.2.1,(h.2.1.2.2.2.2,(h.2.2.1.1,(h.2.2.1.2.1,(h.2.2.1.2.2,h.2.2.2))))))))))))) λ_=>some (.nx (AI .i64 p.1 1,p.2))) λ_=>some (.nx (AI .i64 p.1 1,p.2))) λ_=>some (.dn ((0,(p,()))))) ((0,(i.1.1,(i.1.2.1.1,(i.1.2.1.2.1,(i.1.2.1.2.2.1,(i.1.2.1.2.2.2.1,(i.1.2.1.2.2.2.2,(i.1.2.2.1.1,(i.1.2.2.1.2.1,(i.1.2.2.1.2.2,i.1.2.2.2)))))))))))) λd=>gd (BP (Ag (AA f.2.2.2.1) (AA ([(d.2.1.2.1,((d.2.1.2.2.1,(d.2.1.2.2.2.1,(d.2.1.2.2.2.2.1,(d.2.1.2.2.2.2.2.1,d.2.1.2.2.2.2.2.2.1)))),((d.2.1.2.2.2.2.2.2.2.1,(d.2.1.2.2.2.2.2.2.2.2.1,d.2.1.2.2.2.2.2.2.2.2.2.1)),d.2.1.2.2.2.2.2.2.2.2.2.2)))]))) 1048576) λ_=>some (.nx ((AI .i64 f.1 1,(f.2.1,(f.2.2.1,(Bu f.2.2.2.1 ([(d.2.1.2.1,((d.2.1.2.2.1,(d.2.1.2.2.2.1,(d.2.1.2.2.2.2.1,(d.2.1.2.2.2.2.2.1,d.2.1.2.2.2.2.2.2.1)))),((d.2.1.2.2.2.2.2.2.2.1,(d.2.1.2.2.2.2.2.2.2.2.1,d.2.1.2.2.2.2.2.2.2.2.2.1)),d.2.1.2.2.2.2.2.2.2.2.2.2)))]),f.2.2.2.2))))))) λ_=>some (.dn ((0,(f,()))))) ((0,(J.1,(J.2,([],x.1.2.2)))))) λC=>some ((((C.2.1.2.1,C.2.1.2.2.1),C.2.1.2.2.2),0))) λ_=>bd (Cl ((x.1.1,(x.2,[])))) λu=>br (CD (Ab (AA E.2.2.2.1)) 0) (λ_=>bd (EX (u,I.1)) λB=>gd (BP (AA B) 1048576) λ_=>gd (BP (Ag (AA B) (AA ([(x.1.2.2,E.2.2.2.1)]))) 1048576) λ_=>bd (Cl ((u,(I.1,Bu B ([(x.1.2.2,E.2.2.2.1)]))))) λF=>bd (Bq F) λy=>bd (loop (λ(e:(Int×(Int×((List (List BI))×((List (Int×(AM×((Bool×AN)×((List AD)×Int)))))×Int)))))=>br (Ak e.1 (Ab (AA y))) (λ_=>AT e.1 λW=>ix y W λX=>bd (Bx (((e.2.1,e.2.2.1),X))) λo=>bd (loop (λ(q:(Int×(Int×((List (List AD))×((List Int)×((List AN)×((List Int)×(Int×(Bool×((List UInt8)×(Bool×((List AD)×Int))))))))))))=>br (Ak q.1 (Ab (AA x.1.2.1))) (λ_=>AT q.1 λk49=>ix x.1.2.1 k49 λx50=>AT e.1 λL=>ix y L λx52=>br (A8 x50.1 x52) (λ_=>AT e.1 λY=>ix y Y λO=>br (Ay O x.2) (λ_=>AT q.1 λk55=>ix x.1.2.1 k55 λj=>some (.nx ((AI .i64 q.1 1,(j.1,(j.2.1.1,(j.2.1.2.1,(j.2.1.2.2.1,(j.2.1.2.2.2.1,(j.2.1.2.2.2.2,(j.2.2.1.1,(j.2.2.1.2.1,(j.2.2.1.2.2,j.2.2.2))))))))))))) λ_=>some (.nx (AI .i64 q.1 1,q.2))) λ_=>some (.nx (AI .i64 q.1 1,q.2))) λ_=>some (.dn ((0,(q,()))))) ((0,(o.1.1,(o.1.2.1.1,(o.1.2.1.2.1,(o.1.2.1.2.2.1,(o.1.2.1.2.2.2.1,(o.1.2.1.2.2.2.2,(o.1.2.2.1.1,(o.1.2.2.1.2.1,(o.1.2.2.1.2.2,o.1.2.2.2)))))))))))) λb=>gd (BP (Ag (AA e.2.2.2.1) (AA ([(b.2.1.2.1,((b.2.1.2.2.1,(b.2.1.2.2.2.1,(b.2.1.2.2.2.2.1,(b.2.1.2.2.2.2.2.1,b.2.1.2.2.2.2.2.2.1)))),((b.2.1.2.2.2.2.2.2.2.1,(b.2.1.2.2.2.2.2.2.2.2.1,b.2.1.2.2.2.2.2.2.2.2.2.1)),b.2.1.2.2.2.2.2.2.2.2.2.2)))]))) 1048576) λ_=>some (.nx ((AI .i64 e.1 1,(e.2.1,(e.2.2.1,(Bu e.2.2.2.1 ([(b.2.1.2.1,((b.2.1.2.2.1,(b.2.1.2.2.2.1,(b.2.1.2.2.2.2.1,(b.2.1.2.2.2.2.2.1,b.2.1.2.2.2.2.2.2.1)))),((b.2.1.2.2.2.2.2.2.2.1,(b.2.1.2.2.2.2.2.2.2.2.1,b.2.1.2.2.2.2.2.2.2.2.2.1)),b.2.1.2.2.2.2.2.2.2.2.2.2)))]),e.2.2.2.2))))))) λ_=>some (.dn ((0,(e,()))))) ((0,(F.1,(F.2,([],AI .i64 x.1.2.2 1)))))) λD=>some ((((D.2.1.2.1,D.2.1.2.2.1),D.2.1.2.2.2),0))) λ_=>bd (Bq u) λw=>bd (loop (λ(g:(Int×(Int×((List (List BI))×((List (Int×(AM×((Bool×AN)×((List AD)×Int)))))×Int)))))=>br (Ak g.1 (Ab (AA w))) (λ_=>AT g.1 λk61=>ix w k61 λN=>bd (Bx (((g.2.1,g.2.2.1),N))) λn=>bd (loop (λ(r:(Int×(Int×((List (List AD))×((List Int)×((List AN)×((List Int)×(Int×(Bool×((List UInt8)×(Bool×((List AD)×Int))))))))))))=>br (Ak r.1 (Ab (AA x.1.2.1))) (λ_=>AT r.1 λk65=>ix x.1.2.1 k65 λP=>AT g.1 λk67=>ix w k67 λx68=>br (A8 P.1 x68) (λ_=>AT g.1 λk69=>ix w k69 λx70=>br (Ay x70 x.2) (λ_=>AT r.1 λS=>ix x.1.2.1 S λk=>some (.nx ((AI .i64 r.1 1,(k.1,(k.2.1.1,(k.2.1.2.1,(k.2.1.2.2.1,(k.2.1.2.2.2.1,(k.2.1.2.2.2.2,(k.2.2.1.1,(k.2.2.1.2.1,(k.2.2.1.2.2,k.2.2.2))))))))))))) λ_=>some (.nx (AI .i64 r.1 1,r.2))) λ_=>some (.nx (AI .i64 r.1 1,r.2))) λ_=>some (.dn ((0,(r,()))))) ((0,(n.1.1,(n.1.2.1.1,(n.1.2.1.2.1,(n.1.2.1.2.2.1,(n.1.2.1.2.2.2.1,(n.1.2.1.2.2.2.2,(n.1.2.2.1.1,(n.1.2.2.1.2.1,(n.1.2.2.1.2.2,n.1.2.2.2)))))))))))) λa=>gd (BP (Ag (AA g.2.2.2.1) (AA ([(a.2.1.2.1,((a.2.1.2.2.1,(a.2.1.2.2.2.1,(a.2.1.2.2.2.2.1,(a.2.1.2.2.2.2.2.1,a.2.1.2.2.2.2.2.2.1)))),((a.2.1.2.2.2.2.2.2.2.1,(a.2.1.2.2.2.2.2.2.2.2.1,a.2.1.2.2.2.2.2.2.2.2.2.1)),a.2.1.2.2.2.2.2.2.2.2.2.2)))]))) 1048576) λ_=>some (.nx ((AI .i64 g.1 1,(g.2.1,(g.2.2.1,(Bu g.2.2.2.1 ([(a.2.1.2.1,((a.2.1.2.2.1,(a.2.1.2.2.2.1,(a.2.1.2.2.2.2.1,(a.2.1.2.2.2.2.2.1,a.2.1.2.2.2.2.2.2.1)))),((a.2.1.2.2.2.2.2.2.2.1,(a.2.1.2.2.2.2.2.2.2.2.1,a.2.1.2.2.2.2.2.2.2.2.2.1)),a.2.1.2.2.2.2.2.2.2.2.2.2)))]),g.2.2.2.2))))))) λ_=>some (.dn ((0,(g,()))))) ((0,(u.1,(u.2,([],x.1.2.2)))))) λG=>some ((((G.2.1.2.1,G.2.1.2.2.1),G.2.1.2.2.2),0))
def D9 (x:((List AD)×(List AD))):Option Bool :=
 bd (loop (λs0=>br (Ak s0.1 (Ab (AA x.1))) (λ_=>br (Ak s0.1 (Ab (AA x.2))) (λ_=>AT s0.1 λe=>ix x.1 e λb=>AT s0.1 λd=>ix x.2 d λa=>br (Ad (Az (seq b.1 a.1) (Az (seq b.2.1 a.2.1) (Az (beq b.2.2.1 a.2.2.1) (Az (A8 b.2.2.2 a.2.2.2) true))))) (λ_=>some (.dn ((0,((s0.1,false),()))))) λ_=>some (.nx (AI .i64 s0.1 1,s0.2))) λ_=>some (.dn ((1,(s0,()))))) λ_=>some (.dn ((1,(s0,()))))) (0,false)) λc=>br (neq c.1 0) (λ_=>some c.2.1.2) λ_=>some (A8 (Ab (AA x.1)) (Ab (AA x.2)))
def Eh (x:(BI×BI)):Option Bool :=
 br (A8 x.1.1 x.2.1) (λ_=>bd (D9 (x.1.2,x.2.2)) λa=>some a) λ_=>some false
def EA (x:((List BI)×(List BI))):Option Bool :=
 br (Ay (Ab (AA x.1)) (Ab (AA x.2))) (λ_=>some false) λ_=>bd (loop (λs0=>br (Ak s0.1 (Ab (AA x.1))) (λ_=>AT s0.1 λf=>ix x.1 f λc=>AT s0.1 λe=>ix x.2 e λb=>bd (Eh (c,b)) λd=>br (Ad d) (λ_=>some (.dn ((0,((s0.1,false),()))))) λ_=>some (.nx (AI .i64 s0.1 1,s0.2))) λ_=>some (.dn ((1,(s0,()))))) (0,false)) λa=>br (neq a.1 0) (λ_=>some a.2.1.2) λ_=>some true
def G0 (x:(AJ×AJ)):Option Bool :=
 br (Ay x.1.1 x.2.1) (λ_=>some false) λ_=>br (Ay (Ab (AA x.1.2)) (Ab (AA x.2.2))) (λ_=>some false) λ_=>bd (loop (λs0=>br (Ak s0.1 (Ab (AA x.1.2))) (λ_=>AT s0.1 λf=>ix x.1.2 f λc=>AT s0.1 λe=>ix x.2.2 e λb=>bd (EA (c,b)) λd=>br (Ad d) (λ_=>some (.dn ((0,((s0.1,false),()))))) λ_=>some (.nx (AI .i64 s0.1 1,s0.2))) λ_=>some (.dn ((1,(s0,()))))) (0,false)) λa=>br (neq a.1 0) (λ_=>some a.2.1.2) λ_=>some true
def Ei (x:((Int×(AM×((Bool×AN)×((List AD)×Int))))×(Int×(AM×((Bool×AN)×((List AD)×Int)))))):Option Bool :=
 br (A8 x.1.1 x.2.1) (λ_=>bd (Ba (x.1.2,x.2.2)) λa=>some a) λ_=>some false
def EY (x:((AJ×((List (Int×(AM×((Bool×AN)×((List AD)×Int)))))×Int))×(AJ×((List (Int×(AM×((Bool×AN)×((List AD)×Int)))))×Int)))):Option Bool :=
 bd (G0 (x.1.1,x.2.1)) λc=>br (Ad c) (λ_=>some false) λ_=>br (Ay (Ab (AA x.1.2.1)) (Ab (AA x.2.2.1))) (λ_=>some false) λ_=>br (Ay x.1.2.2 x.2.2.2) (λ_=>some false) λ_=>bd (loop (λs1=>br (Ak s1.1 (Ab (AA x.1.2.1))) (λ_=>AT s1.1 λd=>ix x.1.2.1 d λf=>AT s1.1 λe=>ix x.2.2.1 e λb=>bd (Ei (f,b)) λg=>br (Ad g) (λ_=>some (.dn ((0,((s1.1,false),()))))) λ_=>some (.nx (AI .i64 s1.1 1,s1.2))) λ_=>some (.dn ((1,(s1,()))))) (0,false)) λa=>br (neq a.1 0) (λ_=>some a.2.1.2) λ_=>some true
def Ff (x:((AJ×((List (Int×(AM×((Bool×AN)×((List AD)×Int)))))×Int))×(Int×Int))):Option ((AJ×((List (Int×(AM×((Bool×AN)×((List AD)×Int)))))×Int))×(Int×Int)) :=
 bd (DJ x.1) λi=>br (A8 i.2 0) (λ_=>br (Ak x.2.2 0) (λ_=>some ((((0,[]),([],0)),(0,7)))) λ_=>br (Ay i.2 0) (λ_=>some ((((0,[]),([],0)),(0,i.2)))) λ_=>bd (Cj (x.1,x.2.1)) λe=>br (A8 e.2 0) (λ_=>br (A8 e.1 0) (λ_=>some ((((0,[]),([],0)),(0,9)))) λ_=>br (Ay e.2 0) (λ_=>some ((((0,[]),([],0)),(0,e.2)))) λ_=>bd (B3 (x.1,x.2.1)) λt=>AT t.1 λB=>ix x.1.2.1 B λz=>bd (BE (z.2,x.2.2)) λs=>gd (BP (AA x.1.2.1) 1048576) λ_=>AT t.1 λq=>gd (C7 q (AA x.1.2.1)) λ_=>ix x.1.2.1 q λC=>some (((x.1.1,(lset x.1.2.1 q (x.2.1,s.1),x.1.2.2)),(s.2.1,0)))) λ_=>br (Ay e.2 0) (λ_=>some ((((0,[]),([],0)),(0,e.2)))) λ_=>bd (B3 (x.1,x.2.1)) λr=>AT r.1 λu=>ix x.1.2.1 u λm=>bd (BE (m.2,x.2.2)) λj=>gd (BP (AA x.1.2.1) 1048576) λ_=>AT r.1 λc=>gd (C7 c (AA x.1.2.1)) λ_=>ix x.1.2.1 c λw=>some (((x.1.1,(lset x.1.2.1 c (x.2.1,j.1),x.1.2.2)),(j.2.1,0)))) λ_=>br (Ay i.2 0) (λ_=>some ((((0,[]),([],0)),(0,i.2)))) λ_=>bd (Cj (x.1,x.2.1)) λa=>br (A8 a.2 0) (λ_=>br (A8 a.1 0) (λ_=>some ((((0,[]),([],0)),(0,9)))) λ_=>br (Ay a.2 0) (λ_=>some ((((0,[]),([],0)),(0,a.2)))) λ_=>bd (B3 (x.1,x.2.1)) λk=>AT k.1 λo=>ix x.1.2.1 o λp=>bd (BE (p.2,x.2.2)) λf=>gd (BP (AA x.1.2.1) 1048576) λ_=>AT k.1 λd=>gd (C7 d (AA x.1.2.1)) λ_=>ix x.1.2.1 d λA=>some (((x.1.1,(lset x.1.2.1 d (x.2.1,f.1),x.1.2.2)),(f.2.1,0)))) λ_=>br (Ay a.2 0) (λ_=>some ((((0,[]),([],0)),(0,a.2)))) λ_=>bd (B3 (x.1,x.2.1)) λg=>AT g.1 λn=>ix x.1.2.1 n λl=>bd (BE (l.2,x.2.2)) λh=>gd (BP (AA x.1.2.1) 1048576) λ_=>AT g.1 λb=>gd (C7 b (AA x.1.2.1)) λ_=>ix x.1.2.1 b λy=>some (((x.1.1,(lset x.1.2.1 b (x.2.1,h.1),x.1.2.2)),(h.2.1,0)))
def EZ (x:((AJ×((List (Int×(AM×((Bool×AN)×((List AD)×Int)))))×Int))×Int)):Option ((AJ×((List (Int×(AM×((Bool×AN)×((List AD)×Int)))))×Int))×(Bool×Int)) :=
 bd (EM x) λa=>br (A8 a.2 0) (λ_=>br (Ad a.1) (λ_=>some ((((0,[]),([],0)),(false,9)))) λ_=>br (Ay a.2 0) (λ_=>some ((((0,[]),([],0)),(false,a.2)))) λ_=>bd (Cj x) λg=>br (CD g.1 0) (λ_=>bd (Ff ((x.1,(x.2,1)))) λd=>some ((d.1,(false,d.2.2)))) λ_=>bd (Df x) λb=>some ((b.1,(A8 b.2 0,b.2)))) λ_=>br (Ay a.2 0) (λ_=>some ((((0,[]),([],0)),(false,a.2)))) λ_=>bd (Cj x) λf=>br (CD f.1 0) (λ_=>bd (Ff ((x.1,(x.2,1)))) λe=>some ((e.1,(false,e.2.2)))) λ_=>bd (Df x) λc=>some ((c.1,(A8 c.2 0,c.2)))
end Go.Proofs.YtfilfloanndddaaGreat.Pl
namespace Go.Proofs.YtfilfloanndddaaGreat.Pl
open Go Go.Proofs.YtfilfloanndddaaGreat.Sv
set_option linter.unusedVariables false
end Go.Proofs.YtfilfloanndddaaGreat.Pl
namespace Go.Proofs.YtfilfloanndddaaGreat.Pl
open Go Go.Proofs.YtfilfloanndddaaGreat.Sv
set_option linter.unusedVariables false
end Go.Proofs.YtfilfloanndddaaGreat.Pl
namespace Go.Proofs.YtfilfloanndddaaGreat.Pl
open Go Go.Proofs.YtfilfloanndddaaGreat.Sv
abbrev Hn:=List UInt8
theorem NP (a:Hn):Cy a []=false:=by unfold Cy;cases a<;>rfl
theorem S9 (b:UInt8) (y:Hn):Cy [] (b::y)=true:=rfl
theorem JQ (a b:UInt8) (x y:Hn):Cy (a::x) (b::y)=(decide (a<b)||(a == b&&Cy x y)):=rfl
theorem HL : ∀ a:Hn,Cy a a=false
 | []=>rfl
 | a::x=>by rw [JQ,HL x];simp
theorem Fg : ∀ {a b c:Hn},Cy a b=true->Cy b c=true->Cy a c=true
 | [],b,[],e,d=>by rw [NP] at d;cases d
 | [],b,c::z,_,_=>rfl
 | a::x,[],c,e,_=>by rw [NP] at e;cases e
 | a::x,b::y,[],_,d=>by rw [NP] at d;cases d
 | a::x,b::y,c::z,e,d=>by
  rw [JQ] at e d ⊢;simp only [Bool.or_eq_true,decide_eq_true_eq,Bool.and_eq_true,beq_iff_eq] at e d ⊢;rcases e with e | ⟨rfl,e⟩
  ·rcases d with d | ⟨rfl,d⟩
   ·exact .inl (UInt8.lt_trans e d)
   ·exact .inl e
  ·rcases d with d | ⟨rfl,d⟩
   ·exact .inl d
   ·exact .inr ⟨rfl,Fg e d⟩
theorem PJ : ∀ a b:Hn,Cy a b=true\/a=b\/Cy b a=true
 | [],[] => .inr (.inl rfl)
 | [],_::_ => .inl rfl
 | _::_,[] => .inr (.inr rfl)
 | a::x,b::y=>by
  rw [JQ,JQ];simp only [Bool.or_eq_true,decide_eq_true_eq,Bool.and_eq_true,beq_iff_eq,List.cons.injEq];rcases UInt8.lt_or_lt_of_ne (a:=a) (b:=b) |> λh=>Classical.em (a=b) |>.imp id h with h | h | h
  ·subst h;rcases PJ x y with h | h | h
   ·exact .inl (.inr ⟨rfl,h⟩)
   ·exact .inr (.inl ⟨rfl,h⟩)
   ·exact .inr (.inr (.inr ⟨rfl,h⟩))
  ·exact .inl (.inl h)
  ·exact .inr (.inr (.inl h))
theorem C3 {a b:Hn} (h:Cy a b=true):Cy b a=false:=by
 cases c:Cy b a with
 | false=>rfl
 | true=>have:=Fg h c;rw [HL] at this;cases this
theorem Kr {a b:Hn} (h:Cy a b=true):a≠b:=λe=>by subst e;rw [HL] at h;cases h
theorem MO {a b:Hn} (h:Cy a b=false) (c:a≠b):Cy b a=true:=by
 rcases PJ a b with h1 | h1 | h1
 ·rw [h] at h1;cases h1
 ·exact absurd h1 c
 ·exact h1
theorem QE {a b c:Hn} (h:Cy b a=false) (d:Cy b c=true):Cy a c=true:=by
 rcases PJ a b with h1 | h1 | h1
 ·exact Fg h1 d
 ·subst h1;exact d
 ·rw [h] at h1;cases h1
theorem Uw {a b c:Hn} (h:Cy a b=true) (d:Cy c b=false):Cy a c=true:=by
 rcases PJ b c with h1 | h1 | h1
 ·exact Fg h h1
 ·subst h1;exact h
 ·rw [d] at h1;cases h1
theorem PK {a b:Hn}:seq a b=true<->a=b:=by unfold seq;simp
theorem MP (a b:Hn):seq a b=decide (a=b):=by
 cases h:seq a b with
 | true=>rw [PK] at h;simp [h]
 | false =>
  have : ¬ a=b:=λe=>by rw [<- PK] at e;rw [h] at e;cases e
  simp [this]
section
variable {α β σ S:Type}
theorem FL (a b:Hn) (x y:Unit->Option β):br (seq a b) x y=if a=b then x () else y ():=O4 PK x y
theorem HM (a b:Hn) (x y:Unit->Option β):br (Cy a b) x y=if Cy a b=true then x () else y ():=O4 Iff.rfl x y
theorem C9 (p:Prop) [Decidable p] (x y:Unit->Option β):br (decide p) x y=if p then x () else y ():=O4 (by simp) x y
theorem AE (k:Nat) (c:Nat->Option β):AT (k:Int) c=c k:=by rw [ko (by omega)];simp
theorem mg {l:List α} {k:Nat} {x:α} (h:l[k]? = some x):Ak (k:Int) (Ab (AA l))=true:=by
 have:=(List.getElem?_eq_some_iff.1 h).1;unfold Ak Ab AA;simp;omega
theorem kr (l:List α):Ak (l.length:Int) (Ab (AA l))=false:=by unfold Ak Ab AA;simp
theorem Af {k:Nat} (h:k+1<=9223372036854775807):AI .i64 (k:Int) 1=((k+1:Nat):Int):=by
 rw [DV (by omega)];omega
theorem Ao {l:List α} {k:Nat} {x:α} (h:l[k]? = some x) (a:l.length<=9223372036854775807):AI .i64 (k:Int) 1=((k+1:Nat):Int):=by
 have:=(List.getElem?_eq_some_iff.1 h).1;exact Af (by omega)
def QF (step:Nat->α->σ->Option (LR σ β)) (a:σ->Option β):List α->Nat->σ->Option β
 | [],_,s=>a s
 | x::l,k,s=>match step k x s with
  | none=>none
  | some (.nx s')=>QF step a l (k+1) s'
  | some (.dn b)=>some b
def tb (mk:σ->S):Option (LR σ β)->Option (LR S β)
 | none=>none
 | some (.nx s)=>some (.nx (mk s))
 | some (.dn b)=>some (.dn b)
def nv:Option β->Option (LR S β)
 | none=>none
 | some b=>some (.dn b)
theorem WZ {l:List α} {mk:Nat->σ->S} {f:S->Option (LR S β)} {step:Nat->α->σ->Option (LR σ β)} {c:σ->Option β}
  (hs : ∀ k x a,l[k]? = some x->f (mk k a)=tb (mk (k+1)) (step k x a)) (o : ∀ a,f (mk l.length a)=nv (c a)) :
  ∀ (d n k:Nat) (a:σ),l.length-k=d->k<=l.length->d<n->Di n f (mk k a)=QF step c (l.drop k) k a:=by
 intro d
 induction d with
 | zero =>
  intro n k a i g p;have e:k=l.length:=by omega
  obtain ⟨m,rfl⟩ : ∃ m,n=m+1:=⟨n-1,by omega⟩;subst e;unfold Di;rw [o,List.drop_length];unfold nv QF;cases c a<;>rfl
 | succ d j =>
  intro n k a i g p;obtain ⟨m,rfl⟩ : ∃ m,n=m+1:=⟨n-1,by omega⟩;have e:k<l.length:=by omega
  have h:l[k]? = some l[k]:=by simp [e]
  unfold Di;rw [hs k _ a h,List.drop_eq_getElem_cons e]
  show _=match step k l[k] a with
   | none=>none
   | some (.nx s')=>QF step c (l.drop (k+1)) (k+1) s'
   | some (.dn b)=>some b
  cases step k l[k] a with
  | none=>rfl
  | some r=>cases r with
   | nx s'=>exact j m (k+1) s' (by omega) (by omega) (by omega)
   | dn b=>rfl
theorem Zp {l:List α} (mk:Nat->σ->S) (step:Nat->α->σ->Option (LR σ β)) (b:σ->Option β) {f:S->Option (LR S β)} {s:S} (a:σ) (c:s=mk 0 a) (e:l.length<=9223372036854775807)
  (hs : ∀ k x a,l[k]? = some x->f (mk k a)=tb (mk (k+1)) (step k x a)) (d : ∀ a,f (mk l.length a)=nv (b a)) :
  loop f s=QF step b l 0 a:=by
 subst c;have:=WZ hs d l.length 18446744073709551616 0 a (by omega) (by omega) (by omega);rw [List.drop_zero] at this;exact this
theorem Ux {f:α->Option (LR α β)} {x:β} : ∀ {n m:Nat} {s:α},n<=m->Di n f s=some x->Di m f s=some x
 | 0,_,_,_,h=>by cases h
 | n+1,0,_,hl,_=>by omega
 | n+1,m+1,s,hl,h=>by
  unfold Di at h ⊢;split at h
  ·cases h
  ·rename_i s' e;exact Ux (by omega) h
  ·exact h
theorem Cm {f:α->Option (LR α β)} {x:β} {n:Nat} {s:α} (a:n<=18446744073709551616) (h:Di n f s=some x):loop f s=some x:=Ux a h
theorem BL {f:α->Option (LR α β)} {n:Nat} {s s':α} (h:f s=some (.nx s')):Di (n+1) f s=Di n f s':=by
 show (match f s with
  | none=>none
  | some (.nx s)=>Di n f s
  | some (.dn x)=>some x)=_
 rw [h]
theorem BY {f:α->Option (LR α β)} {n:Nat} {s:α} {x:β} (h:f s=some (.dn x)):Di (n+1) f s=some x:=by
 show (match f s with
  | none=>none
  | some (.nx s)=>Di n f s
  | some (.dn x)=>some x)=_
 rw [h]
theorem IR {f : S -> Option (LR S β)} {r : β} (mk : Nat -> S) (n : Nat) {s : S} (h0 : s = mk 0) (hn : n < 18446744073709551616) (hs : ∀ k, k < n -> f (mk k) = some (.nx (mk (k + 1)))) (he : f (mk n) = some (.dn r)) : loop f s = some r := by
  subst h0
  have : ∀ d k, k + d = n -> Di (d + 1) f (mk k) = some r := by
    intro d
    induction d with
    | zero => intro k hk; have : k = n := by omega
              subst this; exact BY he
    | succ d ih => intro k hk; rw [BL (hs k (by omega))]; exact ih (k + 1) (by omega)
  exact Cm (n := n + 1) (by omega) (this n 0 (by omega))
end
end Go.Proofs.YtfilfloanndddaaGreat.Pl
namespace Go.Proofs.YtfilfloanndddaaGreat.Pl
open Go Go.Proofs.YtfilfloanndddaaGreat.Sv
def kE (x:AD):Int:=if x.1.length>32\/x.2.1.length>64 then 3 else if x.2.2.1=true/\x.2.1≠[] then 6 else if x.2.2.2<1\/x.2.2.2>1000000000 then 7 else 0
def Ks:Option Hn->Nat->List AD->Int×Int
 | _,_,[]=>(0,0)
 | p,k,x::l=>if kE x≠0 then ((k:Int),kE x) else match p with
  | some q=>if Cy q x.1=true then Ks (some x.1) (k+1) l else ((k:Int),6)
  | none=>Ks (some x.1) (k+1) l
def Fl (l:List AD):Int×Int:=if l.length>5000 then (-1,3) else Ks none 0 l
def Asc:Option Hn->List AD->Prop
 | _,[]=>True
 | p,x::l=>(∀ q,p=some q->Cy q x.1=true)/\Asc (some x.1) l
theorem TA : ∀ {p k l},(Ks p k l).2=0<->(∀ x∈l,kE x=0)/\Asc p l
 | p,k,[]=>by simp [Ks,Asc]
 | p,k,x::l=>by
  unfold Ks;by_cases h:kE x=0
  ·rw [if_neg (by simp [h])];cases p with
   | none =>
    simp only [TA (p:=some x.1) (l:=l),Asc,List.mem_cons,forall_eq_or_imp];constructor
    ·rintro ⟨b,a⟩;exact ⟨⟨h,b⟩,(λq c=>by cases c),a⟩
    ·rintro ⟨⟨_,b⟩,_,a⟩;exact ⟨b,a⟩
   | some q =>
    simp only;by_cases c:Cy q x.1=true
    ·rw [if_pos c];simp only [TA (p:=some x.1) (l:=l),Asc,List.mem_cons,forall_eq_or_imp];constructor
     ·rintro ⟨b,a⟩;exact ⟨⟨h,b⟩,(λe d=>by cases d;exact c),a⟩
     ·rintro ⟨⟨_,b⟩,_,a⟩;exact ⟨b,a⟩
    ·rw [if_neg c];constructor
     ·intro h;cases h
     ·rintro ⟨_,a⟩;exact absurd (a.1 q rfl) c
  ·rw [if_pos h];constructor
   ·intro h';exact absurd h' h
   ·rintro ⟨b,_⟩;exact absurd (b x (by simp)) h
theorem OJ : ∀ {p k l},(Ks p k l).2=0->Ks p k l=(0,0)
 | p,k,[],_=>rfl
 | p,k,x::l,h=>by
  unfold Ks at h ⊢;by_cases a:kE x=0
  ·rw [if_neg (by simp [a])] at h ⊢;cases p with
   | none=>exact OJ h
   | some q =>
    simp only at h ⊢;by_cases b:Cy q x.1=true
    ·rw [if_pos b] at h ⊢;exact OJ h
    ·rw [if_neg b] at h;cases h
  ·rw [if_pos a] at h;exact absurd h a
structure VL (l:List AD):Prop where
 len:l.length<=5000
 ok : ∀ x∈l,kE x=0
 asc:Asc none l
theorem OK {l:List AD}:(Fl l).2=0<->VL l:=by
 unfold Fl;by_cases h:l.length>5000
 ·rw [if_pos h];constructor
  ·intro h;cases h
  ·intro h';have:=h'.len;omega
 ·rw [if_neg h];rw [TA];exact ⟨λ⟨a,b⟩=>⟨by omega,a,b⟩,λh=>⟨h.ok,h.asc⟩⟩
theorem Kt {l:List AD} (h:VL l):Fl l=(0,0):=by
 have a:=OK.2 h;unfold Fl at a ⊢;rw [if_neg (by have:=h.len;omega)] at a ⊢;exact OJ a
theorem Asc.lt : ∀ {p:Option Hn} {l:List AD},Asc p l -> ∀ {i:Nat} {x y:AD},l[i]? = some x->l[i+1]? = some y->Cy x.1 y.1=true
 | p,x::[],_,0,_,_,_,h2=>by simp at h2
 | p,a::b::l,h,0,x,y,h1,h2=>by
  simp at h1 h2;subst h1;subst h2;exact h.2.1 _ rfl
 | p,a::l,h,i+1,x,y,h1,h2=>by
  simp at h1 h2;exact Asc.lt h.2 h1 h2
theorem VL.lt {l:List AD} (h:VL l) {i:Nat} {x y:AD} (b:l[i]? = some x) (a:l[i+1]? = some y):Cy x.1 y.1=true:=h.asc.lt b a
def kx (l:List AD) (i:Nat):AN:=match l[i]? with
 | some x=>(x.1,false)
 | none=>([],true)
def w0 (p q:AN):Bool:=if p.2≠q.2 then q.2 else if p.1≠q.1 then Cy p.1 q.1 else true
def H8 (a b:List AD) (i j:Nat):Bool:=w0 (kx a i) (kx b j)
def Ap (a b:List AD):Nat->Nat×Nat
 | 0=>(0,0)
 | n+1=>if H8 a b (Ap a b n).1 (Ap a b n).2=true then ((Ap a b n).1+1,(Ap a b n).2) else ((Ap a b n).1,(Ap a b n).2+1)
def Ox (a b:List AD) (n:Nat):Option AD:=if H8 a b (Ap a b n).1 (Ap a b n).2=true then a[(Ap a b n).1]? else b[(Ap a b n).2]?
structure Inv (a b:List AD) (i j:Nat):Prop where
 ia:i<=a.length
 jb:j<=b.length
 pa : ∀ i',i=i'+1 -> ∀ x y,a[i']? = some x->b[j]? = some y->Cy y.1 x.1=false
 pb : ∀ j',j=j'+1 -> ∀ x y,b[j']? = some x->a[i]? = some y->Cy x.1 y.1=true
theorem QG {a b:List AD} {i j:Nat} {x y:AD} (d:a[i]? = some x) (c:b[j]? = some y):H8 a b i j = !Cy y.1 x.1:=by
 unfold H8 w0 kx;rw [d,c];simp only [ne_eq,not_true,if_false];by_cases h:x.1=y.1
 ·rw [if_neg (by simp [h]),h,HL];rfl
 ·rw [if_pos h];cases hs:Cy x.1 y.1 with
  | true=>rw [C3 hs];rfl
  | false=>rw [MO hs h];rfl
theorem Yc {a b:List AD} {i j:Nat} {x:AD} (d:a[i]? = some x) (c:b[j]? = none):H8 a b i j=true:=by
 unfold H8 w0 kx;rw [d,c];rfl
theorem Yd {a b:List AD} {i j:Nat} {y:AD} (d:a[i]? = none) (c:b[j]? = some y):H8 a b i j=false:=by
 unfold H8 w0 kx;rw [d,c];rfl
theorem Uy {a b:List AD} {i j:Nat} (d:a[i]? = none) (c:b[j]? = none):H8 a b i j=true:=by
 unfold H8 w0 kx;rw [d,c];rfl
theorem Inv.zero (a b:List AD):Inv a b 0 0:=⟨by omega,by omega,λ_ h=>by omega,λ_ h=>by omega⟩
theorem Inv.stepA {a b:List AD} (va:VL a) {i j:Nat} (h:Inv a b i j) {x:AD} (c:a[i]? = some x) (g:H8 a b i j=true):Inv a b (i+1) j:=by
 have hi:=(List.getElem?_eq_some_iff.1 c).1;refine ⟨by omega,h.jb,λl e k y d f => ?_,λj' e k y d f => ?_⟩
 ·have:l=i:=by omega
  subst this;rw [c] at d;cases d;rw [QG c f] at g;simpa using g
 ·exact Fg (h.pb j' e k x d c) (va.lt c f)
theorem Inv.stepB {a b:List AD} (m:VL b) {i j:Nat} (h:Inv a b i j) {y:AD} (c:b[j]? = some y) (g:H8 a b i j=false):Inv a b i (j+1):=by
 have p:=(List.getElem?_eq_some_iff.1 c).1;refine ⟨h.ia,by omega,λl e k n d f => ?_,λj' e k n d f => ?_⟩
 ·have o:=h.pa l e k y d c;exact C3 (QE o (m.lt c f))
 ·have:j'=j:=by omega
  subst this;rw [c] at d;cases d;rw [QG f c] at g;simpa using g
theorem FM {a b:List AD} (va:VL a) (f:VL b) : ∀ {n:Nat},n<=a.length+b.length->Inv a b (Ap a b n).1 (Ap a b n).2/\(Ap a b n).1+(Ap a b n).2=n
 | 0,_=>⟨Inv.zero a b,rfl⟩
 | n+1,h=>by
  obtain ⟨c,hs⟩:=FM va f (n:=n) (by omega);rw [show Ap a b (n+1)=if H8 a b (Ap a b n).1 (Ap a b n).2=true then ((Ap a b n).1+1,(Ap a b n).2) else ((Ap a b n).1,(Ap a b n).2+1) from rfl]
  revert c hs;generalize (Ap a b n).1=i;generalize (Ap a b n).2=j;intro c hs;cases g:H8 a b i j with
  | true =>
   have hi:i<a.length:=by
    refine Nat.lt_of_not_le λh' => ?_;have e:a[i]? = none:=List.getElem?_eq_none h';have d:j<b.length:=by have:=c.ia;omega
    rw [Yd e (by simp [d]:b[j]? = some b[j])] at g;cases g
   have:=c.stepA va (by simp [hi]:a[i]? = some a[i]) g;rw [if_pos rfl];exact ⟨this,by omega⟩
  | false =>
   have k:j<b.length:=by
    refine Nat.lt_of_not_le λh' => ?_;have e:b[j]? = none:=List.getElem?_eq_none h';cases d:a[i]? with
    | none=>rw [Uy d e] at g;cases g
    | some x=>rw [Yc d e] at g;cases g
   have:=c.stepB f (by simp [k]:b[j]? = some b[j]) g;rw [if_neg (by simp)];exact ⟨this,by omega⟩
end Go.Proofs.YtfilfloanndddaaGreat.Pl
namespace Go.Proofs.YtfilfloanndddaaGreat.Pl
open Go Go.Proofs.YtfilfloanndddaaGreat.Sv
def Tt (p q:AN):ET:=([p,q],([0,if w0 p q=true then 1 else 0],if w0 p q=true then 0 else 1))
def Mb (a b:List AD) (i j:Nat):AM:=([a,b],([(i:Int),(j:Int)],Tt (kx a i) (kx b j)))
def ly (a b:List AD) (n:Nat):Hn:=match Ox a b n with
 | some x=>x.1
 | none=>[]
def fresh (a b:List AD) (n:Nat) (x:AD):Bool:=decide (n=0)||decide (ly a b (n-1)≠x.1)
def ks (a b:List AD) (c:Bool):Nat->List AD
 | 0=>[]
 | n+1=>match Ox a b n with
  | some x=>if (fresh a b n x && !(c&&x.2.2.1))=true then ks a b c n++[x] else ks a b c n
  | none=>ks a b c n
def tn (a b:List AD) (c:Bool) (n:Nat):B0:=(decide (n≠0),(if n=0 then [] else ly a b (n-1),c))
def tp (a b:List AD) (c:Bool) (n:Nat):H3:=(Mb a b (Ap a b n).1 (Ap a b n).2,(tn a b c n,(ks a b c n,(n:Int))))
def A3 (a b:List AD):Nat->List AD
 | 0=>[]
 | n+1=>match Ox a b n with
  | some x=>A3 a b n++[x]
  | none=>A3 a b n
section
variable {a b:List AD} (va:VL a) (vb:VL b)
include va vb
theorem EB {n:Nat} (h:n<a.length+b.length) : ∃ x,Ox a b n=some x/\(x∈a\/x∈b):=by
 obtain ⟨e,hs⟩:=FM va vb (n:=n) (by omega);unfold Ox;revert e hs;generalize (Ap a b n).1=i;generalize (Ap a b n).2=j;intro e hs;cases g:H8 a b i j with
 | true =>
  have hi:i<a.length:=by
   refine Nat.lt_of_not_le λh' => ?_;have d:a[i]? = none:=List.getElem?_eq_none h';have c:j<b.length:=by have:=e.ia;omega
   rw [Yd d (by simp [c]:b[j]? = some b[j])] at g;cases g
  exact ⟨a[i],by simp [hi],.inl (List.getElem_mem hi)⟩
 | false =>
  have f:j<b.length:=by
   refine Nat.lt_of_not_le λh' => ?_;have d:b[j]? = none:=List.getElem?_eq_none h';cases c:a[i]? with
   | none=>rw [Uy c d] at g;cases g
   | some x=>rw [Yc c d] at g;cases g
  exact ⟨b[j],by simp [f],.inr (List.getElem_mem f)⟩
theorem dX {n:Nat} {x:AD} (h:Ox a b n=some x):kE x=0:=by
 have:x∈a\/x∈b:=by
  unfold Ox at h;split at h
  ·exact .inl (List.mem_of_getElem? h)
  ·exact .inr (List.mem_of_getElem? h)
 rcases this with h | h
 ·exact va.ok x h
 ·exact vb.ok x h
theorem Ye {n:Nat} (k:n+1<a.length+b.length) {x y:AD} (d:Ox a b n=some x) (c:Ox a b (n+1)=some y):Cy y.1 x.1=false:=by
 obtain ⟨h,hs⟩:=FM va vb (n:=n) (by omega);unfold Ox at d c;rw [show Ap a b (n+1)=if H8 a b (Ap a b n).1 (Ap a b n).2=true then ((Ap a b n).1+1,(Ap a b n).2) else ((Ap a b n).1,(Ap a b n).2+1) from rfl] at c
 revert h hs d c;generalize (Ap a b n).1=i;generalize (Ap a b n).2=j;intro d c h hs;cases g:H8 a b i j with
 | true =>
  rw [if_pos g] at d;simp only [g,if_true] at c;have e:=h.stepA va d g;cases f:H8 a b (i+1) j with
  | true=>rw [if_pos f] at c;exact C3 (va.lt d c)
  | false=>rw [if_neg (by simp [f])] at c;exact e.pa i rfl x y d c
 | false =>
  rw [if_neg (by simp [g])] at d;simp only [g,if_false,Bool.false_eq_true] at c;have e:=h.stepB vb d g;cases f:H8 a b i (j+1) with
  | true=>rw [if_pos f] at c;exact C3 (e.pb j rfl x y d c)
  | false=>rw [if_neg (by simp [f])] at c;exact C3 (vb.lt d c)
theorem C4 : ∀ {n:Nat},n<=a.length+b.length->(A3 a b n).length=n
 | 0,_=>rfl
 | n+1,h=>by
  obtain ⟨x,c,_⟩:=EB va vb (n:=n) (by omega);unfold A3;rw [c];simp [C4 (n:=n) (by omega)]
theorem JR : ∀ {n k:Nat},n<=a.length+b.length->k<n->(A3 a b n)[k]? = Ox a b k
 | n+1,k,h,hk=>by
  obtain ⟨x,d,_⟩:=EB va vb (n:=n) (by omega);unfold A3;rw [d];show (A3 a b n++[x])[k]? = _;have e:=C4 va vb (n:=n) (by omega);by_cases c:k<n
  ·rw [List.getElem?_append_left (by omega)];exact JR (by omega) c
  ·have:k=n:=by omega
   subst this;rw [List.getElem?_append_right (by omega),e];simp [d]
theorem Wa {n m:Nat} (d:m<=a.length+b.length) (h:n<=m):(A3 a b m).take n=A3 a b n:=by
 apply List.ext_getElem?;intro k;rw [List.getElem?_take];by_cases c:k<n
 ·rw [if_pos c,JR va vb d (by omega),JR va vb (by omega) c]
 ·rw [if_neg c,List.getElem?_eq_none];rw [C4 va vb (by omega)];omega
end
end Go.Proofs.YtfilfloanndddaaGreat.Pl
namespace Go.Proofs.YtfilfloanndddaaGreat.Pl
open Go Go.Proofs.YtfilfloanndddaaGreat.Sv
theorem AX (n:Nat):Ab n=(n:Int):=rfl
theorem AR {α:Type} (l:List α):AA l=l.length:=rfl
theorem J1 (l:List UInt8):Gc l=l.length:=rfl
theorem MQ:Ad true=false:=rfl
theorem BX {β:Type} (c:Bool) (x y:Unit->Option β):br (Ad c) x y=br c y x:=md c x y
theorem Bj {β:Type} {a b:Nat} (h:a<=b) (k:Unit->Option β):gd (BP a b) k=k ():=by rw [WY,if_pos h]
theorem Lp (k:Hn):FX k=some (if k.length>32 then 3 else 0):=by
 unfold FX;rw [Am,AX,J1];by_cases h:k.length>32
 ·rw [if_pos (by omega),if_pos h]
 ·rw [if_neg (by omega),if_neg h]
theorem HN (x:AD):CW x=some (kE x):=by
 unfold CW kE;rw [Lp,AB,AP];by_cases e:x.1.length>32
 ·simp [e]
 rw [if_neg e,if_pos rfl,Am,AX,J1];by_cases f:x.2.1.length>64
 ·rw [if_pos (by omega),if_pos (.inr f)]
 rw [if_neg (by omega : ¬ (x.2.1.length:Int)>64),if_neg (by omega),Es];by_cases c:x.2.2.1=true
 ·rw [if_pos c,BX,FL];by_cases b:x.2.1=[]
  ·rw [if_pos b,if_neg (by simp [b]),A1,Am];by_cases a:x.2.2.2<1
   ·simp [a]
   ·by_cases d:x.2.2.2>1000000000<;>simp [a,d]
  ·rw [if_neg b,if_pos ⟨c,b⟩]
 ·rw [if_neg c,if_neg (by simp [c]),A1,Am];by_cases a:x.2.2.2<1
  ·simp [a]
  ·by_cases d:x.2.2.2>1000000000<;>simp [a,d]
theorem Ho (l:List AD) (r:l.length<=9223372036854775807):BZ l=some (Fl l):=by
 unfold BZ Fl;rw [Am,AX,AR];by_cases h:l.length>5000
 ·rw [if_pos (by omega),if_pos h]
 rw [if_neg (by omega),if_neg h]
 have key:=Zp (β:=Nat×(Int×Int×Int)×Unit) (l:=l) (λk (_:Int)=>((0:Int),((0:Int),(k:Int))))
  (λk x _=>if kE x≠0 then some (.dn (0,((kE x,((k:Int),(k:Int))),()))) else if k>0 then
    (match l[k-1]? with
    | some y=>if Cy y.1 x.1=true then some (.nx 0) else some (.dn (0,(((6:Int),((k:Int),(k:Int))),())))
    | none=>none) else some (.nx 0))
  (λ_=>some (1,((0,(0,(l.length:Int))),()))) (s:=(0,(0,0))) (0:Int) rfl r (f:=(λs0=>br (Ak s0.2.2 (Ab (AA l))) (λ_=>AT s0.2.2 λB=>ix l B λw=>bd (CW w) λt=>br (Ay t 0) (λ_=>some (.dn ((0,((t,(s0.2.2,s0.2.2)),()))))) λ_=>br (CD s0.2.2 0) (λ_=>AT (CA .i64 s0.2.2 1) λC=>ix l C λA=>br (Ad (Cy A.1 w.1)) (λ_=>some (.dn ((0,((6,(s0.2.2,s0.2.2)),()))))) λ_=>some (.nx ((s0.1,(s0.2.1,AI .i64 s0.2.2 1))))) λ_=>some (.nx ((s0.1,(s0.2.1,AI .i64 s0.2.2 1))))) λ_=>some (.dn ((1,(s0,()))))))
  (λk x i b=>by
   simp only;rw [mg b,AU,AE,AL b,HN,AB,AP];by_cases d:kE x=0
   ·have D:k<l.length:=(List.getElem?_eq_some_iff.1 b).1;simp only [d,if_true,ne_eq,not_true,if_false];rw [Am];by_cases c:k>0
    ·rw [if_pos (by omega:(k:Int)>0),if_pos c,CR (by omega),show ((k:Int)-1)=((k-1:Nat):Int) by omega,AE];have j:l[k-1]? = some l[k-1]:=by rw [List.getElem?_eq_getElem (by omega)]
     rw [AL j,j,BX,HM];simp only;by_cases a:Cy l[k-1].1 x.1=true
     ·rw [if_pos a,if_pos a,Ao b r];rfl
     ·rw [if_neg a,if_neg a];rfl
    ·rw [if_neg (by omega : ¬ (k:Int)>0),if_neg c,Ao b r];rfl
   ·simp only [d,if_false,ne_eq,not_false_iff,if_true];rfl)
  (λi=>by
   simp only
   rw [kr,Av];rfl)
 simp only [AX,AR] at key;rw [key]
 have e : ∀ (m:List AD) (k:Nat) (p:Option Hn),l.drop k=m->(p=if k=0 then none else (l[k-1]?).map (·.1)) -> ∀ i,bd (QF (β:=Nat×(Int×Int×Int)×Unit) (λk x (_:Int)=>if kE x≠0 then some (.dn (0,((kE x,((k:Int),(k:Int))),()))) else if k>0 then
    (match l[k-1]? with
    | some y=>if Cy y.1 x.1=true then some (.nx 0) else some (.dn (0,(((6:Int),((k:Int),(k:Int))),())))
    | none=>none) else some (.nx (0:Int))) (λ_=>some (1,((0,(0,(l.length:Int))),()))) m k i) (λo=>br (neq o.1 0) (λ_=>some (o.2.1.2.1,o.2.1.1)) λ_=>some ((0:Int),(0:Int)))=some (Ks p k m):=by
  intro m
  induction m with
  | nil=>intro k p _ _ i;rfl
  | cons x m u =>
   intro k p z n i
   have b:l[k]? = some x:=by
    have:=congrArg List.head? z;rw [List.head?_drop] at this;simpa using this
   have D:k<l.length:=(List.getElem?_eq_some_iff.1 b).1
   have g:l.drop (k+1)=m:=by
    have:=congrArg List.tail z;rw [List.tail_drop] at this;simpa using this
   unfold QF Ks;by_cases d:kE x=0
   ·simp only [d,ne_eq,not_true,if_false];by_cases c:k>0
    ·have j:l[k-1]? = some l[k-1]:=by rw [List.getElem?_eq_getElem (by omega)]
     rw [if_pos c,j];rw [if_neg (by omega : ¬ k=0),j] at n;subst n;simp only [Option.map_some];by_cases a:Cy l[k-1].1 x.1=true
     ·rw [if_pos a,if_pos a];exact u (k+1) (some x.1) g (by rw [if_neg (by omega)];simp [b]) 0
     ·rw [if_neg a,if_neg a];rfl
    ·have q:k=0:=by omega
     subst q;rw [if_neg c];simp only [if_true] at n;subst n;exact u 1 (some x.1) g (by simp [b]) 0
   ·simp only [d,ne_eq,not_false_iff,if_true];rfl
 exact e l 0 none (by simp) (by simp) 0
theorem NQ {α β σ S:Type} {l:List α} (mk:Nat->σ->S) (F:List α->Nat->σ->Option β) {f:S->Option (LR S β)} {s:S} (a:σ) (r:s=mk 0 a) (w:l.length<=9223372036854775807)
  (p : ∀ a,f (mk l.length a)=nv (F [] l.length a))
  (hc : ∀ k x m a,l.drop k=x::m->l[k]? = some x->k<l.length->(∃ b,f (mk k a)=some (.nx (mk (k+1) b))/\F (x::m) k a=F m (k+1) b)\/f (mk k a)=nv (F (x::m) k a)):loop f s=F l 0 a:=by
 subst r
 have d : ∀ (m:List α) (k n:Nat) (a:σ),l.drop k=m->k<=l.length->m.length<n->Di n f (mk k a)=F m k a:=by
  intro m
  induction m with
  | nil =>
   intro k n a c t e;obtain ⟨n,rfl⟩ : ∃ j,n=j+1:=⟨n-1,by omega⟩
   have i:k=l.length:=by
    have:=congrArg List.length c;simp at this;omega
   subst i;unfold Di;rw [p];cases F [] l.length a<;>rfl
  | cons x m u =>
   intro k n a c t e;obtain ⟨n,rfl⟩ : ∃ j,n=j+1:=⟨n-1,by omega⟩
   have o:l[k]? = some x:=by
    have:=congrArg List.head? c;rw [List.head?_drop] at this;simpa using this
   have h:k<l.length:=(List.getElem?_eq_some_iff.1 o).1
   have g:l.drop (k+1)=m:=by
    have:=congrArg List.tail c;rw [List.tail_drop] at this;simpa using this
   rcases hc k x m a c o h with ⟨b,h1,q⟩ | h1
   ·rw [BL h1,q];exact u (k+1) n b g (by omega) (by simp at e;omega)
   ·unfold Di;rw [h1];cases F (x::m) k a<;>rfl
 exact d l 0 _ a (by simp) (by omega) (by omega)
theorem rl {α:Type} {l:List α} {k:Nat} (h:k<l.length):Ak (k:Int) (l.length:Int)=true:=by unfold Ak;simp;omega
theorem re {α:Type} (l:List α):Ak (l.length:Int) (l.length:Int)=false:=by unfold Ak;simp
theorem BH {α β:Type} {m:Option α} {x:α} {k:α->Option β} {r:Option β} (h:m=some x) (e:k x=r):bd m k=r:=by subst h;exact e
theorem OL (k:AN):Dd k=some (k.2&&decide (k.1≠[])):=by
 unfold Dd;rw [Es];cases h:k.2 with
 | true=>rw [if_pos rfl,MP];simp [Ad]
 | false=>rw [if_neg (by simp)];rfl
def Ey (k:AN):Prop:=k.2=true->k.1=[]
theorem ku {k:AN} (h:Ey k):Dd k=some false:=by
 rw [OL];cases a:k.2 with
 | true=>simp [h a]
 | false=>rfl
theorem Bo (l:List AD) (i:Nat):Ey (kx l i):=by
 unfold kx Ey;split<;>simp
theorem HO {l:List AN} (h : ∀ k∈l,Ey k) (b:l≠[]) (e:l.length<=32):Dq l=some 0:=by
 unfold Dq;simp only [AX,AR];rw [A2,Am,if_neg (by have:=List.length_pos_iff.2 b;omega),if_neg (by omega)]
 rw [NQ (l:=l) (σ:=Unit) (s:=(0,0)) (λk _=>((0:Int),(k:Int))) (λ_ _ _=>some (1,((0,(l.length:Int)),()))) () rfl (by omega) (λd=>by
  simp only;rw [re];rfl) (λk x m d _ a c => .inl ⟨(),by
   simp only;rw [rl c,AU,AE,AL a,ku (h x (List.mem_of_getElem? a)),AB,Av,Ao a (by omega)],rfl⟩),AB]
 rfl
theorem Ku {α:Type} {l:List α} (h:l.length<=1048576):(gd (BP (AA l) 1048576) λ_=>some l)=some l:=Bj h _
theorem Uz (p q:AN):FY [p,q]=some (Tt p q):=by
 have g:w0 p q=(if p.2≠q.2 then q.2 else if p.1≠q.1 then Cy p.1 q.1 else true):=rfl
 unfold FY;simp only [AX,AR,List.length_cons,List.length_nil];rw [show Pd .i64 2 ((0+1+1:Nat):Int)=4 from rfl,show CA .i64 4 1=3 from rfl];unfold Ar;rw [show AT 4=λk=>k 4 from rfl];simp only [Bj (show 4<=1048576 by omega),Ku (show [p,q].length<=1048576 by simp),AB];rw [show AT ((0+1+1:Nat):Int)=λk=>k 2 from rfl];simp only [Bj (show 2<=1048576 by omega)];have i : ∀ {w l:Int} {x:Nat×((Int×(List Int×(List AN×(List Int×Int))))×Unit)},x=(0,((0,([0,w,0,1],([p,q],([0,l],0)))),()))->(gd (C7 1 (AA x.2.1.2.1)) λ_=>ix x.2.1.2.1 1 λc=>some ((x.2.1.2.2.1,(x.2.1.2.2.2.1,c))))=some ([p,q],([0,l],w)):=λe=>by subst e;rfl
 have r : ∀ {f:(Int×(List Int×(List AN×(List Int×Int))))->Option (LR (Int×(List Int×(List AN×(List Int×Int)))) (Nat×((Int×(List Int×(List AN×(List Int×Int))))×Unit)))} {w l:Int},f (3,([0,0,0,0],([p,q],([0,0],0))))=some (.nx (2,([0,0,0,1],([p,q],([0,0],0)))))->f (2,([0,0,0,1],([p,q],([0,0],0))))=some (.nx (1,([0,0,0,1],([p,q],([0,0],0))))) ->
   f (1,([0,0,0,1],([p,q],([0,0],0))))=some (.nx (0,([0,w,0,1],([p,q],([0,l],0)))))->f (0,([0,w,0,1],([p,q],([0,l],0))))=some (.dn (0,((0,([0,w,0,1],([p,q],([0,l],0)))),()))) ->
   loop f (3,([0,0,0,0],([p,q],([0,0],0))))=some (0,((0,([0,w,0,1],([p,q],([0,l],0)))),())):=λa b o j =>
  Cm (n:=4) (by omega) ((BL a).trans ((BL b).trans ((BL o).trans (BY j))))
 have m : ∀ {β:Type} (A B:Option β),w0 p q=true->br (Ad (beq p.2 q.2)) (λ_=>br (Ad q.2) (λ_=>B) λ_=>A) (λ_=>br (Ad (seq p.1 q.1)) (λ_=>br (Ad (Cy p.1 q.1)) (λ_=>B) λ_=>A) λ_=>A)=A:=fun {β} A B h=>by
  rw [g] at h;rw [BX (beq p.2 q.2),Es (beq p.2 q.2),BX q.2,Es q.2,BX (seq p.1 q.1),FL,BX (Cy p.1 q.1),HM];by_cases a:p.2=q.2
  ·rw [if_neg (by simp [a])] at h;rw [if_pos (by simp [Sv.beq,a])];by_cases b:p.1=q.1
   ·rw [if_pos b]
   ·rw [if_neg b];rw [if_pos b] at h;rw [if_pos h]
  ·rw [if_pos a] at h;rw [if_neg (by simp [Sv.beq,a]),if_pos h]
 have d : ∀ {β:Type} (A B:Option β),w0 p q≠true->br (Ad (beq p.2 q.2)) (λ_=>br (Ad q.2) (λ_=>B) λ_=>A) (λ_=>br (Ad (seq p.1 q.1)) (λ_=>br (Ad (Cy p.1 q.1)) (λ_=>B) λ_=>A) λ_=>A)=B:=fun {β} A B h=>by
  rw [g] at h;rw [BX (beq p.2 q.2),Es (beq p.2 q.2),BX q.2,Es q.2,BX (seq p.1 q.1),FL,BX (Cy p.1 q.1),HM];by_cases a:p.2=q.2
  ·rw [if_neg (by simp [a])] at h;rw [if_pos (by simp [Sv.beq,a])];by_cases b:p.1=q.1
   ·rw [if_neg (by simp [b])] at h;exact absurd rfl h
   ·rw [if_neg b];rw [if_pos b] at h;rw [if_neg h]
  ·rw [if_pos a] at h;rw [if_neg (by simp [Sv.beq,a]),if_neg h]
 rw [show D2 4 (0:Int)=[0,0,0,0] from rfl,show D2 2 (0:Int)=[0,0] from rfl];by_cases h:w0 p q=true
 ·refine BH (x:=(0,((0,([0,0,0,1],([p,q],([0,1],0)))),()))) ?_ ?_;refine Cm (n:=4) (by omega) ?_;refine (BL (s':=(2,([0,0,0,1],([p,q],([0,0],0))))) ?_).trans ((BL (s':=(1,([0,0,0,1],([p,q],([0,0],0))))) ?_).trans ((BL (s':=(0,([0,0,0,1],([p,q],([0,1],0))))) ?_).trans (BY ?_)))
  ·rfl
  ·rfl
  ·exact m _ _ h
  ·rfl
  ·show some ([p,q],([0,1],0))=_;unfold Tt;simp [h]
 ·refine BH (x:=(0,((0,([0,1,0,1],([p,q],([0,0],0)))),()))) ?_ ?_;refine Cm (n:=4) (by omega) ?_;refine (BL (s':=(2,([0,0,0,1],([p,q],([0,0],0))))) ?_).trans ((BL (s':=(1,([0,0,0,1],([p,q],([0,0],0))))) ?_).trans ((BL (s':=(0,([0,1,0,1],([p,q],([0,0],0))))) ?_).trans (BY ?_)))
  ·rfl
  ·rfl
  ·exact d _ _ h
  ·rfl
  ·show some ([p,q],([0,0],1))=_;unfold Tt;simp [h]
theorem OM {p q:AN} (a:Ey p) (b:Ey q):Cg [p,q]=some (Tt p q,0):=by
 unfold Cg;rw [HO (by simp [a,b]) (by simp) (by simp),AB,AP,if_pos rfl,Uz,AB]
theorem Wb {p q:AN} (c:Ey p) (b:Ey q):Fq (Tt p q)=some (0,0):=by
 unfold Fq;rw [show (Tt p q).1=[p,q] from rfl,HO (by simp [c,b]) (by simp) (by simp),AB,AP,if_pos rfl,AP,if_pos (show Ab (AA (Tt p q).2.1)=Ab (AA [p,q]) from rfl),Uz,AB];simp only [AX,AR]
 rw [NQ (l:=(Tt p q).2.1) (σ:=Unit) (s:=(0,(0,0))) (λk _=>((0:Int),((k:Int),(0:Int)))) (λ_ _ _=>some (1,((0,(((Tt p q).2.1.length:Int),0)),()))) () rfl (show 2<=9223372036854775807 by omega) (λe=>by
  simp only;rw [re];rfl) (λk x m e _ a d => .inl ⟨(),by
   simp only;rw [rl d,AU,AE,AL a,AE,AL a,AP,if_pos rfl,Ao a (show 2<=9223372036854775807 by omega)],rfl⟩),AB]
 rw [show neq 1 0=false from rfl,Av,AP,if_pos rfl]
def wn (p q:AN):Nat:=if w0 p q=true then 0 else 1
def wk (p q:AN):AN:=if w0 p q=true then p else q
theorem Wc (p q:AN):(Tt p q).2.2=(wn p q:Int):=by unfold Tt wn;split<;>rfl
theorem Wd (p q:AN):(Tt p q).1[wn p q]? = some (wk p q):=by unfold Tt wn wk;split<;>rfl
theorem U0 {p q:AN} (a:Ey p) (b:Ey q):Fa (Tt p q)=some (if (wk p q).2=true then 12 else 0):=by
 unfold Fa;rw [Wb a b,AB,AP,if_pos rfl,Wc,AE,AL (Wd p q),Es];split<;>rfl
theorem IS {p q:AN} (a:Ey p) (b:Ey q):Cr (Tt p q)=some (if (wk p q).2=true then (0,([],12)) else ((wn p q:Int),((wk p q).1,0))):=by
 unfold Cr;rw [U0 a b,AB,AP,Wc,AE,AL (Wd p q)];by_cases h:(wk p q).2=true<;>simp [h]
def rk (p q k:AN):AN×AN:=if w0 p q=true then (k,q) else (p,k)
theorem dY (p q:AN):Bm (0,(1,([p,q],())))=some (w0 p q):=by
 unfold Bm w0;show br (Ad (beq p.2 q.2)) (λ_=>some q.2) (λ_=>br (Ad (seq p.1 q.1)) (λ_=>some (Cy p.1 q.1)) λ_=>some (Ak 0 1))=_;rw [BX (beq p.2 q.2),Es (beq p.2 q.2),BX (seq p.1 q.1),FL];by_cases b:p.2=q.2
 ·rw [if_pos (show Sv.beq p.2 q.2=true by simp [Sv.beq,b]),if_neg (show ¬ p.2≠q.2 by simp [b])];by_cases a:p.1=q.1
  ·rw [if_pos a,if_neg (show ¬ p.1≠q.1 by simp [a])];rfl
  ·rw [if_neg a,if_pos a]
 ·rw [if_neg (show ¬ Sv.beq p.2 q.2=true by simp [Sv.beq,b]),if_pos b]
theorem dZ (p q:AN):Bm (1,(0,([p,q],())))=some (!w0 p q):=by
 unfold Bm w0;show br (Ad (beq q.2 p.2)) (λ_=>some p.2) (λ_=>br (Ad (seq q.1 p.1)) (λ_=>some (Cy q.1 p.1)) λ_=>some (Ak 1 0))=_;rw [BX (beq q.2 p.2),Es (beq q.2 p.2),BX (seq q.1 p.1),FL];by_cases b:p.2=q.2
 ·rw [if_pos (show Sv.beq q.2 p.2=true by simp [Sv.beq,b]),if_neg (show ¬ p.2≠q.2 by simp [b])];by_cases a:p.1=q.1
  ·rw [if_pos a.symm,if_neg (show ¬ p.1≠q.1 by simp [a])];rfl
  ·rw [if_neg (show ¬ q.1=p.1 from λe=>a e.symm),if_pos a];cases hs:Cy p.1 q.1 with
   | true=>rw [C3 hs];rfl
   | false=>rw [MO hs a];rfl
 ·rw [if_neg (show ¬ Sv.beq q.2 p.2=true by simp [Sv.beq,Ne.symm b]),if_pos b];cases c:p.2<;>cases d:q.2<;>simp_all
theorem Io {p q k:AN} (C:Ey p) (x:Ey q) (z:Ey k) (D:(wk p q).2=false) (l:k.2=true\/Cy k.1 (wk p q).1=false) :
  ∃ n,CX (Tt p q,k)=some (Tt (rk p q k).1 (rk p q k).2,(n,0)):=by
 have i:(Tt p q).1.length<=1048576:=by show 2<=_;omega
 have d:(Tt p q).2.1.length<=1048576:=by show 2<=_;omega
 have g:lset (Tt p q).1 (wn p q) k=[(rk p q k).1,(rk p q k).2]:=by unfold Tt wn rk;split<;>rfl
 have b:(Tt p q).2.1=[0,(1-(wn p q:Int))]:=by unfold Tt wn;split<;>rfl
 have r:wn p q=0\/wn p q=1:=by unfold wn;split<;>simp
 have up : ∀ {f:(Int×(Int×(Unit×(List Int×Int))))->Option (LR (Int×(Int×(Unit×(List Int×Int)))) (Nat×((Int×(Int×(Unit×(List Int×Int))))×Unit)))},
   (f=λa=>br (A8 (IY .i64 a.2.1 2) 0) (λ_=>some (.dn ((0,((a.1,(IY .i64 a.2.1 2,((),a.2.2.2))),()))))) λ_=>AT (IY .i64 a.2.1 2) λu=>gd (C7 u (AA a.2.2.2.1)) λ_=>ix a.2.2.2.1 u λo=>bd (Bm ((o,(a.2.2.2.2,([(rk p q k).1,(rk p q k).2],()))))) λt=>br t (λ_=>AT (IY .i64 a.2.1 2) λj=>gd (C7 j (AA a.2.2.2.1)) λ_=>ix a.2.2.2.1 j λm=>AT (IY .i64 a.2.1 2) λe=>gd (C7 e (AA a.2.2.2.1)) λ_=>ix a.2.2.2.1 e λy=>some (.nx ((AI .i64 a.1 1,(IY .i64 a.2.1 2,((),(lset a.2.2.2.1 e a.2.2.2.2,m))))))) λ_=>some (.nx ((AI .i64 a.1 1,(IY .i64 a.2.1 2,((),a.2.2.2))))))
   -> loop f (0,((2:Int)+wn p q,((),([0,(1-(wn p q:Int))],(wn p q:Int)))))=some (0,((1,(0,((),(Tt (rk p q k).1 (rk p q k).2).2))),())):=by
  intro f B;subst B;refine Cm (n:=2) (by omega) ((BL (s':=(1,(1,((),(Tt (rk p q k).1 (rk p q k).2).2)))) ?_).trans (BY rfl));rcases r with h | h
  ·rw [h]
   have A:w0 p q=true:=by
    unfold wn at h;by_cases hh:w0 p q=true
    ·exact hh
    ·rw [if_neg hh] at h;cases h
   show bd (Bm (1,(0,([(rk p q k).1,(rk p q k).2],())))) _=_;rw [dZ,AB];unfold Tt;cases w:w0 (rk p q k).1 (rk p q k).2<;>rfl
  ·rw [h];show bd (Bm (0,(1,([(rk p q k).1,(rk p q k).2],())))) _=_;rw [dY,AB];unfold Tt;cases w:w0 (rk p q k).1 (rk p q k).2<;>rfl
 unfold CX;simp only [U0 C x,D,AB,AP,if_true,if_false,Bool.false_eq_true];rw [HO (by simp [z]) (by simp) (by simp),AB];simp only [if_true,BX];rw [Es];unfold Ar A7;simp only [Wc,AE,AL (Wd p q),Bj i,Bj d,AB,HM,Kq,AR,AX,g];have s:wn p q<(Tt p q).1.length:=by show wn p q<2;omega
 have hi:AI .i64 (([(rk p q k).1,(rk p q k).2].length:Nat):Int) (wn p q:Int)=(2:Int)+wn p q:=by
  rw [DV (by simp;omega)];rfl
 rw [hi,b];simp only [AR,Kq] at up;have key:=up rfl;rw [if_pos s];by_cases c:k.2=true
 ·rw [if_pos c,key,AB];exact ⟨_,rfl⟩
 ·rw [if_neg c,if_neg (by rcases l with h | h;exact absurd h c;rw [h];simp),key,AB]
  exact ⟨_,rfl⟩
end Go.Proofs.YtfilfloanndddaaGreat.Pl
