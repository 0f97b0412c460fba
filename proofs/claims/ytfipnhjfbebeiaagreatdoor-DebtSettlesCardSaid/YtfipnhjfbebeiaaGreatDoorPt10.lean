/- The evaluator comes to each of the plain functions. No condition. -/
import Derived.Test.YtfipnhjfbebeiaaGreatDoorPt9
set_option linter.all false
namespace Go.Proofs.YtfipnhjfbebeiaaGreatDoor.Pt
open Go Sv Pl
set_option maxRecDepth 1000000
def wI:tA:=[(17,2,2,.loop { keep:=[0,1],kb:=[],pl:=[.slot 5 false zJ,.slot 4 false .bool],ex:=[(.ret,[]),(.exit 0,[])],pay:=.unit })]
def un:Sg:=⟨[(false,(.sl true T2)),(false,(.sl true T2))],[(false,.bool)],Vs⟩
theorem zj:tE fu wI 17 un:=fun _=>by kernel_rfl
def fw:tL:=(17,un)::fu
theorem jE:tO fw:=SY jD zj
def qV:Sg:=⟨[(true,T3),(true,T3)],[(false,.bool)],Wi⟩
theorem w7:tE fw [] 110 qV:=fun _=>by kernel_rfl
def fx:tL:=(110,qV)::fw
theorem jF:tO fx:=SY jE w7
def we:tA:=[(65,4,7,.loop { keep:=[0,1,7,9,8,6,10],kb:=[],pl:=[.slot 5 false zJ,.slot 4 false .bool],ex:=[(.ret,[]),(.exit 0,[])],pay:=.unit })]
def vU:Sg:=⟨[(false,(.sl true T3)),(false,(.sl true T3))],[(false,.bool)],WR⟩
theorem e65:tE fx we 65 vU:=fun _=>by kernel_rfl
def fy:tL:=(65,vU)::fx
theorem jG:tO fy:=SY jF e65
def wP:tA:=[(29,4,18,.loop { keep:=[0,1,3,7,15,11,19,9,17,13,2,8,16,12,6,10,18,14],kb:=[0,1],pl:=[.slot 5 false zJ,.slot 4 false .bool],ex:=[(.ret,[]),(.exit 0,[])],pay:=.unit })]
def uy:Sg:=⟨[(true,T4),(true,T4)],[(false,.bool)],Xu⟩
theorem zu:tE fy wP 29 uy:=fun _=>by kernel_rfl
def f8:tL:=(29,uy)::fy
theorem jH:tO f8:=SY jG zu
def uz:Sg:=⟨[(true,Z5),(true,Z5)],[(false,.bool)],Wk⟩
theorem zw:tE f8 [] 30 uz:=fun _=>by kernel_rfl
def f9:tL:=(30,uz)::f8
theorem jI:tO f9:=SY jH zw
def wF:tA:=[(10,4,26,.loop { keep:=[0,1,3,7,15,23,11,19,27,9,17,25,13,21,2,8,16,24,12,20,6,10,18,26,14,22],kb:=[0,1],pl:=[.slot 5 false zJ,.slot 4 false .bool],ex:=[(.ret,[]),(.exit 0,[])],pay:=.unit })]
def ug:Sg:=⟨[(true,Yu),(true,Yu)],[(false,.bool)],XE⟩
theorem zd:tE f9 wF 10 ug:=fun _=>by kernel_rfl
def gA:tL:=(10,ug)::f9
theorem jJ:tO gA:=SY jI zd
def wW:tA:=[(43,2,3,.loop { keep:=[0,1,3,4],kb:=[0],pl:=[.slot 5 false zJ],ex:=[(.exit 0,[])],pay:=.unit })]
def vG:Sg:=⟨[(false,(.sl true T2)),(true,T2)],[(false,(.sl true T2))],Xe⟩
theorem e43:tE gA wW 43 vG:=fun _=>by kernel_rfl
def gB:tL:=(43,vG)::gA
theorem jK:tO gB:=SY jJ e43
def wJ:tA:=[(18,4,11,.loop { keep:=[0,1,3,11,13,2,4,12,10,14],kb:=[0],pl:=[.slot 5 false (.sl true T2),.slot 6 false zJ],ex:=[(.exit 0,[])],pay:=.unit }),(18,7,17,.loop { keep:=[0,1,3,15,11,17,13,2,4,16,12,6,10,18,14],kb:=[0,11],pl:=[.slot 7 false zJ,.slot 5 false (.sl true T2)],ex:=[(.exit 2,[])],pay:=.unit,relS:=[5] }),(18,12,14,.loop { keep:=[0,1,3,11,5,13,2,4,12,6,10,14],kb:=[0,11],pl:=[.slot 9 false zJ,.srow 8 true T2 false],ex:=[],pay:=.unit }),(18,7,16,.loop { keep:=[0,1,3,15,11,17,13,2,4,16,12,6,10,18,14],kb:=[0],pl:=[.slot 7 false zJ,.slot 5 false (.sl true T2)],ex:=[(.exit 2,[])],pay:=.unit }),(18,12,13,.loop { keep:=[0,1,3,11,5,13,2,4,12,6,10,14],kb:=[0],pl:=[.slot 9 false zJ,.srow 8 true T2 false],ex:=[(.exit 4,[])],pay:=.unit })]
def uo:Sg:=⟨[(true,T4)],[(false,(.sl true T2))],Xd⟩
theorem zk:tE gB wJ 18 uo:=fun _=>by kernel_rfl
def kc:tL:=(18,uo)::gB
theorem jL:tO kc:=SY jK zk
def zY:tA:=[(4,14,102,.loop { keep:=[0,1,3,7,31,63,95,47,79,23,39,71,103,55,87,11,19,35,67,99,51,83,27,43,75,59,91,5,9,33,65,97,49,81,25,41,73,57,89,21,37,69,101,53,85,29,45,77,61,93,4,8,32,64,96,48,80,24,40,72,104,56,88,12,20,36,68,100,52,84,28,44,76,60,92,6,10,18,34,66,98,50,82,26,42,74,58,90,22,38,70,102,54,86,30,78,62,94],kb:=[0,59],pl:=[.slot 13 false zJ,.slot 2 false .bool],ex:=[(.ret,[]),(.exit 0,[])],pay:=.unit })]
theorem e4 (x:AP [(true,Yu)]):OU Tryz.prog (Ae pu kc) (RM zY) 3000 60 4 [(true,Yu)] [(false,.bool)] x=VI x:=by kernel_rfl
theorem YP {x:AP [(true,Yu)]} (h:VI x=some true) {ps:List Pi.PV} (c:Df [(true,Yu)] x ps) {M:Pi.Ap} (gl:Pi.GlOK M) {w:World} (b : ∀ a v,M a=some v->a.spot=none/\w.cell? a=some v) {vs:List Value} (d:Pi.RepL M Pi.mu0 ps vs) :
  Calls Tryz.prog 4 vs.toArray w λe w'=>e = .returned (.bool true)/\RowKit.Grown w w':=R0 Gv.prim jL ((e4 x).trans h) c gl b d
end Go.Proofs.YtfipnhjfbebeiaaGreatDoor.Pt
