/- The evaluator comes to each of the plain functions. No condition. -/
import Derived.Test.YtfipnhjfbebeiabGreatDoorPt8
set_option linter.all false
namespace Go.Proofs.YtfipnhjfbebeiabGreatDoor.Pt
open Go Sv Pl
set_option maxRecDepth 1000000
def vX:Sg:=⟨[(true,Ye),zI,zI],[(true,Ye),zI,zI],YG⟩
theorem e46:tE fj [] 46 vX:=fun _=>by kernel_rfl
def fm:tL:=(46,vX)::fj
theorem i9:tO fm:=SY i8 e46
def uJ:tA:=[(151,5,30,.loop { keep:=[0,1,3,7,15,31,23,11,19,27,9,17,25,13,21,29,2,16,32,24,12,20,28,6,10,18,26,14,22,30],kb:=[0,1,12,10],pl:=[.slot 8 false zJ],ex:=[(.exit 0,[])],pay:=.unit })]
def rH:Sg:=⟨[(true,T4),zI,(false,(.sl true T3))],[(true,T4)],V2⟩
theorem xi:tE fm uJ 151 rH:=fun _=>by kernel_rfl
def fo:tL:=(151,rH)::fm
theorem jA:tO fo:=SY i9 xi
def wK:Sg:=⟨[(true,T4),zI],[(true,T4),(false,(.sl true T3)),zI],Vr⟩
theorem e97:tE fo [] 97 wK:=fun _=>by kernel_rfl
def fq:tL:=(97,wK)::fo
theorem jB:tO fq:=SY jA e97
def xE:tA:=[(174,1,31,.loop { keep:=[0,1,7,8,6],kb:=[0,1,25,21,26],pl:=[.slot 9 false zJ,.box 2 [.lf zJ,.ow true (.sl true T3) false],.box 3 [.lf zJ]],ex:=[(.exit 0,[(26,0,none)]),(.ret,[(26,2,some .ret)])],pay:=.unit }),(174,4,41,.loop { keep:=[0,1,7,15,11,9,13,4,8,16,12,6,10,14],kb:=[0,1,3,25,21,34,26],pl:=[.slot 5 false zJ,.box 2 [.lf zJ,.ow true (.sl true T3) false]],ex:=[(.exit 2,[(26,0,none)])],pay:=.unit }),(174,4,42,.loop { keep:=[0,1,7,15,11,9,13,4,8,16,12,6,10,14],kb:=[0,1,35,25,21,26],pl:=[.slot 5 false zJ,.box 2 [.lf zJ,.ow true (.sl true T3) false],.box 3 [.lf zJ]],ex:=[(.exit 2,[(26,0,none)]),(.ret,[(26,2,some .ret)])],pay:=.unit })]
def wL:Sg:=⟨[(true,T4),zI,(true,T3)],[(true,T4),zI],Ub⟩
theorem e98:tE fq xE 98 wL:=fun _=>by kernel_rfl
def ft:tL:=(98,wL)::fq
theorem jC:tO ft:=SY jB e98
def rI:Sg:=⟨[(true,T4),zI],[(true,Z7),zI],Xj⟩
theorem xj:tE ft [] 153 rI:=fun _=>by kernel_rfl
def fu:tL:=(153,rI)::ft
theorem jD:tO fu:=SY jC xj
def xF:tA:=[(99,3,10,.loop { keep:=[0,1,3,19,5,9,21,2,4,8,20,10,22],kb:=[0,1,2],pl:=[.slot 23 false zJ,.map 4 zJ true Z7],ex:=[(.exit 0,[])],pay:=.unit }),(99,10,22,.loop { keep:=[0,1,3,23,39,19,35,5,33,13,21,37,2,4,8,32,20,36,10,34,22,38],kb:=[0,1,4],pl:=[.slot 9 false zJ,.slot 40 false zJ,.box 2 [.lf zJ,.ow true (.sl true T3) false,.ow true Z7 false,.lf zJ],.box 16 [.lf zJ,.lf (.sl true (.sl true T3)),.ow true Z7 false,.lf zJ]],ex:=[(.exit 2,[]),(.ret,[])],pay:=.unit })]
def wM:Sg:=⟨[(true,Ye),(true,T4),zI,zI],[(true,Ye),zI],UO⟩
theorem e99:tE fu xF 99 wM:=fun _=>by kernel_rfl
def fw:tL:=(99,wM)::fu
theorem jE:tO fw:=SY jD e99
def vY:Sg:=⟨[(true,Ye),zI],[(true,Ye),zI],WC⟩
theorem e47:tE fw [] 47 vY:=fun _=>by kernel_rfl
def fx:tL:=(47,vY)::fw
theorem jF:tO fx:=SY jE e47
def uy:Sg:=⟨[(true,Ye),zI],[(true,Ye),(false,.bool),zI],Ur⟩
theorem zk:tE fx [] 12 uy:=fun _=>by kernel_rfl
def fy:tL:=(12,uy)::fx
theorem jG:tO fy:=SY jF zk
def wi:tA:=[(135,3,25,.loop { keep:=[0,1,5,2,4,6],kb:=[0,3,19,9,18,14],pl:=[.box 13 [.lf zJ,.lf (.sl true (.sl true T3)),.lf (.sl true Z7),.lf zJ],.box 22 [.er 306 0 150 .i64],.box 20 [.lf zJ],.box 2 [.lf zJ,.lf (.sl true (.sl true T3)),.lf (.sl true Z7),.lf zJ],.box 1 [.lf zJ]],ex:=[(.ret,[(19,0,none)]),(.ret,[(19,2,some (.exit 0))])],pay:=.unit })]
def vQ:Sg:=⟨[(true,Ye),zI],[(true,Ye),zI,zI],Wo⟩
theorem e39:tE fy wi 39 vQ:=fun _=>by kernel_rfl
def f8:tL:=(39,vQ)::fy
theorem jH:tO f8:=SY jG e39
def zW:Sg:=⟨[(true,Ye),zI],[(true,Ye),zI,zI],Wn⟩
theorem e9:tE f8 [] 9 zW:=fun _=>by kernel_rfl
def f9:tL:=(9,zW)::f8
theorem jI:tO f9:=SY jH e9
def vK:Sg:=⟨[(true,Ye)],[(true,Ye),zI,zI],XQ⟩
theorem e36:tE f9 [] 36 vK:=fun _=>by kernel_rfl
def gA:tL:=(36,vK)::f9
theorem jJ:tO gA:=SY jI e36
def vN:Sg:=⟨[(true,Ye)],[(false,.bool),zI],ZB⟩
theorem e37:tE gA [] 37 vN:=fun _=>by kernel_rfl
def gB:tL:=(37,vN)::gA
theorem jK:tO gB:=SY jJ e37
def zV:Sg:=⟨[],[(false,.bool)],Us⟩
theorem e8:tE gB [] 8 zV:=fun _=>by kernel_rfl
def gC:tL:=(8,zV)::gB
theorem jL:tO gC:=SY jK e8
def zg:tA:=[(7,3,4,.loop { keep:=[0,1,2],kb:=[0],pl:=[.slot 3 false zJ,.slot 4 false zJ],ex:=[(.exit 0,[])],pay:=.unit }),(7,6,11,.loop { keep:=[0,1,7,11,9,2,4,8,6,10],kb:=[0],pl:=[.slot 3 false zJ,.slot 5 false zJ],ex:=[(.exit 2,[])],pay:=.unit })]
def zT:Sg:=⟨[(true,Ye)],[(false,.bool)],YH⟩
theorem e7:tE gC zg 7 zT:=fun _=>by kernel_rfl
def gD:tL:=(7,zT)::gC
theorem jM:tO gD:=SY jL e7
end Go.Proofs.YtfipnhjfbebeiabGreatDoor.Pt
