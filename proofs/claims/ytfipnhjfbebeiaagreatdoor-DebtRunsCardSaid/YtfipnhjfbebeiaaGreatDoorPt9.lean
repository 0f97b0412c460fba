/- The evaluator comes to each of the plain functions. No condition. -/
import Derived.Test.YtfipnhjfbebeiaaGreatDoorPt8
set_option linter.all false
namespace Go.Proofs.YtfipnhjfbebeiaaGreatDoor.Pt
open Go Sv Pl
set_option maxRecDepth 1000000
def xc:tA:=[(76,7,18,.loop { keep:=[0,15,11,19,5,17,13,16,12,20,6,14],kb:=[],pl:=[.srow 3 false zJ false,.srow 7 true T2 false,.srow 2 true T2 false,.slot 4 false zJ,.srow 8 false zJ false,.srow 9 false zJ true],ex:=[(.ret,[])],pay:=.unit,plx:=[.srow 3 false zJ false,.srow 2 true T2 false,.slot 4 false zJ] })]
def wY:Sg:=⟨[(false,(.sl false (.sl true T2)))],[(false,(.sl true T2)),(false,(.sl false zJ)),zI],Ww⟩
theorem e76:tE fO xc 76 wY:=fun _=>by kernel_rfl
def fQ:tL:=(76,wY)::fO
theorem jE:tO fQ:=SY jD e76
def sW:Sg:=⟨[(true,pn)],[zI],Xa⟩
theorem zG:tE fQ [] 171 sW:=fun _=>by kernel_rfl
def fR:tL:=(171,sW)::fQ
theorem jF:tO fR:=SY jE zG
def sC:Sg:=⟨[(true,pn),(true,T2)],[(false,.bool),(true,pn),zI],Xw⟩
theorem yf:tE fR [] 143 sC:=fun _=>by kernel_rfl
def fS:tL:=(143,sC)::fR
theorem jG:tO fS:=SY jF yf
def uV:tA:=[(119,6,12,.loop { keep:=[0,1,7,15,17,13,16,14],kb:=[],pl:=[.slot 5 false zJ,.slot 9 false zJ,.srow 4 true T2 false,.srow 8 true T2 false,.slot 6 false zJ,.box 8 [.lf .bool,.lf .str,.lf .bool]],ex:=[(.ret,[]),(.exit 0,[])],pay:=.unit })]
def rQ:Sg:=⟨[(false,(.sl true T2)),(false,.bool)],[(false,(.sl true T2)),zI,zI],XC⟩
theorem yL:tE fS uV 119 rQ:=fun _=>by kernel_rfl
def fT:tL:=(119,rQ)::fS
theorem jH:tO fT:=SY jG yL
def wZ:Sg:=⟨[(false,(.sl true T2)),(false,.bool)],[(false,(.sl true T2)),(true,pn)],Vp⟩
theorem e77:tE fT [] 77 wZ:=fun _=>by kernel_rfl
def fU:tL:=(77,wZ)::fT
theorem jI:tO fU:=SY jH e77
def xe:tA:=[(79,4,7,.loop { keep:=[0,1,7,9,8,6,10],kb:=[],pl:=[.slot 5 false zJ,.slot 4 false .bool],ex:=[(.ret,[]),(.exit 0,[])],pay:=.unit })]
def wb:Sg:=⟨[(false,(.sl true T2)),(false,(.sl true T2))],[(false,.bool)],Uy⟩
theorem e79:tE fU xe 79 wb:=fun _=>by kernel_rfl
def fV:tL:=(79,wb)::fU
theorem jJ:tO fV:=SY jI e79
def wU:Sg:=⟨[(true,dl)],[zI],Xc⟩
theorem e72:tE fV [] 72 wU:=fun _=>by kernel_rfl
def fW:tL:=(72,wU)::fV
theorem jK:tO fW:=SY jJ e72
def xX:tA:=[(73,6,14,.loop { keep:=[0,1,3,11,5,9,13,2,4,8,12,10,14],kb:=[0],pl:=[.slot 7 false zJ,.slot 6 false zJ],ex:=[(.exit 0,[])],pay:=.unit })]
def wV:Sg:=⟨[(true,T9)],[zI,zI],Xu⟩
theorem e73:tE fW xX 73 wV:=fun _=>by kernel_rfl
def fX:tL:=(73,wV)::fW
theorem jL:tO fX:=SY jK e73
def vu:Sg:=⟨[(true,dl)],[zI,zI],UR⟩
theorem e37:tE fX [] 37 vu:=fun _=>by kernel_rfl
def fY:tL:=(37,vu)::fX
theorem jM:tO fY:=SY jL e37
def wX:Sg:=⟨[(true,T9)],[(true,T2),zI,(true,T9),zI],WS⟩
theorem e75:tE fY [] 75 wX:=fun _=>by kernel_rfl
def fZ:tL:=(75,wX)::fY
theorem jN:tO fZ:=SY jM e75
def xI:tA:=[(38,11,32,.loop { keep:=[0,1,7,15,31,23,39,19,35,27,5,9,17,33,25,21,37,2,4,8,16,32,24,20,36,6,10,18,34,26,22,30],kb:=[0,1],pl:=[.slot 11 false zJ,.box 29 [.lf (.sl false (.sl true T2)),.lf (.sl false zJ),.lf (.sl true T5),.lf (.sl false zJ),.lf zJ,.lf .bool,.lf .str,.lf .bool,.lf (.sl true T2),.lf zJ]],ex:=[(.exit 0,[])],pay:=.unit })]
def vw:Sg:=⟨[(true,dl),zI],[(true,dl),zI,zI],UI⟩
theorem e38:tE fZ xI 38 vw:=fun _=>by kernel_rfl
def fa:tL:=(38,vw)::fZ
theorem jO:tO fa:=SY jN e38
def xd:tA:=[(78,4,27,.loop { keep:=[0,1,3,7,15,23,11,19,27,9,17,25,13,21,2,8,16,24,12,20,28,6,10,18,26,14,22],kb:=[0,1],pl:=[.slot 5 false zJ,.slot 4 false .bool],ex:=[(.ret,[]),(.exit 0,[])],pay:=.unit })]
def wa:Sg:=⟨[(true,T9),(true,T9)],[(false,.bool)],Xv⟩
theorem e78:tE fa xd 78 wa:=fun _=>by kernel_rfl
def fb:tL:=(78,wa)::fa
theorem jP:tO fb:=SY jO e78
def vz:Sg:=⟨[(true,dl),(true,dl)],[(false,.bool)],UX⟩
theorem e39:tE fb [] 39 vz:=fun _=>by kernel_rfl
def fc:tL:=(39,vz)::fb
theorem jQ:tO fc:=SY jP e39
def wz:tA:=[(13,10,42,.loop { keep:=[0,1,7,31,23,39,19,35,27,43,5,17,33,49,25,41,21,37,29,45,4,16,32,48,24,40,20,36,28,44,6,18,34,50,26,42,22,38,30,46],kb:=[0],pl:=[.slot 3 false zJ,.slot 2 false zJ,.slot 8 false zJ],ex:=[(.ret,[]),(.exit 0,[])],pay:=.unit })]
def vN:Sg:=⟨[(true,XL)],[zI,zI],U4⟩
theorem e13:tE fc wz 13 vN:=fun _=>by kernel_rfl
def fe:tL:=(13,vN)::fc
theorem jR:tO fe:=SY jQ e13
end Go.Proofs.YtfipnhjfbebeiaaGreatDoor.Pt
