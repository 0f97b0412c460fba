/- The evaluator comes to each of the plain functions. No condition. -/
import Derived.Test.YtfipnhjfbebeiabGreatDoorPt6
set_option linter.all false
namespace Go.Proofs.YtfipnhjfbebeiabGreatDoor.Pt
open Go Sv Pl
set_option maxRecDepth 1000000
def u3:Sg:=⟨[(true,gm)],[zI,zI,zI],VP⟩
theorem zu:tE o9 [] 16 u3:=fun _=>by kernel_rfl
def pB:tL:=(16,u3)::o9
theorem pC:tO pB:=SY pA zu
def wb:tA:=[(19,8,54,.loop { keep:=[0,1,7,15,23,11,19,27,5,17,25,13,21,29,2,4,16,24,12,28,6,18,26,14,22],kb:=[0,11,36],pl:=[.srow 8 false zJ false,.slot 30 false zJ],ex:=[(.exit 1,[])],pay:=.unit }),(19,8,72,.loop { keep:=[0,1,7,15,23,11,19,27,5,17,25,13,21,29,2,4,16,24,12,28,6,18,26,14,22],kb:=[0,11,22,54],pl:=[.srow 8 false zJ false,.slot 30 false zJ],ex:=[(.exit 1,[])],pay:=.unit }),(19,8,90,.loop { keep:=[0,1,7,15,23,11,19,27,5,17,25,13,21,29,2,4,16,24,12,28,6,18,26,14,22],kb:=[0,11,72,22],pl:=[.srow 8 false zJ false,.slot 30 false zJ],ex:=[(.exit 1,[])],pay:=.unit }),(110,3,112,.loop { keep:=[0,15,11,9,13,2,8,12,10,14],kb:=[0,11,72,90,22,94],pl:=[.slot 3 false .bool,.slot 16 false zJ],ex:=[(.exit 0,[])],pay:=.unit }),(110,7,131,.loop { keep:=[0,3,15,31,23,11,19,27,5,9,17,25,13,21,29,2,4,8,16,24,12,20,28,10,18,26,14,22,30],kb:=[0,11,72,116,90,22,94],pl:=[.slot 32 false zJ],ex:=[(.exit 1,[]),(.exit 2,[])],pay:=.unit })]
def u6:Sg:=⟨[(true,gm),zI],[(false,(.sl false zJ)),zI],WO⟩
theorem zy:tE pB wb 19 u6:=fun _=>by kernel_rfl
def pD:tL:=(19,u6)::pB
theorem pE:tO pD:=SY pC zy
def wv:tA:=[(53,4,7,.loop { keep:=[0,1,7,9,8,6,10],kb:=[],pl:=[.slot 5 false zJ,.slot 4 false .bool],ex:=[(.ret,[]),(.exit 0,[])],pay:=.unit })]
def ve:Sg:=⟨[(false,(.sl false zJ)),(false,(.sl false zJ))],[(false,.bool)],Zq⟩
theorem e53:tE pD wv 53 ve:=fun _=>by kernel_rfl
def eh:tL:=(53,ve)::pD
theorem iS:tO eh:=SY pE e53
def uz:Sg:=⟨[],[(false,.bool)],Uv⟩
theorem zt:tE eh [] 15 uz:=fun _=>by kernel_rfl
def ei:tL:=(15,uz)::eh
theorem iT:tO ei:=SY iS zt
def wZ:tA:=[(17,6,15,.loop { keep:=[0,1,3,15,11,5,9,13,2,4,12,6,10,14],kb:=[0],pl:=[.slot 7 false zJ,.slot 8 false zJ],ex:=[(.exit 0,[])],pay:=.unit })]
def u4:Sg:=⟨[(true,T4)],[zI,zI,zI],Xa⟩
theorem zw:tE ei wZ 17 u4:=fun _=>by kernel_rfl
def ej:tL:=(17,u4)::ei
theorem iU:tO ej:=SY iT zw
def t4:tA:=[(120,4,7,.loop { keep:=[0,1,7,9,8,6,10],kb:=[],pl:=[.slot 5 false zJ,.slot 4 false .bool],ex:=[(.ret,[]),(.exit 0,[])],pay:=.unit })]
def qx:Sg:=⟨[(false,(.sl false zJ)),(false,(.sl false zJ))],[(false,.bool)],Xm⟩
theorem xY:tE ej t4 120 qx:=fun _=>by kernel_rfl
def eu:tL:=(120,qx)::ej
theorem iV:tO eu:=SY iU xY
def t5:tA:=[(121,4,26,.loop { keep:=[0,1,3,7,15,23,11,19,27,9,17,25,13,21,2,8,16,24,12,20,6,10,18,26,14,22],kb:=[0,1],pl:=[.slot 5 false zJ,.slot 4 false .bool],ex:=[(.ret,[]),(.exit 0,[])],pay:=.unit })]
def qy:Sg:=⟨[(true,T7),(true,T7)],[(false,.bool)],W8⟩
theorem xc:tE eu t5 121 qy:=fun _=>by kernel_rfl
def ew:tL:=(121,qy)::eu
theorem iW:tO ew:=SY iV xc
def tu:tA:=[(116,3,3,.loop { keep:=[0,1,4],kb:=[],pl:=[.slot 5 false zJ,.slot 6 false zJ],ex:=[(.exit 0,[])],pay:=.unit })]
def qt:Sg:=⟨[(false,(.sl false (.sl true T2))),(false,(.sl false zJ))],[zI],WC⟩
theorem xU:tE ew tu 116 qt:=fun _=>by kernel_rfl
def ez:tL:=(116,qt)::ew
theorem iX:tO ez:=SY iW xU
def tq:tA:=[(115,7,21,.loop { keep:=[0,1,15,23,11,27,5,17,25,13,21,4,16,24,12,18,26,14,22],kb:=[0],pl:=[.slot 3 false zJ,.slot 2 false zJ,.slot 6 false zJ],ex:=[(.ret,[]),(.exit 0,[])],pay:=.unit }),(115,15,38,.loop { keep:=[0,1,7,15,63,23,11,67,27,59,5,17,65,25,57,13,21,69,61,4,16,64,24,56,12,68,60,6,18,66,26,58,14,22,70,62],kb:=[0],pl:=[.slot 3 false zJ,.slot 2 false zJ,.slot 8 false zJ],ex:=[(.ret,[]),(.exit 2,[])],pay:=.unit })]
def qq:Sg:=⟨[(true,T9)],[zI,zI],WB⟩
theorem xS:tE ez tq 115 qq:=fun _=>by kernel_rfl
def e8:tL:=(115,qq)::ez
theorem iY:tO e8:=SY iX xS
def w6:tA:=[(69,3,4,.loop { keep:=[0,1,2],kb:=[0],pl:=[.slot 3 false zJ,.slot 4 false zJ],ex:=[(.exit 0,[])],pay:=.unit })]
def vw:Sg:=⟨[(true,dk)],[zI],WX⟩
theorem e69:tE e8 w6 69 vw:=fun _=>by kernel_rfl
def e9:tL:=(69,vw)::e8
theorem iZ:tO e9:=SY iY e69
def w7:tA:=[(71,7,18,.loop { keep:=[0,15,11,19,5,17,13,16,12,20,6,14],kb:=[],pl:=[.srow 3 false zJ false,.srow 7 true T2 false,.srow 2 true T2 false,.slot 4 false zJ,.srow 8 false zJ false,.srow 9 false zJ true],ex:=[(.ret,[])],pay:=.unit,plx:=[.srow 3 false zJ false,.srow 2 true T2 false,.slot 4 false zJ] })]
def v6:Sg:=⟨[(false,(.sl false (.sl true T2)))],[(false,(.sl true T2)),(false,(.sl false zJ)),zI],Ww⟩
theorem e71:tE e9 w7 71 v6:=fun _=>by kernel_rfl
def fA:tL:=(71,v6)::e9
theorem ib:tO fA:=SY iZ e71
def rx:Sg:=⟨[(true,pM)],[zI],XX⟩
theorem yR:tE fA [] 181 rx:=fun _=>by kernel_rfl
def fB:tL:=(181,rx)::fA
theorem ic:tO fB:=SY ib yR
def rQ:Sg:=⟨[(true,pM),(true,T2)],[(false,.bool),(true,pM),zI],Xq⟩
theorem yC:tE fB [] 159 rQ:=fun _=>by kernel_rfl
def fC:tL:=(159,rQ)::fB
theorem ie:tO fC:=SY ic yC
def tz:tA:=[(119,6,12,.loop { keep:=[0,1,7,15,17,13,16,14],kb:=[],pl:=[.slot 5 false zJ,.slot 9 false zJ,.srow 4 true T2 false,.srow 8 true T2 false,.slot 6 false zJ,.box 8 [.lf .bool,.lf .str,.lf .bool]],ex:=[(.ret,[]),(.exit 0,[])],pay:=.unit })]
def qw:Sg:=⟨[(false,(.sl true T2)),(false,.bool)],[(false,(.sl true T2)),zI,zI],XC⟩
theorem xX:tE fC tz 119 qw:=fun _=>by kernel_rfl
def fD:tL:=(119,qw)::fC
theorem ig:tO fD:=SY ie xX
end Go.Proofs.YtfipnhjfbebeiabGreatDoor.Pt
