/- The evaluator comes to each of the plain functions. No condition. -/
import Derived.Test.YtfceigpbgndbgaaGreatDoorPt10
set_option linter.all false
open Bool renaming true->zt, false->zf
namespace Go.Proofs.YtfceigpbgndbgaaGreatDoor.Pt
open Go Sv Pl
set_option maxRecDepth 1000000
def ABS:tA:=[(41,4,18,.loop { keep:=[0,1,3,7,15,11,19,9,17,13,2,8,16,12,6,10,18,14],kb:=[0,1],pl:=[.slot 5 zf zJ,.slot 4 zf .bool],ex:=[(.ret,[]),(.exit 0,[])],pay:=.unit })]
def AAU:Sg:=⟨[(zt,T4),(zt,T4)],[(zf,.bool)],Yq⟩
theorem e41:tQ jD ABS 41 AAU:=fun _=>by kernel_rfl
def jE:tL:=(41,AAU)::jD
theorem mD:tO jE:=S6 mC e41
def AAV:Sg:=⟨[(zt,aO),(zt,aO)],[(zf,.bool)],Xf⟩
theorem e42:tQ jE [] 42 AAV:=fun _=>by kernel_rfl
def jF:tL:=(42,AAV)::jE
theorem mF:tO jF:=S6 mD e42
def wg:tA:=[(25,4,26,.loop { keep:=[0,1,3,7,15,23,11,19,27,9,17,25,13,21,2,8,16,24,12,20,6,10,18,26,14,22],kb:=[0,1],pl:=[.slot 5 zf zJ,.slot 4 zf .bool],ex:=[(.ret,[]),(.exit 0,[])],pay:=.unit })]
def AAK:Sg:=⟨[(zt,ZH),(zt,ZH)],[(zf,.bool)],XM⟩
theorem e25:tQ jF wg 25 AAK:=fun _=>by kernel_rfl
def jG:tL:=(25,AAK)::jF
theorem mG:tO jG:=S6 mF e25
def sg9:Sg:=⟨[(zt,aq),(zt,aq)],[(zf,.bool)],Wn⟩
theorem e9:tQ jG [] 9 sg9:=fun _=>by kernel_rfl
def jH:tL:=(9,sg9)::jG
theorem mH:tO jH:=S6 mG e9
def AAo:Sg:=⟨[(zt,aq)],[(zt,aq)],Wl⟩
theorem e73:tQ jH [] 73 AAo:=fun _=>by kernel_rfl
def jI:tL:=(73,AAo)::jH
theorem mJ:tO jI:=S6 mH e73
def ue:Sg:=⟨[(zt,ZH),(zf,(.sl zt T2))],[(zt,ZH),zI],XI⟩
theorem ABx:tQ jI [] 118 ue:=fun _=>by kernel_rfl
def jJ:tL:=(118,ue)::jI
theorem mL:tO jJ:=S6 mJ ABx
def AAW:Sg:=⟨[(zt,aq)],[(zt,aq),zI],Wq⟩
theorem e43:tQ jJ [] 43 AAW:=fun _=>by kernel_rfl
def jK:tL:=(43,AAW)::jJ
theorem mM:tO jK:=S6 mL e43
def AAD:Sg:=⟨[(zt,aq)],[(zt,aq),zI,zI],YB⟩
theorem e10:tQ jK [] 10 AAD:=fun _=>by kernel_rfl
def jL:tL:=(10,AAD)::jK
theorem mN:tO jL:=S6 mM e10
def AAp:Sg:=⟨[(zt,aq)],[(zf,.bool)],Yu⟩
theorem e74:tQ jL [] 74 AAp:=fun _=>by kernel_rfl
def jM:tL:=(74,AAp)::jL
theorem mO:tO jM:=S6 mN e74
def yD:tA:=[(120,7,19,.loop { keep:=[0,1,3,7,15,23,11,5,17,13,21,2,8,16,24,20,6,10,14,22],kb:=[0,1,2],pl:=[.srow 9 zf zJ zf,.slot 12 zf zJ],ex:=[(.exit 0,[])],pay:=.unit })]
def ug:Sg:=⟨[(zt,T4),zI,(zt,T3)],[(zt,T4),zI],X3⟩
theorem ABz:tQ jM yD 120 ug:=fun _=>by kernel_rfl
def jN:tL:=(120,ug)::jM
theorem mQ:tO jN:=S6 mO ABz
def ABe:tA:=[(75,1002003,10,.join { keep:=[0,1,11,5,13,2,4,12,6,10,14],kb:=[0,1],pl0:=[.slot 7 zf zJ],pl1:=[.slot 7 zf zJ],ex:=[],pay:=.unit }),(75,1002002,10,.join { keep:=[0,1,7,11,5,13,2,4,12,6,10,14],kb:=[0,1],pl0:=[],pl1:=[.slot 28 zf .bool],ex:=[],pay:=.unit }),(75,1008009,24,.join { keep:=[0,1,39,11,35,5,33,41,13,37,29,2,4,8,40,12,36,6,10,34,14,38,30],kb:=[0,1,16],pl0:=[.slot 7 zf zJ],pl1:=[.slot 7 zf zJ],ex:=[],pay:=.unit }),(75,1008008,24,.join { keep:=[0,1,7,39,11,35,5,33,41,13,37,29,2,4,8,40,12,36,6,10,34,14,38,30],kb:=[0,1,16],pl0:=[],pl1:=[.slot 48 zf .bool],ex:=[],pay:=.unit }),(121,3,55,.loop { keep:=[0,1,3,7,13,2,4,12,6,14],kb:=[0,1,47,33,49,16],pl:=[.slot 8 zf zJ,.box 48 [.lf zJ,.lf (.sl zt (.sl zt T3)),.ow zt aO zf,.lf zJ]],ex:=[(.exit 0,[])],pay:=.unit }),(121,7,73,.loop { keep:=[0,1,3,7,15,23,27,9,17,25,13,21,29,2,4,8,16,24,12,28,6,10,18,26,14,22,30],kb:=[0,1,47,33,49,16,48],pl:=[.slot 11 zf zJ,.box 69 [.lf zJ,.lf (.sl zf (.sl zt T2)),.lf (.sl zf zJ),.lf (.sl zt T5),.lf (.sl zf zJ),.lf zJ,.lf .bool,.lf .str,.lf .bool,.lf (.sl zt T2),.lf zJ]],ex:=[(.exit 2,[])],pay:=.unit }),(121,7,74,.loop { keep:=[0,1,3,7,15,23,27,9,17,25,13,21,29,2,4,8,16,24,12,28,6,10,18,26,14,22,30],kb:=[0,1,47,55,33,49,16,48],pl:=[.slot 11 zf zJ,.box 70 [.lf zJ,.lf (.sl zf (.sl zt T2)),.lf (.sl zf zJ),.lf (.sl zt T5),.lf (.sl zf zJ),.lf zJ,.lf .bool,.lf .str,.lf .bool,.lf (.sl zt T2),.lf zJ]],ex:=[(.exit 2,[])],pay:=.unit })]
def AAq:Sg:=⟨[(zt,ZH),(zf,(.sl zt T2))],[(zt,ZH),zI],X5⟩
theorem e75:tQ jN ABe 75 AAq:=fun _=>by kernel_rfl
def jO:tL:=(75,AAq)::jN
theorem mS:tO jO:=S6 mQ e75
def AAX:Sg:=⟨[(zt,aq)],[(zt,aq),zI],Yt⟩
theorem e44:tQ jO [] 44 AAX:=fun _=>by kernel_rfl
def jP:tL:=(44,AAX)::jO
theorem mT:tO jP:=S6 mS e44
def AAL:Sg:=⟨[(zt,aq)],[(zt,aq),zI,zI],X8⟩
theorem e27:tQ jP [] 27 AAL:=fun _=>by kernel_rfl
def jQ:tL:=(27,AAL)::jP
theorem mU:tO jQ:=S6 mT e27
def AAE:Sg:=⟨[(zt,aq)],[(zt,aq),zI,zI],YY⟩
theorem e11:tQ jQ [] 11 AAE:=fun _=>by kernel_rfl
def oG:tL:=(11,AAE)::jQ
theorem mV:tO oG:=S6 mU e11
end Go.Proofs.YtfceigpbgndbgaaGreatDoor.Pt
