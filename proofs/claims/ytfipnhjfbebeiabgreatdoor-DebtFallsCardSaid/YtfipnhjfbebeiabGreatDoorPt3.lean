/- The evaluator comes to each of the plain functions. No condition. -/
import Derived.Test.YtfipnhjfbebeiabGreatDoorPt2
set_option linter.all false
namespace Go.Proofs.YtfipnhjfbebeiabGreatDoor.Pt
open Go Sv Pl
set_option maxRecDepth 1000000
def wy:tA:=[(73,4,27,.loop { keep:=[0,1,3,7,15,23,11,19,27,9,17,25,13,21,2,8,16,24,12,20,28,6,10,18,26,14,22],kb:=[0,1],pl:=[.slot 5 false zJ,.slot 4 false .bool],ex:=[(.ret,[]),(.exit 0,[])],pay:=.unit })]
def vu:Sg:=⟨[(true,T9),(true,T9)],[(false,.bool)],Xq⟩
theorem e73:tE mF wy 73 vu:=fun _=>by kernel_rfl
def mH:tL:=(73,vu)::mF
theorem mJ:tO mH:=SY mG e73
def vB:Sg:=⟨[(true,eB),(true,eB)],[(false,.bool)],Ua⟩
theorem zt:tE mH [] 28 vB:=fun _=>by kernel_rfl
def mL:tL:=(28,vB)::mH
theorem mM:tO mL:=SY mJ zt
def ze:tA:=[(5,10,42,.loop { keep:=[0,1,7,31,23,39,19,35,27,43,5,17,33,49,25,41,21,37,29,45,4,16,32,48,24,40,20,36,28,44,6,18,34,50,26,42,22,38,30,46],kb:=[0],pl:=[.slot 3 false zJ,.slot 2 false zJ,.slot 8 false zJ],ex:=[(.ret,[]),(.exit 0,[])],pay:=.unit })]
def zQ:Sg:=⟨[(true,Ye)],[zI,zI],VQ⟩
theorem e5:tE mL ze 5 zQ:=fun _=>by kernel_rfl
def mN:tL:=(5,zQ)::mL
theorem mO:tO mN:=SY mM e5
def wc:tA:=[(29,2,2,.loop { keep:=[0],kb:=[],pl:=[.slot 3 false zJ,.slot 2 false .bool],ex:=[(.ret,[]),(.exit 0,[])],pay:=.unit })]
def vC:Sg:=⟨[(false,(.sl true T2))],[(false,.bool)],Ve⟩
theorem zu:tE mN wc 29 vC:=fun _=>by kernel_rfl
def mQ:tL:=(29,vC)::mN
theorem mS:tO mQ:=SY mO zu
def uC:tA:=[(122,2,2,.loop { keep:=[0],kb:=[],pl:=[.slot 3 false zJ,.slot 2 false .bool],ex:=[(.ret,[]),(.exit 0,[])],pay:=.unit })]
def qv:Sg:=⟨[(false,(.sl true T2))],[(false,.bool)],W3⟩
theorem xS:tE mQ uC 122 qv:=fun _=>by kernel_rfl
def mT:tL:=(122,qv)::mQ
theorem mU:tO mT:=SY mS xS
def w6:tA:=[(75,2,2,.loop { keep:=[0],kb:=[],pl:=[.slot 3 false zJ,.slot 2 false .bool],ex:=[(.ret,[]),(.exit 0,[])],pay:=.unit })]
def vz:Sg:=⟨[(false,(.sl true T3))],[(false,.bool)],Vq⟩
theorem e75:tE mT w6 75 vz:=fun _=>by kernel_rfl
def mV:tL:=(75,vz)::mT
theorem mW:tO mV:=SY mU e75
def we:tA:=[(30,2,3,.loop { keep:=[0,1],kb:=[0],pl:=[.slot 3 false zJ,.slot 2 false .bool],ex:=[(.ret,[]),(.exit 0,[])],pay:=.unit })]
def vD:Sg:=⟨[(true,T4)],[(false,.bool)],Xk⟩
theorem zw:tE mV we 30 vD:=fun _=>by kernel_rfl
def mX:tL:=(30,vD)::mV
theorem mY:tO mX:=SY mW zw
def zf:tA:=[(6,2,3,.loop { keep:=[0,1],kb:=[0],pl:=[.slot 3 false zJ,.slot 2 false .bool],ex:=[(.exit 0,[]),(.ret,[])],pay:=.unit }),(6,6,21,.loop { keep:=[0,1,3,7,11,19,9,17,13,21,4,8,12,20,6,10,18,14,22],kb:=[0,18],pl:=[.slot 5 false zJ,.slot 2 false .bool],ex:=[(.ret,[]),(.exit 2,[])],pay:=.unit })]
def zR:Sg:=⟨[(true,Ye)],[(false,.bool)],Xl⟩
theorem e6:tE mX zf 6 zR:=fun _=>by kernel_rfl
def mZ:tL:=(6,zR)::mX
theorem ma:tO mZ:=SY mY e6
def w7:tA:=[(76,3,6,.loop { keep:=[0,1,7,9,2,6,10],kb:=[0],pl:=[.slot 8 false zJ,.box 3 [.lf zJ,.ow true T2 false]],ex:=[(.exit 0,[])],pay:=.unit })]
def v6:Sg:=⟨[zI,(false,.bool),(false,.str)],[(true,T3)],Zd⟩
theorem e76:tE mZ w7 76 v6:=fun _=>by kernel_rfl
def mb:tL:=(76,v6)::mZ
theorem mc:tO mb:=SY ma e76
def vG:Sg:=⟨[],[(true,T4)],Yy⟩
theorem zy:tE mb [] 32 vG:=fun _=>by kernel_rfl
def md:tL:=(32,vG)::mb
theorem me:tO md:=SY mc zy
def wg:tA:=[(31,7,25,.loop { keep:=[0,1,3,7,15,23,11,5,17,25,13,21,2,4,8,16,24,12,20,6,10,26,14,22],kb:=[0,1],pl:=[.slot 9 false zJ,.box 19 [.lf zJ,.lf (.sl true (.sl true T3)),.ow true Z7 false,.lf zJ]],ex:=[(.exit 0,[])],pay:=.unit })]
def vF:Sg:=⟨[(true,T4)],[(true,Ye),zI],ap⟩
theorem zx:tE md wg 31 vF:=fun _=>by kernel_rfl
def mf:tL:=(31,vF)::md
theorem mg:tO mf:=SY me zx
def sO:Sg:=⟨[(false,.str)],[zI],W2⟩
theorem yi:tE mf [] 210 sO:=fun _=>by kernel_rfl
def mh:tL:=(210,sO)::mf
theorem mi:tO mh:=SY mg yi
def sE:Sg:=⟨[(true,T2)],[zI],VH⟩
theorem yV:tE mh [] 198 sE:=fun _=>by kernel_rfl
def mj:tL:=(198,sE)::mh
theorem ml:tO mj:=SY mi yV
def uU:tA:=[(182,4,8,.loop { keep:=[0,7,11,9,8,10],kb:=[],pl:=[.slot 3 false zJ,.slot 2 false zJ,.slot 12 false zJ],ex:=[(.ret,[]),(.exit 0,[])],pay:=.unit })]
def rp:Sg:=⟨[(false,(.sl true T2))],[zI,zI],Uf⟩
theorem yM:tE mj uU 182 rp:=fun _=>by kernel_rfl
def mo:tL:=(182,rp)::mj
theorem mq:tO mo:=SY ml yM
end Go.Proofs.YtfipnhjfbebeiabGreatDoor.Pt
