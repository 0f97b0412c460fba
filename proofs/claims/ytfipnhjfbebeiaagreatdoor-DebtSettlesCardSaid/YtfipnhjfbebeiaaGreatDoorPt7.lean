/- The evaluator comes to each of the plain functions. No condition. -/
import Derived.Test.YtfipnhjfbebeiaaGreatDoorPt6
set_option linter.all false
namespace Go.Proofs.YtfipnhjfbebeiaaGreatDoor.Pt
open Go Sv Pl
set_option maxRecDepth 1000000
def vR:Sg:=⟨[(true,dy)],[zI,zI],Ud⟩
theorem e53:tE oh [] 53 vR:=fun _=>by kernel_rfl
def om:tL:=(53,vR)::oh
theorem oq:tO om:=SY oi e53
def qt:Sg:=⟨[(true,T9)],[(true,T2),zI,(true,T9),zI],Ux⟩
theorem xP:tE om [] 132 qt:=fun _=>by kernel_rfl
def ot:tL:=(132,qt)::om
theorem ou:tO ot:=SY oq xP
def qu:Sg:=⟨[(true,pA),(true,T2)],[(false,.bool),(true,pA),zI],U6⟩
theorem xQ:tE ot [] 133 qu:=fun _=>by kernel_rfl
def ez:tL:=(133,qu)::ot
theorem iN:tO ez:=SY ou xQ
def wb:tA:=[(89,2,81,.loop { keep:=[0,1,6],kb:=[0,1,39,67,68],pl:=[.slot 7 false zJ,.slot 4 false zJ,.box 28 [.lf (.sl false (.sl true T2)),.lf (.sl false zJ),.lf (.sl true T5),.lf (.sl false zJ),.lf zJ,.lf .bool,.lf .str,.lf .bool,.ow true T2 false,.lf zJ]],ex:=[(.ret,[]),(.exit 0,[])],pay:=.unit }),(89,2,98,.loop { keep:=[0,1,6],kb:=[0,1,39,67,68,86],pl:=[.slot 7 false zJ,.slot 4 false zJ,.box 28 [.lf (.sl false (.sl true T2)),.lf (.sl false zJ),.lf (.sl true T5),.lf (.sl false zJ),.lf zJ,.lf .bool,.lf .str,.lf .bool,.ow true T2 false,.lf zJ]],ex:=[(.ret,[]),(.exit 0,[])],pay:=.unit }),(89,2,133,.loop { keep:=[0,1,6],kb:=[0,1,39,67,68,86],pl:=[.slot 7 false zJ,.slot 4 false zJ,.box 28 [.lf (.sl false (.sl true T2)),.lf (.sl false zJ),.lf (.sl true T5),.lf (.sl false zJ),.lf zJ,.lf .bool,.lf .str,.lf .bool,.ow true T2 false,.lf zJ]],ex:=[(.ret,[]),(.exit 0,[])],pay:=.unit }),(89,2,120,.loop { keep:=[0,1,6],kb:=[0,1,39,67,68,86],pl:=[.slot 7 false zJ,.slot 4 false zJ,.box 28 [.lf (.sl false (.sl true T2)),.lf (.sl false zJ),.lf (.sl true T5),.lf (.sl false zJ),.lf zJ,.lf .bool,.lf .str,.lf .bool,.ow true T2 false,.lf zJ]],ex:=[(.ret,[]),(.exit 0,[])],pay:=.unit })]
def vS:Sg:=⟨[(true,dy),zI],[(true,dy),zI,zI],Uv⟩
theorem e54:tE ez wb 54 vS:=fun _=>by kernel_rfl
def e9:tL:=(54,vS)::ez
theorem iO:tO e9:=SY iN e54
def tz:tA:=[(134,4,9,.loop { keep:=[0,1,7,11,9,8,12,6,10],kb:=[],pl:=[.slot 13 false zJ,.slot 4 false .bool],ex:=[(.ret,[]),(.exit 0,[])],pay:=.unit })]
def qv:Sg:=⟨[(false,(.sl true T2)),(false,(.sl true T2))],[(false,.bool)],Uj⟩
theorem xR:tE e9 tz 134 qv:=fun _=>by kernel_rfl
def fA:tL:=(134,qv)::e9
theorem iQ:tO fA:=SY iO xR
def v6:Sg:=⟨[(false,(.sl true T2)),(false,(.sl true T2))],[(false,.bool)],Uq⟩
theorem e92:tE fA [] 92 v6:=fun _=>by kernel_rfl
def fB:tL:=(92,v6)::fA
theorem iR:tO fB:=SY iQ e92
def wc:tA:=[(91,4,81,.loop { keep:=[0,1,15,11,13,2,16,12,10,14],kb:=[0,1,7,8],pl:=[.slot 17 false zJ,.slot 6 false .bool],ex:=[(.ret,[]),(.exit 0,[])],pay:=.unit })]
def vT:Sg:=⟨[(true,dy),(true,dy)],[(false,.bool)],Vv⟩
theorem e55:tE fB wc 55 vT:=fun _=>by kernel_rfl
def fC:tL:=(55,vT)::fB
theorem iS:tO fC:=SY iR e55
def wN:tA:=[(85,1,52,.loop { keep:=[0,1,7,5,6],kb:=[0,47,35,46],pl:=[.slot 8 false zJ,.box 43 [.ow false zJ false]],ex:=[(.exit 0,[(47,0,none)])],pay:=.unit }),(25,10,59,.loop { keep:=[0,1,15,31,47,23,39,19,35,27,43,17,33,25,41,21,37,29,45,4,16,32,40,20,36,28,44,18,34,26,42,14,22,38,30,46],kb:=[0,47,35,43,52],pl:=[.slot 3 false zJ,.slot 2 false zJ,.slot 48 false zJ],ex:=[(.ret,[(47,3,none)]),(.exit 1,[(47,3,none)])],pay:=.unit })]
def uw:Sg:=⟨[(true,Yu)],[zI,zI],U3⟩
theorem zs:tE fC wN 25 uw:=fun _=>by kernel_rfl
def fD:tL:=(25,uw)::fC
theorem iT:tO fD:=SY iS zs
def wU:tA:=[(85,1,35,.loop { keep:=[0,1,7,5,6],kb:=[0,29,18,30],pl:=[.slot 8 false zJ,.box 26 [.ow false zJ false]],ex:=[(.exit 0,[(30,0,none)])],pay:=.unit })]
def vC:Sg:=⟨[(true,Yu)],[(false,(.sl false zJ)),zI],Vo⟩
theorem e40:tE fD wU 40 vC:=fun _=>by kernel_rfl
def fE:tL:=(40,vC)::fD
theorem iU:tO fE:=SY iT e40
def wv:tA:=[(145,2,31,.loop { keep:=[0,1,7,6],kb:=[0,1],pl:=[.slot 4 false zJ,.slot 8 false zJ],ex:=[(.ret,[]),(.exit 0,[])],pay:=.unit })]
def vq:Sg:=⟨[(true,Yu),zI],[zI,zI],Ws⟩
theorem e82:tE fE wv 82 vq:=fun _=>by kernel_rfl
def fF:tL:=(82,vq)::fE
theorem iV:tO fF:=SY iU e82
def vJ:Sg:=⟨[(true,Yu),zI],[zI,zI],YG⟩
theorem e46:tE fF [] 46 vJ:=fun _=>by kernel_rfl
def fG:tL:=(46,vJ)::fF
theorem iW:tO fG:=SY iV e46
def uu:Sg:=⟨[(true,Yu),zI],[zI,zI],X5⟩
theorem zp:tE fG [] 23 uu:=fun _=>by kernel_rfl
def fH:tL:=(23,uu)::fG
theorem iX:tO fH:=SY iW zp
def wH:tA:=[(14,6,16,.loop { keep:=[0,1,15,11,19,5,17,13,4,16,12,20,14],kb:=[0],pl:=[.slot 3 false zJ,.slot 21 false zJ,.slot 2 false zJ,.slot 6 false zJ],ex:=[(.ret,[]),(.exit 0,[])],pay:=.unit })]
def uj:Sg:=⟨[(true,Yu)],[zI,zI],X4⟩
theorem zg:tE fH wH 14 uj:=fun _=>by kernel_rfl
def fI:tL:=(14,uj)::fH
theorem iY:tO fI:=SY iX zg
def wt:tA:=[(144,1,27,.loop { keep:=[0,1,7,8,6],kb:=[0,17,21,22],pl:=[.slot 9 false zJ,.box 1 [.lf zJ],.box 2 [.lf zJ]],ex:=[(.exit 0,[(22,0,none)])],pay:=.unit }),(144,4,37,.loop { keep:=[0,1,7,15,11,9,13,4,8,16,12,6,10,14],kb:=[0,17,21,22,30],pl:=[.slot 5 false zJ,.box 1 [.lf zJ],.box 2 [.lf zJ]],ex:=[(.exit 2,[(22,0,none)])],pay:=.unit })]
def vo:Sg:=⟨[(true,T4)],[zI,zI,zI],W3⟩
theorem e80:tE fI wt 80 vo:=fun _=>by kernel_rfl
def fJ:tL:=(80,vo)::fI
theorem iZ:tO fJ:=SY iY e80
end Go.Proofs.YtfipnhjfbebeiaaGreatDoor.Pt
