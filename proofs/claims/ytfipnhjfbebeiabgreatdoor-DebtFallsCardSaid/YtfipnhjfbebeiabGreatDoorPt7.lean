/- The evaluator comes to each of the plain functions. No condition. -/
import Derived.Test.YtfipnhjfbebeiabGreatDoorPt6
set_option linter.all false
namespace Go.Proofs.YtfipnhjfbebeiabGreatDoor.Pt
open Go Sv Pl
set_option maxRecDepth 1000000
def wD:Sg:=⟨[(true,eB)],[zI,zI],Ue⟩
theorem e85:tE ov [] 85 wD:=fun _=>by kernel_rfl
def o0:tL:=(85,wD)::ov
theorem o6:tO o0:=SY oz e85
def rT:Sg:=⟨[(true,T9)],[(true,T2),zI,(true,T9),zI],U0⟩
theorem yD:tE o0 [] 167 rT:=fun _=>by kernel_rfl
def o7:tL:=(167,rT)::o0
theorem o8:tO o7:=SY o6 yD
def rU:Sg:=⟨[(true,pG),(true,T2)],[(false,.bool),(true,pG),zI],U9⟩
theorem yE:tE o7 [] 168 rU:=fun _=>by kernel_rfl
def fH:tL:=(168,rU)::o7
theorem iX:tO fH:=SY o8 yE
def xA:tA:=[(129,2,81,.loop { keep:=[0,1,6],kb:=[0,1,39,67,68],pl:=[.slot 7 false zJ,.slot 4 false zJ,.box 28 [.lf (.sl false (.sl true T2)),.lf (.sl false zJ),.lf (.sl true T5),.lf (.sl false zJ),.lf zJ,.lf .bool,.lf .str,.lf .bool,.ow true T2 false,.lf zJ]],ex:=[(.ret,[]),(.exit 0,[])],pay:=.unit }),(129,2,98,.loop { keep:=[0,1,6],kb:=[0,1,39,67,68,86],pl:=[.slot 7 false zJ,.slot 4 false zJ,.box 28 [.lf (.sl false (.sl true T2)),.lf (.sl false zJ),.lf (.sl true T5),.lf (.sl false zJ),.lf zJ,.lf .bool,.lf .str,.lf .bool,.ow true T2 false,.lf zJ]],ex:=[(.ret,[]),(.exit 0,[])],pay:=.unit }),(129,2,133,.loop { keep:=[0,1,6],kb:=[0,1,39,67,68,86],pl:=[.slot 7 false zJ,.slot 4 false zJ,.box 28 [.lf (.sl false (.sl true T2)),.lf (.sl false zJ),.lf (.sl true T5),.lf (.sl false zJ),.lf zJ,.lf .bool,.lf .str,.lf .bool,.ow true T2 false,.lf zJ]],ex:=[(.ret,[]),(.exit 0,[])],pay:=.unit }),(129,2,120,.loop { keep:=[0,1,6],kb:=[0,1,39,67,68,86],pl:=[.slot 7 false zJ,.slot 4 false zJ,.box 28 [.lf (.sl false (.sl true T2)),.lf (.sl false zJ),.lf (.sl true T5),.lf (.sl false zJ),.lf zJ,.lf .bool,.lf .str,.lf .bool,.ow true T2 false,.lf zJ]],ex:=[(.ret,[]),(.exit 0,[])],pay:=.unit })]
def wE:Sg:=⟨[(true,eB),zI],[(true,eB),zI,zI],Uy⟩
theorem e86:tE fH xA 86 wE:=fun _=>by kernel_rfl
def fI:tL:=(86,wE)::fH
theorem iY:tO fI:=SY iX e86
def uQ:tA:=[(169,4,9,.loop { keep:=[0,1,7,11,9,8,12,6,10],kb:=[],pl:=[.slot 13 false zJ,.slot 4 false .bool],ex:=[(.ret,[]),(.exit 0,[])],pay:=.unit })]
def rV:Sg:=⟨[(false,(.sl true T2)),(false,(.sl true T2))],[(false,.bool)],Uj⟩
theorem yF:tE fI uQ 169 rV:=fun _=>by kernel_rfl
def fJ:tL:=(169,rV)::fI
theorem iZ:tO fJ:=SY iY yF
def q9:Sg:=⟨[(false,(.sl true T2)),(false,(.sl true T2))],[(false,.bool)],Uu⟩
theorem xY:tE fJ [] 132 q9:=fun _=>by kernel_rfl
def fK:tL:=(132,q9)::fJ
theorem ib:tO fK:=SY iZ xY
def xB:tA:=[(131,4,81,.loop { keep:=[0,1,15,11,13,2,16,12,10,14],kb:=[0,1,7,8],pl:=[.slot 17 false zJ,.slot 6 false .bool],ex:=[(.ret,[]),(.exit 0,[])],pay:=.unit })]
def wF:Sg:=⟨[(true,eB),(true,eB)],[(false,.bool)],Vv⟩
theorem e87:tE fK xB 87 wF:=fun _=>by kernel_rfl
def fL:tL:=(87,wF)::fK
theorem ic:tO fL:=SY ib e87
def wh:tA:=[(125,1,52,.loop { keep:=[0,1,7,5,6],kb:=[0,47,35,46],pl:=[.slot 8 false zJ,.box 43 [.ow false zJ false]],ex:=[(.exit 0,[(47,0,none)])],pay:=.unit }),(38,10,59,.loop { keep:=[0,1,15,31,47,23,39,19,35,27,43,17,33,25,41,21,37,29,45,4,16,32,40,20,36,28,44,18,34,26,42,14,22,38,30,46],kb:=[0,47,35,43,52],pl:=[.slot 3 false zJ,.slot 2 false zJ,.slot 48 false zJ],ex:=[(.ret,[(47,3,none)]),(.exit 1,[(47,3,none)])],pay:=.unit })]
def vO:Sg:=⟨[(true,Ye)],[zI,zI],U7⟩
theorem e38:tE fL wh 38 vO:=fun _=>by kernel_rfl
def fM:tL:=(38,vO)::fL
theorem ie:tO fM:=SY ic e38
def wm:tA:=[(125,1,35,.loop { keep:=[0,1,7,5,6],kb:=[0,29,18,30],pl:=[.slot 8 false zJ,.box 26 [.ow false zJ false]],ex:=[(.exit 0,[(30,0,none)])],pay:=.unit })]
def vT:Sg:=⟨[(true,Ye)],[(false,(.sl false zJ)),zI],Vp⟩
theorem e42:tE fM wm 42 vT:=fun _=>by kernel_rfl
def fN:tL:=(42,vT)::fM
theorem ig:tO fN:=SY ie e42
def xD:tA:=[(173,2,31,.loop { keep:=[0,1,7,6],kb:=[0,1],pl:=[.slot 4 false zJ,.slot 8 false zJ],ex:=[(.ret,[]),(.exit 0,[])],pay:=.unit })]
def wH:Sg:=⟨[(true,Ye),zI],[zI,zI],Wt⟩
theorem e93:tE fN xD 93 wH:=fun _=>by kernel_rfl
def fO:tL:=(93,wH)::fN
theorem ii:tO fO:=SY ig e93
def v7:Sg:=⟨[(true,Ye),zI],[zI,zI],YF⟩
theorem e77:tE fO [] 77 v7:=fun _=>by kernel_rfl
def fQ:tL:=(77,v7)::fO
theorem ij:tO fQ:=SY ii e77
def vH:Sg:=⟨[(true,Ye),zI],[zI,zI],X4⟩
theorem zz:tE fQ [] 33 vH:=fun _=>by kernel_rfl
def fR:tL:=(33,vH)::fQ
theorem ik:tO fR:=SY ij zz
def wX:tA:=[(13,6,16,.loop { keep:=[0,1,15,11,19,5,17,13,4,16,12,20,14],kb:=[0],pl:=[.slot 3 false zJ,.slot 21 false zJ,.slot 2 false zJ,.slot 6 false zJ],ex:=[(.ret,[]),(.exit 0,[])],pay:=.unit })]
def uz:Sg:=⟨[(true,Ye)],[zI,zI],XL⟩
theorem zl:tE fR wX 13 uz:=fun _=>by kernel_rfl
def fS:tL:=(13,uz)::fR
theorem il:tO fS:=SY ik zl
def tx:tA:=[(174,1,27,.loop { keep:=[0,1,7,8,6],kb:=[0,17,21,22],pl:=[.slot 9 false zJ,.box 1 [.lf zJ],.box 2 [.lf zJ]],ex:=[(.exit 0,[(22,0,none)])],pay:=.unit }),(174,4,37,.loop { keep:=[0,1,7,15,11,9,13,4,8,16,12,6,10,14],kb:=[0,17,21,22,30],pl:=[.slot 5 false zJ,.box 1 [.lf zJ],.box 2 [.lf zJ]],ex:=[(.exit 2,[(22,0,none)])],pay:=.unit })]
def qh:Sg:=⟨[(true,T4)],[zI,zI,zI],W4⟩
theorem xG:tE fS tx 104 qh:=fun _=>by kernel_rfl
def fT:tL:=(104,qh)::fS
theorem im:tO fT:=SY il xG
end Go.Proofs.YtfipnhjfbebeiabGreatDoor.Pt
