/- The evaluator comes to each of the plain functions. No condition. -/
import Derived.Test.YtbahicnpiefmlaaGreatDoorPt8
set_option linter.all false
namespace Go.Proofs.YtbahicnpiefmlaaGreatDoor.Pt
open Go Sv Pl
set_option maxRecDepth 1000000
def qB:Sg:=⟨[(true,m6)],[zI],W2⟩
theorem wY:tE dg [] 293 qB:=fun _=>by kernel_rfl
def dh:tL:=(293,qB)::dg
theorem gL:tO dh:=SX gK wY
def pj:Sg:=⟨[(true,m6),(true,T2)],[(false,.bool),(true,m6),zI],XS⟩
theorem wK:tE dh [] 258 pj:=fun _=>by kernel_rfl
def di:tL:=(258,pj)::dh
theorem gN:tO di:=SX gL wK
def sG:tA:=[(225,6,12,.loop { keep:=[0,1,7,15,17,13,16,14],kb:=[],pl:=[.slot 5 false zJ,.slot 9 false zJ,.srow 4 true T2 false,.srow 8 true T2 false,.slot 6 false zJ,.box 8 [.lf .bool,.lf .str,.lf .bool]],ex:=[(.ret,[]),(.exit 0,[])],pay:=.unit })]
def pI:Sg:=⟨[(false,(.sl true T2)),(false,.bool)],[(false,(.sl true T2)),zI,zI],Wg⟩
theorem vt:tE di sG 225 pI:=fun _=>by kernel_rfl
def dj:tL:=(225,pI)::di
theorem gO:tO dj:=SX gN vt
def oa:Sg:=⟨[(false,(.sl true T2)),(false,.bool)],[(false,(.sl true T2)),(true,m6)],Va⟩
theorem vH:tE dj [] 154 oa:=fun _=>by kernel_rfl
def dk:tL:=(154,oa)::dj
theorem gP:tO dk:=SX gO vH
def rf:tA:=[(156,4,7,.loop { keep:=[0,1,7,9,8,6,10],kb:=[],pl:=[.slot 5 false zJ,.slot 4 false .bool],ex:=[(.ret,[]),(.exit 0,[])],pay:=.unit })]
def od:Sg:=⟨[(false,(.sl true T2)),(false,(.sl true T2))],[(false,.bool)],Ul⟩
theorem vJ:tE dk rf 156 od:=fun _=>by kernel_rfl
def dl:tL:=(156,od)::dk
theorem gQ:tO dl:=SX gP vJ
def oV:Sg:=⟨[(true,cK)],[zI],W4⟩
theorem vB:tE dl [] 149 oV:=fun _=>by kernel_rfl
def dm:tL:=(149,oV)::dl
theorem gR:tO dm:=SX gQ vB
def rU:tA:=[(150,6,14,.loop { keep:=[0,1,3,11,5,9,13,2,4,8,12,10,14],kb:=[0],pl:=[.slot 7 false zJ,.slot 6 false zJ],ex:=[(.exit 0,[])],pay:=.unit })]
def oW:Sg:=⟨[(true,T9)],[zI,zI],XQ⟩
theorem vC:tE dm rU 150 oW:=fun _=>by kernel_rfl
def dq:tL:=(150,oW)::dm
theorem gS:tO dq:=SX gR vC
def uI:Sg:=⟨[(true,cK)],[zI,zI],UH⟩
theorem yS:tE dq [] 85 uI:=fun _=>by kernel_rfl
def dt:tL:=(85,uI)::dq
theorem gT:tO dt:=SX gS yS
def oY:Sg:=⟨[(true,T9)],[(true,T2),zI,(true,T9),zI],V6⟩
theorem vF:tE dt [] 152 oY:=fun _=>by kernel_rfl
def du:tL:=(152,oY)::dt
theorem gU:tO du:=SX gT vF
def uo:tA:=[(86,11,32,.loop { keep:=[0,1,7,15,31,23,39,19,35,27,5,9,17,33,25,21,37,2,4,8,16,32,24,20,36,6,10,18,34,26,22,30],kb:=[0,1],pl:=[.slot 11 false zJ,.box 29 [.lf (.sl false (.sl true T2)),.lf (.sl false zJ),.lf (.sl true T5),.lf (.sl false zJ),.lf zJ,.lf .bool,.lf .str,.lf .bool,.lf (.sl true T2),.lf zJ]],ex:=[(.exit 0,[])],pay:=.unit })]
def uJ:Sg:=⟨[(true,cK),zI],[(true,cK),zI,zI],UZ⟩
theorem yT:tE du uo 86 uJ:=fun _=>by kernel_rfl
def dv:tL:=(86,uJ)::du
theorem gV:tO dv:=SX gU yT
def ra:tA:=[(155,4,27,.loop { keep:=[0,1,3,7,15,23,11,19,27,9,17,25,13,21,2,8,16,24,12,20,28,6,10,18,26,14,22],kb:=[0,1],pl:=[.slot 5 false zJ,.slot 4 false .bool],ex:=[(.ret,[]),(.exit 0,[])],pay:=.unit })]
def oc:Sg:=⟨[(true,T9),(true,T9)],[(false,.bool)],XR⟩
theorem vI:tE dv ra 155 oc:=fun _=>by kernel_rfl
def dw:tL:=(155,oc)::dv
theorem gW:tO dw:=SX gV vI
def uK:Sg:=⟨[(true,cK),(true,cK)],[(false,.bool)],UY⟩
theorem yU:tE dw [] 87 uK:=fun _=>by kernel_rfl
def dx:tL:=(87,uK)::dw
theorem gX:tO dx:=SX gW yU
def ua:tA:=[(33,10,42,.loop { keep:=[0,1,7,31,23,39,19,35,27,43,5,17,33,49,25,41,21,37,29,45,4,16,32,48,24,40,20,36,28,44,6,18,34,50,26,42,22,38,30,46],kb:=[0],pl:=[.slot 3 false zJ,.slot 2 false zJ,.slot 8 false zJ],ex:=[(.ret,[]),(.exit 0,[])],pay:=.unit })]
def tf:Sg:=⟨[(true,Xq)],[zI,zI],U8⟩
theorem xy:tE dx ua 33 tf:=fun _=>by kernel_rfl
def dy:tL:=(33,tf)::dx
theorem gY:tO dy:=SX gX xy
def t6:Sg:=⟨[(true,Xq)],[(false,(.sl false zJ)),zI],VH⟩
theorem yJ:tE dy [] 72 t6:=fun _=>by kernel_rfl
def dz:tL:=(72,t6)::dy
theorem gZ:tO dz:=SX gY yJ
end Go.Proofs.YtbahicnpiefmlaaGreatDoor.Pt
