/- The evaluator comes to each of the plain functions. No condition. -/
import Derived.Test.YtfipnhjfbebeiabGreatDoorPt5
set_option linter.all false
namespace Go.Proofs.YtfipnhjfbebeiabGreatDoor.Pt
open Go Sv Pl
set_option maxRecDepth 1000000
def sC:Sg:=⟨[zI,zI],[zI],VC⟩
theorem yU:tE oI [] 190 sC:=fun _=>by kernel_rfl
def oK:tL:=(190,sC)::oI
theorem oL:tO oK:=SY oJ yU
def uX:tA:=[(188,3,5,.loop { keep:=[0,3,7,6],kb:=[],pl:=[.slot 2 false zJ,.slot 8 false zJ],ex:=[(.ret,[]),(.exit 0,[])],pay:=.unit })]
def ry:Sg:=⟨[(false,(.sl false zJ))],[zI],Xh⟩
theorem yS:tE oK uX 188 ry:=fun _=>by kernel_rfl
def oM:tL:=(188,ry)::oK
theorem oN:tO oM:=SY oL yS
def uL:tA:=[(163,7,24,.loop { keep:=[0,1,15,31,23,19,27,5,17,25,13,29,4,16,24,12,28,18,26,14,22,30],kb:=[0],pl:=[.slot 3 false zJ,.slot 2 false zJ,.slot 32 false zJ],ex:=[(.ret,[]),(.exit 0,[])],pay:=.unit }),(163,18,49,.loop { keep:=[0,1,15,31,63,23,71,55,19,67,51,27,59,5,9,17,65,25,57,13,69,53,29,61,4,8,16,32,64,24,56,12,68,52,28,60,18,66,26,58,14,22,70,54,30,62],kb:=[0],pl:=[.slot 3 false zJ,.slot 2 false zJ,.slot 72 false zJ],ex:=[(.ret,[]),(.exit 2,[])],pay:=.unit })]
def rO:Sg:=⟨[(true,T9)],[zI,zI],V4⟩
theorem x0:tE oM uL 163 rO:=fun _=>by kernel_rfl
def oO:tL:=(163,rO)::oM
theorem oQ:tO oO:=SY oN x0
theorem zA:MD Tryz.prog (λf => !pu f) 1000 100 207=true:=by kernel_rfl
theorem yf (a:Ty.den zJ) (l:List (Ty.den zJ)):OU Tryz.prog (Ae pu oO) (RM []) 3000 60 207 [(false,(.sl false zJ))] [(false,(.sl false zJ))] (a::l)=UG (a::l):=by kernel_rfl
def oR:tL:=(207,⟨[(false,(.sl false zJ))],[(false,(.sl false zJ))],UG⟩)::oO
theorem oS:tO oR:=SZ (gg:=false) (c:=zJ) oQ zA rfl yf
theorem zD:Ox Tryz.prog (λf => !pu f) 1000 100 207=true:=by kernel_rfl
theorem zK (a:Ty.den zJ) (l:List (Ty.den zJ)):P2 Tryz.prog (Ae pu oR) (RM []) 3000 60 207 [(false,(.sl false zJ))] false zJ (a::l)=UG (a::l):=by kernel_rfl
def oT:tL:=(207+Cs,⟨[(false,(.sl false zJ))],[(false,(.sl false zJ))],UG⟩)::oR
theorem oU:tO oT:=Sa (gg:=false) (c:=zJ) oS zD rfl (λa l y h=>R8 h) zK
theorem yz (x:AP [zI,zI,(true,wT)]):P0 Tryz.prog (Ae pu oT) (RM []) 3000 60 219 [zI,zI,(true,wT)] [(false,.bool)] x=Uc x:=by kernel_rfl
def oV:tL:=(3145947,⟨[zI,zI,(true,wT)],[(false,.bool)],Uc⟩)::oT
theorem oW:tO oV:=Sr (f:=219) oU yz
def ua:tA:=[(208,13,63,.loop { keep:=[0,1,3,7,31,63,47,55,11,19,35,51,27,43,59,9,17,33,49,25,41,57,13,21,37,53,29,61,2,4,8,32,24,40,56,12,20,36,52,28,44,60,6,18,34,50,26,42,58,14,38,54,30,46,62],kb:=[0,1,33,52],pl:=[.slot 5 false zJ,.slot 10 false zJ,.box 2 [.kp 33,.ow false zJ false,.lf zJ]],ex:=[(.exit 0,[])],pay:=.unit })]
def sL:Sg:=⟨[(true,T7),(true,T5)],[(true,T7),zI,zI],VI⟩
theorem yg:tE oV ua 208 sL:=fun _=>by kernel_rfl
def oX:tL:=(208,sL)::oV
theorem oY:tO oX:=SY oW yg
def uM:tA:=[(206,0,45,.loop { keep:=[0,1],kb:=[39,35,43,9,13,44],pl:=[.box 0 [.ow true T2 false],.box 1 [.ow false zJ false]],ex:=[(.ret,[(44,0,none)])],pay:=.unit }),(185,3,47,.loop { keep:=[0,1,11,13,4,10,14],kb:=[0,1,39,27,13,30],pl:=[.slot 15 false zJ,.srow 5 true T5 true],ex:=[(.exit 0,[])],pay:=.unit }),(206,0,72,.loop { keep:=[0,1],kb:=[47,39,71,9,13,53,66,70,30],pl:=[.box 0 [.ow true T2 false],.box 1 [.ow false zJ false],.box 62 [.kp 30,.ow false zJ true,.lf (.sl true T5),.lf (.sl false zJ),.lf zJ]],ex:=[(.ret,[(71,0,none)])],pay:=.unit })]
def rQ:Sg:=⟨[(false,(.sl false (.sl true T2)))],[(false,(.sl true T2)),(false,(.sl false zJ)),zI],YI⟩
theorem yA:tE oX uM 164 rQ:=fun _=>by kernel_rfl
def oZ:tL:=(164,rQ)::oX
theorem oa:tO oZ:=SY oY yA
def sN:Sg:=⟨[(true,pG)],[zI],WJ⟩
theorem yh:tE oZ [] 209 sN:=fun _=>by kernel_rfl
def oc:tL:=(209,sN)::oZ
theorem od:tO oc:=SY oa yh
def sV:Sg:=⟨[(true,T2)],[(true,T2)],UQ⟩
theorem y0:tE oc [] 254 sV:=fun _=>by kernel_rfl
def oe:tL:=(254,sV)::oc
theorem og:tO oe:=SY od y0
def uN:tA:=[(192,5,24,.loop { keep:=[0,1,15,19,17,2,8,16,20,18,14],kb:=[],pl:=[.slot 7 false zJ,.slot 21 false zJ,.slot 6 false zJ,.box 19 [.lf .bool,.lf .str,.lf .bool],.box 0 [.ow true T2 false]],ex:=[(.ret,[]),(.exit 0,[])],pay:=.unit })]
def rR:Sg:=⟨[(false,(.sl true T2)),(false,.bool)],[(false,(.sl true T2)),zI,zI],Wl⟩
theorem yB:tE oe uN 165 rR:=fun _=>by kernel_rfl
def oh:tL:=(165,rR)::oe
theorem oi:tO oh:=SY og yB
def uO:tA:=[(166,4,9,.loop { keep:=[0,1,7,11,9,13,8,12,10],kb:=[],pl:=[.slot 4 false .bool,.slot 14 false zJ],ex:=[(.ret,[]),(.exit 0,[])],pay:=.unit })]
def rS:Sg:=⟨[(false,(.sl true T2)),(false,(.sl true T2))],[(false,.bool)],WK⟩
theorem yC:tE oh uO 166 rS:=fun _=>by kernel_rfl
def om:tL:=(166,rS)::oh
theorem oq:tO om:=SY oi yC
def uF:tA:=[(127,6,18,.loop { keep:=[0,1,3,15,23,19,17,25,21,2,4,16,24,20,18,26,14],kb:=[0],pl:=[.slot 27 false zJ,.slot 5 false zJ],ex:=[(.exit 0,[])],pay:=.unit })]
def qy:Sg:=⟨[(true,eB)],[zI],XG⟩
theorem xW:tE om uF 127 qy:=fun _=>by kernel_rfl
def ot:tL:=(127,qy)::om
theorem ou:tO ot:=SY oq xW
def uG:tA:=[(128,6,17,.loop { keep:=[0,1,3,15,11,19,5,9,17,13,2,4,12,10,18,14],kb:=[0],pl:=[.slot 20 false zJ,.slot 6 false zJ],ex:=[(.exit 0,[])],pay:=.unit })]
def qz:Sg:=⟨[(true,T9)],[zI,zI],Xm⟩
theorem xX:tE ot uG 128 qz:=fun _=>by kernel_rfl
def ov:tL:=(128,qz)::ot
theorem oz:tO ov:=SY ou xX
end Go.Proofs.YtfipnhjfbebeiabGreatDoor.Pt
