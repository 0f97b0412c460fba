/- The evaluator comes to each of the plain functions. No condition. -/
import Derived.Test.YtfipnhjfbebeiaaGreatDoorPt5
set_option linter.all false
namespace Go.Proofs.YtfipnhjfbebeiaaGreatDoor.Pt
open Go Sv Pl
set_option maxRecDepth 1000000
def rH:Sg:=⟨[zI,zI],[zI],VB⟩
theorem xj:tE oC [] 154 rH:=fun _=>by kernel_rfl
def oE:tL:=(154,rH)::oC
theorem oF:tO oE:=SY oD xj
def t9:tA:=[(152,3,5,.loop { keep:=[0,3,7,6],kb:=[],pl:=[.slot 2 false zJ,.slot 8 false zJ],ex:=[(.ret,[]),(.exit 0,[])],pay:=.unit })]
def rF:Sg:=⟨[(false,(.sl false zJ))],[zI],Xk⟩
theorem xh:tE oE t9 152 rF:=fun _=>by kernel_rfl
def oG:tL:=(152,rF)::oE
theorem oH:tO oG:=SY oF xh
def tq:tA:=[(128,7,24,.loop { keep:=[0,1,15,31,23,19,27,5,17,25,13,29,4,16,24,12,28,18,26,14,22,30],kb:=[0],pl:=[.slot 3 false zJ,.slot 2 false zJ,.slot 32 false zJ],ex:=[(.ret,[]),(.exit 0,[])],pay:=.unit }),(128,18,49,.loop { keep:=[0,1,15,31,63,23,71,55,19,67,51,27,59,5,9,17,65,25,57,13,69,53,29,61,4,8,16,32,64,24,56,12,68,52,28,60,18,66,26,58,14,22,70,54,30,62],kb:=[0],pl:=[.slot 3 false zJ,.slot 2 false zJ,.slot 72 false zJ],ex:=[(.ret,[]),(.exit 2,[])],pay:=.unit })]
def qn:Sg:=⟨[(true,T9)],[zI,zI],V4⟩
theorem xL:tE oG tq 128 qn:=fun _=>by kernel_rfl
def oI:tL:=(128,qn)::oG
theorem oJ:tO oI:=SY oH xL
theorem yu:MD Tryz.prog (λf => !pu f) 1000 100 179=true:=by kernel_rfl
theorem yK (a:Ty.den zJ) (l:List (Ty.den zJ)):OU Tryz.prog (Ae pu oI) (RM []) 3000 60 179 [(false,(.sl false zJ))] [(false,(.sl false zJ))] (a::l)=UG (a::l):=by kernel_rfl
def oK:tL:=(179,⟨[(false,(.sl false zJ))],[(false,(.sl false zJ))],UG⟩)::oI
theorem oL:tO oK:=SZ (gg:=false) (c:=zJ) oJ yu rfl yK
theorem y0:Ox Tryz.prog (λf => !pu f) 1000 100 179=true:=by kernel_rfl
theorem zC (a:Ty.den zJ) (l:List (Ty.den zJ)):P2 Tryz.prog (Ae pu oK) (RM []) 3000 60 179 [(false,(.sl false zJ))] false zJ (a::l)=UG (a::l):=by kernel_rfl
def oM:tL:=(179+Cs,⟨[(false,(.sl false zJ))],[(false,(.sl false zJ))],UG⟩)::oK
theorem oN:tO oM:=Sa (gg:=false) (c:=zJ) oL y0 rfl (λa l y h=>R8 h) zC
theorem yj (x:AP [zI,zI,(true,wE)]):P0 Tryz.prog (Ae pu oM) (RM []) 3000 60 205 [zI,zI,(true,wE)] [(false,.bool)] x=Ub x:=by kernel_rfl
def oO:tL:=(3145933,⟨[zI,zI,(true,wE)],[(false,.bool)],Ub⟩)::oM
theorem oQ:tO oO:=Sr (f:=205) oN yj
def uG:tA:=[(180,13,63,.loop { keep:=[0,1,3,7,31,63,47,55,11,19,35,51,27,43,59,9,17,33,49,25,41,57,13,21,37,53,29,61,2,4,8,32,24,40,56,12,20,36,52,28,44,60,6,18,34,50,26,42,58,14,38,54,30,46,62],kb:=[0,1,33,52],pl:=[.slot 5 false zJ,.slot 10 false zJ,.box 2 [.kp 33,.ow false zJ false,.lf zJ]],ex:=[(.exit 0,[])],pay:=.unit })]
def ri:Sg:=⟨[(true,T7),(true,T5)],[(true,T7),zI,zI],VG⟩
theorem yL:tE oO uG 180 ri:=fun _=>by kernel_rfl
def oR:tL:=(180,ri)::oO
theorem oS:tO oR:=SY oQ yL
def tu:tA:=[(178,0,45,.loop { keep:=[0,1],kb:=[39,35,43,9,13,44],pl:=[.box 0 [.ow true T2 false],.box 1 [.ow false zJ false]],ex:=[(.ret,[(44,0,none)])],pay:=.unit }),(149,3,47,.loop { keep:=[0,1,11,13,4,10,14],kb:=[0,1,39,27,13,30],pl:=[.slot 15 false zJ,.srow 5 true T5 true],ex:=[(.exit 0,[])],pay:=.unit }),(178,0,72,.loop { keep:=[0,1],kb:=[47,39,71,9,13,53,66,70,30],pl:=[.box 0 [.ow true T2 false],.box 1 [.ow false zJ false],.box 62 [.kp 30,.ow false zJ true,.lf (.sl true T5),.lf (.sl false zJ),.lf zJ]],ex:=[(.ret,[(71,0,none)])],pay:=.unit })]
def qo:Sg:=⟨[(false,(.sl false (.sl true T2)))],[(false,(.sl true T2)),(false,(.sl false zJ)),zI],YJ⟩
theorem xM:tE oR tu 129 qo:=fun _=>by kernel_rfl
def oT:tL:=(129,qo)::oR
theorem oU:tO oT:=SY oS xM
def rm:Sg:=⟨[(true,pA)],[zI],WK⟩
theorem yM:tE oT [] 181 rm:=fun _=>by kernel_rfl
def oV:tL:=(181,rm)::oT
theorem oW:tO oV:=SY oU yM
def sO:Sg:=⟨[(true,T2)],[(true,T2)],UQ⟩
theorem yp:tE oV [] 239 sO:=fun _=>by kernel_rfl
def oX:tL:=(239,sO)::oV
theorem oY:tO oX:=SY oW yp
def tv:tA:=[(156,5,24,.loop { keep:=[0,1,15,19,17,2,8,16,20,18,14],kb:=[],pl:=[.slot 7 false zJ,.slot 21 false zJ,.slot 6 false zJ,.box 19 [.lf .bool,.lf .str,.lf .bool],.box 0 [.ow true T2 false]],ex:=[(.ret,[]),(.exit 0,[])],pay:=.unit })]
def qp:Sg:=⟨[(false,(.sl true T2)),(false,.bool)],[(false,(.sl true T2)),zI,zI],Wm⟩
theorem xN:tE oX tv 130 qp:=fun _=>by kernel_rfl
def oZ:tL:=(130,qp)::oX
theorem oa:tO oZ:=SY oY xN
def tx:tA:=[(131,4,9,.loop { keep:=[0,1,7,11,9,13,8,12,10],kb:=[],pl:=[.slot 4 false .bool,.slot 14 false zJ],ex:=[(.ret,[]),(.exit 0,[])],pay:=.unit })]
def qq:Sg:=⟨[(false,(.sl true T2)),(false,(.sl true T2))],[(false,.bool)],WL⟩
theorem xO:tE oZ tx 131 qq:=fun _=>by kernel_rfl
def oc:tL:=(131,qq)::oZ
theorem od:tO oc:=SY oa xO
def wx:tA:=[(87,6,18,.loop { keep:=[0,1,3,15,23,19,17,25,21,2,4,16,24,20,18,26,14],kb:=[0],pl:=[.slot 27 false zJ,.slot 5 false zJ],ex:=[(.exit 0,[])],pay:=.unit })]
def vw:Sg:=⟨[(true,dy)],[zI],XG⟩
theorem e87:tE oc wx 87 vw:=fun _=>by kernel_rfl
def oe:tL:=(87,vw)::oc
theorem og:tO oe:=SY od e87
def wy:tA:=[(88,6,17,.loop { keep:=[0,1,3,15,11,19,5,9,17,13,2,4,12,10,18,14],kb:=[0],pl:=[.slot 20 false zJ,.slot 6 false zJ],ex:=[(.exit 0,[])],pay:=.unit })]
def vz:Sg:=⟨[(true,T9)],[zI,zI],Xo⟩
theorem e88:tE oe wy 88 vz:=fun _=>by kernel_rfl
def oh:tL:=(88,vz)::oe
theorem oi:tO oh:=SY og e88
end Go.Proofs.YtfipnhjfbebeiaaGreatDoor.Pt
