/- The evaluator comes to each of the plain functions. No condition. -/
import Derived.Test.YtfipnhjfbebeiaaGreatDoorPt4
set_option linter.all false
namespace Go.Proofs.YtfipnhjfbebeiaaGreatDoor.Pt
open Go Sv Pl
set_option maxRecDepth 1000000
theorem zq (x:AP [zI,zI,(true,wx)]):P0 Tryz.prog (Ae pu oC) (RM []) 3000 60 205 [zI,zI,(true,wx)] [(false,.bool)] x=UZ x:=by kernel_rfl
def oE:tL:=(3145933,⟨[zI,zI,(true,wx)],[(false,.bool)],UZ⟩)::oC
theorem oF:tO oE:=Sr (f:=205) oD zq
def uo:tA:=[(180,13,63,.loop { keep:=[0,1,3,7,31,63,47,55,11,19,35,51,27,43,59,9,17,33,49,25,41,57,13,21,37,53,29,61,2,4,8,32,24,40,56,12,20,36,52,28,44,60,6,18,34,50,26,42,58,14,38,54,30,46,62],kb:=[0,1,33,52],pl:=[.slot 5 false zJ,.slot 10 false zJ,.box 2 [.kp 33,.ow false zJ false,.lf zJ]],ex:=[(.exit 0,[])],pay:=.unit })]
def si:Sg:=⟨[(true,T7),(true,T5)],[(true,T7),zI,zI],VH⟩
theorem zR:tE oE uo 180 si:=fun _=>by kernel_rfl
def oG:tL:=(180,si)::oE
theorem oH:tO oG:=SY oF zR
def ua:tA:=[(178,0,45,.loop { keep:=[0,1],kb:=[39,35,43,9,13,44],pl:=[.box 0 [.ow true T2 false],.box 1 [.ow false zJ false]],ex:=[(.ret,[(44,0,none)])],pay:=.unit }),(149,3,47,.loop { keep:=[0,1,11,13,4,10,14],kb:=[0,1,39,27,13,30],pl:=[.slot 15 false zJ,.srow 5 true T5 true],ex:=[(.exit 0,[])],pay:=.unit }),(178,0,72,.loop { keep:=[0,1],kb:=[47,39,71,9,13,53,66,70,30],pl:=[.box 0 [.ow true T2 false],.box 1 [.ow false zJ false],.box 62 [.kp 30,.ow false zJ true,.lf (.sl true T5),.lf (.sl false zJ),.lf zJ]],ex:=[(.ret,[(71,0,none)])],pay:=.unit })]
def rZ:Sg:=⟨[(false,(.sl false (.sl true T2)))],[(false,(.sl true T2)),(false,(.sl false zJ)),zI],YJ⟩
theorem yR:tE oG ua 129 rZ:=fun _=>by kernel_rfl
def oI:tL:=(129,rZ)::oG
theorem oJ:tO oI:=SY oH yR
def sj:Sg:=⟨[(true,pn)],[zI],WN⟩
theorem zT:tE oI [] 181 sj:=fun _=>by kernel_rfl
def oK:tL:=(181,sj)::oI
theorem oL:tO oK:=SY oJ zT
def tU:Sg:=⟨[(true,T2)],[(true,T2)],UP⟩
theorem zs:tE oK [] 239 tU:=fun _=>by kernel_rfl
def oM:tL:=(239,tU)::oK
theorem oN:tO oM:=SY oL zs
def ub:tA:=[(156,5,24,.loop { keep:=[0,1,15,19,17,2,8,16,20,18,14],kb:=[],pl:=[.slot 7 false zJ,.slot 21 false zJ,.slot 6 false zJ,.box 19 [.lf .bool,.lf .str,.lf .bool],.box 0 [.ow true T2 false]],ex:=[(.ret,[]),(.exit 0,[])],pay:=.unit })]
def ra:Sg:=⟨[(false,(.sl true T2)),(false,.bool)],[(false,(.sl true T2)),zI,zI],Wp⟩
theorem yS:tE oM ub 130 ra:=fun _=>by kernel_rfl
def oO:tL:=(130,ra)::oM
theorem oQ:tO oO:=SY oN yS
def uc:tA:=[(131,4,9,.loop { keep:=[0,1,7,11,9,13,8,12,10],kb:=[],pl:=[.slot 4 false .bool,.slot 14 false zJ],ex:=[(.ret,[]),(.exit 0,[])],pay:=.unit })]
def rf:Sg:=⟨[(false,(.sl true T2)),(false,(.sl true T2))],[(false,.bool)],WO⟩
theorem yT:tE oO uc 131 rf:=fun _=>by kernel_rfl
def oR:tL:=(131,rf)::oO
theorem oS:tO oR:=SY oQ yT
def xj:tA:=[(87,6,18,.loop { keep:=[0,1,3,15,23,19,17,25,21,2,4,16,24,20,18,26,14],kb:=[0],pl:=[.slot 27 false zJ,.slot 5 false zJ],ex:=[(.exit 0,[])],pay:=.unit })]
def wj:Sg:=⟨[(true,dl)],[zI],XG⟩
theorem e87:tE oR xj 87 wj:=fun _=>by kernel_rfl
def oT:tL:=(87,wj)::oR
theorem oU:tO oT:=SY oS e87
def xp:tA:=[(88,6,17,.loop { keep:=[0,1,3,15,11,19,5,9,17,13,2,4,12,10,18,14],kb:=[0],pl:=[.slot 20 false zJ,.slot 6 false zJ],ex:=[(.exit 0,[])],pay:=.unit })]
def wm:Sg:=⟨[(true,T9)],[zI,zI],Xr⟩
theorem e88:tE oT xp 88 wm:=fun _=>by kernel_rfl
def oV:tL:=(88,wm)::oT
theorem oW:tO oV:=SY oU e88
def wG:Sg:=⟨[(true,dl)],[zI,zI],Ub⟩
theorem e53:tE oV [] 53 wG:=fun _=>by kernel_rfl
def oX:tL:=(53,wG)::oV
theorem oY:tO oX:=SY oW e53
def ri:Sg:=⟨[(true,T9)],[(true,T2),zI,(true,T9),zI],Uv⟩
theorem yU:tE oX [] 132 ri:=fun _=>by kernel_rfl
def oZ:tL:=(132,ri)::oX
theorem oa:tO oZ:=SY oY yU
def rm:Sg:=⟨[(true,pn),(true,T2)],[(false,.bool),(true,pn),zI],U7⟩
theorem yV:tE oZ [] 133 rm:=fun _=>by kernel_rfl
def oc:tL:=(133,rm)::oZ
theorem od:tO oc:=SY oa yV
def xP:tA:=[(89,2,81,.loop { keep:=[0,1,6],kb:=[0,1,39,67,68],pl:=[.slot 7 false zJ,.slot 4 false zJ,.box 28 [.lf (.sl false (.sl true T2)),.lf (.sl false zJ),.lf (.sl true T5),.lf (.sl false zJ),.lf zJ,.lf .bool,.lf .str,.lf .bool,.ow true T2 false,.lf zJ]],ex:=[(.ret,[]),(.exit 0,[])],pay:=.unit }),(89,2,98,.loop { keep:=[0,1,6],kb:=[0,1,39,67,68,86],pl:=[.slot 7 false zJ,.slot 4 false zJ,.box 28 [.lf (.sl false (.sl true T2)),.lf (.sl false zJ),.lf (.sl true T5),.lf (.sl false zJ),.lf zJ,.lf .bool,.lf .str,.lf .bool,.ow true T2 false,.lf zJ]],ex:=[(.ret,[]),(.exit 0,[])],pay:=.unit }),(89,2,133,.loop { keep:=[0,1,6],kb:=[0,1,39,67,68,86],pl:=[.slot 7 false zJ,.slot 4 false zJ,.box 28 [.lf (.sl false (.sl true T2)),.lf (.sl false zJ),.lf (.sl true T5),.lf (.sl false zJ),.lf zJ,.lf .bool,.lf .str,.lf .bool,.ow true T2 false,.lf zJ]],ex:=[(.ret,[]),(.exit 0,[])],pay:=.unit }),(89,2,120,.loop { keep:=[0,1,6],kb:=[0,1,39,67,68,86],pl:=[.slot 7 false zJ,.slot 4 false zJ,.box 28 [.lf (.sl false (.sl true T2)),.lf (.sl false zJ),.lf (.sl true T5),.lf (.sl false zJ),.lf zJ,.lf .bool,.lf .str,.lf .bool,.ow true T2 false,.lf zJ]],ex:=[(.ret,[]),(.exit 0,[])],pay:=.unit })]
def wH:Sg:=⟨[(true,dl),zI],[(true,dl),zI,zI],Ut⟩
theorem e54:tE oc xP 54 wH:=fun _=>by kernel_rfl
def oe:tL:=(54,wH)::oc
theorem og:tO oe:=SY od e54
def ud:tA:=[(134,4,9,.loop { keep:=[0,1,7,11,9,8,12,6,10],kb:=[],pl:=[.slot 13 false zJ,.slot 4 false .bool],ex:=[(.ret,[]),(.exit 0,[])],pay:=.unit })]
def rn:Sg:=⟨[(false,(.sl true T2)),(false,(.sl true T2))],[(false,.bool)],Ui⟩
theorem yW:tE oe ud 134 rn:=fun _=>by kernel_rfl
def oh:tL:=(134,rn)::oe
theorem oi:tO oh:=SY og yW
end Go.Proofs.YtfipnhjfbebeiaaGreatDoor.Pt
