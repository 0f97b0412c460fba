/- The evaluator comes to each of the plain functions. No condition. -/
import Derived.Test.YtoefnfbpoabinaaGreatDoorPt6
set_option linter.all false
open Bool renaming true->zt, false->zf
namespace Go.Proofs.YtoefnfbpoabinaaGreatDoor.Pt
open Go Sv Pl
set_option maxRecDepth 1000000
def sv:Sg:=⟨[(zf,(.sl zt T2)),(zf,.bool)],[(zf,(.sl zt T2)),(zt,rB)],XE⟩
theorem AAX:tQ qk [] 136 sv:=fun _=>by kernel_rfl
def qm:tL:=(136,sv)::qk
theorem qn:tO qm:=UE ql AAX
def wM:tA:=[(138,4,7,.loop { keep:=[0,1,7,9,8,6,10],kb:=[],pl:=[.slot 5 zf zJ,.slot 4 zf .bool],ex:=[(.ret,[]),(.exit 0,[])],pay:=.unit })]
def tB:Sg:=⟨[(zf,(.sl zt T2)),(zf,(.sl zt T2))],[(zf,.bool)],WV⟩
theorem AAZ:tQ qm wM 138 tB:=fun _=>by kernel_rfl
def qo:tL:=(138,tB)::qm
theorem qp:tO qo:=UE qn AAZ
def si:Sg:=⟨[(zt,gf)],[zI],Yw⟩
theorem AAS:tQ qo [] 131 si:=fun _=>by kernel_rfl
def iW:tL:=(131,si)::qo
theorem kL:tO iW:=UE qp AAS
def wI:tA:=[(132,6,14,.loop { keep:=[0,1,3,11,5,9,13,2,4,8,12,10,14],kb:=[0],pl:=[.slot 7 zf zJ,.slot 6 zf zJ],ex:=[(.exit 0,[])],pay:=.unit })]
def sj:Sg:=⟨[(zt,T9)],[zI,zI],ZN⟩
theorem AAT:tQ iW wI 132 sj:=fun _=>by kernel_rfl
def iX:tL:=(132,sj)::iW
theorem kM:tO iX:=UE kL AAT
def yp:Sg:=⟨[(zt,gf)],[zI,zI],V1⟩
theorem e89:tQ iX [] 89 yp:=fun _=>by kernel_rfl
def iY:tL:=(89,yp)::iX
theorem kO:tO iY:=UE kM e89
def ss:Sg:=⟨[(zt,T9)],[(zt,T2),zI,(zt,T9),zI],X3⟩
theorem AAV:tQ iY [] 134 ss:=fun _=>by kernel_rfl
def iZ:tL:=(134,ss)::iY
theorem kP:tO iZ:=UE kO AAV
def AAD:tA:=[(90,11,32,.loop { keep:=[0,1,7,15,31,23,39,19,35,27,5,9,17,33,25,21,37,2,4,8,16,32,24,20,36,6,10,18,34,26,22,30],kb:=[0,1],pl:=[.slot 11 zf zJ,.box 29 [.lf (.sl zf (.sl zt T2)),.lf (.sl zf zJ),.lf (.sl zt T5),.lf (.sl zf zJ),.lf zJ,.lf .bool,.lf .str,.lf .bool,.lf (.sl zt T2),.lf zJ]],ex:=[(.exit 0,[])],pay:=.unit })]
def yq:Sg:=⟨[(zt,gf),zI],[(zt,gf),zI,zI],WF⟩
theorem e90:tQ iZ AAD 90 yq:=fun _=>by kernel_rfl
def ib:tL:=(90,yq)::iZ
theorem kQ:tO ib:=UE kP e90
def wL:tA:=[(137,4,27,.loop { keep:=[0,1,3,7,15,23,11,19,27,9,17,25,13,21,2,8,16,24,12,20,28,6,10,18,26,14,22],kb:=[0,1],pl:=[.slot 5 zf zJ,.slot 4 zf .bool],ex:=[(.ret,[]),(.exit 0,[])],pay:=.unit })]
def sy:Sg:=⟨[(zt,T9),(zt,T9)],[(zf,.bool)],ZO⟩
theorem AAY:tQ ib wL 137 sy:=fun _=>by kernel_rfl
def ic:tL:=(137,sy)::ib
theorem kS:tO ic:=UE kQ AAY
def yu:Sg:=⟨[(zt,gf),(zt,gf)],[(zf,.bool)],WE⟩
theorem e91:tQ ic [] 91 yu:=fun _=>by kernel_rfl
def ie:tL:=(91,yu)::ic
theorem kT:tO ie:=UE kS e91
def zp:tA:=[(58,10,42,.loop { keep:=[0,1,7,31,23,39,19,35,27,43,5,17,33,49,25,41,21,37,29,45,4,16,32,48,24,40,20,36,28,44,6,18,34,50,26,42,22,38,30,46],kb:=[0],pl:=[.slot 3 zf zJ,.slot 2 zf zJ,.slot 8 zf zJ],ex:=[(.ret,[]),(.exit 0,[])],pay:=.unit })]
def yU:Sg:=⟨[(zt,y9)],[zI,zI],XB⟩
theorem e58:tQ ie zp 58 yU:=fun _=>by kernel_rfl
def ig:tL:=(58,yU)::ie
theorem kU:tO ig:=UE kT e58
def yK:Sg:=⟨[(zt,jG)],[zI],YE⟩
theorem e27:tQ ig [] 27 yK:=fun _=>by kernel_rfl
def ii:tL:=(27,yK)::ig
theorem kV:tO ii:=UE kU e27
def AAE:tA:=[(92,2,3,.loop { keep:=[0,1,3,4],kb:=[0],pl:=[.slot 5 zf zJ],ex:=[(.exit 0,[])],pay:=.unit })]
def yx:Sg:=⟨[(zf,(.sl zt T2)),(zt,T2)],[(zf,(.sl zt T2))],ZC⟩
theorem e92:tQ ii AAE 92 yx:=fun _=>by kernel_rfl
def ij:tL:=(92,yx)::ii
theorem kW:tO ij:=UE kV e92
def zq:tA:=[(59,4,11,.loop { keep:=[0,1,3,11,13,2,4,12,10,14],kb:=[0],pl:=[.slot 5 zf (.sl zt T2),.slot 6 zf zJ],ex:=[(.exit 0,[])],pay:=.unit }),(59,7,17,.loop { keep:=[0,1,3,15,11,17,13,2,4,16,12,6,10,18,14],kb:=[0,11],pl:=[.slot 7 zf zJ,.slot 5 zf (.sl zt T2)],ex:=[(.exit 2,[])],pay:=.unit,relS:=[5] }),(59,12,14,.loop { keep:=[0,1,3,11,5,13,2,4,12,6,10,14],kb:=[0,11],pl:=[.slot 9 zf zJ,.srow 8 zt T2 zf],ex:=[],pay:=.unit }),(59,7,16,.loop { keep:=[0,1,3,15,11,17,13,2,4,16,12,6,10,18,14],kb:=[0],pl:=[.slot 7 zf zJ,.slot 5 zf (.sl zt T2)],ex:=[(.exit 2,[])],pay:=.unit }),(59,12,13,.loop { keep:=[0,1,3,11,5,13,2,4,12,6,10,14],kb:=[0],pl:=[.slot 9 zf zJ,.srow 8 zt T2 zf],ex:=[(.exit 4,[])],pay:=.unit })]
def yV:Sg:=⟨[(zt,T4)],[(zf,(.sl zt T2))],Ze⟩
theorem e59:tQ ij zq 59 yV:=fun _=>by kernel_rfl
def ik:tL:=(59,yV)::ij
theorem kX:tO ik:=UE kW e59
def uj:tA:=[(28,4,14,.loop { keep:=[0,1,15,19,17,21,2,4,16,20,14,22],kb:=[0],pl:=[.srow 3 zt T2 zf,.slot 5 zf zJ],ex:=[(.exit 0,[])],pay:=.unit }),(28,8,21,.loop { keep:=[0,1,3,15,23,19,5,17,25,21,2,4,16,24,20,18,26,14,22],kb:=[0,14],pl:=[.slot 7 zf zJ,.slot 6 zf .bool],ex:=[(.exit 2,[])],pay:=.unit }),(28,14,16,.loop { keep:=[0,1,3,15,19,5,17,21,2,4,16,20,14,22],kb:=[0,14],pl:=[.srow 8 zt T2 zf],ex:=[(.exit 4,[])],pay:=.unit }),(28,17,24,.loop { keep:=[0,1,3,15,63,19,5,17,65,21,2,4,8,16,64,20,66,14,22,62],kb:=[0,16,14],pl:=[.slot 9 zf zJ,.slot 10 zf zJ],ex:=[(.exit 6,[])],pay:=.unit }),(28,25,19,.loop { keep:=[0,1,3,15,19,5,17,21,2,4,8,16,20,14,22],kb:=[0,16,14],pl:=[.slot 13 zf zJ,.srow 12 zt T2 zf],ex:=[(.exit 8,[])],pay:=.unit })]
def yL:Sg:=⟨[(zt,jG)],[(zf,(.sl zt T2))],ZD⟩
theorem e28:tQ ik uj 28 yL:=fun _=>by kernel_rfl
def il:tL:=(28,yL)::ik
theorem kY:tO il:=UE kX e28
end Go.Proofs.YtoefnfbpoabinaaGreatDoor.Pt
