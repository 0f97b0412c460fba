/- The evaluator comes to each of the plain functions. No condition. -/
import Derived.Test.YtfceigpbgndbgaaGreatDoorPt7
set_option linter.all false
open Bool renaming true->zt, false->zf
namespace Go.Proofs.YtfceigpbgndbgaaGreatDoor.Pt
open Go Sv Pl
set_option maxRecDepth 1000000
def AAG:tA:=[(82,3,4,.loop { keep:=[0,1,2],kb:=[0],pl:=[.slot 3 zf zJ,.slot 4 zf zJ],ex:=[(.exit 0,[])],pay:=.unit })]
def yg:Sg:=⟨[(zt,fc)],[zI],XF⟩
theorem e82:tQ gp AAG 82 yg:=fun _=>by kernel_rfl
def gq:tL:=(82,yg)::gp
theorem jw:tO gq:=S6 jv e82
def AAH:tA:=[(84,7,18,.loop { keep:=[0,15,11,19,5,17,13,16,12,20,6,14],kb:=[],pl:=[.srow 3 zf zJ zf,.srow 7 zt T2 zf,.srow 2 zt T2 zf,.slot 4 zf zJ,.srow 8 zf zJ zf,.srow 9 zf zJ zt],ex:=[(.ret,[])],pay:=.unit,plx:=[.srow 3 zf zJ zf,.srow 2 zt T2 zf,.slot 4 zf zJ] })]
def yi:Sg:=⟨[(zf,(.sl zf (.sl zt T2)))],[(zf,(.sl zt T2)),(zf,(.sl zf zJ)),zI],Xm⟩
theorem e84:tQ gq AAH 84 yi:=fun _=>by kernel_rfl
def gr:tL:=(84,yi)::gq
theorem jx:tO gr:=S6 jw e84
def tx:Sg:=⟨[(zt,qk)],[zI],YN⟩
theorem ABA:tQ gr [] 210 tx:=fun _=>by kernel_rfl
def gu:tL:=(210,tx)::gr
theorem jy:tO gu:=S6 jx ABA
def tR:Sg:=⟨[(zt,qk),(zt,T2)],[(zf,.bool),(zt,qk),zI],Yi⟩
theorem AAt:tQ gu [] 179 tR:=fun _=>by kernel_rfl
def gv:tL:=(179,tR)::gu
theorem jz:tO gv:=S6 jy AAt
def wF:tA:=[(129,6,12,.loop { keep:=[0,1,7,15,17,13,16,14],kb:=[],pl:=[.slot 5 zf zJ,.slot 9 zf zJ,.srow 4 zt T2 zf,.srow 8 zt T2 zf,.slot 6 zf zJ,.box 8 [.lf .bool,.lf .str,.lf .bool]],ex:=[(.ret,[]),(.exit 0,[])],pay:=.unit })]
def sj:Sg:=⟨[(zf,(.sl zt T2)),(zf,.bool)],[(zf,(.sl zt T2)),zI,zI],Xx⟩
theorem AAd:tQ gv wF 129 sj:=fun _=>by kernel_rfl
def gx:tL:=(129,sj)::gv
theorem j0:tO gx:=S6 jz AAd
def yj:Sg:=⟨[(zf,(.sl zt T2)),(zf,.bool)],[(zf,(.sl zt T2)),(zt,qk)],WY⟩
theorem e85:tQ gx [] 85 yj:=fun _=>by kernel_rfl
def gy:tL:=(85,yj)::gx
theorem j7:tO gy:=S6 j0 e85
def AAJ:tA:=[(87,4,7,.loop { keep:=[0,1,7,9,8,6,10],kb:=[],pl:=[.slot 5 zf zJ,.slot 4 zf .bool],ex:=[(.ret,[]),(.exit 0,[])],pay:=.unit })]
def yq:Sg:=⟨[(zf,(.sl zt T2)),(zf,(.sl zt T2))],[(zf,.bool)],Vh⟩
theorem e87:tQ gy AAJ 87 yq:=fun _=>by kernel_rfl
def gz:tL:=(87,yq)::gy
theorem j8:tO gz:=S6 j7 e87
def ye:Sg:=⟨[(zt,fc)],[zI],YP⟩
theorem e80:tQ gz [] 80 ye:=fun _=>by kernel_rfl
def g9:tL:=(80,ye)::gz
theorem j9:tO g9:=S6 j8 e80
def AAF:tA:=[(81,6,14,.loop { keep:=[0,1,3,11,5,9,13,2,4,8,12,10,14],kb:=[0],pl:=[.slot 7 zf zJ,.slot 6 zf zJ],ex:=[(.exit 0,[])],pay:=.unit })]
def yf:Sg:=⟨[(zt,T9)],[zI,zI],Yg⟩
theorem e81:tQ g9 AAF 81 yf:=fun _=>by kernel_rfl
def hC:tL:=(81,yf)::g9
theorem kA:tO hC:=S6 j9 e81
def yO:Sg:=⟨[(zt,fc)],[zI,zI],U6⟩
theorem e50:tQ hC [] 50 yO:=fun _=>by kernel_rfl
def hG:tL:=(50,yO)::hC
theorem kB:tO hG:=S6 kA e50
def yh:Sg:=⟨[(zt,T9)],[(zt,T2),zI,(zt,T9),zI],XE⟩
theorem e83:tQ hG [] 83 yh:=fun _=>by kernel_rfl
def iA:tL:=(83,yh)::hG
theorem kC:tO iA:=S6 kB e83
def zz:tA:=[(51,11,32,.loop { keep:=[0,1,7,15,31,23,39,19,35,27,5,9,17,33,25,21,37,2,4,8,16,32,24,20,36,6,10,18,34,26,22,30],kb:=[0,1],pl:=[.slot 11 zf zJ,.box 29 [.lf (.sl zf (.sl zt T2)),.lf (.sl zf zJ),.lf (.sl zt T5),.lf (.sl zf zJ),.lf zJ,.lf .bool,.lf .str,.lf .bool,.lf (.sl zt T2),.lf zJ]],ex:=[(.exit 0,[])],pay:=.unit })]
def yP:Sg:=⟨[(zt,fc),zI],[(zt,fc),zI,zI],Uz⟩
theorem e51:tQ iA zz 51 yP:=fun _=>by kernel_rfl
def iB:tL:=(51,yP)::iA
theorem kD:tO iB:=S6 kC e51
def AAI:tA:=[(86,4,27,.loop { keep:=[0,1,3,7,15,23,11,19,27,9,17,25,13,21,2,8,16,24,12,20,28,6,10,18,26,14,22],kb:=[0,1],pl:=[.slot 5 zf zJ,.slot 4 zf .bool],ex:=[(.ret,[]),(.exit 0,[])],pay:=.unit })]
def yp:Sg:=⟨[(zt,T9),(zt,T9)],[(zf,.bool)],Yh⟩
theorem e86:tQ iB AAI 86 yp:=fun _=>by kernel_rfl
def iC:tL:=(86,yp)::iB
theorem kF:tO iC:=S6 kD e86
def yQ:Sg:=⟨[(zt,fc),(zt,fc)],[(zf,.bool)],VD⟩
theorem e52:tQ iC [] 52 yQ:=fun _=>by kernel_rfl
def iD:tL:=(52,yQ)::iC
theorem kG:tO iD:=S6 kF e52
end Go.Proofs.YtfceigpbgndbgaaGreatDoor.Pt
