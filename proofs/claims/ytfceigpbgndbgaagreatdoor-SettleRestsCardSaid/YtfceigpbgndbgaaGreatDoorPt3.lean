/- The evaluator comes to each of the plain functions. No condition. -/
import Derived.Test.YtfceigpbgndbgaaGreatDoorPt2
set_option linter.all false
open Option renaming none->zn
open Bool renaming true->zt, false->zf
namespace Go.Proofs.YtfceigpbgndbgaaGreatDoor.Pt
open Go Sv Pl
set_option maxRecDepth 1000000
def wg:tA:=[(242,13,63,.loop { keep:=[0,1,3,7,31,63,47,55,11,19,35,51,27,43,59,9,17,33,49,25,41,57,13,21,37,53,29,61,2,4,8,32,24,40,56,12,20,36,52,28,44,60,6,18,34,50,26,42,58,14,38,54,30,46,62],kb:=[0,1,33,52],pl:=[.slot 5 zf zJ,.slot 10 zf zJ,.box 2 [.kp 33,.ow zf zJ zf,.lf zJ]],ex:=[(.exit 0,[])],pay:=.unit })]
def uN:Sg:=⟨[(zt,T7),(zt,T5)],[(zt,T7),zI,zI],Vy⟩
theorem ABW:tQ nU wg 242 uN:=fun _=>by kernel_rfl
def nX:tL:=(242,uN)::nU
theorem nY:tO nX:=S6 nV ABW
def wS:tA:=[(240,0,45,.loop { keep:=[0,1],kb:=[39,35,43,9,13,44],pl:=[.box 0 [.ow zt T2 zf],.box 1 [.ow zf zJ zf]],ex:=[(.ret,[(44,0,zn)])],pay:=.unit }),(215,3,47,.loop { keep:=[0,1,11,13,4,10,14],kb:=[0,1,39,27,13,30],pl:=[.slot 15 zf zJ,.srow 5 zt T5 zt],ex:=[(.exit 0,[])],pay:=.unit }),(240,0,72,.loop { keep:=[0,1],kb:=[47,39,71,9,13,53,66,70,30],pl:=[.box 0 [.ow zt T2 zf],.box 1 [.ow zf zJ zf],.box 62 [.kp 30,.ow zf zJ zt,.lf (.sl zt T5),.lf (.sl zf zJ),.lf zJ]],ex:=[(.ret,[(71,0,zn)])],pay:=.unit })]
def tY:Sg:=⟨[(zf,(.sl zf (.sl zt T2)))],[(zf,(.sl zt T2)),(zf,(.sl zf zJ)),zI],Y7⟩
theorem AAy:tQ nX wS 192 tY:=fun _=>by kernel_rfl
def nZ:tL:=(192,tY)::nX
theorem na:tO nZ:=S6 nY AAy
def uO:Sg:=⟨[(zt,qk)],[zI],W6⟩
theorem ABX:tQ nZ [] 243 uO:=fun _=>by kernel_rfl
def ng:tL:=(243,uO)::nZ
theorem nh:tO ng:=S6 na ABX
def ua:Sg:=⟨[(zt,T2)],[(zt,T2)],U3⟩
theorem ABk:tQ ng [] 294 ua:=fun _=>by kernel_rfl
def ni:tL:=(294,ua)::ng
theorem nj:tO ni:=S6 nh ABk
def wT:tA:=[(221,5,24,.loop { keep:=[0,1,15,19,17,2,8,16,20,18,14],kb:=[],pl:=[.slot 7 zf zJ,.slot 21 zf zJ,.slot 6 zf zJ,.box 19 [.lf .bool,.lf .str,.lf .bool],.box 0 [.ow zt T2 zf]],ex:=[(.ret,[]),(.exit 0,[])],pay:=.unit })]
def tZ:Sg:=⟨[(zf,(.sl zt T2)),(zf,.bool)],[(zf,(.sl zt T2)),zI,zI],Xd⟩
theorem AAz:tQ ni wT 193 tZ:=fun _=>by kernel_rfl
def nk:tL:=(193,tZ)::ni
theorem nl:tO nk:=S6 nj AAz
def wU:tA:=[(194,4,9,.loop { keep:=[0,1,7,11,9,13,8,12,10],kb:=[],pl:=[.slot 4 zf .bool,.slot 14 zf zJ],ex:=[(.ret,[]),(.exit 0,[])],pay:=.unit })]
def td:Sg:=⟨[(zf,(.sl zt T2)),(zf,(.sl zt T2))],[(zf,.bool)],W7⟩
theorem AA0:tQ nk wU 194 td:=fun _=>by kernel_rfl
def np:tL:=(194,td)::nk
theorem nq:tO np:=S6 nl AA0
def wK:tA:=[(151,6,18,.loop { keep:=[0,1,3,15,23,19,17,25,21,2,4,16,24,20,18,26,14],kb:=[0],pl:=[.slot 27 zf zJ,.slot 5 zf zJ],ex:=[(.exit 0,[])],pay:=.unit })]
def tC:Sg:=⟨[(zt,fc)],[zI],X5⟩
theorem AAk:tQ np wK 151 tC:=fun _=>by kernel_rfl
def nr:tL:=(151,tC)::np
theorem nu:tO nr:=S6 nq AAk
def wL:tA:=[(152,6,17,.loop { keep:=[0,1,3,15,11,19,5,9,17,13,2,4,12,10,18,14],kb:=[0],pl:=[.slot 20 zf zJ,.slot 6 zf zJ],ex:=[(.exit 0,[])],pay:=.unit })]
def tD:Sg:=⟨[(zt,T9)],[zI,zI],Yc⟩
theorem AAl:tQ nr wL 152 tD:=fun _=>by kernel_rfl
def nv:tL:=(152,tD)::nr
theorem ny:tO nv:=S6 nu AAl
def sR:Sg:=⟨[(zt,fc)],[zI,zI],VI⟩
theorem AAQ:tQ nv [] 107 sR:=fun _=>by kernel_rfl
def nz:tL:=(107,sR)::nv
theorem oA:tO nz:=S6 ny AAQ
def te:Sg:=⟨[(zt,T9)],[(zt,T2),zI,(zt,T9),zI],Ve⟩
theorem AA1:tQ nz [] 195 te:=fun _=>by kernel_rfl
def oB:tL:=(195,te)::nz
theorem oC:tO oB:=S6 oA AA1
def tf:Sg:=⟨[(zt,qk),(zt,T2)],[(zf,.bool),(zt,qk),zI],Vo⟩
theorem AA2:tQ oB [] 196 tf:=fun _=>by kernel_rfl
def oD:tL:=(196,tf)::oB
theorem oE:tO oD:=S6 oC AA2
def vz:tA:=[(153,2,81,.loop { keep:=[0,1,6],kb:=[0,1,39,67,68],pl:=[.slot 7 zf zJ,.slot 4 zf zJ,.box 28 [.lf (.sl zf (.sl zt T2)),.lf (.sl zf zJ),.lf (.sl zt T5),.lf (.sl zf zJ),.lf zJ,.lf .bool,.lf .str,.lf .bool,.ow zt T2 zf,.lf zJ]],ex:=[(.ret,[]),(.exit 0,[])],pay:=.unit }),(153,2,98,.loop { keep:=[0,1,6],kb:=[0,1,39,67,68,86],pl:=[.slot 7 zf zJ,.slot 4 zf zJ,.box 28 [.lf (.sl zf (.sl zt T2)),.lf (.sl zf zJ),.lf (.sl zt T5),.lf (.sl zf zJ),.lf zJ,.lf .bool,.lf .str,.lf .bool,.ow zt T2 zf,.lf zJ]],ex:=[(.ret,[]),(.exit 0,[])],pay:=.unit }),(153,2,133,.loop { keep:=[0,1,6],kb:=[0,1,39,67,68,86],pl:=[.slot 7 zf zJ,.slot 4 zf zJ,.box 28 [.lf (.sl zf (.sl zt T2)),.lf (.sl zf zJ),.lf (.sl zt T5),.lf (.sl zf zJ),.lf zJ,.lf .bool,.lf .str,.lf .bool,.ow zt T2 zf,.lf zJ]],ex:=[(.ret,[]),(.exit 0,[])],pay:=.unit }),(153,2,120,.loop { keep:=[0,1,6],kb:=[0,1,39,67,68,86],pl:=[.slot 7 zf zJ,.slot 4 zf zJ,.box 28 [.lf (.sl zf (.sl zt T2)),.lf (.sl zf zJ),.lf (.sl zt T5),.lf (.sl zf zJ),.lf zJ,.lf .bool,.lf .str,.lf .bool,.ow zt T2 zf,.lf zJ]],ex:=[(.ret,[]),(.exit 0,[])],pay:=.unit })]
def sS:Sg:=⟨[(zt,fc),zI],[(zt,fc),zI,zI],Vc⟩
theorem AAR:tQ oD vz 108 sS:=fun _=>by kernel_rfl
def oF:tL:=(108,sS)::oD
theorem oG:tO oF:=S6 oE AAR
def wV:tA:=[(197,4,9,.loop { keep:=[0,1,7,11,9,8,12,6,10],kb:=[],pl:=[.slot 13 zf zJ,.slot 4 zf .bool],ex:=[(.ret,[]),(.exit 0,[])],pay:=.unit })]
def th:Sg:=⟨[(zf,(.sl zt T2)),(zf,(.sl zt T2))],[(zf,.bool)],VB⟩
theorem AA3:tQ oF wV 197 th:=fun _=>by kernel_rfl
def oH:tL:=(197,th)::oF
theorem oI:tO oH:=S6 oG AA3
def tG:Sg:=⟨[(zf,(.sl zt T2)),(zf,(.sl zt T2))],[(zf,.bool)],VW⟩
theorem AAm:tQ oH [] 156 tG:=fun _=>by kernel_rfl
def oJ:tL:=(156,tG)::oH
theorem oK:tO oJ:=S6 oI AAm
end Go.Proofs.YtfceigpbgndbgaaGreatDoor.Pt
