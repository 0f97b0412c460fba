/- The evaluator comes to each of the plain functions. No condition. -/
import Derived.Test.YtfceigpbgndbgaaGreatDoorPt8
set_option linter.all false
open Bool renaming true->zt, false->zf
namespace Go.Proofs.YtfceigpbgndbgaaGreatDoor.Pt
open Go Sv Pl
set_option maxRecDepth 1000000
def AAf:Sg:=⟨[(zt,gC),(zt,gC)],[(zf,.bool)],VG⟩
theorem e52:tQ iZ [] 52 AAf:=fun _=>by kernel_rfl
def ib:tL:=(52,AAf)::iZ
theorem lN:tO ib:=S6 lM e52
def wh:tA:=[(28,10,42,.loop { keep:=[0,1,7,31,23,39,19,35,27,43,5,17,33,49,25,41,21,37,29,45,4,16,32,48,24,40,20,36,28,44,6,18,34,50,26,42,22,38,30,46],kb:=[0],pl:=[.slot 3 zf zJ,.slot 2 zf zJ,.slot 8 zf zJ],ex:=[(.ret,[]),(.exit 0,[])],pay:=.unit })]
def AAM:Sg:=⟨[(zt,ZH)],[zI,zI],VZ⟩
theorem e28:tQ ib wh 28 AAM:=fun _=>by kernel_rfl
def ic:tL:=(28,AAM)::ib
theorem lO:tO ic:=S6 lN e28
def AAH:Sg:=⟨[(zt,aq)],[zI],XZ⟩
theorem e22:tQ ic [] 22 AAH:=fun _=>by kernel_rfl
def ie:tL:=(22,AAH)::ic
theorem lQ:tO ie:=S6 lO e22
def wi:tA:=[(29,6,15,.loop { keep:=[0,1,3,15,11,5,9,13,2,4,12,6,10,14],kb:=[0],pl:=[.slot 7 zf zJ,.slot 8 zf zJ],ex:=[(.exit 0,[])],pay:=.unit })]
def AAN:Sg:=⟨[(zt,T4)],[zI,zI,zI],YX⟩
theorem e29:tQ ie wi 29 AAN:=fun _=>by kernel_rfl
def ig:tL:=(29,AAN)::ie
theorem lR:tO ig:=S6 lQ e29
def AAF:Sg:=⟨[(zt,ZH)],[zI,zI],Xg⟩
theorem e12:tQ ig [] 12 AAF:=fun _=>by kernel_rfl
def ii:tL:=(12,AAF)::ig
theorem lS:tO ii:=S6 lR e12
def u5:Sg:=⟨[(zt,ZH)],[(zf,(.sl zf zJ)),zI],Wr⟩
theorem ACJ:tQ ii [] 168 u5:=fun _=>by kernel_rfl
def ij:tL:=(168,u5)::ii
theorem lT:tO ij:=S6 lS ACJ
def ye:tA:=[(202,5,13,.loop { keep:=[0,1,7,15,11,9,13,2,12,6,10,14],kb:=[0],pl:=[.slot 5 zf zJ,.slot 4 zf zJ,.slot 8 zf zJ],ex:=[(.ret,[]),(.exit 0,[])],pay:=.unit })]
def vY:Sg:=⟨[(zt,ZH),zI],[zI,zI],Vb⟩
theorem ACh:tQ ij ye 202 vY:=fun _=>by kernel_rfl
def ik:tL:=(202,vY)::ij
theorem lU:tO ik:=S6 lT ACh
def u7:Sg:=⟨[(zt,ZH),zI],[zI,zI],Vt⟩
theorem ACL:tQ ik [] 170 u7:=fun _=>by kernel_rfl
def il:tL:=(170,u7)::ik
theorem lV:tO il:=S6 lU ACL
def AAO:Sg:=⟨[zI,zI],[zI,zI],Yr⟩
theorem e30:tQ il [] 30 AAO:=fun _=>by kernel_rfl
def im:tL:=(30,AAO)::il
theorem lW:tO im:=S6 lV e30
def vZ:Sg:=⟨[(zt,ZH),(zt,aO)],[(zf,.bool)],W2⟩
theorem ACi:tQ im [] 203 vZ:=fun _=>by kernel_rfl
def io:tL:=(203,vZ)::im
theorem lX:tO io:=S6 lW ACi
def vd:Sg:=⟨[(zt,ZH),zI],[(zf,.bool)],Ys⟩
theorem ACj:tQ io [] 204 vd:=fun _=>by kernel_rfl
def ip:tL:=(204,vd)::io
theorem lY:tO ip:=S6 lX ACj
def u6:Sg:=⟨[(zt,ZH),zI],[(zf,.bool),zI],XC⟩
theorem ACK:tQ ip [] 169 u6:=fun _=>by kernel_rfl
def iq:tL:=(169,u6)::ip
theorem lZ:tO iq:=S6 lY ACK
def yC:tA:=[(114,7,16,.loop { keep:=[0,1,15,11,19,5,9,17,13,4,12,10,18,14],kb:=[0],pl:=[.slot 3 zf zJ,.slot 2 zf zJ,.slot 6 zf zJ],ex:=[(.ret,[]),(.exit 0,[])],pay:=.unit })]
def ub:Sg:=⟨[(zt,ZH)],[zI,zI],Vu⟩
theorem ABu:tQ iq yC 114 ub:=fun _=>by kernel_rfl
def ir:tL:=(114,ub)::iq
theorem ld:tO ir:=S6 lZ ABu
def u9:Sg:=⟨[(zt,ZH),zI,zI],[(zt,ZH),zI,zI],X4⟩
theorem ACM:tQ ir [] 171 u9:=fun _=>by kernel_rfl
def iu:tL:=(171,u9)::ir
theorem lg:tO iu:=S6 ld ACM
end Go.Proofs.YtfceigpbgndbgaaGreatDoor.Pt
