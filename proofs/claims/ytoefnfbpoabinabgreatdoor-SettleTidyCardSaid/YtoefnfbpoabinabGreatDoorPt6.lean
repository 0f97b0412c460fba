/- The evaluator comes to each of the plain functions. No condition. -/
import Derived.Test.YtoefnfbpoabinabGreatDoorPt5
set_option linter.all false
open Option renaming none->zn
open Bool renaming true->zt, false->zf
namespace Go.Proofs.YtoefnfbpoabinabGreatDoor.Pt
open Go Sv Pl
set_option maxRecDepth 1000000
def AA7:Sg:=⟨[(zt,gm)],[(zt,gm),zI],Wx⟩
theorem e52:tQ se [] 52 AA7:=fun _=>by kernel_rfl
def si:tL:=(52,AA7)::se
theorem sj:tO si:=Tb sf e52
def wo:tA:=[(95,1,27,.loop { keep:=[0,1,7,8,6],kb:=[0,17,21,22],pl:=[.slot 9 zf zJ,.box 1 [.lf zJ],.box 2 [.lf zJ]],ex:=[(.exit 0,[(22,0,zn)])],pay:=.unit }),(95,4,37,.loop { keep:=[0,1,7,15,11,9,13,4,8,16,12,6,10,14],kb:=[0,17,21,22,30],pl:=[.slot 5 zf zJ,.box 1 [.lf zJ],.box 2 [.lf zJ]],ex:=[(.exit 2,[(22,0,zn)])],pay:=.unit })]
def AAx:Sg:=⟨[(zt,T4)],[zI,zI,zI],WW⟩
theorem e30:tQ si wo 30 AAx:=fun _=>by kernel_rfl
def sq:tL:=(30,AAx)::si
theorem ss:tO sq:=Tb sj e30
def ww:tA:=[(95,1,27,.loop { keep:=[0,1,7,8,6],kb:=[0,17,21,22],pl:=[.slot 9 zf zJ,.box 14 [.ow zt T3 zf]],ex:=[(.exit 0,[(22,0,zn)])],pay:=.unit }),(95,4,37,.loop { keep:=[0,1,7,15,11,9,13,4,8,16,12,6,10,14],kb:=[0,17,21,22,30],pl:=[.slot 5 zf zJ,.box 14 [.ow zt T3 zf]],ex:=[(.exit 2,[(22,0,zn)])],pay:=.unit }),(95,4,38,.loop { keep:=[0,1,7,15,11,9,13,4,8,16,12,6,10,14],kb:=[0,31,17,21,22],pl:=[.slot 5 zf zJ,.box 14 [.ow zt T3 zf]],ex:=[(.exit 2,[(22,0,zn)])],pay:=.unit })]
def AA4:Sg:=⟨[(zt,T4)],[(zf,(.sl zt T3)),zI],YW⟩
theorem e43:tQ sq ww 43 AA4:=fun _=>by kernel_rfl
def su:tL:=(43,AA4)::sq
theorem sv:tO su:=Tb ss e43
def AA5:Sg:=⟨[(zt,T2)],[(zf,.bool)],WB⟩
theorem e46:tQ su [] 46 AA5:=fun _=>by kernel_rfl
def sy:tL:=(46,AA5)::su
theorem tB:tO sy:=Tb sv e46
def wm:tA:=[(44,1,28,.loop { keep:=[0,1,7,2,6],kb:=[0,16],pl:=[.slot 8 zf zJ,.map 15 .str zf .bool,.box 14 [.ow zt T2 zf]],ex:=[(.exit 0,[])],pay:=.unit }),(22,9,31,.loop { keep:=[0,1,3,7,15,23,11,19,27,5,17,25,13,21,29,2,4,8,16,24,12,28,6,18,26,14,22],kb:=[0,15,16,14],pl:=[.slot 30 zf zJ],ex:=[],pay:=.unit }),(22,9,32,.loop { keep:=[0,1,3,7,15,23,11,19,27,5,17,25,13,21,29,2,4,8,16,24,12,28,6,18,26,14,22],kb:=[0,16],pl:=[.slot 30 zf zJ,.map 15 .str zf .bool,.box 14 [.ow zt T2 zf]],ex:=[(.exit 0,[])],pay:=.unit }),(44,1,44,.loop { keep:=[0,1,7,2,6],kb:=[0,35,16,28],pl:=[.slot 8 zf zJ,.map 15 .str zf .bool,.box 14 [.kp 28]],ex:=[(.exit 0,[])],pay:=.unit }),(65,2,44,.loop { keep:=[0,1,7,6],kb:=[0,15,16,28,14],pl:=[.slot 4 zf zJ,.slot 8 zf zJ],ex:=[(.ret,[]),(.exit 0,[])],pay:=.unit }),(44,1,45,.loop { keep:=[0,1,7,2,6],kb:=[0,16,36],pl:=[.slot 8 zf zJ,.map 15 .str zf .bool,.box 14 [.ow zt T2 zf]],ex:=[(.exit 0,[])],pay:=.unit }),(65,2,45,.loop { keep:=[0,1,7,6],kb:=[0,15,16,32,14],pl:=[.slot 4 zf zJ,.slot 8 zf zJ],ex:=[(.ret,[]),(.exit 0,[])],pay:=.unit }),(45,5,50,.loop { keep:=[1,15,11,9,4,12,10,14],kb:=[0,15,16,14],pl:=[.slot 5 zf zJ,.slot 6 zf zJ,.srow 0 zt T2 zf],ex:=[(.exit 0,[])],pay:=.unit,rel:=[(14,1000000)] }),(45,5,51,.loop { keep:=[1,15,11,9,4,12,10,14],kb:=[0,15,16,14],pl:=[.slot 5 zf zJ,.slot 6 zf zJ,.srow 0 zt T2 zf],ex:=[(.exit 0,[])],pay:=.unit,rel:=[(14,1000000)] })]
def AAw:Sg:=⟨[(zt,gm)],[(zf,(.sl zt T2)),zI],Wp⟩
theorem e22:tQ sy wm 22 AAw:=fun _=>by kernel_rfl
def tC:tL:=(22,AAw)::sy
theorem tD:tO tC:=Tb tB e22
def wq:tA:=[(31,4,5,.loop { keep:=[0,1,9,8],kb:=[],pl:=[.slot 5 zf zJ,.slot 4 zf zJ,.slot 10 zf zJ],ex:=[(.ret,[]),(.exit 0,[])],pay:=.unit })]
def AAy:Sg:=⟨[zI,zI],[zI,zI],Wn⟩
theorem e31:tQ tC wq 31 AAy:=fun _=>by kernel_rfl
def tG:tL:=(31,AAy)::tC
theorem tH:tO tG:=Tb tD e31
def wg:tA:=[(24,7,33,.loop { keep:=[0,1,7,15,19,5,13,21,2,4,8,12,20,6,18,14,22],kb:=[0,1,17,16],pl:=[.slot 23 zf zJ,.slot 9 zf zJ,.box 27 [.lf zJ,.lf (.sl zt T2),.lf zJ,.lf (.sl zt (.sl zt T3)),.lf (.sl zt dM),.lf zJ,.lf zJ]],ex:=[(.exit 0,[])],pay:=.unit })]
def AAp:Sg:=⟨[(zt,gm)],[(zt,gm),zI,zI],XK⟩
theorem e12:tQ tG wg 12 AAp:=fun _=>by kernel_rfl
def tI:tL:=(12,AAp)::tG
theorem tJ:tO tI:=Tb tH e12
def sg7:Sg:=⟨[(zt,gm)],[(zf,(.sl zt T2)),zI],Yu⟩
theorem e7:tQ tI [] 7 sg7:=fun _=>by kernel_rfl
def tK:tL:=(7,sg7)::tI
theorem tM:tO tK:=Tb tJ e7
def AAz:Sg:=⟨[(zt,T2)],[(zf,.bool)],W5⟩
theorem e33:tQ tK [] 33 AAz:=fun _=>by kernel_rfl
def tN:tL:=(33,AAz)::tK
theorem tR:tO tN:=Tb tM e33
def wh:tA:=[(65,2,76,.loop { keep:=[0,1,7,6],kb:=[0,23,60],pl:=[.slot 4 zf zJ,.slot 8 zf zJ],ex:=[(.ret,[]),(.exit 0,[])],pay:=.unit })]
def AAq:Sg:=⟨[(zt,gm)],[(zf,.bool),zI],XW⟩
theorem e14:tQ tN wh 14 AAq:=fun _=>by kernel_rfl
def tU:tL:=(14,AAq)::tN
theorem tV:tO tU:=Tb tR e14
def wv:tA:=[(37,2,2,.loop { keep:=[1,4],kb:=[],pl:=[.slot 0 zf zJ,.slot 5 zf zJ],ex:=[(.exit 0,[])],pay:=.unit })]
def AA3:Sg:=⟨[zI,zI],[zI],XV⟩
theorem e37:tQ tU wv 37 AA3:=fun _=>by kernel_rfl
def tW:tL:=(37,AA3)::tU
theorem tX:tO tW:=Tb tV e37
def AA9:Sg:=⟨[(zt,T2)],[zI],Xe⟩
theorem e54:tQ tW [] 54 AA9:=fun _=>by kernel_rfl
def tY:tL:=(54,AA9)::tW
theorem tZ:tO tY:=Tb tX e54
def zC:tA:=[(192,2,2,.loop { keep:=[0,1,4],kb:=[],pl:=[.slot 5 zf zJ],ex:=[(.exit 0,[])],pay:=.unit })]
def vw:Sg:=⟨[(zf,.str),(zf,.str)],[zI],Yl⟩
theorem ACn:tQ tY zC 192 vw:=fun _=>by kernel_rfl
def td:tL:=(192,vw)::tY
theorem te:tO td:=Tb tZ ACn
def vY:Sg:=⟨[(zf,.str),(zf,.str)],[zI],YN⟩
theorem ACb:tQ td [] 172 vY:=fun _=>by kernel_rfl
def tf:tL:=(172,vY)::td
theorem th:tO tf:=Tb te ACb
end Go.Proofs.YtoefnfbpoabinabGreatDoor.Pt
