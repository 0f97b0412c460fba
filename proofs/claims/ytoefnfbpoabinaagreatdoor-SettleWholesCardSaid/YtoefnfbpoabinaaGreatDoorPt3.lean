/- The evaluator comes to each of the plain functions. No condition. -/
import Derived.Test.YtoefnfbpoabinaaGreatDoorPt2
set_option linter.all false
open Option renaming none->zn
open Bool renaming true->zt, false->zf
namespace Go.Proofs.YtoefnfbpoabinaaGreatDoor.Pt
open Go Sv Pl
set_option maxRecDepth 1000000
def wm:tA:=[(247,13,63,.loop { keep:=[0,1,3,7,31,63,47,55,11,19,35,51,27,43,59,9,17,33,49,25,41,57,13,21,37,53,29,61,2,4,8,32,24,40,56,12,20,36,52,28,44,60,6,18,34,50,26,42,58,14,38,54,30,46,62],kb:=[0,1,33,52],pl:=[.slot 5 zf zJ,.slot 10 zf zJ,.box 2 [.kp 33,.ow zf zJ zf,.lf zJ]],ex:=[(.exit 0,[])],pay:=.unit })]
def uK:Sg:=⟨[(zt,T7),(zt,T5)],[(zt,T7),zI,zI],WI⟩
theorem ABJ:tQ ng wm 247 uK:=fun _=>by kernel_rfl
def ni:tL:=(247,uK)::ng
theorem nj:tO ni:=Tb nh ABJ
def wa:tA:=[(245,0,45,.loop { keep:=[0,1],kb:=[39,35,43,9,13,44],pl:=[.box 0 [.ow zt T2 zf],.box 1 [.ow zf zJ zf]],ex:=[(.ret,[(44,0,zn)])],pay:=.unit }),(214,3,47,.loop { keep:=[0,1,11,13,4,10,14],kb:=[0,1,39,27,13,30],pl:=[.slot 15 zf zJ,.srow 5 zt T5 zt],ex:=[(.exit 0,[])],pay:=.unit }),(245,0,72,.loop { keep:=[0,1],kb:=[47,39,71,9,13,53,66,70,30],pl:=[.box 0 [.ow zt T2 zf],.box 1 [.ow zf zJ zf],.box 62 [.kp 30,.ow zf zJ zt,.lf (.sl zt T5),.lf (.sl zf zJ),.lf zJ]],ex:=[(.ret,[(71,0,zn)])],pay:=.unit })]
def tj:Sg:=⟨[(zf,(.sl zf (.sl zt T2)))],[(zf,(.sl zt T2)),(zf,(.sl zf zJ)),zI],ZH⟩
theorem AAv:tQ ni wa 195 tj:=fun _=>by kernel_rfl
def nk:tL:=(195,tj)::ni
theorem nl:tO nk:=Tb nj AAv
def uL:Sg:=⟨[(zt,qu)],[zI],XU⟩
theorem ABK:tQ nk [] 248 uL:=fun _=>by kernel_rfl
def np:tL:=(248,uL)::nk
theorem nq:tO np:=Tb nl ABK
def uS:Sg:=⟨[(zt,T2)],[(zt,T2)],VZ⟩
theorem ABT:tQ np [] 305 uS:=fun _=>by kernel_rfl
def nr:tL:=(305,uS)::np
theorem nu:tO nr:=Tb nq ABT
def wb:tA:=[(220,5,24,.loop { keep:=[0,1,15,19,17,2,8,16,20,18,14],kb:=[],pl:=[.slot 7 zf zJ,.slot 21 zf zJ,.slot 6 zf zJ,.box 19 [.lf .bool,.lf .str,.lf .bool],.box 0 [.ow zt T2 zf]],ex:=[(.ret,[]),(.exit 0,[])],pay:=.unit })]
def tn:Sg:=⟨[(zf,(.sl zt T2)),(zf,.bool)],[(zf,(.sl zt T2)),zI,zI],Xu⟩
theorem AAw:tQ nr wb 196 tn:=fun _=>by kernel_rfl
def nv:tL:=(196,tn)::nr
theorem ny:tO nv:=Tb nu AAw
def wc:tA:=[(197,4,9,.loop { keep:=[0,1,7,11,9,13,8,12,10],kb:=[],pl:=[.slot 4 zf .bool,.slot 14 zf zJ],ex:=[(.ret,[]),(.exit 0,[])],pay:=.unit })]
def tp:Sg:=⟨[(zf,(.sl zt T2)),(zf,(.sl zt T2))],[(zf,.bool)],XW⟩
theorem AAx:tQ nv wc 197 tp:=fun _=>by kernel_rfl
def nz:tL:=(197,tp)::nv
theorem oA:tO nz:=Tb ny AAx
def wM:tA:=[(155,6,18,.loop { keep:=[0,1,3,15,23,19,17,25,21,2,4,16,24,20,18,26,14],kb:=[0],pl:=[.slot 27 zf zJ,.slot 5 zf zJ],ex:=[(.exit 0,[])],pay:=.unit })]
def tI:Sg:=⟨[(zt,gL)],[zI],YI⟩
theorem AAe:tQ nz wM 155 tI:=fun _=>by kernel_rfl
def oB:tL:=(155,tI)::nz
theorem oC:tO oB:=Tb oA AAe
def wN:tA:=[(156,6,17,.loop { keep:=[0,1,3,15,11,19,5,9,17,13,2,4,12,10,18,14],kb:=[0],pl:=[.slot 20 zf zJ,.slot 6 zf zJ],ex:=[(.exit 0,[])],pay:=.unit })]
def tJ:Sg:=⟨[(zt,T9)],[zI,zI],Ys⟩
theorem AAf:tQ oB wN 156 tJ:=fun _=>by kernel_rfl
def oD:tL:=(156,tJ)::oB
theorem oE:tO oD:=Tb oC AAf
def sX:Sg:=⟨[(zt,gL)],[zI,zI],Vo⟩
theorem AAM:tQ oD [] 115 sX:=fun _=>by kernel_rfl
def oF:tL:=(115,sX)::oD
theorem oG:tO oF:=Tb oE AAM
def tq:Sg:=⟨[(zt,T9)],[(zt,T2),zI,(zt,T9),zI],V4⟩
theorem AAy:tQ oF [] 198 tq:=fun _=>by kernel_rfl
def oH:tL:=(198,tq)::oF
theorem oI:tO oH:=Tb oG AAy
def tu:Sg:=⟨[(zt,qu),(zt,T2)],[(zf,.bool),(zt,qu),zI],V9⟩
theorem AAz:tQ oH [] 199 tu:=fun _=>by kernel_rfl
def oJ:tL:=(199,tu)::oH
theorem oK:tO oJ:=Tb oI AAz
def wE:tA:=[(157,2,81,.loop { keep:=[0,1,6],kb:=[0,1,39,67,68],pl:=[.slot 7 zf zJ,.slot 4 zf zJ,.box 28 [.lf (.sl zf (.sl zt T2)),.lf (.sl zf zJ),.lf (.sl zt T5),.lf (.sl zf zJ),.lf zJ,.lf .bool,.lf .str,.lf .bool,.ow zt T2 zf,.lf zJ]],ex:=[(.ret,[]),(.exit 0,[])],pay:=.unit }),(157,2,98,.loop { keep:=[0,1,6],kb:=[0,1,39,67,68,86],pl:=[.slot 7 zf zJ,.slot 4 zf zJ,.box 28 [.lf (.sl zf (.sl zt T2)),.lf (.sl zf zJ),.lf (.sl zt T5),.lf (.sl zf zJ),.lf zJ,.lf .bool,.lf .str,.lf .bool,.ow zt T2 zf,.lf zJ]],ex:=[(.ret,[]),(.exit 0,[])],pay:=.unit }),(157,2,133,.loop { keep:=[0,1,6],kb:=[0,1,39,67,68,86],pl:=[.slot 7 zf zJ,.slot 4 zf zJ,.box 28 [.lf (.sl zf (.sl zt T2)),.lf (.sl zf zJ),.lf (.sl zt T5),.lf (.sl zf zJ),.lf zJ,.lf .bool,.lf .str,.lf .bool,.ow zt T2 zf,.lf zJ]],ex:=[(.ret,[]),(.exit 0,[])],pay:=.unit }),(157,2,120,.loop { keep:=[0,1,6],kb:=[0,1,39,67,68,86],pl:=[.slot 7 zf zJ,.slot 4 zf zJ,.box 28 [.lf (.sl zf (.sl zt T2)),.lf (.sl zf zJ),.lf (.sl zt T5),.lf (.sl zf zJ),.lf zJ,.lf .bool,.lf .str,.lf .bool,.ow zt T2 zf,.lf zJ]],ex:=[(.ret,[]),(.exit 0,[])],pay:=.unit })]
def sY:Sg:=⟨[(zt,gL),zI],[(zt,gL),zI,zI],V3⟩
theorem AAN:tQ oJ wE 116 sY:=fun _=>by kernel_rfl
def oL:tL:=(116,sY)::oJ
theorem oM:tO oL:=Tb oK AAN
def we:tA:=[(200,4,9,.loop { keep:=[0,1,7,11,9,8,12,6,10],kb:=[],pl:=[.slot 13 zf zJ,.slot 4 zf .bool],ex:=[(.ret,[]),(.exit 0,[])],pay:=.unit })]
def tv:Sg:=⟨[(zf,(.sl zt T2)),(zf,(.sl zt T2))],[(zf,.bool)],Vf⟩
theorem AA0:tQ oL we 200 tv:=fun _=>by kernel_rfl
def oN:tL:=(200,tv)::oL
theorem oO:tO oN:=Tb oM AA0
def tK:Sg:=⟨[(zf,(.sl zt T2)),(zf,(.sl zt T2))],[(zf,.bool)],Vy⟩
theorem AAg:tQ oN [] 160 tK:=fun _=>by kernel_rfl
def oQ:tL:=(160,tK)::oN
theorem oR:tO oQ:=Tb oO AAg
end Go.Proofs.YtoefnfbpoabinaaGreatDoor.Pt
