/- The evaluator comes to each of the plain functions. No condition. -/
import Derived.Test.YtoefnfbpoabinaaGreatDoorPt2
set_option linter.all false
open Option renaming none->zn
open Bool renaming true->zt, false->zf
namespace Go.Proofs.YtoefnfbpoabinaaGreatDoor.Pt
open Go Sv Pl
set_option maxRecDepth 1000000
def wq:tA:=[(247,13,63,.loop { keep:=[0,1,3,7,31,63,47,55,11,19,35,51,27,43,59,9,17,33,49,25,41,57,13,21,37,53,29,61,2,4,8,32,24,40,56,12,20,36,52,28,44,60,6,18,34,50,26,42,58,14,38,54,30,46,62],kb:=[0,1,33,52],pl:=[.slot 5 zf zJ,.slot 10 zf zJ,.box 2 [.kp 33,.ow zf zJ zf,.lf zJ]],ex:=[(.exit 0,[])],pay:=.unit })]
def uM:Sg:=⟨[(zt,T7),(zt,T5)],[(zt,T7),zI,zI],Wh⟩
theorem ABK:tQ nr wq 247 uM:=fun _=>by kernel_rfl
def nv:tL:=(247,uM)::nr
theorem ny:tO nv:=UE nu ABK
def wc:tA:=[(245,0,45,.loop { keep:=[0,1],kb:=[39,35,43,9,13,44],pl:=[.box 0 [.ow zt T2 zf],.box 1 [.ow zf zJ zf]],ex:=[(.ret,[(44,0,zn)])],pay:=.unit }),(214,3,47,.loop { keep:=[0,1,11,13,4,10,14],kb:=[0,1,39,27,13,30],pl:=[.slot 15 zf zJ,.srow 5 zt T5 zt],ex:=[(.exit 0,[])],pay:=.unit }),(245,0,72,.loop { keep:=[0,1],kb:=[47,39,71,9,13,53,66,70,30],pl:=[.box 0 [.ow zt T2 zf],.box 1 [.ow zf zJ zf],.box 62 [.kp 30,.ow zf zJ zt,.lf (.sl zt T5),.lf (.sl zf zJ),.lf zJ]],ex:=[(.ret,[(71,0,zn)])],pay:=.unit })]
def tp:Sg:=⟨[(zf,(.sl zf (.sl zt T2)))],[(zf,(.sl zt T2)),(zf,(.sl zf zJ)),zI],Zd⟩
theorem AAw:tQ nv wc 195 tp:=fun _=>by kernel_rfl
def nz:tL:=(195,tp)::nv
theorem oA:tO nz:=UE ny AAw
def uN:Sg:=⟨[(zt,rB)],[zI],Xr⟩
theorem ABL:tQ nz [] 248 uN:=fun _=>by kernel_rfl
def oB:tL:=(248,uN)::nz
theorem oC:tO oB:=UE oA ABL
def uU:Sg:=⟨[(zt,T2)],[(zt,T2)],Vy⟩
theorem ABU:tQ oB [] 305 uU:=fun _=>by kernel_rfl
def oD:tL:=(305,uU)::oB
theorem oE:tO oD:=UE oC ABU
def we:tA:=[(220,5,24,.loop { keep:=[0,1,15,19,17,2,8,16,20,18,14],kb:=[],pl:=[.slot 7 zf zJ,.slot 21 zf zJ,.slot 6 zf zJ,.box 19 [.lf .bool,.lf .str,.lf .bool],.box 0 [.ow zt T2 zf]],ex:=[(.ret,[]),(.exit 0,[])],pay:=.unit })]
def tq:Sg:=⟨[(zf,(.sl zt T2)),(zf,.bool)],[(zf,(.sl zt T2)),zI,zI],YI⟩
theorem AAx:tQ oD we 196 tq:=fun _=>by kernel_rfl
def oF:tL:=(196,tq)::oD
theorem oG:tO oF:=UE oE AAx
def wg:tA:=[(197,4,9,.loop { keep:=[0,1,7,11,9,13,8,12,10],kb:=[],pl:=[.slot 4 zf .bool,.slot 14 zf zJ],ex:=[(.ret,[]),(.exit 0,[])],pay:=.unit })]
def tu:Sg:=⟨[(zf,(.sl zt T2)),(zf,(.sl zt T2))],[(zf,.bool)],Xt⟩
theorem AAy:tQ oF wg 197 tu:=fun _=>by kernel_rfl
def oH:tL:=(197,tu)::oF
theorem oI:tO oH:=UE oG AAy
def wO:tA:=[(155,6,18,.loop { keep:=[0,1,3,15,23,19,17,25,21,2,4,16,24,20,18,26,14],kb:=[0],pl:=[.slot 27 zf zJ,.slot 5 zf zJ],ex:=[(.exit 0,[])],pay:=.unit })]
def tK:Sg:=⟨[(zt,gf)],[zI],Ye⟩
theorem AAf:tQ oH wO 155 tK:=fun _=>by kernel_rfl
def oJ:tL:=(155,tK)::oH
theorem oK:tO oJ:=UE oI AAf
def wP:tA:=[(156,6,17,.loop { keep:=[0,1,3,15,11,19,5,9,17,13,2,4,12,10,18,14],kb:=[0],pl:=[.slot 20 zf zJ,.slot 6 zf zJ],ex:=[(.exit 0,[])],pay:=.unit })]
def tM:Sg:=⟨[(zt,T9)],[zI,zI],ZJ⟩
theorem AAg:tQ oJ wP 156 tM:=fun _=>by kernel_rfl
def oL:tL:=(156,tM)::oJ
theorem oM:tO oL:=UE oK AAg
def sZ:Sg:=⟨[(zt,gf)],[zI,zI],WD⟩
theorem AAN:tQ oL [] 115 sZ:=fun _=>by kernel_rfl
def oN:tL:=(115,sZ)::oL
theorem oO:tO oN:=UE oM AAN
def tv:Sg:=⟨[(zt,T9)],[(zt,T2),zI,(zt,T9),zI],WT⟩
theorem AAz:tQ oN [] 198 tv:=fun _=>by kernel_rfl
def oQ:tL:=(198,tv)::oN
theorem oR:tO oQ:=UE oO AAz
def tx:Sg:=⟨[(zt,rB),(zt,T2)],[(zf,.bool),(zt,rB),zI],WY⟩
theorem AA0:tQ oQ [] 199 tx:=fun _=>by kernel_rfl
def oS:tL:=(199,tx)::oQ
theorem oT:tO oS:=UE oR AA0
def wG:tA:=[(157,2,81,.loop { keep:=[0,1,6],kb:=[0,1,39,67,68],pl:=[.slot 7 zf zJ,.slot 4 zf zJ,.box 28 [.lf (.sl zf (.sl zt T2)),.lf (.sl zf zJ),.lf (.sl zt T5),.lf (.sl zf zJ),.lf zJ,.lf .bool,.lf .str,.lf .bool,.ow zt T2 zf,.lf zJ]],ex:=[(.ret,[]),(.exit 0,[])],pay:=.unit }),(157,2,98,.loop { keep:=[0,1,6],kb:=[0,1,39,67,68,86],pl:=[.slot 7 zf zJ,.slot 4 zf zJ,.box 28 [.lf (.sl zf (.sl zt T2)),.lf (.sl zf zJ),.lf (.sl zt T5),.lf (.sl zf zJ),.lf zJ,.lf .bool,.lf .str,.lf .bool,.ow zt T2 zf,.lf zJ]],ex:=[(.ret,[]),(.exit 0,[])],pay:=.unit }),(157,2,133,.loop { keep:=[0,1,6],kb:=[0,1,39,67,68,86],pl:=[.slot 7 zf zJ,.slot 4 zf zJ,.box 28 [.lf (.sl zf (.sl zt T2)),.lf (.sl zf zJ),.lf (.sl zt T5),.lf (.sl zf zJ),.lf zJ,.lf .bool,.lf .str,.lf .bool,.ow zt T2 zf,.lf zJ]],ex:=[(.ret,[]),(.exit 0,[])],pay:=.unit }),(157,2,120,.loop { keep:=[0,1,6],kb:=[0,1,39,67,68,86],pl:=[.slot 7 zf zJ,.slot 4 zf zJ,.box 28 [.lf (.sl zf (.sl zt T2)),.lf (.sl zf zJ),.lf (.sl zt T5),.lf (.sl zf zJ),.lf zJ,.lf .bool,.lf .str,.lf .bool,.ow zt T2 zf,.lf zJ]],ex:=[(.ret,[]),(.exit 0,[])],pay:=.unit })]
def sc:Sg:=⟨[(zt,gf),zI],[(zt,gf),zI,zI],WS⟩
theorem AAO:tQ oS wG 116 sc:=fun _=>by kernel_rfl
def oU:tL:=(116,sc)::oS
theorem oV:tO oU:=UE oT AAO
def wh:tA:=[(200,4,9,.loop { keep:=[0,1,7,11,9,8,12,6,10],kb:=[],pl:=[.slot 13 zf zJ,.slot 4 zf .bool],ex:=[(.ret,[]),(.exit 0,[])],pay:=.unit })]
def tz:Sg:=⟨[(zf,(.sl zt T2)),(zf,(.sl zt T2))],[(zf,.bool)],V4⟩
theorem AA1:tQ oU wh 200 tz:=fun _=>by kernel_rfl
def oW:tL:=(200,tz)::oU
theorem oX:tO oW:=UE oV AA1
def tN:Sg:=⟨[(zf,(.sl zt T2)),(zf,(.sl zt T2))],[(zf,.bool)],WN⟩
theorem AAh:tQ oW [] 160 tN:=fun _=>by kernel_rfl
def oY:tL:=(160,tN)::oW
theorem oZ:tO oY:=UE oX AAh
end Go.Proofs.YtoefnfbpoabinaaGreatDoor.Pt
