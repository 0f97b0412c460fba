/- The evaluator comes to each of the plain functions. No condition. -/
import Derived.Test.YtiehjicadcamiaaGreatPt4
set_option linter.all false
open Option renaming none->zn
open Bool renaming true->zt, false->zf
namespace Go.Proofs.YtiehjicadcamiaaGreat.Pt
open Go Sv Pl
set_option maxRecDepth 1000000
def sX:tA:=[(154,5,24,.loop { keep:=[0,1,15,19,17,2,8,16,20,18,14],kb:=[],pl:=[.slot 7 zf zJ,.slot 21 zf zJ,.slot 6 zf zJ,.box 19 [.lf .bool,.lf .str,.lf .bool],.box 0 [.ow zt T2 zf]],ex:=[(.ret,[]),(.exit 0,[])],pay:=.unit })]
def qG:Sg:=⟨[(zf,(.sl zt T2)),(zf,.bool)],[(zf,(.sl zt T2)),zI,zI],Wz⟩
theorem wc:tQ mc sX 129 qG:=fun _=>by kernel_rfl
def me:tL:=(129,qG)::mc
theorem mf:tO me:=Sj md wc
def sY:tA:=[(130,4,9,.loop { keep:=[0,1,7,11,9,13,8,12,10],kb:=[],pl:=[.slot 4 zf .bool,.slot 14 zf zJ],ex:=[(.ret,[]),(.exit 0,[])],pay:=.unit })]
def qH:Sg:=⟨[(zf,(.sl zt T2)),(zf,(.sl zt T2))],[(zf,.bool)],Wc⟩
theorem we:tQ me sY 130 qH:=fun _=>by kernel_rfl
def mg:tL:=(130,qH)::me
theorem mh:tO mg:=Sj mf we
def v9:tA:=[(96,6,18,.loop { keep:=[0,1,3,15,23,19,17,25,21,2,4,16,24,20,18,26,14],kb:=[0],pl:=[.slot 27 zf zJ,.slot 5 zf zJ],ex:=[(.exit 0,[])],pay:=.unit })]
def uz:Sg:=⟨[(zt,da)],[zI],XP⟩
theorem e96:tQ mg v9 96 uz:=fun _=>by kernel_rfl
def mi:tL:=(96,uz)::mg
theorem mj:tO mi:=Sj mh e96
def wA:tA:=[(97,6,17,.loop { keep:=[0,1,3,15,11,19,5,9,17,13,2,4,12,10,18,14],kb:=[0],pl:=[.slot 20 zf zJ,.slot 6 zf zJ],ex:=[(.exit 0,[])],pay:=.unit })]
def u4:Sg:=⟨[(zt,T9)],[zI,zI],Xz⟩
theorem e97:tQ mi wA 97 u4:=fun _=>by kernel_rfl
def ml:tL:=(97,u4)::mi
theorem mo:tO ml:=Sj mj e97
def uS:Sg:=⟨[(zt,da)],[zI,zI],U1⟩
theorem zh:tQ ml [] 61 uS:=fun _=>by kernel_rfl
def mq:tL:=(61,uS)::ml
theorem mr:tO mq:=Sj mo zh
def qI:Sg:=⟨[(zt,T9)],[(zt,T2),zI,(zt,T9),zI],VB⟩
theorem wg:tQ mq [] 131 qI:=fun _=>by kernel_rfl
def mu:tL:=(131,qI)::mq
theorem mv:tO mu:=Sj mr wg
def qK:Sg:=⟨[(zt,oJ),(zt,T2)],[(zf,.bool),(zt,oJ),zI],VJ⟩
theorem wh:tQ mu [] 132 qK:=fun _=>by kernel_rfl
def mw:tL:=(132,qK)::mu
theorem my:tO mw:=Sj mv wh
def vd:tA:=[(98,2,81,.loop { keep:=[0,1,6],kb:=[0,1,39,67,68],pl:=[.slot 7 zf zJ,.slot 4 zf zJ,.box 28 [.lf (.sl zf (.sl zt T2)),.lf (.sl zf zJ),.lf (.sl zt T5),.lf (.sl zf zJ),.lf zJ,.lf .bool,.lf .str,.lf .bool,.ow zt T2 zf,.lf zJ]],ex:=[(.ret,[]),(.exit 0,[])],pay:=.unit }),(98,2,98,.loop { keep:=[0,1,6],kb:=[0,1,39,67,68,86],pl:=[.slot 7 zf zJ,.slot 4 zf zJ,.box 28 [.lf (.sl zf (.sl zt T2)),.lf (.sl zf zJ),.lf (.sl zt T5),.lf (.sl zf zJ),.lf zJ,.lf .bool,.lf .str,.lf .bool,.ow zt T2 zf,.lf zJ]],ex:=[(.ret,[]),(.exit 0,[])],pay:=.unit }),(98,2,133,.loop { keep:=[0,1,6],kb:=[0,1,39,67,68,86],pl:=[.slot 7 zf zJ,.slot 4 zf zJ,.box 28 [.lf (.sl zf (.sl zt T2)),.lf (.sl zf zJ),.lf (.sl zt T5),.lf (.sl zf zJ),.lf zJ,.lf .bool,.lf .str,.lf .bool,.ow zt T2 zf,.lf zJ]],ex:=[(.ret,[]),(.exit 0,[])],pay:=.unit }),(98,2,120,.loop { keep:=[0,1,6],kb:=[0,1,39,67,68,86],pl:=[.slot 7 zf zJ,.slot 4 zf zJ,.box 28 [.lf (.sl zf (.sl zt T2)),.lf (.sl zf zJ),.lf (.sl zt T5),.lf (.sl zf zJ),.lf zJ,.lf .bool,.lf .str,.lf .bool,.ow zt T2 zf,.lf zJ]],ex:=[(.ret,[]),(.exit 0,[])],pay:=.unit })]
def uT:Sg:=⟨[(zt,da),zI],[(zt,da),zI,zI],VA⟩
theorem zi:tQ mw vd 62 uT:=fun _=>by kernel_rfl
def mz:tL:=(62,uT)::mw
theorem m6:tO mz:=Sj my zi
def sZ:tA:=[(133,4,9,.loop { keep:=[0,1,7,11,9,8,12,6,10],kb:=[],pl:=[.slot 13 zf zJ,.slot 4 zf .bool],ex:=[(.ret,[]),(.exit 0,[])],pay:=.unit })]
def qN:Sg:=⟨[(zf,(.sl zt T2)),(zf,(.sl zt T2))],[(zf,.bool)],Uz⟩
theorem wi:tQ mz sZ 133 qN:=fun _=>by kernel_rfl
def m7:tL:=(133,qN)::mz
theorem m8:tO m7:=Sj m6 wi
def pQ:Sg:=⟨[(zf,(.sl zt T2)),(zf,(.sl zt T2))],[(zf,.bool)],U7⟩
theorem wB:tQ m7 [] 101 pQ:=fun _=>by kernel_rfl
def m9:tL:=(101,pQ)::m7
theorem nA:tO m9:=Sj m8 wB
def ve:tA:=[(100,4,81,.loop { keep:=[0,1,15,11,13,2,16,12,10,14],kb:=[0,1,7,8],pl:=[.slot 17 zf zJ,.slot 6 zf .bool],ex:=[(.ret,[]),(.exit 0,[])],pay:=.unit })]
def uU:Sg:=⟨[(zt,da),(zt,da)],[(zf,.bool)],V5⟩
theorem zk:tQ m9 ve 63 uU:=fun _=>by kernel_rfl
def nB:tL:=(63,uU)::m9
theorem nC:tO nB:=Sj nA zk
def vQ:tA:=[(94,1,52,.loop { keep:=[0,1,7,5,6],kb:=[0,47,35,46],pl:=[.slot 8 zf zJ,.box 43 [.ow zf zJ zf]],ex:=[(.exit 0,[(47,0,zn)])],pay:=.unit }),(34,10,59,.loop { keep:=[0,1,15,31,47,23,39,19,35,27,43,17,33,25,41,21,37,29,45,4,16,32,40,20,36,28,44,18,34,26,42,14,22,38,30,46],kb:=[0,47,35,43,52],pl:=[.slot 3 zf zJ,.slot 2 zf zJ,.slot 48 zf zJ],ex:=[(.ret,[(47,3,zn)]),(.exit 1,[(47,3,zn)])],pay:=.unit })]
def t4:Sg:=⟨[(zt,YM)],[zI,zI],VG⟩
theorem zD:tQ nB vQ 34 t4:=fun _=>by kernel_rfl
def nD:tL:=(34,t4)::nB
theorem nE:tO nD:=Sj nC zD
def v6:tA:=[(94,1,35,.loop { keep:=[0,1,7,5,6],kb:=[0,29,18,30],pl:=[.slot 8 zf zJ,.box 26 [.ow zf zJ zf]],ex:=[(.exit 0,[(30,0,zn)])],pay:=.unit })]
def ur:Sg:=⟨[(zt,YM)],[(zf,(.sl zf zJ)),zI],XC⟩
theorem e86:tQ nD v6 86 ur:=fun _=>by kernel_rfl
def nF:tL:=(86,ur)::nD
theorem nG:tO nF:=Sj nE e86
def vO:tA:=[(85,2,31,.loop { keep:=[0,1,7,6],kb:=[0,1],pl:=[.slot 4 zf zJ,.slot 8 zf zJ],ex:=[(.ret,[]),(.exit 0,[])],pay:=.unit })]
def tz:Sg:=⟨[(zt,YM),zI],[zI,zI],WZ⟩
theorem zC:tQ nF vO 32 tz:=fun _=>by kernel_rfl
def nH:tL:=(32,tz)::nF
theorem nI:tO nH:=Sj nG zC
end Go.Proofs.YtiehjicadcamiaaGreat.Pt
