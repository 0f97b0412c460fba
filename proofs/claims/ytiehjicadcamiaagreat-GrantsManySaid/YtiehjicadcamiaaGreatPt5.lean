/- The evaluator comes to each of the plain functions. No condition. -/
import Derived.Test.YtiehjicadcamiaaGreatPt4
set_option linter.all false
open Option renaming none->zn
open Bool renaming true->zt, false->zf
namespace Go.Proofs.YtiehjicadcamiaaGreat.Pt
open Go Sv Pl
set_option maxRecDepth 1000000
def tq:tA:=[(154,5,24,.loop { keep:=[0,1,15,19,17,2,8,16,20,18,14],kb:=[],pl:=[.slot 7 zf zJ,.slot 21 zf zJ,.slot 6 zf zJ,.box 19 [.lf .bool,.lf .str,.lf .bool],.box 0 [.ow zt T2 zf]],ex:=[(.ret,[]),(.exit 0,[])],pay:=.unit })]
def rC:Sg:=⟨[(zf,(.sl zt T2)),(zf,.bool)],[(zf,(.sl zt T2)),zI,zI],W4⟩
theorem xe:tQ nU tq 129 rC:=fun _=>by kernel_rfl
def nX:tL:=(129,rC)::nU
theorem nY:tO nX:=Sj nV xe
def tu:tA:=[(130,4,9,.loop { keep:=[0,1,7,11,9,13,8,12,10],kb:=[],pl:=[.slot 4 zf .bool,.slot 14 zf zJ],ex:=[(.ret,[]),(.exit 0,[])],pay:=.unit })]
def rD:Sg:=⟨[(zf,(.sl zt T2)),(zf,(.sl zt T2))],[(zf,.bool)],Wg⟩
theorem xf:tQ nX tu 130 rD:=fun _=>by kernel_rfl
def nZ:tL:=(130,rD)::nX
theorem na:tO nZ:=Sj nY xf
def w8:tA:=[(96,6,18,.loop { keep:=[0,1,3,15,23,19,17,25,21,2,4,16,24,20,18,26,14],kb:=[0],pl:=[.slot 27 zf zJ,.slot 5 zf zJ],ex:=[(.exit 0,[])],pay:=.unit })]
def wB:Sg:=⟨[(zt,eC)],[zI],XV⟩
theorem e96:tQ nZ w8 96 wB:=fun _=>by kernel_rfl
def ng:tL:=(96,wB)::nZ
theorem nh:tO ng:=Sj na e96
def w9:tA:=[(97,6,17,.loop { keep:=[0,1,3,15,11,19,5,9,17,13,2,4,12,10,18,14],kb:=[0],pl:=[.slot 20 zf zJ,.slot 6 zf zJ],ex:=[(.exit 0,[])],pay:=.unit })]
def wC:Sg:=⟨[(zt,T9)],[zI,zI],X7⟩
theorem e97:tQ ng w9 97 wC:=fun _=>by kernel_rfl
def ni:tL:=(97,wC)::ng
theorem nj:tO ni:=Sj nh e97
def vO:Sg:=⟨[(zt,eC)],[zI,zI],U2⟩
theorem e61:tQ ni [] 61 vO:=fun _=>by kernel_rfl
def nk:tL:=(61,vO)::ni
theorem nl:tO nk:=Sj nj e61
def rE:Sg:=⟨[(zt,T9)],[(zt,T2),zI,(zt,T9),zI],VF⟩
theorem xg:tQ nk [] 131 rE:=fun _=>by kernel_rfl
def np:tL:=(131,rE)::nk
theorem nq:tO np:=Sj nl xg
def rF:Sg:=⟨[(zt,pI),(zt,T2)],[(zf,.bool),(zt,pI),zI],VP⟩
theorem xh:tQ np [] 132 rF:=fun _=>by kernel_rfl
def nr:tL:=(132,rF)::np
theorem nu:tO nr:=Sj nq xh
def wh:tA:=[(98,2,81,.loop { keep:=[0,1,6],kb:=[0,1,39,67,68],pl:=[.slot 7 zf zJ,.slot 4 zf zJ,.box 28 [.lf (.sl zf (.sl zt T2)),.lf (.sl zf zJ),.lf (.sl zt T5),.lf (.sl zf zJ),.lf zJ,.lf .bool,.lf .str,.lf .bool,.ow zt T2 zf,.lf zJ]],ex:=[(.ret,[]),(.exit 0,[])],pay:=.unit }),(98,2,98,.loop { keep:=[0,1,6],kb:=[0,1,39,67,68,86],pl:=[.slot 7 zf zJ,.slot 4 zf zJ,.box 28 [.lf (.sl zf (.sl zt T2)),.lf (.sl zf zJ),.lf (.sl zt T5),.lf (.sl zf zJ),.lf zJ,.lf .bool,.lf .str,.lf .bool,.ow zt T2 zf,.lf zJ]],ex:=[(.ret,[]),(.exit 0,[])],pay:=.unit }),(98,2,133,.loop { keep:=[0,1,6],kb:=[0,1,39,67,68,86],pl:=[.slot 7 zf zJ,.slot 4 zf zJ,.box 28 [.lf (.sl zf (.sl zt T2)),.lf (.sl zf zJ),.lf (.sl zt T5),.lf (.sl zf zJ),.lf zJ,.lf .bool,.lf .str,.lf .bool,.ow zt T2 zf,.lf zJ]],ex:=[(.ret,[]),(.exit 0,[])],pay:=.unit }),(98,2,120,.loop { keep:=[0,1,6],kb:=[0,1,39,67,68,86],pl:=[.slot 7 zf zJ,.slot 4 zf zJ,.box 28 [.lf (.sl zf (.sl zt T2)),.lf (.sl zf zJ),.lf (.sl zt T5),.lf (.sl zf zJ),.lf zJ,.lf .bool,.lf .str,.lf .bool,.ow zt T2 zf,.lf zJ]],ex:=[(.ret,[]),(.exit 0,[])],pay:=.unit })]
def vQ:Sg:=⟨[(zt,eC),zI],[(zt,eC),zI,zI],VD⟩
theorem e62:tQ nr wh 62 vQ:=fun _=>by kernel_rfl
def nv:tL:=(62,vQ)::nr
theorem ny:tO nv:=Sj nu e62
def tv:tA:=[(133,4,9,.loop { keep:=[0,1,7,11,9,8,12,6,10],kb:=[],pl:=[.slot 13 zf zJ,.slot 4 zf .bool],ex:=[(.ret,[]),(.exit 0,[])],pay:=.unit })]
def rG:Sg:=⟨[(zf,(.sl zt T2)),(zf,(.sl zt T2))],[(zf,.bool)],U1⟩
theorem xi:tQ nv tv 133 rG:=fun _=>by kernel_rfl
def nz:tL:=(133,rG)::nv
theorem oA:tO nz:=Sj ny xi
def qX:Sg:=⟨[(zf,(.sl zt T2)),(zf,(.sl zt T2))],[(zf,.bool)],U9⟩
theorem xA:tQ nz [] 101 qX:=fun _=>by kernel_rfl
def oB:tL:=(101,qX)::nz
theorem oC:tO oB:=Sj oA xA
def wi:tA:=[(100,4,81,.loop { keep:=[0,1,15,11,13,2,16,12,10,14],kb:=[0,1,7,8],pl:=[.slot 17 zf zJ,.slot 6 zf .bool],ex:=[(.ret,[]),(.exit 0,[])],pay:=.unit })]
def vR:Sg:=⟨[(zt,eC),(zt,eC)],[(zf,.bool)],V8⟩
theorem e63:tQ oB wi 63 vR:=fun _=>by kernel_rfl
def oD:tL:=(63,vR)::oB
theorem oE:tO oD:=Sj oC e63
def wV:tA:=[(94,1,52,.loop { keep:=[0,1,7,5,6],kb:=[0,47,35,46],pl:=[.slot 8 zf zJ,.box 43 [.ow zf zJ zf]],ex:=[(.exit 0,[(47,0,zn)])],pay:=.unit }),(34,10,59,.loop { keep:=[0,1,15,31,47,23,39,19,35,27,43,17,33,25,41,21,37,29,45,4,16,32,40,20,36,28,44,18,34,26,42,14,22,38,30,46],kb:=[0,47,35,43,52],pl:=[.slot 3 zf zJ,.slot 2 zf zJ,.slot 48 zf zJ],ex:=[(.ret,[(47,3,zn)]),(.exit 1,[(47,3,zn)])],pay:=.unit })]
def uv:Sg:=⟨[(zt,Xx)],[zI,zI],VE⟩
theorem e34:tQ oD wV 34 uv:=fun _=>by kernel_rfl
def oF:tL:=(34,uv)::oD
theorem oG:tO oF:=Sj oE e34
def wz:tA:=[(94,1,35,.loop { keep:=[0,1,7,5,6],kb:=[0,29,18,30],pl:=[.slot 8 zf zJ,.box 26 [.ow zf zJ zf]],ex:=[(.exit 0,[(30,0,zn)])],pay:=.unit })]
def vu:Sg:=⟨[(zt,Xx)],[(zf,(.sl zf zJ)),zI],XG⟩
theorem e86:tQ oF wz 86 vu:=fun _=>by kernel_rfl
def oH:tL:=(86,vu)::oF
theorem oI:tO oH:=Sj oG e86
def wU:tA:=[(85,2,31,.loop { keep:=[0,1,7,6],kb:=[0,1],pl:=[.slot 4 zf zJ,.slot 8 zf zJ],ex:=[(.ret,[]),(.exit 0,[])],pay:=.unit })]
def uu:Sg:=⟨[(zt,Xx),zI],[zI,zI],Wc⟩
theorem e32:tQ oH wU 32 uu:=fun _=>by kernel_rfl
def oJ:tL:=(32,uu)::oH
theorem oK:tO oJ:=Sj oI e32
end Go.Proofs.YtiehjicadcamiaaGreat.Pt
