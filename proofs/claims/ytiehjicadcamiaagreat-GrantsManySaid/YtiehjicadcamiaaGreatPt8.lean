/- The evaluator comes to each of the plain functions. No condition. -/
import Derived.Test.YtiehjicadcamiaaGreatPt7
set_option linter.all false
open Bool renaming true->zt, false->zf
namespace Go.Proofs.YtiehjicadcamiaaGreat.Pt
open Go Sv Pl
set_option maxRecDepth 1000000
def tW:tA:=[(108,7,21,.loop { keep:=[0,1,15,23,11,27,5,17,25,13,21,4,16,24,12,18,26,14,22],kb:=[0],pl:=[.slot 3 zf zJ,.slot 2 zf zJ,.slot 6 zf zJ],ex:=[(.ret,[]),(.exit 0,[])],pay:=.unit }),(108,15,38,.loop { keep:=[0,1,7,15,63,23,11,67,27,59,5,17,65,25,57,13,21,69,61,4,16,64,24,56,12,68,60,6,18,66,26,58,14,22,70,62],kb:=[0],pl:=[.slot 3 zf zJ,.slot 2 zf zJ,.slot 8 zf zJ],ex:=[(.ret,[]),(.exit 2,[])],pay:=.unit })]
def qh:Sg:=⟨[(zt,T9)],[zI,zI],WR⟩
theorem xH:tQ fV tW 108 qh:=fun _=>by kernel_rfl
def fW:tL:=(108,qh)::fV
theorem iw:tO fW:=Sj iv xH
def wt:tA:=[(72,3,4,.loop { keep:=[0,1,2],kb:=[0],pl:=[.slot 3 zf zJ,.slot 4 zf zJ],ex:=[(.exit 0,[])],pay:=.unit })]
def vZ:Sg:=⟨[(zt,eC)],[zI],Wl⟩
theorem e72:tQ fW wt 72 vZ:=fun _=>by kernel_rfl
def fX:tL:=(72,vZ)::fW
theorem iy:tO fX:=Sj iw e72
def wu:tA:=[(74,7,18,.loop { keep:=[0,15,11,19,5,17,13,16,12,20,6,14],kb:=[],pl:=[.srow 3 zf zJ zf,.srow 7 zt T2 zf,.srow 2 zt T2 zf,.slot 4 zf zJ,.srow 8 zf zJ zf,.srow 9 zf zJ zt],ex:=[(.ret,[])],pay:=.unit,plx:=[.srow 3 zf zJ zf,.srow 2 zt T2 zf,.slot 4 zf zJ] })]
def ve:Sg:=⟨[(zf,(.sl zf (.sl zt T2)))],[(zf,(.sl zt T2)),(zf,(.sl zf zJ)),zI],XB⟩
theorem e74:tQ fX wu 74 ve:=fun _=>by kernel_rfl
def fY:tL:=(74,ve)::fX
theorem i0:tO fY:=Sj iy e74
def rn:Sg:=⟨[(zt,pI)],[zI],Xo⟩
theorem yO:tQ fY [] 164 rn:=fun _=>by kernel_rfl
def fZ:tL:=(164,rn)::fY
theorem i4:tO fZ:=Sj i0 yO
def rJ:Sg:=⟨[(zt,pI),(zt,T2)],[(zf,.bool),(zt,pI),zI],YD⟩
theorem xq:tQ fZ [] 136 rJ:=fun _=>by kernel_rfl
def fa:tL:=(136,rJ)::fZ
theorem i5:tO fa:=Sj i4 xq
def tb:tA:=[(112,6,12,.loop { keep:=[0,1,7,15,17,13,16,14],kb:=[],pl:=[.slot 5 zf zJ,.slot 9 zf zJ,.srow 4 zt T2 zf,.srow 8 zt T2 zf,.slot 6 zf zJ,.box 8 [.lf .bool,.lf .str,.lf .bool]],ex:=[(.ret,[]),(.exit 0,[])],pay:=.unit })]
def ql:Sg:=⟨[(zf,(.sl zt T2)),(zf,.bool)],[(zf,(.sl zt T2)),zI,zI],XP⟩
theorem xL:tQ fa tb 112 ql:=fun _=>by kernel_rfl
def fb:tL:=(112,ql)::fa
theorem i6:tO fb:=Sj i5 xL
def vg:Sg:=⟨[(zf,(.sl zt T2)),(zf,.bool)],[(zf,(.sl zt T2)),(zt,pI)],V5⟩
theorem e75:tQ fb [] 75 vg:=fun _=>by kernel_rfl
def fc:tL:=(75,vg)::fb
theorem i7:tO fc:=Sj i6 e75
def ww:tA:=[(77,4,7,.loop { keep:=[0,1,7,9,8,6,10],kb:=[],pl:=[.slot 5 zf zJ,.slot 4 zf .bool],ex:=[(.ret,[]),(.exit 0,[])],pay:=.unit })]
def vj:Sg:=⟨[(zf,(.sl zt T2)),(zf,(.sl zt T2))],[(zf,.bool)],VH⟩
theorem e77:tQ fc ww 77 vj:=fun _=>by kernel_rfl
def fe:tL:=(77,vj)::fc
theorem i8:tO fe:=Sj i7 e77
def vX:Sg:=⟨[(zt,eC)],[zI],Xq⟩
theorem e70:tQ fe [] 70 vX:=fun _=>by kernel_rfl
def ff:tL:=(70,vX)::fe
theorem i9:tO ff:=Sj i8 e70
def wq:tA:=[(71,6,14,.loop { keep:=[0,1,3,11,5,9,13,2,4,8,12,10,14],kb:=[0],pl:=[.slot 7 zf zJ,.slot 6 zf zJ],ex:=[(.exit 0,[])],pay:=.unit })]
def vY:Sg:=⟨[(zt,T9)],[zI,zI],YB⟩
theorem e71:tQ ff wq 71 vY:=fun _=>by kernel_rfl
def fh:tL:=(71,vY)::ff
theorem jA:tO fh:=Sj i9 e71
def u5:Sg:=⟨[(zt,eC)],[zI,zI],Uh⟩
theorem e40:tQ fh [] 40 u5:=fun _=>by kernel_rfl
def fi:tL:=(40,u5)::fh
theorem jB:tO fi:=Sj jA e40
def vd:Sg:=⟨[(zt,T9)],[(zt,T2),zI,(zt,T9),zI],Wk⟩
theorem e73:tQ fi [] 73 vd:=fun _=>by kernel_rfl
def fj:tL:=(73,vd)::fi
theorem jC:tO fj:=Sj jB e73
def wZ:tA:=[(41,11,32,.loop { keep:=[0,1,7,15,31,23,39,19,35,27,5,9,17,33,25,21,37,2,4,8,16,32,24,20,36,6,10,18,34,26,22,30],kb:=[0,1],pl:=[.slot 11 zf zJ,.box 29 [.lf (.sl zf (.sl zt T2)),.lf (.sl zf zJ),.lf (.sl zt T5),.lf (.sl zf zJ),.lf zJ,.lf .bool,.lf .str,.lf .bool,.lf (.sl zt T2),.lf zJ]],ex:=[(.exit 0,[])],pay:=.unit })]
def u6:Sg:=⟨[(zt,eC),zI],[(zt,eC),zI,zI],Ub⟩
theorem e41:tQ fj wZ 41 u6:=fun _=>by kernel_rfl
def fm:tL:=(41,u6)::fj
theorem jD:tO fm:=Sj jC e41
def wv:tA:=[(76,4,27,.loop { keep:=[0,1,3,7,15,23,11,19,27,9,17,25,13,21,2,8,16,24,12,20,28,6,10,18,26,14,22],kb:=[0,1],pl:=[.slot 5 zf zJ,.slot 4 zf .bool],ex:=[(.ret,[]),(.exit 0,[])],pay:=.unit })]
def vi:Sg:=⟨[(zt,T9),(zt,T9)],[(zf,.bool)],YC⟩
theorem e76:tQ fm wv 76 vi:=fun _=>by kernel_rfl
def fo:tL:=(76,vi)::fm
theorem jE:tO fo:=Sj jD e76
end Go.Proofs.YtiehjicadcamiaaGreat.Pt
