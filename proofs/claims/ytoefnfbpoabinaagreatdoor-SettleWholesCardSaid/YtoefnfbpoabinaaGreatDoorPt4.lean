/- The evaluator comes to each of the plain functions. No condition. -/
import Derived.Test.YtoefnfbpoabinaaGreatDoorPt3
set_option linter.all false
open Option renaming none->zn
open Bool renaming true->zt, false->zf
namespace Go.Proofs.YtoefnfbpoabinaaGreatDoor.Pt
open Go Sv Pl
set_option maxRecDepth 1000000
def wF:tA:=[(159,4,81,.loop { keep:=[0,1,15,11,13,2,16,12,10,14],kb:=[0,1,7,8],pl:=[.slot 17 zf zJ,.slot 6 zf .bool],ex:=[(.ret,[]),(.exit 0,[])],pay:=.unit })]
def sZ:Sg:=⟨[(zt,gL),(zt,gL)],[(zf,.bool)],Wt⟩
theorem AAO:tQ oQ wF 117 sZ:=fun _=>by kernel_rfl
def oS:tL:=(117,sZ)::oQ
theorem oT:tO oS:=Tb oR AAO
def AAA:tA:=[(153,1,52,.loop { keep:=[0,1,7,5,6],kb:=[0,47,35,46],pl:=[.slot 8 zf zJ,.box 43 [.ow zf zJ zf]],ex:=[(.exit 0,[(47,0,zn)])],pay:=.unit }),(83,10,59,.loop { keep:=[0,1,15,31,47,23,39,19,35,27,43,17,33,25,41,21,37,29,45,4,16,32,40,20,36,28,44,18,34,26,42,14,22,38,30,46],kb:=[0,47,35,43,52],pl:=[.slot 3 zf zJ,.slot 2 zf zJ,.slot 48 zf zJ],ex:=[(.ret,[(47,3,zn)]),(.exit 1,[(47,3,zn)])],pay:=.unit })]
def yh:Sg:=⟨[(zt,y8)],[zI,zI],Wz⟩
theorem e83:tQ oS AAA 83 yh:=fun _=>by kernel_rfl
def oU:tL:=(83,yh)::oS
theorem oV:tO oU:=Tb oT e83
def yH:Sg:=⟨[(zt,iy)],[zI],WQ⟩
theorem e25:tQ oU [] 25 yH:=fun _=>by kernel_rfl
def oW:tL:=(25,yH)::oU
theorem oX:tO oW:=Tb oV e25
def zk:tA:=[(94,1,27,.loop { keep:=[0,1,7,8,6],kb:=[0,17,21,22],pl:=[.slot 9 zf zJ,.box 14 [.ow zt T3 zf]],ex:=[(.exit 0,[(22,0,zn)])],pay:=.unit }),(94,4,37,.loop { keep:=[0,1,7,15,11,9,13,4,8,16,12,6,10,14],kb:=[0,17,21,22,30],pl:=[.slot 5 zf zJ,.box 14 [.ow zt T3 zf]],ex:=[(.exit 2,[(22,0,zn)])],pay:=.unit }),(94,4,38,.loop { keep:=[0,1,7,15,11,9,13,4,8,16,12,6,10,14],kb:=[0,31,17,21,22],pl:=[.slot 5 zf zJ,.box 14 [.ow zt T3 zf]],ex:=[(.exit 2,[(22,0,zn)])],pay:=.unit })]
def yQ:Sg:=⟨[(zt,T4)],[(zf,(.sl zt T3)),zI],Xt⟩
theorem e50:tQ oW zk 50 yQ:=fun _=>by kernel_rfl
def oY:tL:=(50,yQ)::oW
theorem oZ:tO oY:=Tb oX e50
def yR:Sg:=⟨[(zt,T2)],[(zf,.bool)],V0⟩
theorem e53:tQ oY [] 53 yR:=fun _=>by kernel_rfl
def oa:tL:=(53,yR)::oY
theorem oc:tO oa:=Tb oZ e53
def ug:tA:=[(51,1,28,.loop { keep:=[0,1,7,2,6],kb:=[0,16],pl:=[.slot 8 zf zJ,.map 15 .str zf .bool,.box 14 [.ow zt T2 zf]],ex:=[(.exit 0,[])],pay:=.unit }),(26,9,31,.loop { keep:=[0,1,3,7,15,23,11,19,27,5,17,25,13,21,29,2,4,8,16,24,12,28,6,18,26,14,22],kb:=[0,15,16,14],pl:=[.slot 30 zf zJ],ex:=[],pay:=.unit }),(26,9,32,.loop { keep:=[0,1,3,7,15,23,11,19,27,5,17,25,13,21,29,2,4,8,16,24,12,28,6,18,26,14,22],kb:=[0,16],pl:=[.slot 30 zf zJ,.map 15 .str zf .bool,.box 14 [.ow zt T2 zf]],ex:=[(.exit 0,[])],pay:=.unit }),(51,1,44,.loop { keep:=[0,1,7,2,6],kb:=[0,35,16,28],pl:=[.slot 8 zf zJ,.map 15 .str zf .bool,.box 14 [.kp 28]],ex:=[(.exit 0,[])],pay:=.unit }),(63,2,44,.loop { keep:=[0,1,7,6],kb:=[0,15,16,28,14],pl:=[.slot 4 zf zJ,.slot 8 zf zJ],ex:=[(.ret,[]),(.exit 0,[])],pay:=.unit }),(51,1,45,.loop { keep:=[0,1,7,2,6],kb:=[0,16,36],pl:=[.slot 8 zf zJ,.map 15 .str zf .bool,.box 14 [.ow zt T2 zf]],ex:=[(.exit 0,[])],pay:=.unit }),(63,2,45,.loop { keep:=[0,1,7,6],kb:=[0,15,16,32,14],pl:=[.slot 4 zf zJ,.slot 8 zf zJ],ex:=[(.ret,[]),(.exit 0,[])],pay:=.unit }),(52,5,50,.loop { keep:=[1,15,11,9,4,12,10,14],kb:=[0,15,16,14],pl:=[.slot 5 zf zJ,.slot 6 zf zJ,.srow 0 zt T2 zf],ex:=[(.exit 0,[])],pay:=.unit,rel:=[(14,1000000)] }),(52,5,51,.loop { keep:=[1,15,11,9,4,12,10,14],kb:=[0,15,16,14],pl:=[.slot 5 zf zJ,.slot 6 zf zJ,.srow 0 zt T2 zf],ex:=[(.exit 0,[])],pay:=.unit,rel:=[(14,1000000)] })]
def yI:Sg:=⟨[(zt,iy)],[(zf,(.sl zt T2)),zI],YG⟩
theorem e26:tQ oa ug 26 yI:=fun _=>by kernel_rfl
def od:tL:=(26,yI)::oa
theorem oe:tO od:=Tb oc e26
def sg8:Sg:=⟨[(zt,iy)],[(zf,(.sl zt T2)),zI],YF⟩
theorem e8:tQ od [] 8 sg8:=fun _=>by kernel_rfl
def og:tL:=(8,sg8)::od
theorem oh:tO og:=Tb oe e8
def yi:Sg:=⟨[(zt,T2)],[zI],Wh⟩
theorem e88:tQ og [] 88 yi:=fun _=>by kernel_rfl
def oi:tL:=(88,yi)::og
theorem om:tO oi:=Tb oh e88
def zl:tA:=[(57,6,18,.loop { keep:=[0,1,7,15,11,19,9,17,13,8,16,12,6,10,18,14],kb:=[0],pl:=[.slot 3 zf zJ,.slot 2 zf zJ,.slot 4 zf zJ],ex:=[(.ret,[]),(.exit 0,[])],pay:=.unit })]
def yS:Sg:=⟨[(zt,T3)],[zI,zI],Yb⟩
theorem e57:tQ oi zl 57 yS:=fun _=>by kernel_rfl
def oq:tL:=(57,yS)::oi
theorem ot:tO oq:=Tb om e57
def zu:tA:=[(64,2,2,.loop { keep:=[1,4],kb:=[],pl:=[.slot 0 zf zJ,.slot 5 zf zJ],ex:=[(.exit 0,[])],pay:=.unit })]
def yX:Sg:=⟨[zI,zI],[zI],W1⟩
theorem e64:tQ oq zu 64 yX:=fun _=>by kernel_rfl
def ou:tL:=(64,yX)::oq
theorem ov:tO ou:=Tb ot e64
def wY:tA:=[(191,2,2,.loop { keep:=[0,1,4],kb:=[],pl:=[.slot 5 zf zJ],ex:=[(.exit 0,[])],pay:=.unit })]
def te:Sg:=⟨[(zf,.str),(zf,.str)],[zI],YA⟩
theorem AAs:tQ ou wY 191 te:=fun _=>by kernel_rfl
def oz:tL:=(191,te)::ou
theorem o0:tO oz:=Tb ov AAs
def tB:Sg:=⟨[(zf,.str),(zf,.str)],[zI],Xn⟩
theorem AAa:tQ oz [] 148 tB:=fun _=>by kernel_rfl
def o6:tL:=(148,tB)::oz
theorem o7:tO o6:=Tb o0 AAa
def wB:tA:=[(103,4,6,.loop { keep:=[0,7,8,6],kb:=[],pl:=[.slot 3 zf zJ,.slot 2 zf zJ,.slot 4 zf zJ],ex:=[(.ret,[]),(.exit 0,[])],pay:=.unit })]
def sN:Sg:=⟨[(zf,(.sl zt T2))],[zI,zI],Wd⟩
theorem AAE:tQ o6 wB 103 sN:=fun _=>by kernel_rfl
def o8:tL:=(103,sN)::o6
theorem o9:tO o8:=Tb o7 AAE
def yY:Sg:=⟨[(zt,T3)],[zI,zI],YW⟩
theorem e73:tQ o8 [] 73 yY:=fun _=>by kernel_rfl
def pA:tL:=(73,yY)::o8
theorem pB:tO pA:=Tb o9 e73
end Go.Proofs.YtoefnfbpoabinaaGreatDoor.Pt
