/- The evaluator comes to each of the plain functions. No condition. -/
import Derived.Test.YtoefnfbpoabinaaGreatDoorPt3
set_option linter.all false
open Option renaming none->zn
open Bool renaming true->zt, false->zf
namespace Go.Proofs.YtoefnfbpoabinaaGreatDoor.Pt
open Go Sv Pl
set_option maxRecDepth 1000000
def wH:tA:=[(159,4,81,.loop { keep:=[0,1,15,11,13,2,16,12,10,14],kb:=[0,1,7,8],pl:=[.slot 17 zf zJ,.slot 6 zf .bool],ex:=[(.ret,[]),(.exit 0,[])],pay:=.unit })]
def se:Sg:=⟨[(zt,gf),(zt,gf)],[(zf,.bool)],XI⟩
theorem AAP:tQ oY wH 117 se:=fun _=>by kernel_rfl
def oa:tL:=(117,se)::oY
theorem oc:tO oa:=UE oZ AAP
def AAB:tA:=[(153,1,52,.loop { keep:=[0,1,7,5,6],kb:=[0,47,35,46],pl:=[.slot 8 zf zJ,.box 43 [.ow zf zJ zf]],ex:=[(.exit 0,[(47,0,zn)])],pay:=.unit }),(83,10,59,.loop { keep:=[0,1,15,31,47,23,39,19,35,27,43,17,33,25,41,21,37,29,45,4,16,32,40,20,36,28,44,18,34,26,42,14,22,38,30,46],kb:=[0,47,35,43,52],pl:=[.slot 3 zf zJ,.slot 2 zf zJ,.slot 48 zf zJ],ex:=[(.ret,[(47,3,zn)]),(.exit 1,[(47,3,zn)])],pay:=.unit })]
def yi:Sg:=⟨[(zt,y9)],[zI,zI],XO⟩
theorem e83:tQ oa AAB 83 yi:=fun _=>by kernel_rfl
def od:tL:=(83,yi)::oa
theorem oe:tO od:=UE oc e83
def yI:Sg:=⟨[(zt,jG)],[zI],Wp⟩
theorem e25:tQ od [] 25 yI:=fun _=>by kernel_rfl
def og:tL:=(25,yI)::od
theorem oh:tO og:=UE oe e25
def zl:tA:=[(94,1,27,.loop { keep:=[0,1,7,8,6],kb:=[0,17,21,22],pl:=[.slot 9 zf zJ,.box 14 [.ow zt T3 zf]],ex:=[(.exit 0,[(22,0,zn)])],pay:=.unit }),(94,4,37,.loop { keep:=[0,1,7,15,11,9,13,4,8,16,12,6,10,14],kb:=[0,17,21,22,30],pl:=[.slot 5 zf zJ,.box 14 [.ow zt T3 zf]],ex:=[(.exit 2,[(22,0,zn)])],pay:=.unit }),(94,4,38,.loop { keep:=[0,1,7,15,11,9,13,4,8,16,12,6,10,14],kb:=[0,31,17,21,22],pl:=[.slot 5 zf zJ,.box 14 [.ow zt T3 zf]],ex:=[(.exit 2,[(22,0,zn)])],pay:=.unit })]
def yR:Sg:=⟨[(zt,T4)],[(zf,(.sl zt T3)),zI],YH⟩
theorem e50:tQ og zl 50 yR:=fun _=>by kernel_rfl
def oi:tL:=(50,yR)::og
theorem om:tO oi:=UE oh e50
def yS:Sg:=⟨[(zt,T2)],[(zf,.bool)],WP⟩
theorem e53:tQ oi [] 53 yS:=fun _=>by kernel_rfl
def oq:tL:=(53,yS)::oi
theorem ot:tO oq:=UE om e53
def ui:tA:=[(51,1,28,.loop { keep:=[0,1,7,2,6],kb:=[0,16],pl:=[.slot 8 zf zJ,.map 15 .str zf .bool,.box 14 [.ow zt T2 zf]],ex:=[(.exit 0,[])],pay:=.unit }),(26,9,31,.loop { keep:=[0,1,3,7,15,23,11,19,27,5,17,25,13,21,29,2,4,8,16,24,12,28,6,18,26,14,22],kb:=[0,15,16,14],pl:=[.slot 30 zf zJ],ex:=[],pay:=.unit }),(26,9,32,.loop { keep:=[0,1,3,7,15,23,11,19,27,5,17,25,13,21,29,2,4,8,16,24,12,28,6,18,26,14,22],kb:=[0,16],pl:=[.slot 30 zf zJ,.map 15 .str zf .bool,.box 14 [.ow zt T2 zf]],ex:=[(.exit 0,[])],pay:=.unit }),(51,1,44,.loop { keep:=[0,1,7,2,6],kb:=[0,35,16,28],pl:=[.slot 8 zf zJ,.map 15 .str zf .bool,.box 14 [.kp 28]],ex:=[(.exit 0,[])],pay:=.unit }),(63,2,44,.loop { keep:=[0,1,7,6],kb:=[0,15,16,28,14],pl:=[.slot 4 zf zJ,.slot 8 zf zJ],ex:=[(.ret,[]),(.exit 0,[])],pay:=.unit }),(51,1,45,.loop { keep:=[0,1,7,2,6],kb:=[0,16,36],pl:=[.slot 8 zf zJ,.map 15 .str zf .bool,.box 14 [.ow zt T2 zf]],ex:=[(.exit 0,[])],pay:=.unit }),(63,2,45,.loop { keep:=[0,1,7,6],kb:=[0,15,16,32,14],pl:=[.slot 4 zf zJ,.slot 8 zf zJ],ex:=[(.ret,[]),(.exit 0,[])],pay:=.unit }),(52,5,50,.loop { keep:=[1,15,11,9,4,12,10,14],kb:=[0,15,16,14],pl:=[.slot 5 zf zJ,.slot 6 zf zJ,.srow 0 zt T2 zf],ex:=[(.exit 0,[])],pay:=.unit,rel:=[(14,1000000)] }),(52,5,51,.loop { keep:=[1,15,11,9,4,12,10,14],kb:=[0,15,16,14],pl:=[.slot 5 zf zJ,.slot 6 zf zJ,.srow 0 zt T2 zf],ex:=[(.exit 0,[])],pay:=.unit,rel:=[(14,1000000)] })]
def yJ:Sg:=⟨[(zt,jG)],[(zf,(.sl zt T2)),zI],Yc⟩
theorem e26:tQ oq ui 26 yJ:=fun _=>by kernel_rfl
def ou:tL:=(26,yJ)::oq
theorem ov:tO ou:=UE ot e26
def sg8:Sg:=⟨[(zt,jG)],[(zf,(.sl zt T2)),zI],Yb⟩
theorem e8:tQ ou [] 8 sg8:=fun _=>by kernel_rfl
def oz:tL:=(8,sg8)::ou
theorem o0:tO oz:=UE ov e8
def yj:Sg:=⟨[(zt,T2)],[zI],W6⟩
theorem e88:tQ oz [] 88 yj:=fun _=>by kernel_rfl
def o6:tL:=(88,yj)::oz
theorem o7:tO o6:=UE o0 e88
def zm:tA:=[(57,6,18,.loop { keep:=[0,1,7,15,11,19,9,17,13,8,16,12,6,10,18,14],kb:=[0],pl:=[.slot 3 zf zJ,.slot 2 zf zJ,.slot 4 zf zJ],ex:=[(.ret,[]),(.exit 0,[])],pay:=.unit })]
def yT:Sg:=⟨[(zt,T3)],[zI,zI],Yx⟩
theorem e57:tQ o6 zm 57 yT:=fun _=>by kernel_rfl
def o8:tL:=(57,yT)::o6
theorem o9:tO o8:=UE o7 e57
def zw:tA:=[(64,2,2,.loop { keep:=[1,4],kb:=[],pl:=[.slot 0 zf zJ,.slot 5 zf zJ],ex:=[(.exit 0,[])],pay:=.unit })]
def yY:Sg:=⟨[zI,zI],[zI],XQ⟩
theorem e64:tQ o8 zw 64 yY:=fun _=>by kernel_rfl
def pA:tL:=(64,yY)::o8
theorem pB:tO pA:=UE o9 e64
def wa:tA:=[(191,2,2,.loop { keep:=[0,1,4],kb:=[],pl:=[.slot 5 zf zJ],ex:=[(.exit 0,[])],pay:=.unit })]
def th:Sg:=⟨[(zf,.str),(zf,.str)],[zI],YW⟩
theorem AAt:tQ pA wa 191 th:=fun _=>by kernel_rfl
def pC:tL:=(191,th)::pA
theorem pD:tO pC:=UE pB AAt
def tD:Sg:=⟨[(zf,.str),(zf,.str)],[zI],YC⟩
theorem AAb:tQ pC [] 148 tD:=fun _=>by kernel_rfl
def pE:tL:=(148,tD)::pC
theorem pF:tO pE:=UE pD AAb
def wD:tA:=[(103,4,6,.loop { keep:=[0,7,8,6],kb:=[],pl:=[.slot 3 zf zJ,.slot 2 zf zJ,.slot 4 zf zJ],ex:=[(.ret,[]),(.exit 0,[])],pay:=.unit })]
def sQ:Sg:=⟨[(zf,(.sl zt T2))],[zI,zI],W2⟩
theorem AAF:tQ pE wD 103 sQ:=fun _=>by kernel_rfl
def pG:tL:=(103,sQ)::pE
theorem pH:tO pG:=UE pF AAF
def yZ:Sg:=⟨[(zt,T3)],[zI,zI],Ys⟩
theorem e73:tQ pG [] 73 yZ:=fun _=>by kernel_rfl
def pI:tL:=(73,yZ)::pG
theorem pJ:tO pI:=UE pH e73
end Go.Proofs.YtoefnfbpoabinaaGreatDoor.Pt
