/- The evaluator comes to each of the plain functions. No condition. -/
import Derived.Test.YtoefnfbpoabinaaGreatDoorPt4
set_option linter.all false
open Bool renaming true->zt, false->zf
namespace Go.Proofs.YtoefnfbpoabinaaGreatDoor.Pt
open Go Sv Pl
set_option maxRecDepth 1000000
def wE:tA:=[(105,9,21,.loop { keep:=[0,1,3,7,15,23,11,19,25,13,21,2,8,16,24,12,20,10,18,26,14,22],kb:=[0],pl:=[.slot 9 zf zJ,.slot 6 zf zJ],ex:=[(.ret,[]),(.exit 0,[])],pay:=.unit })]
def sS:Sg:=⟨[(zt,T3),zI,(zf,(.sl zf zJ))],[zI],X5⟩
theorem AAH:tQ pI wE 105 sS:=fun _=>by kernel_rfl
def pK:tL:=(105,sS)::pI
theorem pL:tO pK:=UE pJ AAH
def zz:tA:=[(76,7,18,.loop { keep:=[0,1,15,11,19,17,13,21,16,12,20,10,18,14],kb:=[0],pl:=[.slot 3 zf zJ,.srow 5 zf zJ zf,.slot 2 zf zJ,.slot 4 zf zJ,.slot 6 zf zJ],ex:=[(.ret,[]),(.exit 0,[])],pay:=.unit }),(76,13,35,.loop { keep:=[0,1,7,15,31,23,11,19,35,17,33,25,13,21,37,29,16,32,24,12,20,36,6,10,18,34,26,14,22,30],kb:=[0],pl:=[.slot 3 zf zJ,.srow 5 zf zJ zf,.slot 2 zf zJ,.slot 4 zf zJ,.slot 8 zf zJ],ex:=[(.ret,[]),(.exit 2,[])],pay:=.unit })]
def yc:Sg:=⟨[(zt,T4)],[zI,zI,zI],W9⟩
theorem e76:tQ pK zz 76 yc:=fun _=>by kernel_rfl
def pM:tL:=(76,yc)::pK
theorem pN:tO pM:=UE pL e76
def zk:tA:=[(44,6,16,.loop { keep:=[0,1,3,15,11,5,17,13,2,4,16,12,6,10,14],kb:=[0],pl:=[.srow 7 zt T3 zf,.slot 8 zf zJ],ex:=[(.exit 0,[])],pay:=.unit }),(44,9,31,.loop { keep:=[0,1,3,15,31,23,11,19,27,5,17,33,13,21,29,2,4,8,16,32,12,20,28,6,10,26,14,22,30],kb:=[0],pl:=[.srow 7 zt T3 zf,.slot 9 zf zJ],ex:=[(.exit 2,[])],pay:=.unit })]
def yQ:Sg:=⟨[(zt,T4)],[(zf,(.sl zt T3)),zI],XF⟩
theorem e44:tQ pM zk 44 yQ:=fun _=>by kernel_rfl
def pO:tL:=(44,yQ)::pM
theorem pP:tO pO:=UE pN e44
def z8:tA:=[(77,4,11,.loop { keep:=[0,1,3,7,11,9,2,4,8,10],kb:=[0],pl:=[.slot 5 zf zJ,.slot 6 zf zJ],ex:=[(.exit 0,[])],pay:=.unit })]
def yd:Sg:=⟨[(zt,T4)],[zI],XG⟩
theorem e77:tQ pO z8 77 yd:=fun _=>by kernel_rfl
def pQ:tL:=(77,yd)::pO
theorem pR:tO pQ:=UE pP e77
def z9:tA:=[(78,3,4,.loop { keep:=[0,1,2],kb:=[0],pl:=[.srow 3 zf zJ zf,.slot 4 zf zJ],ex:=[(.exit 0,[])],pay:=.unit })]
def ye:Sg:=⟨[(zt,T4)],[(zf,(.sl zf zJ))],XJ⟩
theorem e78:tQ pQ z9 78 ye:=fun _=>by kernel_rfl
def pT:tL:=(78,ye)::pQ
theorem pU:tO pT:=UE pR e78
def sR:Sg:=⟨[(zt,T4),zI],[zI],aA⟩
theorem AAG:tQ pT [] 104 sR:=fun _=>by kernel_rfl
def pV:tL:=(104,sR)::pT
theorem pW:tO pV:=UE pU AAG
def sU:Sg:=⟨[(zt,T4),zI],[(zf,.bool),zI],Zr⟩
theorem AAJ:tQ pV [] 108 sU:=fun _=>by kernel_rfl
def pX:tL:=(108,sU)::pV
theorem pY:tO pX:=UE pW AAJ
def yg:Sg:=⟨[(zt,T4),zI],[(zf,.bool)],Wc⟩
theorem e80:tQ pX [] 80 yg:=fun _=>by kernel_rfl
def pZ:tL:=(80,yg)::pX
theorem pf:tO pZ:=UE pY e80
def wV:tA:=[(173,6,9,.loop { keep:=[0,7,11,9,8,12,10],kb:=[],pl:=[.slot 3 zf zJ,.slot 2 zf zJ,.slot 4 zf zJ],ex:=[(.ret,[]),(.exit 0,[])],pay:=.unit })]
def tY:Sg:=⟨[(zf,(.sl zf (.sl zt T2)))],[zI,zI],Xa⟩
theorem AAo:tQ pZ wV 173 tY:=fun _=>by kernel_rfl
def pj:tL:=(173,tY)::pZ
theorem pk:tO pj:=UE pf AAo
def wm:tA:=[(226,6,8,.loop { keep:=[0,7,5,9,4,8,6],kb:=[],pl:=[.slot 3 zf zJ,.slot 2 zf zJ],ex:=[(.ret,[]),(.exit 0,[])],pay:=.unit })]
def uD:Sg:=⟨[(zf,(.sl zt T5))],[zI],Yt⟩
theorem ABB:tQ pj wm 226 uD:=fun _=>by kernel_rfl
def pn:tL:=(226,uD)::pj
theorem po:tO pn:=UE pk ABB
def uS:Sg:=⟨[(zf,(.sl zt T5)),zI,zI],[(zf,.bool)],ZM⟩
theorem ABR:tQ pn [] 264 uS:=fun _=>by kernel_rfl
def pq:tL:=(264,uS)::pn
theorem pw:tO pq:=UE po ABR
theorem ABM(r:AO [(zf,(.sl zt T5)),zI]->Option (AO [zI,zI]))(x:AO [(zf,(.sl zt T5)),zI]):NV Tryz.prog (Af pu ((249,⟨[(zf,(.sl zt T5)),zI],[zI,zI],r⟩)::pq)) (SO []) 3000 60 249 [(zf,(.sl zt T5)),zI] [zI,zI] x=Vp r x:=by kernel_rfl
def px:tL:=(249,⟨[(zf,(.sl zt T5)),zI],[zI,zI],N7 (α:=AO [(zf,(.sl zt T5)),zI]) (β:=AO [zI,zI]) Vp 100⟩)::pq
theorem py:tO px:=Ue pw ABM (by rfl) (by rfl) 100
def wo:tA:=[(227,3,11,.loop { keep:=[0,3,5,9,2,8,6],kb:=[0],pl:=[.slot 4 zf zJ,.box 8 [.ow zt T5 zf,.ow zf zJ zt,.lf zJ]],ex:=[(.exit 0,[])],pay:=.unit })]
def uF:Sg:=⟨[(zf,(.sl zt T5))],[(zt,T7)],ZL⟩
theorem ABC:tQ px wo 227 uF:=fun _=>by kernel_rfl
def pz:tL:=(227,uF)::px
theorem p8:tO pz:=UE py ABC
def t4:Sg:=⟨[(zf,(.sl zt T5))],[(zt,T7),zI],YD⟩
theorem AA2:tQ pz [] 203 t4:=fun _=>by kernel_rfl
def p9:tL:=(203,t4)::pz
theorem qA:tO p9:=UE p8 AA2
end Go.Proofs.YtoefnfbpoabinaaGreatDoor.Pt
