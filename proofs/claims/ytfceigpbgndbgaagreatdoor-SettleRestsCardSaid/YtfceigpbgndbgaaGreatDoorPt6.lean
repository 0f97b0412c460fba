/- The evaluator comes to each of the plain functions. No condition. -/
import Derived.Test.YtfceigpbgndbgaaGreatDoorPt5
set_option linter.all false
open Bool renaming true->zt, false->zf
namespace Go.Proofs.YtfceigpbgndbgaaGreatDoor.Pt
open Go Sv Pl
set_option maxRecDepth 1000000
def yW:Sg:=⟨[(zt,T2)],[zI],Ws⟩
theorem e69:tQ pX [] 69 yW:=fun _=>by kernel_rfl
def pZ:tL:=(69,yW)::pX
theorem pf:tO pZ:=S6 pY e69
def we:tA:=[(233,2,2,.loop { keep:=[0,1,4],kb:=[],pl:=[.slot 5 zf zJ],ex:=[(.exit 0,[])],pay:=.unit })]
def uH:Sg:=⟨[(zf,.str),(zf,.str)],[zI],Xt⟩
theorem ABO:tQ pZ we 233 uH:=fun _=>by kernel_rfl
def pj:tL:=(233,uH)::pZ
theorem pk:tO pj:=S6 pf ABO
def tq:Sg:=⟨[(zf,.str),(zf,.str)],[zI],XS⟩
theorem AA7:tQ pj [] 207 tq:=fun _=>by kernel_rfl
def pn:tL:=(207,tq)::pj
theorem po:tO pn:=S6 pk AA7
def wP:tA:=[(175,4,6,.loop { keep:=[0,7,8,6],kb:=[],pl:=[.slot 3 zf zJ,.slot 2 zf zJ,.slot 4 zf zJ],ex:=[(.ret,[]),(.exit 0,[])],pay:=.unit })]
def tM:Sg:=⟨[(zf,(.sl zt T2))],[zI,zI],WL⟩
theorem AAr:tQ pn wP 175 tM:=fun _=>by kernel_rfl
def pq:tL:=(175,tM)::pn
theorem pw:tO pq:=S6 po AAr
def sW:Sg:=⟨[(zt,T3)],[zI,zI],YL⟩
theorem AAV:tQ pq [] 119 sW:=fun _=>by kernel_rfl
def px:tL:=(119,sW)::pq
theorem py:tO px:=S6 pw AAV
def AAE:tA:=[(76,9,21,.loop { keep:=[0,1,3,7,15,23,11,19,25,13,21,2,8,16,24,12,20,10,18,26,14,22],kb:=[0],pl:=[.slot 9 zf zJ,.slot 6 zf zJ],ex:=[(.ret,[]),(.exit 0,[])],pay:=.unit })]
def yZ:Sg:=⟨[(zt,T3),zI,(zf,(.sl zf zJ))],[zI],XH⟩
theorem e76:tQ px AAE 76 yZ:=fun _=>by kernel_rfl
def pz:tL:=(76,yZ)::px
theorem qA:tO pz:=S6 py e76
def zq:tA:=[(45,7,18,.loop { keep:=[0,1,15,11,19,17,13,21,16,12,20,10,18,14],kb:=[0],pl:=[.slot 3 zf zJ,.srow 5 zf zJ zf,.slot 2 zf zJ,.slot 4 zf zJ,.slot 6 zf zJ],ex:=[(.ret,[]),(.exit 0,[])],pay:=.unit }),(45,13,35,.loop { keep:=[0,1,7,15,31,23,11,19,35,17,33,25,13,21,37,29,16,32,24,12,20,36,6,10,18,34,26,14,22,30],kb:=[0],pl:=[.slot 3 zf zJ,.srow 5 zf zJ zf,.slot 2 zf zJ,.slot 4 zf zJ,.slot 8 zf zJ],ex:=[(.ret,[]),(.exit 2,[])],pay:=.unit })]
def yJ:Sg:=⟨[(zt,T4)],[zI,zI,zI],V7⟩
theorem e45:tQ pz zq 45 yJ:=fun _=>by kernel_rfl
def qB:tL:=(45,yJ)::pz
theorem qC:tO qB:=S6 qA e45
def z8:tA:=[(53,6,16,.loop { keep:=[0,1,3,15,11,5,17,13,2,4,16,12,6,10,14],kb:=[0],pl:=[.srow 7 zt T3 zf,.slot 8 zf zJ],ex:=[(.exit 0,[])],pay:=.unit }),(53,9,31,.loop { keep:=[0,1,3,15,31,23,11,19,27,5,17,33,13,21,29,2,4,8,16,32,12,20,28,6,10,26,14,22,30],kb:=[0],pl:=[.srow 7 zt T3 zf,.slot 9 zf zJ],ex:=[(.exit 2,[])],pay:=.unit })]
def yR:Sg:=⟨[(zt,T4)],[(zf,(.sl zt T3)),zI],W3⟩
theorem e53:tQ qB z8 53 yR:=fun _=>by kernel_rfl
def qD:tL:=(53,yR)::qB
theorem qE:tO qD:=S6 qC e53
def zs:tA:=[(46,4,11,.loop { keep:=[0,1,3,7,11,9,2,4,8,10],kb:=[0],pl:=[.slot 5 zf zJ,.slot 6 zf zJ],ex:=[(.exit 0,[])],pay:=.unit })]
def yK:Sg:=⟨[(zt,T4)],[zI],Wa⟩
theorem e46:tQ qD zs 46 yK:=fun _=>by kernel_rfl
def qG:tL:=(46,yK)::qD
theorem qH:tO qG:=S6 qE e46
def zu:tA:=[(47,3,4,.loop { keep:=[0,1,2],kb:=[0],pl:=[.srow 3 zf zJ zf,.slot 4 zf zJ],ex:=[(.exit 0,[])],pay:=.unit })]
def yL:Sg:=⟨[(zt,T4)],[(zf,(.sl zf zJ))],VV⟩
theorem e47:tQ qG zu 47 yL:=fun _=>by kernel_rfl
def qI:tL:=(47,yL)::qG
theorem qK:tO qI:=S6 qH e47
def sX:Sg:=⟨[(zt,T4),zI],[zI],Za⟩
theorem AAW:tQ qI [] 122 sX:=fun _=>by kernel_rfl
def qN:tL:=(122,sX)::qI
theorem qO:tO qN:=S6 qK AAW
def yc:Sg:=⟨[(zt,T4),zI],[(zf,.bool),zI],ZA⟩
theorem e77:tQ qN [] 77 yc:=fun _=>by kernel_rfl
def qP:tL:=(77,yc)::qN
theorem qQ:tO qP:=S6 qO e77
def yM:Sg:=⟨[(zt,T4),zI],[(zf,.bool)],VF⟩
theorem e48:tQ qP [] 48 yM:=fun _=>by kernel_rfl
def qR:tL:=(48,yM)::qP
theorem qT:tO qR:=S6 qQ e48
def wE:tA:=[(128,6,9,.loop { keep:=[0,7,11,9,8,12,10],kb:=[],pl:=[.slot 3 zf zJ,.slot 2 zf zJ,.slot 4 zf zJ],ex:=[(.ret,[]),(.exit 0,[])],pay:=.unit })]
def si:Sg:=⟨[(zf,(.sl zf (.sl zt T2)))],[zI,zI],Wv⟩
theorem AAc:tQ qR wE 128 si:=fun _=>by kernel_rfl
def qU:tL:=(128,si)::qR
theorem qV:tO qU:=S6 qT AAc
end Go.Proofs.YtfceigpbgndbgaaGreatDoor.Pt
