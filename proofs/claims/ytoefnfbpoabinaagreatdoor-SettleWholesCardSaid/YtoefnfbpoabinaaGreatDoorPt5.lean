/- The evaluator comes to each of the plain functions. No condition. -/
import Derived.Test.YtoefnfbpoabinaaGreatDoorPt4
set_option linter.all false
open Bool renaming true->zt, false->zf
namespace Go.Proofs.YtoefnfbpoabinaaGreatDoor.Pt
open Go Sv Pl
set_option maxRecDepth 1000000
def wC:tA:=[(105,9,21,.loop { keep:=[0,1,3,7,15,23,11,19,25,13,21,2,8,16,24,12,20,10,18,26,14,22],kb:=[0],pl:=[.slot 9 zf zJ,.slot 6 zf zJ],ex:=[(.ret,[]),(.exit 0,[])],pay:=.unit })]
def sQ:Sg:=⟨[(zt,T3),zI,(zf,(.sl zf zJ))],[zI],Xg⟩
theorem AAG:tQ pA wC 105 sQ:=fun _=>by kernel_rfl
def pC:tL:=(105,sQ)::pA
theorem pD:tO pC:=Tb pB AAG
def zw:tA:=[(76,7,18,.loop { keep:=[0,1,15,11,19,17,13,21,16,12,20,10,18,14],kb:=[0],pl:=[.slot 3 zf zJ,.srow 5 zf zJ zf,.slot 2 zf zJ,.slot 4 zf zJ,.slot 6 zf zJ],ex:=[(.ret,[]),(.exit 0,[])],pay:=.unit }),(76,13,35,.loop { keep:=[0,1,7,15,31,23,11,19,35,17,33,25,13,21,37,29,16,32,24,12,20,36,6,10,18,34,26,14,22,30],kb:=[0],pl:=[.slot 3 zf zJ,.srow 5 zf zJ zf,.slot 2 zf zJ,.slot 4 zf zJ,.slot 8 zf zJ],ex:=[(.ret,[]),(.exit 2,[])],pay:=.unit })]
def yZ:Sg:=⟨[(zt,T4)],[zI,zI,zI],Wk⟩
theorem e76:tQ pC zw 76 yZ:=fun _=>by kernel_rfl
def pE:tL:=(76,yZ)::pC
theorem pF:tO pE:=Tb pD e76
def zi:tA:=[(44,6,16,.loop { keep:=[0,1,3,15,11,5,17,13,2,4,16,12,6,10,14],kb:=[0],pl:=[.srow 7 zt T3 zf,.slot 8 zf zJ],ex:=[(.exit 0,[])],pay:=.unit }),(44,9,31,.loop { keep:=[0,1,3,15,31,23,11,19,27,5,17,33,13,21,29,2,4,8,16,32,12,20,28,6,10,26,14,22,30],kb:=[0],pl:=[.srow 7 zt T3 zf,.slot 9 zf zJ],ex:=[(.exit 2,[])],pay:=.unit })]
def yP:Sg:=⟨[(zt,T4)],[(zf,(.sl zt T3)),zI],Wq⟩
theorem e44:tQ pE zi 44 yP:=fun _=>by kernel_rfl
def pG:tL:=(44,yP)::pE
theorem pH:tO pG:=Tb pF e44
def zz:tA:=[(77,4,11,.loop { keep:=[0,1,3,7,11,9,2,4,8,10],kb:=[0],pl:=[.slot 5 zf zJ,.slot 6 zf zJ],ex:=[(.exit 0,[])],pay:=.unit })]
def yc:Sg:=⟨[(zt,T4)],[zI],Wr⟩
theorem e77:tQ pG zz 77 yc:=fun _=>by kernel_rfl
def pI:tL:=(77,yc)::pG
theorem pJ:tO pI:=Tb pH e77
def z8:tA:=[(78,3,4,.loop { keep:=[0,1,2],kb:=[0],pl:=[.srow 3 zf zJ zf,.slot 4 zf zJ],ex:=[(.exit 0,[])],pay:=.unit })]
def yd:Sg:=⟨[(zt,T4)],[(zf,(.sl zf zJ))],Wu⟩
theorem e78:tQ pI z8 78 yd:=fun _=>by kernel_rfl
def pK:tL:=(78,yd)::pI
theorem pL:tO pK:=Tb pJ e78
def sO:Sg:=⟨[(zt,T4),zI],[zI],Zp⟩
theorem AAF:tQ pK [] 104 sO:=fun _=>by kernel_rfl
def pM:tL:=(104,sO)::pK
theorem pN:tO pM:=Tb pL AAF
def sS:Sg:=⟨[(zt,T4),zI],[(zf,.bool),zI],ZV⟩
theorem AAI:tQ pM [] 108 sS:=fun _=>by kernel_rfl
def pO:tL:=(108,sS)::pM
theorem pP:tO pO:=Tb pN AAI
def yf:Sg:=⟨[(zt,T4),zI],[(zf,.bool)],WD⟩
theorem e80:tQ pO [] 80 yf:=fun _=>by kernel_rfl
def pQ:tL:=(80,yf)::pO
theorem pR:tO pQ:=Tb pP e80
def wT:tA:=[(173,6,9,.loop { keep:=[0,7,11,9,8,12,10],kb:=[],pl:=[.slot 3 zf zJ,.slot 2 zf zJ,.slot 4 zf zJ],ex:=[(.ret,[]),(.exit 0,[])],pay:=.unit })]
def tW:Sg:=⟨[(zf,(.sl zf (.sl zt T2)))],[zI,zI],XD⟩
theorem AAn:tQ pQ wT 173 tW:=fun _=>by kernel_rfl
def pT:tL:=(173,tW)::pQ
theorem pU:tO pT:=Tb pR AAn
def wi:tA:=[(226,6,8,.loop { keep:=[0,7,5,9,4,8,6],kb:=[],pl:=[.slot 3 zf zJ,.slot 2 zf zJ],ex:=[(.ret,[]),(.exit 0,[])],pay:=.unit })]
def t9:Sg:=⟨[(zf,(.sl zt T5))],[zI],YX⟩
theorem ABA:tQ pT wi 226 t9:=fun _=>by kernel_rfl
def pV:tL:=(226,t9)::pT
theorem pW:tO pV:=Tb pU ABA
def uQ:Sg:=⟨[(zf,(.sl zt T5)),zI,zI],[(zf,.bool)],Yv⟩
theorem ABQ:tQ pV [] 264 uQ:=fun _=>by kernel_rfl
def pX:tL:=(264,uQ)::pV
theorem pY:tO pX:=Tb pW ABQ
theorem ABL(r:AO [(zf,(.sl zt T5)),zI]->Option (AO [zI,zI]))(x:AO [(zf,(.sl zt T5)),zI]):ND Tryz.prog (Af pu ((249,⟨[(zf,(.sl zt T5)),zI],[zI,zI],r⟩)::pX)) (R3 []) 3000 60 249 [(zf,(.sl zt T5)),zI] [zI,zI] x=VP r x:=by kernel_rfl
def pZ:tL:=(249,⟨[(zf,(.sl zt T5)),zI],[zI,zI],Ni (α:=AO [(zf,(.sl zt T5)),zI]) (β:=AO [zI,zI]) VP 100⟩)::pX
theorem pf:tO pZ:=UD pY ABL (by rfl) (by rfl) 100
def wj:tA:=[(227,3,11,.loop { keep:=[0,3,5,9,2,8,6],kb:=[0],pl:=[.slot 4 zf zJ,.box 8 [.ow zt T5 zf,.ow zf zJ zt,.lf zJ]],ex:=[(.exit 0,[])],pay:=.unit })]
def uC:Sg:=⟨[(zf,(.sl zt T5))],[(zt,T7)],Yu⟩
theorem ABB:tQ pZ wj 227 uC:=fun _=>by kernel_rfl
def pj:tL:=(227,uC)::pZ
theorem pk:tO pj:=Tb pf ABB
def tx:Sg:=⟨[(zf,(.sl zt T5))],[(zt,T7),zI],Xo⟩
theorem AA1:tQ pj [] 203 tx:=fun _=>by kernel_rfl
def pn:tL:=(203,tx)::pj
theorem po:tO pn:=Tb pk AA1
end Go.Proofs.YtoefnfbpoabinaaGreatDoor.Pt
