/- The evaluator comes to each of the plain functions. No condition. -/
import Derived.Test.YtfceigpbgndbgaaGreatDoorPt4
set_option linter.all false
open Option renaming some->zo, none->zn
open Bool renaming true->zt, false->zf
namespace Go.Proofs.YtfceigpbgndbgaaGreatDoor.Pt
open Go Sv Pl
set_option maxRecDepth 1000000
theorem ABn:MW Tryz.prog (λf=> !pu f) 1000 100 247=zt:=by kernel_rfl
theorem ABb(a:Ty.den bN)(l:List (Ty.den bN)):Ou Tryz.prog (Ae pu oz) (Rn []) 3000 60 247 [(zf,(.sl zt bN))] [(zf,(.sl zt bN))] (a::l)=VA (a::l):=by kernel_rfl
def o6:tL:=(247,⟨[(zf,(.sl zt bN))],[(zf,(.sl zt bN))],VA⟩)::oz
theorem o7:tO o6:=S7 (gg:=true) (c:=bN) o0 ABn rfl ABb
theorem ABr:PQ Tryz.prog (λf=> !pu f) 1000 100 247=zt:=by kernel_rfl
theorem ACG(a:Ty.den bN)(l:List (Ty.den bN)):QS Tryz.prog (Ae pu o6) (Rn []) 3000 60 247 [(zf,(.sl zt bN))] zt bN (a::l)=VA (a::l):=by kernel_rfl
def o8:tL:=(247+Cu,⟨[(zf,(.sl zt bN))],[(zf,(.sl zt bN))],VA⟩)::o6
theorem o9:tO o8:=S8 (gg:=true) (c:=bN) o7 ABr rfl (λa l y h=>Se h) ACG
def uF:Sg:=⟨[(zt,bO),zI,zI],[(zt,bO),zI,zI],Y6⟩
theorem ABM:tQ o8 [] 231 uF:=fun _=>by kernel_rfl
def pA:tL:=(231,uF)::o8
theorem pB:tO pA:=S6 o9 ABM
def AAL:tA:=[(94,5,30,.loop { keep:=[0,1,3,7,15,31,23,11,19,27,9,17,25,13,21,29,2,16,32,24,12,20,28,6,10,18,26,14,22,30],kb:=[0,1,12,10],pl:=[.slot 8 zf zJ],ex:=[(.exit 0,[])],pay:=.unit })]
def y0:Sg:=⟨[(zt,T4),zI,(zf,(.sl zt T3))],[(zt,T4)],Wo⟩
theorem e94:tQ pA AAL 94 y0:=fun _=>by kernel_rfl
def pC:tL:=(94,y0)::pA
theorem pD:tO pC:=S6 pB e94
def uT:Sg:=⟨[(zt,T4),zI],[(zt,T4),(zf,(.sl zt T3)),zI],WW⟩
theorem ABc:tQ pC [] 248 uT:=fun _=>by kernel_rfl
def pE:tL:=(248,uT)::pC
theorem pF:tO pE:=S6 pD ABc
def AAA:tA:=[(132,1,31,.loop { keep:=[0,1,7,8,6],kb:=[0,1,25,21,26],pl:=[.slot 9 zf zJ,.box 2 [.lf zJ,.ow zt (.sl zt T3) zf],.box 3 [.lf zJ]],ex:=[(.exit 0,[(26,0,zn)]),(.ret,[(26,2,zo .ret)])],pay:=.unit }),(132,4,41,.loop { keep:=[0,1,7,15,11,9,13,4,8,16,12,6,10,14],kb:=[0,1,3,25,21,34,26],pl:=[.slot 5 zf zJ,.box 2 [.lf zJ,.ow zt (.sl zt T3) zf]],ex:=[(.exit 2,[(26,0,zn)])],pay:=.unit }),(132,4,42,.loop { keep:=[0,1,7,15,11,9,13,4,8,16,12,6,10,14],kb:=[0,1,35,25,21,26],pl:=[.slot 5 zf zJ,.box 2 [.lf zJ,.ow zt (.sl zt T3) zf],.box 3 [.lf zJ]],ex:=[(.exit 2,[(26,0,zn)]),(.ret,[(26,2,zo .ret)])],pay:=.unit })]
def yT:Sg:=⟨[(zt,T4),zI,(zt,T3)],[(zt,T4),zI],U5⟩
theorem e57:tQ pE AAA 57 yT:=fun _=>by kernel_rfl
def pG:tL:=(57,yT)::pE
theorem pH:tO pG:=S6 pF e57
def tp:Sg:=⟨[(zt,T4),zI],[(zt,bN),zI],Yb⟩
theorem AA6:tQ pG [] 206 tp:=fun _=>by kernel_rfl
def pI:tL:=(206,tp)::pG
theorem pJ:tO pI:=S6 pH AA6
def wO:tA:=[(174,3,10,.loop { keep:=[0,1,3,19,5,9,21,2,4,8,20,10,22],kb:=[0,1,2],pl:=[.slot 23 zf zJ,.map 4 zJ zt bN],ex:=[(.exit 0,[])],pay:=.unit }),(174,10,22,.loop { keep:=[0,1,3,23,39,19,35,5,33,13,21,37,2,4,8,32,20,36,10,34,22,38],kb:=[0,1,4],pl:=[.slot 9 zf zJ,.slot 40 zf zJ,.box 2 [.lf zJ,.ow zt (.sl zt T3) zf,.ow zt bN zf,.lf zJ],.box 16 [.lf zJ,.lf (.sl zt (.sl zt T3)),.ow zt bN zf,.lf zJ]],ex:=[(.exit 2,[]),(.ret,[])],pay:=.unit })]
def tK:Sg:=⟨[(zt,bO),(zt,T4),zI,zI],[(zt,bO),zI],Ut⟩
theorem AAq:tQ pI wO 174 tK:=fun _=>by kernel_rfl
def pK:tL:=(174,tK)::pI
theorem pL:tO pK:=S6 pJ AAq
def uG:Sg:=⟨[(zt,bO),zI],[(zt,bO),zI],Wx⟩
theorem ABN:tQ pK [] 232 uG:=fun _=>by kernel_rfl
def pM:tL:=(232,uG)::pK
theorem pN:tO pM:=S6 pL ABN
def tn:Sg:=⟨[(zt,bO),zI],[(zt,bO),(zf,.bool),zI],Vd⟩
theorem AA5:tQ pM [] 199 tn:=fun _=>by kernel_rfl
def pO:tL:=(199,tn)::pM
theorem pP:tO pO:=S6 pN AA5
def AAC:tA:=[(159,3,25,.loop { keep:=[0,1,5,2,4,6],kb:=[0,3,19,9,18,14],pl:=[.box 13 [.lf zJ,.lf (.sl zt (.sl zt T3)),.lf (.sl zt bN),.lf zJ],.box 22 [.er 330 0 165 .i64],.box 20 [.lf zJ],.box 2 [.lf zJ,.lf (.sl zt (.sl zt T3)),.lf (.sl zt bN),.lf zJ],.box 1 [.lf zJ]],ex:=[(.ret,[(19,0,zn)]),(.ret,[(19,2,zo (.exit 0))])],pay:=.unit })]
def yV:Sg:=⟨[(zt,bO),zI],[(zt,bO),zI,zI],Yq⟩
theorem e68:tQ pO AAC 68 yV:=fun _=>by kernel_rfl
def pQ:tL:=(68,yV)::pO
theorem pR:tO pQ:=S6 pP e68
def yE:Sg:=⟨[(zt,bO)],[(zt,bO),zI,zI],Vn⟩
theorem e37:tQ pQ [] 37 yE:=fun _=>by kernel_rfl
def pT:tL:=(37,yE)::pQ
theorem pU:tO pT:=S6 pR e37
def sg7:Sg:=⟨[(zt,dx)],[(zt,dx),zI,zI],W4⟩
theorem e7:tQ pT [] 7 sg7:=fun _=>by kernel_rfl
def pV:tL:=(7,sg7)::pT
theorem pW:tO pV:=S6 pU e7
def z9:tA:=[(54,2,2,.loop { keep:=[1,4],kb:=[],pl:=[.slot 0 zf zJ,.slot 5 zf zJ],ex:=[(.exit 0,[])],pay:=.unit })]
def yS:Sg:=⟨[zI,zI],[zI],Wj⟩
theorem e54:tQ pV z9 54 yS:=fun _=>by kernel_rfl
def pX:tL:=(54,yS)::pV
theorem pY:tO pX:=S6 pW e54
end Go.Proofs.YtfceigpbgndbgaaGreatDoor.Pt
