/- The evaluator comes to each of the plain functions. No condition. -/
import Derived.Test.YtoefnfbpoabinabGreatDoorPt4
set_option linter.all false
open Option renaming some->zo, none->zn
open Bool renaming true->zt, false->zf
namespace Go.Proofs.YtoefnfbpoabinabGreatDoor.Pt
open Go Sv Pl
set_option maxRecDepth 1000000
theorem ADN:Mb Tryz.prog (λf=> !pu f) 1000 100 226=zt:=by kernel_rfl
theorem ADC(a:Ty.den dM)(l:List (Ty.den dM)):ND Tryz.prog (Af pu rp) (R3 []) 3000 60 226 [(zf,(.sl zt dM))] [(zf,(.sl zt dM))] (a::l)=Vt (a::l):=by kernel_rfl
def ru:tL:=(226,⟨[(zf,(.sl zt dM))],[(zf,(.sl zt dM))],Vt⟩)::rp
theorem rx:tO ru:=Tc (gg:=true) (c:=dM) rq ADN rfl ADC
theorem ADR:Pa Tryz.prog (λf=> !pu f) 1000 100 226=zt:=by kernel_rfl
theorem AEB(a:Ty.den dM)(l:List (Ty.den dM)):Qe Tryz.prog (Af pu ru) (R3 []) 3000 60 226 [(zf,(.sl zt dM))] zt dM (a::l)=Vt (a::l):=by kernel_rfl
def ry:tL:=(226+Cy,⟨[(zf,(.sl zt dM))],[(zf,(.sl zt dM))],Vt⟩)::ru
theorem sB:tO ry:=Td (gg:=true) (c:=dM) rx ADR rfl (λa l y h=>TB h) AEB
def wI:Sg:=⟨[(zt,dW),zI,zI],[(zt,dW),zI,zI],Zs⟩
theorem ACz:tQ ry [] 211 wI:=fun _=>by kernel_rfl
def sC:tL:=(211,wI)::ry
theorem sE:tO sC:=Tb sB ACz
def AB9:tA:=[(83,5,30,.loop { keep:=[0,1,3,7,15,31,23,11,19,27,9,17,25,13,21,29,2,16,32,24,12,20,28,6,10,18,26,14,22,30],kb:=[0,1,12,10],pl:=[.slot 8 zf zJ],ex:=[(.exit 0,[])],pay:=.unit })]
def ABN:Sg:=⟨[(zt,T4),zI,(zf,(.sl zt T3))],[(zt,T4)],Xa⟩
theorem e83:tQ sC AB9 83 ABN:=fun _=>by kernel_rfl
def sF:tL:=(83,ABN)::sC
theorem sG:tO sF:=Tb sE e83
def wU:Sg:=⟨[(zt,T4),zI],[(zt,T4),(zf,(.sl zt T3)),zI],XH⟩
theorem ADD:tQ sF [] 227 wU:=fun _=>by kernel_rfl
def sH:tL:=(227,wU)::sF
theorem sI:tO sH:=Tb sG ADD
def AB0:tA:=[(95,1,31,.loop { keep:=[0,1,7,8,6],kb:=[0,1,25,21,26],pl:=[.slot 9 zf zJ,.box 2 [.lf zJ,.ow zt (.sl zt T3) zf],.box 3 [.lf zJ]],ex:=[(.exit 0,[(26,0,zn)]),(.ret,[(26,2,zo .ret)])],pay:=.unit }),(95,4,41,.loop { keep:=[0,1,7,15,11,9,13,4,8,16,12,6,10,14],kb:=[0,1,3,25,21,34,26],pl:=[.slot 5 zf zJ,.box 2 [.lf zJ,.ow zt (.sl zt T3) zf]],ex:=[(.exit 2,[(26,0,zn)])],pay:=.unit }),(95,4,42,.loop { keep:=[0,1,7,15,11,9,13,4,8,16,12,6,10,14],kb:=[0,1,35,25,21,26],pl:=[.slot 5 zf zJ,.box 2 [.lf zJ,.ow zt (.sl zt T3) zf],.box 3 [.lf zJ]],ex:=[(.exit 2,[(26,0,zn)]),(.ret,[(26,2,zo .ret)])],pay:=.unit })]
def AA8:Sg:=⟨[(zt,T4),zI,(zt,T3)],[(zt,T4),zI],VY⟩
theorem e53:tQ sH AB0 53 AA8:=fun _=>by kernel_rfl
def sJ:tL:=(53,AA8)::sH
theorem sK:tO sJ:=Tb sI e53
def vu:Sg:=⟨[(zt,T4),zI],[(zt,dM),zI],ZQ⟩
theorem ACm:tQ sJ [] 188 vu:=fun _=>by kernel_rfl
def sL:tL:=(188,vu)::sJ
theorem sN:tO sL:=Tb sK ACm
def yx:tA:=[(168,3,10,.loop { keep:=[0,1,3,19,5,9,21,2,4,8,20,10,22],kb:=[0,1,2],pl:=[.slot 23 zf zJ,.map 4 zJ zt dM],ex:=[(.exit 0,[])],pay:=.unit }),(168,10,22,.loop { keep:=[0,1,3,23,39,19,35,5,33,13,21,37,2,4,8,32,20,36,10,34,22,38],kb:=[0,1,4],pl:=[.slot 9 zf zJ,.slot 40 zf zJ,.box 2 [.lf zJ,.ow zt (.sl zt T3) zf,.ow zt dM zf,.lf zJ],.box 16 [.lf zJ,.lf (.sl zt (.sl zt T3)),.ow zt dM zf,.lf zJ]],ex:=[(.exit 2,[]),(.ret,[])],pay:=.unit })]
def vW:Sg:=⟨[(zt,dW),(zt,T4),zI,zI],[(zt,dW),zI],Vb⟩
theorem ACZ:tQ sL yx 168 vW:=fun _=>by kernel_rfl
def sO:tL:=(168,vW)::sL
theorem sQ:tO sO:=Tb sN ACZ
def wJ:Sg:=⟨[(zt,dW),zI],[(zt,dW),zI],Xk⟩
theorem AC0:tQ sO [] 212 wJ:=fun _=>by kernel_rfl
def sR:tL:=(212,wJ)::sO
theorem sS:tO sR:=Tb sQ AC0
def vq:Sg:=⟨[(zt,dW),zI],[(zt,dW),(zf,.bool),zI],WG⟩
theorem ACl:tQ sR [] 185 vq:=fun _=>by kernel_rfl
def sT:tL:=(185,vq)::sR
theorem sU:tO sT:=Tb sS ACl
def AB8:tA:=[(158,3,25,.loop { keep:=[0,1,5,2,4,6],kb:=[0,3,19,9,18,14],pl:=[.box 13 [.lf zJ,.lf (.sl zt (.sl zt T3)),.lf (.sl zt dM),.lf zJ],.box 22 [.er 331 0 187 .i64],.box 20 [.lf zJ],.box 2 [.lf zJ,.lf (.sl zt (.sl zt T3)),.lf (.sl zt dM),.lf zJ],.box 1 [.lf zJ]],ex:=[(.ret,[(19,0,zn)]),(.ret,[(19,2,zo (.exit 0))])],pay:=.unit })]
def ABJ:Sg:=⟨[(zt,dW),zI],[(zt,dW),zI,zI],Zf⟩
theorem e77:tQ sT AB8 77 ABJ:=fun _=>by kernel_rfl
def sV:tL:=(77,ABJ)::sT
theorem sW:tO sV:=Tb sU e77
def AA6:Sg:=⟨[(zt,dW)],[(zt,dW),zI,zI],W7⟩
theorem e51:tQ sV [] 51 AA6:=fun _=>by kernel_rfl
def sX:tL:=(51,AA6)::sV
theorem sY:tO sX:=Tb sW e51
def ABK:Sg:=⟨[(zt,gm)],[(zt,gm)],XU⟩
theorem e79:tQ sX [] 79 ABK:=fun _=>by kernel_rfl
def sZ:tL:=(79,ABK)::sX
theorem sc:tO sZ:=Tb sY e79
def vF:Sg:=⟨[(zt,dW),(zf,(.sl zt T2))],[(zt,dW),zI],X7⟩
theorem ACL:tQ sZ [] 125 vF:=fun _=>by kernel_rfl
def se:tL:=(125,vF)::sZ
theorem sf:tO se:=Tb sc ACL
end Go.Proofs.YtoefnfbpoabinabGreatDoor.Pt
