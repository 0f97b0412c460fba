/- The evaluator comes to each of the plain functions. No condition. -/
import Derived.Test.YtoefnfbpoabinaaGreatDoorPt1
set_option linter.all false
open Bool renaming true->zt, false->zf
namespace Go.Proofs.YtoefnfbpoabinaaGreatDoor.Pt
open Go Sv Pl
set_option maxRecDepth 1000000
def wO:tA:=[(161,4,9,.loop { keep:=[0,1,7,11,9,8,12,6,10],kb:=[],pl:=[.slot 13 zf zJ,.slot 4 zf .bool],ex:=[(.ret,[]),(.exit 0,[])],pay:=.unit })]
def tM:Sg:=⟨[(zf,(.sl zf zJ)),(zf,(.sl zf zJ))],[(zf,.bool)],VN⟩
theorem AAh:tQ m7 wO 161 tM:=fun _=>by kernel_rfl
def m9:tL:=(161,tM)::m7
theorem nA:tO m9:=Tb m8 AAh
def t5:Sg:=⟨[(zt,T7),(zt,T7)],[(zf,.bool)],Xm⟩
theorem AA6:tQ m9 [] 215 t5:=fun _=>by kernel_rfl
def nB:tL:=(215,t5)::m9
theorem nC:tO nB:=Tb nA AA6
def wt:tA:=[(261,8,25,.loop { keep:=[0,1,15,23,11,19,5,9,17,25,21,4,8,16,24,12,20,10,18,26,14,22],kb:=[0,19],pl:=[.slot 3 zf zJ,.slot 27 zf zJ,.slot 2 zf zJ],ex:=[(.ret,[]),(.exit 0,[])],pay:=.unit })]
def uO:Sg:=⟨[(zt,T7)],[zI,zI],YV⟩
theorem ABO:tQ nB wt 261 uO:=fun _=>by kernel_rfl
def nD:tL:=(261,uO)::nB
theorem nF:tO nD:=Tb nC ABO
def uH:Sg:=⟨[(zt,T7)],[zI],X7⟩
theorem ABF:tQ nD [] 242 uH:=fun _=>by kernel_rfl
def nG:tL:=(242,uH)::nD
theorem nH:tO nG:=Tb nF ABF
def t6:Sg:=⟨[(zt,T7)],[zI,(zf,.str),zI],WT⟩
theorem AA7:tQ nG [] 216 t6:=fun _=>by kernel_rfl
def nI:tL:=(216,t6)::nG
theorem nJ:tO nI:=Tb nH AA7
def uI:Sg:=⟨[(zf,.str)],[(zf,.bool)],Wx⟩
theorem ABG:tQ nI [] 243 uI:=fun _=>by kernel_rfl
def nK:tL:=(243,uI)::nI
theorem nL:tO nK:=Tb nJ ABG
def t7:Sg:=⟨[(zf,.str),(zf,.str)],[zI],Wb⟩
theorem AA8:tQ nK [] 217 t7:=fun _=>by kernel_rfl
def nM:tL:=(217,t7)::nK
theorem nN:tO nM:=Tb nL AA8
def uJ:Sg:=⟨[zI],[(zf,.bool)],Xr⟩
theorem ABH:tQ nM [] 244 uJ:=fun _=>by kernel_rfl
def nO:tL:=(244,uJ)::nM
theorem nQ:tO nO:=Tb nN ABH
def t8:Sg:=⟨[zI,zI],[zI],WG⟩
theorem AA9:tQ nO [] 218 t8:=fun _=>by kernel_rfl
def nR:tL:=(218,t8)::nO
theorem nS:tO nR:=Tb nQ AA9
def kj:tA:=[(128,3,5,.loop { keep:=[0,3,7,6],kb:=[],pl:=[.slot 2 zf zJ,.slot 8 zf zJ],ex:=[(.ret,[]),(.exit 0,[])],pay:=.unit })]
def sc:Sg:=⟨[(zf,(.sl zf zJ))],[zI],WL⟩
theorem uq:tQ nR kj 128 sc:=fun _=>by kernel_rfl
def nT:tL:=(128,sc)::nR
theorem nU:tO nT:=Tb nS uq
def wZ:tA:=[(194,7,24,.loop { keep:=[0,1,15,31,23,19,27,5,17,25,13,29,4,16,24,12,28,18,26,14,22,30],kb:=[0],pl:=[.slot 3 zf zJ,.slot 2 zf zJ,.slot 32 zf zJ],ex:=[(.ret,[]),(.exit 0,[])],pay:=.unit }),(194,18,49,.loop { keep:=[0,1,15,31,63,23,71,55,19,67,51,27,59,5,9,17,65,25,57,13,69,53,29,61,4,8,16,32,64,24,56,12,68,52,28,60,18,66,26,58,14,22,70,54,30,62],kb:=[0],pl:=[.slot 3 zf zJ,.slot 2 zf zJ,.slot 72 zf zJ],ex:=[(.ret,[]),(.exit 2,[])],pay:=.unit })]
def th:Sg:=⟨[(zt,T9)],[zI,zI],W8⟩
theorem AAu:tQ nT wZ 194 th:=fun _=>by kernel_rfl
def nV:tL:=(194,th)::nT
theorem nX:tO nV:=Tb nU AAu
theorem ABV:Mb Tryz.prog (λf=> !pu f) 1000 100 246=zt:=by kernel_rfl
theorem ABI(a:Ty.den zJ)(l:List (Ty.den zJ)):ND Tryz.prog (Af pu nV) (R3 []) 3000 60 246 [(zf,(.sl zf zJ))] [(zf,(.sl zf zJ))] (a::l)=VQ (a::l):=by kernel_rfl
def nY:tL:=(246,⟨[(zf,(.sl zf zJ))],[(zf,(.sl zf zJ))],VQ⟩)::nV
theorem nZ:tO nY:=Tc (gg:=false) (c:=zJ) nX ABV rfl ABI
theorem ABY:Pa Tryz.prog (λf=> !pu f) 1000 100 246=zt:=by kernel_rfl
theorem AB6(a:Ty.den zJ)(l:List (Ty.den zJ)):Qe Tryz.prog (Af pu nY) (R3 []) 3000 60 246 [(zf,(.sl zf zJ))] zf zJ (a::l)=VQ (a::l):=by kernel_rfl
def na:tL:=(246+Cy,⟨[(zf,(.sl zf zJ))],[(zf,(.sl zf zJ))],VQ⟩)::nY
theorem nf:tO na:=Td (gg:=false) (c:=zJ) nZ ABY rfl (λa l y h=>TB h) AB6
theorem ABS(x:AO [zI,zI,(zt,zC)]):Qc Tryz.prog (Af pu na) (R3 []) 3000 60 270 [zI,zI,(zt,zC)] [(zf,.bool)] x=Vm x:=by kernel_rfl
def ng:tL:=(3145998,⟨[zI,zI,(zt,zC)],[(zf,.bool)],Vm⟩)::na
theorem nh:tO ng:=UC (f:=270) nf ABS
end Go.Proofs.YtoefnfbpoabinaaGreatDoor.Pt
