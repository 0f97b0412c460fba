/- The evaluator comes to each of the plain functions. No condition. -/
import Derived.Test.YtoefnfbpoabinabGreatDoorPt0
set_option linter.all false
open Bool renaming true->zt, false->zf
namespace Go.Proofs.YtoefnfbpoabinabGreatDoor.Pt
open Go Sv Pl
set_option maxRecDepth 1000000
def vZ:Sg:=⟨[(zf,.bool)],[(zt,yZ)],Wq⟩
theorem ACc:tQ ou [] 174 vZ:=fun _=>by kernel_rfl
def oz:tL:=(174,vZ)::ou
theorem o0:tO oz:=Tb ov ACc
theorem ADL:Mb Tryz.prog (λf=> !pu f) 1000 100 194=zt:=by kernel_rfl
theorem ACp(a:Ty.den (.sl zt T2))(l:List (Ty.den (.sl zt T2))):ND Tryz.prog (Af pu oz) (R3 []) 3000 60 194 [(zf,(.sl zf (.sl zt T2)))] [(zf,(.sl zf (.sl zt T2)))] (a::l)=VP (a::l):=by kernel_rfl
def o6:tL:=(194,⟨[(zf,(.sl zf (.sl zt T2)))],[(zf,(.sl zf (.sl zt T2)))],VP⟩)::oz
theorem o7:tO o6:=Tc (gg:=false) (c:=(.sl zt T2)) o0 ADL rfl ACp
theorem ADP:Pa Tryz.prog (λf=> !pu f) 1000 100 194=zt:=by kernel_rfl
theorem AD9(a:Ty.den (.sl zt T2))(l:List (Ty.den (.sl zt T2))):Qe Tryz.prog (Af pu o6) (R3 []) 3000 60 194 [(zf,(.sl zf (.sl zt T2)))] zf (.sl zt T2) (a::l)=VP (a::l):=by kernel_rfl
def o8:tL:=(194+Cy,⟨[(zf,(.sl zf (.sl zt T2)))],[(zf,(.sl zf (.sl zt T2)))],VP⟩)::o6
theorem o9:tO o8:=Td (gg:=false) (c:=(.sl zt T2)) o7 ADP rfl (λa l y h=>TB h) AD9
def wK:Sg:=⟨[(zf,(.sl zt T2)),zI],[(zt,T5)],Vr⟩
theorem AC1:tQ o8 [] 214 wK:=fun _=>by kernel_rfl
def pA:tL:=(214,wK)::o8
theorem pB:tO pA:=Tb o9 AC1
def wY:Sg:=⟨[(zt,T5)],[(zf,.bool)],XY⟩
theorem ADI:tQ pA [] 237 wY:=fun _=>by kernel_rfl
def pC:tL:=(237,wY)::pA
theorem pD:tO pC:=Tb pB ADI
def zN:tA:=[(240,2,22,.loop { keep:=[0,1,7,6],kb:=[],pl:=[.slot 4 zf zJ,.slot 8 zf zJ],ex:=[(.ret,[]),(.exit 0,[])],pay:=.unit })]
def wV:Sg:=⟨[(zf,(.sl zt T5))],[zI],Xb⟩
theorem ADE:tQ pC zN 229 wV:=fun _=>by kernel_rfl
def pE:tL:=(229,wV)::pC
theorem pF:tO pE:=Tb pD ADE
theorem ADO:Mb Tryz.prog (λf=> !pu f) 1000 100 232=zt:=by kernel_rfl
theorem ADH(a:Ty.den T5)(l:List (Ty.den T5)):ND Tryz.prog (Af pu pE) (R3 []) 3000 60 232 [(zf,(.sl zt T5))] [(zf,(.sl zt T5))] (a::l)=VQ (a::l):=by kernel_rfl
def pG:tL:=(232,⟨[(zf,(.sl zt T5))],[(zf,(.sl zt T5))],VQ⟩)::pE
theorem pH:tO pG:=Tc (gg:=true) (c:=T5) pF ADO rfl ADH
theorem ADS:Pa Tryz.prog (λf=> !pu f) 1000 100 232=zt:=by kernel_rfl
theorem AEC(a:Ty.den T5)(l:List (Ty.den T5)):Qe Tryz.prog (Af pu pG) (R3 []) 3000 60 232 [(zf,(.sl zt T5))] zt T5 (a::l)=VQ (a::l):=by kernel_rfl
def pI:tL:=(232+Cy,⟨[(zf,(.sl zt T5))],[(zf,(.sl zt T5))],VQ⟩)::pG
theorem pJ:tO pI:=Td (gg:=true) (c:=T5) pH ADS rfl (λa l y h=>TB h) AEC
def zO:tA:=[(230,6,26,.loop { keep:=[0,3,15,23,11,19,17,13,2,4,24,12,6,10,14,22],kb:=[0,7],pl:=[.slot 7 zf zJ,.srow 5 zf zJ zt,.box 20 [.ow zt T5 zf,.ow zf zJ zt,.lf zJ]],ex:=[(.exit 0,[])],pay:=.unit })]
def wW:Sg:=⟨[(zf,(.sl zt T5))],[(zt,T7)],Yj⟩
theorem ADF:tQ pI zO 230 wW:=fun _=>by kernel_rfl
def pK:tL:=(230,wW)::pI
theorem pL:tO pK:=Tb pJ ADF
def wL:Sg:=⟨[(zf,(.sl zt T5))],[(zt,T7),zI],Wj⟩
theorem AC2:tQ pK [] 215 wL:=fun _=>by kernel_rfl
def pM:tL:=(215,wL)::pK
theorem pN:tO pM:=Tb pL AC2
def yi:tA:=[(195,3,47,.loop { keep:=[0,1,11,13,4,10,14],kb:=[0,39,27,13,30],pl:=[.slot 15 zf zJ,.srow 5 zt T5 zt],ex:=[(.exit 0,[])],pay:=.unit })]
def vO:Sg:=⟨[(zf,(.sl zf (.sl zt T2))),(zf,.bool)],[(zt,t9),zI,zI],Yv⟩
theorem ACR:tQ pM yi 142 vO:=fun _=>by kernel_rfl
def pO:tL:=(142,vO)::pM
theorem pP:tO pO:=Tb pN ACR
def u9:Sg:=⟨[(zt,T4),zI,(zf,.bool)],[(zt,dM)],Wg⟩
theorem ACF:tQ pO [] 103 u9:=fun _=>by kernel_rfl
def pQ:tL:=(103,u9)::pO
theorem pR:tO pQ:=Tb pP ACF
def zG:tA:=[(195,3,8,.loop { keep:=[0,1,11,13,4,10,14],kb:=[0],pl:=[.slot 15 zf zJ,.srow 5 zt T5 zt],ex:=[(.exit 0,[])],pay:=.unit })]
theorem ACq(x:AO [(zf,(.sl zf (.sl zt T2))),(zf,(.sl zf zJ))]):ND Tryz.prog (Af pu pQ) (R3 zG) 3000 60 195 [(zf,(.sl zf (.sl zt T2))),(zf,(.sl zf zJ))] [(zt,T7)] x=Yk x:=by kernel_rfl
def pT:tL:=(1048771,⟨[(zf,(.sl zf (.sl zt T2))),(zf,(.sl zf zJ))],[(zt,T7)],Yk⟩)::pQ
theorem pU:tO pT:=Tb pR ACq
def yu:tA:=[(150,4,9,.loop { keep:=[0,1,7,11,9,8,12,6,10],kb:=[],pl:=[.slot 13 zf zJ,.slot 4 zf .bool],ex:=[(.ret,[]),(.exit 0,[])],pay:=.unit })]
def vU:Sg:=⟨[(zf,(.sl zt T5)),(zf,(.sl zt T5))],[(zf,.bool)],Vc⟩
theorem ACW:tQ pT yu 150 vU:=fun _=>by kernel_rfl
def pV:tL:=(150,vU)::pT
theorem pW:tO pV:=Tb pU ACW
end Go.Proofs.YtoefnfbpoabinabGreatDoor.Pt
