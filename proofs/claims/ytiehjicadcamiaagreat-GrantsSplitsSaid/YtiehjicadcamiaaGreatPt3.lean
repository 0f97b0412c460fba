/- The evaluator comes to each of the plain functions. No condition. -/
import Derived.Test.YtiehjicadcamiaaGreatPt2
set_option linter.all false
open Bool renaming true->zt, false->zf
namespace Go.Proofs.YtiehjicadcamiaaGreat.Pt
open Go Sv Pl
set_option maxRecDepth 1000000
def rD:Sg:=⟨[(zt,T5)],[(zf,.bool)],WD⟩
theorem xY:tQ lK [] 186 rD:=fun _=>by kernel_rfl
def lM:tL:=(186,rD)::lK
theorem lN:tO lM:=Sj lL xY
def tB:tA:=[(188,2,22,.loop { keep:=[0,1,7,6],kb:=[],pl:=[.slot 4 zf zJ,.slot 8 zf zJ],ex:=[(.ret,[]),(.exit 0,[])],pay:=.unit })]
def qz:Sg:=⟨[(zf,(.sl zt T5))],[zI],WJ⟩
theorem xT:tQ lM tB 179 qz:=fun _=>by kernel_rfl
def lO:tL:=(179,qz)::lM
theorem lQ:tO lO:=Sj lN xT
theorem xh:MG Tryz.prog (λf=> !pu f) 1000 100 182=zt:=by kernel_rfl
theorem xW(a:Ty.den T5)(l:List (Ty.den T5)):OZ Tryz.prog (Ae pu lO) (RU []) 3000 60 182 [(zf,(.sl zt T5))] [(zf,(.sl zt T5))] (a::l)=UQ (a::l):=by kernel_rfl
def lR:tL:=(182,⟨[(zf,(.sl zt T5))],[(zf,(.sl zt T5))],UQ⟩)::lO
theorem lS:tO lR:=Sk (gg:=true) (c:=T5) lQ xh rfl xW
theorem xq:O2 Tryz.prog (λf=> !pu f) 1000 100 182=zt:=by kernel_rfl
theorem yB(a:Ty.den T5)(l:List (Ty.den T5)):QA Tryz.prog (Ae pu lR) (RU []) 3000 60 182 [(zf,(.sl zt T5))] zt T5 (a::l)=UQ (a::l):=by kernel_rfl
def lT:tL:=(182+Ct,⟨[(zf,(.sl zt T5))],[(zf,(.sl zt T5))],UQ⟩)::lR
theorem lU:tO lT:=Sl (gg:=true) (c:=T5) lS xq rfl (λa l y h=>SN h) yB
def tC:tA:=[(180,6,26,.loop { keep:=[0,3,15,23,11,19,17,13,2,4,24,12,6,10,14,22],kb:=[0,7],pl:=[.slot 7 zf zJ,.srow 5 zf zJ zt,.box 20 [.ow zt T5 zf,.ow zf zJ zt,.lf zJ]],ex:=[(.exit 0,[])],pay:=.unit })]
def q9:Sg:=⟨[(zf,(.sl zt T5))],[(zt,T7)],XF⟩
theorem xU:tQ lT tC 180 q9:=fun _=>by kernel_rfl
def lV:tL:=(180,q9)::lT
theorem lW:tO lV:=Sj lU xU
def qp:Sg:=⟨[(zf,(.sl zt T5))],[(zt,T7),zI],Vd⟩
theorem xJ:tQ lV [] 168 qp:=fun _=>by kernel_rfl
def lX:tL:=(168,qp)::lV
theorem lY:tO lX:=Sj lW xJ
def v8:tA:=[(147,3,47,.loop { keep:=[0,1,11,13,4,10,14],kb:=[0,39,27,13,30],pl:=[.slot 15 zf zJ,.srow 5 zt T5 zt],ex:=[(.exit 0,[])],pay:=.unit })]
def uy:Sg:=⟨[(zf,(.sl zf (.sl zt T2))),(zf,.bool)],[(zt,da),zI,zI],XO⟩
theorem e95:tQ lX v8 95 uy:=fun _=>by kernel_rfl
def lZ:tL:=(95,uy)::lX
theorem ld:tO lZ:=Sj lY e95
def uR:Sg:=⟨[(zt,T4),zI,(zf,.bool)],[(zt,ZI)],VZ⟩
theorem zg:tQ lZ [] 60 uR:=fun _=>by kernel_rfl
def lg:tL:=(60,uR)::lZ
theorem lh:tO lg:=Sj ld zg
def sj:tA:=[(147,3,8,.loop { keep:=[0,1,11,13,4,10,14],kb:=[0],pl:=[.slot 15 zf zJ,.srow 5 zt T5 zt],ex:=[(.exit 0,[])],pay:=.unit })]
theorem w6(x:AO [(zf,(.sl zf (.sl zt T2))),(zf,(.sl zf zJ))]):OZ Tryz.prog (Ae pu lg) (RU sj) 3000 60 147 [(zf,(.sl zf (.sl zt T2))),(zf,(.sl zf zJ))] [(zt,T7)] x=XG x:=by kernel_rfl
def lj:tL:=(1048723,⟨[(zf,(.sl zf (.sl zt T2))),(zf,(.sl zf zJ))],[(zt,T7)],XG⟩)::lg
theorem lm:tO lj:=Sj lh w6
def sI:tA:=[(103,4,9,.loop { keep:=[0,1,7,11,9,8,12,6,10],kb:=[],pl:=[.slot 13 zf zJ,.slot 4 zf .bool],ex:=[(.ret,[]),(.exit 0,[])],pay:=.unit })]
def pT:Sg:=⟨[(zf,(.sl zt T5)),(zf,(.sl zt T5))],[(zf,.bool)],UW⟩
theorem wD:tQ lj sI 103 pT:=fun _=>by kernel_rfl
def lq:tL:=(103,pT)::lj
theorem lr:tO lq:=Sj lm wD
def sH:tA:=[(102,4,9,.loop { keep:=[0,1,7,11,9,8,12,6,10],kb:=[],pl:=[.slot 13 zf zJ,.slot 4 zf .bool],ex:=[(.ret,[]),(.exit 0,[])],pay:=.unit })]
def pR:Sg:=⟨[(zf,(.sl zf zJ)),(zf,(.sl zf zJ))],[(zf,.bool)],UR⟩
theorem wC:tQ lq sH 102 pR:=fun _=>by kernel_rfl
def lu:tL:=(102,pR)::lq
theorem lw:tO lu:=Sj lr wC
def qc:Sg:=⟨[(zt,T7),(zt,T7)],[(zf,.bool)],Wq⟩
theorem w7:tQ lu [] 148 qc:=fun _=>by kernel_rfl
def ly:tL:=(148,qc)::lu
theorem lz:tO ly:=Sj lw w7
def tD:tA:=[(181,8,25,.loop { keep:=[0,1,15,23,11,19,5,9,17,25,21,4,8,16,24,12,20,10,18,26,14,22],kb:=[0,19],pl:=[.slot 3 zf zJ,.slot 27 zf zJ,.slot 2 zf zJ],ex:=[(.ret,[]),(.exit 0,[])],pay:=.unit })]
def rB:Sg:=⟨[(zt,T7)],[zI,zI],Xf⟩
theorem xV:tQ ly tD 181 rB:=fun _=>by kernel_rfl
def l7:tL:=(181,rB)::ly
theorem l8:tO l7:=Sj lz xV
def qq:Sg:=⟨[(zt,T7)],[zI],XE⟩
theorem xK:tQ l7 [] 169 qq:=fun _=>by kernel_rfl
def l9:tL:=(169,qq)::l7
theorem mA:tO l9:=Sj l8 xK
end Go.Proofs.YtiehjicadcamiaaGreat.Pt
