/- The evaluator comes to each of the plain functions. No condition. -/
import Derived.Test.YtiehjicadcamiaaGreatPt1
set_option linter.all false
open Bool renaming true->zt, false->zf
namespace Go.Proofs.YtiehjicadcamiaaGreat.Pt
open Go Sv Pl
set_option maxRecDepth 1000000
def ue:Sg:=⟨[],[(zt,Xx)],W1⟩
theorem e15:tQ lX [] 15 ue:=fun _=>by kernel_rfl
def lZ:tL:=(15,ue)::lX
theorem ld:tO lZ:=Sj lY e15
def sF:Sg:=⟨[(zf,.str)],[zI],XH⟩
theorem yc:tQ lZ [] 178 sF:=fun _=>by kernel_rfl
def lg:tL:=(178,sF)::lZ
theorem lh:tO lg:=Sj ld yc
def rp:Sg:=⟨[(zt,T2)],[zI],VZ⟩
theorem yP:tQ lg [] 166 rp:=fun _=>by kernel_rfl
def lj:tL:=(166,rp)::lg
theorem lm:tO lj:=Sj lh yP
def t4:tA:=[(144,4,8,.loop { keep:=[0,7,11,9,8,10],kb:=[],pl:=[.slot 3 zf zJ,.slot 2 zf zJ,.slot 12 zf zJ],ex:=[(.ret,[]),(.exit 0,[])],pay:=.unit })]
def rQ:Sg:=⟨[(zf,(.sl zt T2))],[zI,zI],Ux⟩
theorem yB:tQ lj t4 144 rQ:=fun _=>by kernel_rfl
def lq:tL:=(144,rQ)::lj
theorem lr:tO lq:=Sj lm yB
def qy:Sg:=⟨[(zt,T3)],[zI,zI],YH⟩
theorem xX:tQ lq [] 124 qy:=fun _=>by kernel_rfl
def lu:tL:=(124,qy)::lq
theorem lw:tO lu:=Sj lr xX
def v9:Sg:=⟨[(zt,T3),zI],[zI],Vw⟩
theorem e92:tQ lu [] 92 v9:=fun _=>by kernel_rfl
def ly:tL:=(92,v9)::lu
theorem lz:tO ly:=Sj lw e92
def we:tA:=[(55,8,26,.loop { keep:=[0,1,15,23,11,19,27,5,17,25,13,21,29,16,24,12,20,28,18,26,14,22],kb:=[0],pl:=[.slot 3 zf zJ,.slot 2 zf zJ,.slot 4 zf zJ,.slot 30 zf zJ,.map 18 zJ zf .bool],ex:=[(.exit 1,[])],pay:=.unit }),(55,14,44,.loop { keep:=[0,1,7,15,31,23,39,11,19,35,27,5,17,33,25,41,13,21,37,29,2,16,32,24,40,12,20,36,28,6,18,34,26,42,14,22,38,30],kb:=[0,30],pl:=[.slot 3 zf zJ,.slot 43 zf zJ,.slot 4 zf zJ,.map 18 zJ zf .bool],ex:=[(.exit 1,[]),(.exit 3,[])],pay:=.unit })]
def vI:Sg:=⟨[(zt,T4)],[zI,zI,zI],V3⟩
theorem e55:tQ ly we 55 vI:=fun _=>by kernel_rfl
def l7:tL:=(55,vI)::ly
theorem l8:tO l7:=Sj lz e55
def wg:tA:=[(56,2,6,.loop { keep:=[0,1,7,9,8],kb:=[0],pl:=[.slot 2 zf zJ,.slot 10 zf zJ],ex:=[(.exit 0,[])],pay:=.unit }),(56,5,15,.loop { keep:=[0,1,7,15,11,9,13,4,8,16,12,10,14],kb:=[0,9],pl:=[.slot 17 zf zJ,.slot 2 zf zJ],ex:=[(.exit 2,[])],pay:=.unit })]
def vJ:Sg:=⟨[(zt,T4)],[zI],W0⟩
theorem e56:tQ l7 wg 56 vJ:=fun _=>by kernel_rfl
def l9:tL:=(56,vJ)::l7
theorem mA:tO l9:=Sj l8 e56
def vK:Sg:=⟨[(zt,T4),zI],[(zf,.bool)],Vv⟩
theorem e59:tQ l9 [] 59 vK:=fun _=>by kernel_rfl
def mB:tL:=(59,vK)::l9
theorem mC:tO mB:=Sj mA e59
def t5:tA:=[(145,6,13,.loop { keep:=[0,15,11,9,17,13,8,16,12,10,14],kb:=[],pl:=[.slot 3 zf zJ,.slot 2 zf zJ,.slot 18 zf zJ],ex:=[(.ret,[]),(.exit 1,[])],pay:=.unit })]
def rR:Sg:=⟨[(zf,(.sl zf (.sl zt T2)))],[zI,zI],WP⟩
theorem yC:tQ mB t5 145 rR:=fun _=>by kernel_rfl
def mD:tL:=(145,rR)::mB
theorem mE:tO mD:=Sj mC yC
def qz:Sg:=⟨[(zf,.bool)],[(zt,pI)],Vl⟩
theorem xY:tQ mD [] 126 qz:=fun _=>by kernel_rfl
def mF:tL:=(126,qz)::mD
theorem mG:tO mF:=Sj mE xY
theorem yu:MG Tryz.prog (λf=> !pu f) 1000 100 146=zt:=by kernel_rfl
theorem yD(a:Ty.den (.sl zt T2))(l:List (Ty.den (.sl zt T2))):OZ Tryz.prog (Ae pu mF) (RU []) 3000 60 146 [(zf,(.sl zf (.sl zt T2)))] [(zf,(.sl zf (.sl zt T2)))] (a::l)=UO (a::l):=by kernel_rfl
def mH:tL:=(146,⟨[(zf,(.sl zf (.sl zt T2)))],[(zf,(.sl zf (.sl zt T2)))],UO⟩)::mF
theorem mI:tO mH:=Sk (gg:=false) (c:=(.sl zt T2)) mG yu rfl yD
theorem y0:O2 Tryz.prog (λf=> !pu f) 1000 100 146=zt:=by kernel_rfl
theorem zD(a:Ty.den (.sl zt T2))(l:List (Ty.den (.sl zt T2))):QA Tryz.prog (Ae pu mH) (RU []) 3000 60 146 [(zf,(.sl zf (.sl zt T2)))] zf (.sl zt T2) (a::l)=UO (a::l):=by kernel_rfl
def mJ:tL:=(146+Ct,⟨[(zf,(.sl zf (.sl zt T2)))],[(zf,(.sl zf (.sl zt T2)))],UO⟩)::mH
theorem mK:tO mJ:=Sl (gg:=false) (c:=(.sl zt T2)) mI y0 rfl (λa l y h=>SN h) zD
def rq:Sg:=⟨[(zf,(.sl zt T2)),zI],[(zt,T5)],Ui⟩
theorem yQ:tQ mJ [] 167 rq:=fun _=>by kernel_rfl
def mL:tL:=(167,rq)::mJ
theorem mM:tO mL:=Sj mK yQ
end Go.Proofs.YtiehjicadcamiaaGreat.Pt
