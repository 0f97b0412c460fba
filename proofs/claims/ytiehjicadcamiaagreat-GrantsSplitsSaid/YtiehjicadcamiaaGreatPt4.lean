/- The evaluator comes to each of the plain functions. No condition. -/
import Derived.Test.YtiehjicadcamiaaGreatPt3
set_option linter.all false
open Option renaming none->zn
open Bool renaming true->zt, false->zf
namespace Go.Proofs.YtiehjicadcamiaaGreat.Pt
open Go Sv Pl
set_option maxRecDepth 1000000
def qd:Sg:=⟨[(zt,T7)],[zI,(zf,.str),zI],Vh⟩
theorem w8:tQ l9 [] 149 qd:=fun _=>by kernel_rfl
def mB:tL:=(149,qd)::l9
theorem mC:tO mB:=Sj mA w8
def qt:Sg:=⟨[(zf,.str)],[(zf,.bool)],V7⟩
theorem xL:tQ mB [] 170 qt:=fun _=>by kernel_rfl
def mD:tL:=(170,qt)::mB
theorem mE:tO mD:=Sj mC xL
def qg:Sg:=⟨[(zf,.str),(zf,.str)],[zI],Vp⟩
theorem xA:tQ mD [] 151 qg:=fun _=>by kernel_rfl
def mF:tL:=(151,qg)::mD
theorem mG:tO mF:=Sj mE xA
def qu:Sg:=⟨[zI],[(zf,.bool)],Wu⟩
theorem xM:tQ mF [] 171 qu:=fun _=>by kernel_rfl
def mH:tL:=(171,qu)::mF
theorem mI:tO mH:=Sj mG xM
def qh:Sg:=⟨[zI,zI],[zI],VQ⟩
theorem xB:tQ mH [] 152 qh:=fun _=>by kernel_rfl
def mJ:tL:=(152,qh)::mH
theorem mK:tO mJ:=Sj mI xB
def sq:tA:=[(150,3,5,.loop { keep:=[0,3,7,6],kb:=[],pl:=[.slot 2 zf zJ,.slot 8 zf zJ],ex:=[(.ret,[]),(.exit 0,[])],pay:=.unit })]
def qf:Sg:=⟨[(zf,(.sl zf zJ))],[zI],Xw⟩
theorem w9:tQ mJ sq 150 qf:=fun _=>by kernel_rfl
def mL:tL:=(150,qf)::mJ
theorem mM:tO mL:=Sj mK w9
def sV:tA:=[(127,7,24,.loop { keep:=[0,1,15,31,23,19,27,5,17,25,13,29,4,16,24,12,28,18,26,14,22,30],kb:=[0],pl:=[.slot 3 zf zJ,.slot 2 zf zJ,.slot 32 zf zJ],ex:=[(.ret,[]),(.exit 0,[])],pay:=.unit }),(127,18,49,.loop { keep:=[0,1,15,31,63,23,71,55,19,67,51,27,59,5,9,17,65,25,57,13,69,53,29,61,4,8,16,32,64,24,56,12,68,52,28,60,18,66,26,58,14,22,70,54,30,62],kb:=[0],pl:=[.slot 3 zf zJ,.slot 2 zf zJ,.slot 72 zf zJ],ex:=[(.ret,[]),(.exit 2,[])],pay:=.unit })]
def qD:Sg:=⟨[(zt,T9)],[zI,zI],WK⟩
theorem wa:tQ mL sV 127 qD:=fun _=>by kernel_rfl
def mN:tL:=(127,qD)::mL
theorem mO:tO mN:=Sj mM wa
theorem xg:MG Tryz.prog (λf=> !pu f) 1000 100 173=zt:=by kernel_rfl
theorem xN(a:Ty.den zJ)(l:List (Ty.den zJ)):OZ Tryz.prog (Ae pu mN) (RU []) 3000 60 173 [(zf,(.sl zf zJ))] [(zf,(.sl zf zJ))] (a::l)=UV (a::l):=by kernel_rfl
def mQ:tL:=(173,⟨[(zf,(.sl zf zJ))],[(zf,(.sl zf zJ))],UV⟩)::mN
theorem mR:tO mQ:=Sk (gg:=false) (c:=zJ) mO xg rfl xN
theorem xp:O2 Tryz.prog (λf=> !pu f) 1000 100 173=zt:=by kernel_rfl
theorem yA(a:Ty.den zJ)(l:List (Ty.den zJ)):QA Tryz.prog (Ae pu mQ) (RU []) 3000 60 173 [(zf,(.sl zf zJ))] zf zJ (a::l)=UV (a::l):=by kernel_rfl
def mS:tL:=(173+Ct,⟨[(zf,(.sl zf zJ))],[(zf,(.sl zf zJ))],UV⟩)::mQ
theorem mT:tO mS:=Sl (gg:=false) (c:=zJ) mR xp rfl (λa l y h=>SN h) yA
theorem xc(x:AO [zI,zI,(zt,vD)]):P8 Tryz.prog (Ae pu mS) (RU []) 3000 60 187 [zI,zI,(zt,vD)] [(zf,.bool)] x=Uq x:=by kernel_rfl
def mU:tL:=(3145915,⟨[zI,zI,(zt,vD)],[(zf,.bool)],Uq⟩)::mS
theorem mV:tO mU:=S4 (f:=187) mT xc
def sv:tA:=[(174,13,63,.loop { keep:=[0,1,3,7,31,63,47,55,11,19,35,51,27,43,59,9,17,33,49,25,41,57,13,21,37,53,29,61,2,4,8,32,24,40,56,12,20,36,52,28,44,60,6,18,34,50,26,42,58,14,38,54,30,46,62],kb:=[0,1,33,52],pl:=[.slot 5 zf zJ,.slot 10 zf zJ,.box 2 [.kp 33,.ow zf zJ zf,.lf zJ]],ex:=[(.exit 0,[])],pay:=.unit })]
def qv:Sg:=⟨[(zt,T7),(zt,T5)],[(zt,T7),zI,zI],VW⟩
theorem xO:tQ mU sv 174 qv:=fun _=>by kernel_rfl
def mW:tL:=(174,qv)::mU
theorem mX:tO mW:=Sj mV xO
def sW:tA:=[(172,0,45,.loop { keep:=[0,1],kb:=[39,35,43,9,13,44],pl:=[.box 0 [.ow zt T2 zf],.box 1 [.ow zf zJ zf]],ex:=[(.ret,[(44,0,zn)])],pay:=.unit }),(147,3,47,.loop { keep:=[0,1,11,13,4,10,14],kb:=[0,1,39,27,13,30],pl:=[.slot 15 zf zJ,.srow 5 zt T5 zt],ex:=[(.exit 0,[])],pay:=.unit }),(172,0,72,.loop { keep:=[0,1],kb:=[47,39,71,9,13,53,66,70,30],pl:=[.box 0 [.ow zt T2 zf],.box 1 [.ow zf zJ zf],.box 62 [.kp 30,.ow zf zJ zt,.lf (.sl zt T5),.lf (.sl zf zJ),.lf zJ]],ex:=[(.ret,[(71,0,zn)])],pay:=.unit })]
def qE:Sg:=⟨[(zf,(.sl zf (.sl zt T2)))],[(zf,(.sl zt T2)),(zf,(.sl zf zJ)),zI],YP⟩
theorem wb:tQ mW sW 128 qE:=fun _=>by kernel_rfl
def mY:tL:=(128,qE)::mW
theorem mZ:tO mY:=Sj mX wb
def qw:Sg:=⟨[(zt,oJ)],[zI],Wb⟩
theorem xP:tQ mY [] 175 qw:=fun _=>by kernel_rfl
def ma:tL:=(175,qw)::mY
theorem mb:tO ma:=Sj mZ xP
def rE:Sg:=⟨[(zt,T2)],[(zt,T2)],Uf⟩
theorem xd:tQ ma [] 204 rE:=fun _=>by kernel_rfl
def mc:tL:=(204,rE)::ma
theorem md:tO mc:=Sj mb xd
end Go.Proofs.YtiehjicadcamiaaGreat.Pt
