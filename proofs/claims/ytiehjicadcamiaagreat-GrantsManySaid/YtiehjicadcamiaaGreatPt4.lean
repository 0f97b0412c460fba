/- The evaluator comes to each of the plain functions. No condition. -/
import Derived.Test.YtiehjicadcamiaaGreatPt3
set_option linter.all false
open Option renaming none->zn
open Bool renaming true->zt, false->zf
namespace Go.Proofs.YtiehjicadcamiaaGreat.Pt
open Go Sv Pl
set_option maxRecDepth 1000000
def rT:Sg:=⟨[(zt,T7)],[zI,(zf,.str),zI],Vk⟩
theorem yG:tQ mu [] 149 rT:=fun _=>by kernel_rfl
def mw:tL:=(149,rT)::mu
theorem my:tO mw:=Sj mv yG
def rx:Sg:=⟨[(zf,.str)],[(zf,.bool)],WA⟩
theorem yT:tQ mw [] 170 rx:=fun _=>by kernel_rfl
def mz:tL:=(170,rx)::mw
theorem m6:tO mz:=Sj my yT
def rV:Sg:=⟨[(zf,.str),(zf,.str)],[zI],Vr⟩
theorem yI:tQ mz [] 151 rV:=fun _=>by kernel_rfl
def m7:tL:=(151,rV)::mz
theorem m8:tO m7:=Sj m6 yI
def ry:Sg:=⟨[zI],[(zf,.bool)],Wz⟩
theorem yU:tQ m7 [] 171 ry:=fun _=>by kernel_rfl
def m9:tL:=(171,ry)::m7
theorem nA:tO m9:=Sj m8 yU
def rZ:Sg:=⟨[zI,zI],[zI],VV⟩
theorem yJ:tQ m9 [] 152 rZ:=fun _=>by kernel_rfl
def nB:tL:=(152,rZ)::m9
theorem nC:tO nB:=Sj nA yJ
def t7:tA:=[(150,3,5,.loop { keep:=[0,3,7,6],kb:=[],pl:=[.slot 2 zf zJ,.slot 8 zf zJ],ex:=[(.ret,[]),(.exit 0,[])],pay:=.unit })]
def rU:Sg:=⟨[(zf,(.sl zf zJ))],[zI],X5⟩
theorem yH:tQ nB t7 150 rU:=fun _=>by kernel_rfl
def nD:tL:=(150,rU)::nB
theorem nE:tO nD:=Sj nC yH
def tn:tA:=[(127,7,24,.loop { keep:=[0,1,15,31,23,19,27,5,17,25,13,29,4,16,24,12,28,18,26,14,22,30],kb:=[0],pl:=[.slot 3 zf zJ,.slot 2 zf zJ,.slot 32 zf zJ],ex:=[(.ret,[]),(.exit 0,[])],pay:=.unit }),(127,18,49,.loop { keep:=[0,1,15,31,63,23,71,55,19,67,51,27,59,5,9,17,65,25,57,13,69,53,29,61,4,8,16,32,64,24,56,12,68,52,28,60,18,66,26,58,14,22,70,54,30,62],kb:=[0],pl:=[.slot 3 zf zJ,.slot 2 zf zJ,.slot 72 zf zJ],ex:=[(.ret,[]),(.exit 2,[])],pay:=.unit })]
def q9:Sg:=⟨[(zt,T9)],[zI,zI],WO⟩
theorem xc:tQ nD tn 127 q9:=fun _=>by kernel_rfl
def nF:tL:=(127,q9)::nD
theorem nG:tO nF:=Sj nE xc
theorem yx:MG Tryz.prog (λf=> !pu f) 1000 100 173=zt:=by kernel_rfl
theorem yV(a:Ty.den zJ)(l:List (Ty.den zJ)):OZ Tryz.prog (Ae pu nF) (RU []) 3000 60 173 [(zf,(.sl zf zJ))] [(zf,(.sl zf zJ))] (a::l)=UU (a::l):=by kernel_rfl
def nH:tL:=(173,⟨[(zf,(.sl zf zJ))],[(zf,(.sl zf zJ))],UU⟩)::nF
theorem nI:tO nH:=Sk (gg:=false) (c:=zJ) nG yx rfl yV
theorem y8:O2 Tryz.prog (λf=> !pu f) 1000 100 173=zt:=by kernel_rfl
theorem zE(a:Ty.den zJ)(l:List (Ty.den zJ)):QA Tryz.prog (Ae pu nH) (RU []) 3000 60 173 [(zf,(.sl zf zJ))] zf zJ (a::l)=UU (a::l):=by kernel_rfl
def nJ:tL:=(173+Ct,⟨[(zf,(.sl zf zJ))],[(zf,(.sl zf zJ))],UU⟩)::nH
theorem nK:tO nJ:=Sl (gg:=false) (c:=zJ) nI y8 rfl (λa l y h=>SN h) zE
theorem yj(x:AO [zI,zI,(zt,wH)]):P8 Tryz.prog (Ae pu nJ) (RU []) 3000 60 187 [zI,zI,(zt,wH)] [(zf,.bool)] x=Uv x:=by kernel_rfl
def nL:tL:=(3145915,⟨[zI,zI,(zt,wH)],[(zf,.bool)],Uv⟩)::nJ
theorem nM:tO nL:=S4 (f:=187) nK yj
def uC:tA:=[(174,13,63,.loop { keep:=[0,1,3,7,31,63,47,55,11,19,35,51,27,43,59,9,17,33,49,25,41,57,13,21,37,53,29,61,2,4,8,32,24,40,56,12,20,36,52,28,44,60,6,18,34,50,26,42,58,14,38,54,30,46,62],kb:=[0,1,33,52],pl:=[.slot 5 zf zJ,.slot 10 zf zJ,.box 2 [.kp 33,.ow zf zJ zf,.lf zJ]],ex:=[(.exit 0,[])],pay:=.unit })]
def sB:Sg:=⟨[(zt,T7),(zt,T5)],[(zt,T7),zI,zI],Va⟩
theorem yW:tQ nL uC 174 sB:=fun _=>by kernel_rfl
def nN:tL:=(174,sB)::nL
theorem nO:tO nN:=Sj nM yW
def tp:tA:=[(172,0,45,.loop { keep:=[0,1],kb:=[39,35,43,9,13,44],pl:=[.box 0 [.ow zt T2 zf],.box 1 [.ow zf zJ zf]],ex:=[(.ret,[(44,0,zn)])],pay:=.unit }),(147,3,47,.loop { keep:=[0,1,11,13,4,10,14],kb:=[0,1,39,27,13,30],pl:=[.slot 15 zf zJ,.srow 5 zt T5 zt],ex:=[(.exit 0,[])],pay:=.unit }),(172,0,72,.loop { keep:=[0,1],kb:=[47,39,71,9,13,53,66,70,30],pl:=[.box 0 [.ow zt T2 zf],.box 1 [.ow zf zJ zf],.box 62 [.kp 30,.ow zf zJ zt,.lf (.sl zt T5),.lf (.sl zf zJ),.lf zJ]],ex:=[(.ret,[(71,0,zn)])],pay:=.unit })]
def rB:Sg:=⟨[(zf,(.sl zf (.sl zt T2)))],[(zf,(.sl zt T2)),(zf,(.sl zf zJ)),zI],YY⟩
theorem xd:tQ nN tp 128 rB:=fun _=>by kernel_rfl
def nQ:tL:=(128,rB)::nN
theorem nR:tO nQ:=Sj nO xd
def sC:Sg:=⟨[(zt,pI)],[zI],Wf⟩
theorem yX:tQ nQ [] 175 sC:=fun _=>by kernel_rfl
def nS:tL:=(175,sC)::nQ
theorem nT:tO nS:=Sj nR yX
def sL:Sg:=⟨[(zt,T2)],[(zt,T2)],Uf⟩
theorem yp:tQ nS [] 204 sL:=fun _=>by kernel_rfl
def nU:tL:=(204,sL)::nS
theorem nV:tO nU:=Sj nT yp
end Go.Proofs.YtiehjicadcamiaaGreat.Pt
