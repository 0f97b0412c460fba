/- The evaluator comes to each of the plain functions. No condition. -/
import Derived.Test.YtiehjicadcamiaaGreatPt0
set_option linter.all false
open Bool renaming true->zt, false->zf
namespace Go.Proofs.YtiehjicadcamiaaGreat.Pt
open Go Sv Pl
set_option maxRecDepth 1000000
def uY:Sg:=⟨[(zt,T4),zI],[(zf,.bool),zI],YX⟩
theorem zq:tQ jx [] 67 uY:=fun _=>by kernel_rfl
def jz:tL:=(67,uY)::jx
theorem j7:tO jz:=Sj jy zq
def t8:Sg:=⟨[(zt,T4),zI],[(zf,.bool)],Ui⟩
theorem zK:tQ jz [] 38 t8:=fun _=>by kernel_rfl
def j8:tL:=(38,t8)::jz
theorem j9:tO j8:=Sj j7 zK
def sN:tA:=[(111,6,9,.loop { keep:=[0,7,11,9,8,12,10],kb:=[],pl:=[.slot 3 zf zJ,.slot 2 zf zJ,.slot 4 zf zJ],ex:=[(.ret,[]),(.exit 0,[])],pay:=.unit })]
def pj:Sg:=⟨[(zf,(.sl zf (.sl zt T2)))],[zI,zI],WP⟩
theorem wL:tQ j8 sN 111 pj:=fun _=>by kernel_rfl
def kA:tL:=(111,pj)::j8
theorem kB:tO kA:=Sj j9 wL
def ss:tA:=[(162,6,8,.loop { keep:=[0,7,5,9,4,8,6],kb:=[],pl:=[.slot 3 zf zJ,.slot 2 zf zJ],ex:=[(.ret,[]),(.exit 0,[])],pay:=.unit })]
def qk:Sg:=⟨[(zf,(.sl zt T5))],[zI],Xh⟩
theorem xE:tQ kA ss 162 qk:=fun _=>by kernel_rfl
def kC:tL:=(162,qk)::kA
theorem kD:tO kC:=Sj kB xE
def rC:Sg:=⟨[(zf,(.sl zt T5)),zI,zI],[(zf,.bool)],X4⟩
theorem xX:tQ kC [] 184 rC:=fun _=>by kernel_rfl
def kF:tL:=(184,rC)::kC
theorem kG:tO kF:=Sj kD xX
theorem xR(r:AO [(zf,(.sl zt T5)),zI]->Option (AO [zI,zI]))(x:AO [(zf,(.sl zt T5)),zI]):OZ Tryz.prog (Ae pu ((177,⟨[(zf,(.sl zt T5)),zI],[zI,zI],r⟩)::kF)) (RU []) 3000 60 177 [(zf,(.sl zt T5)),zI] [zI,zI] x=UT r x:=by kernel_rfl
def kH:tL:=(177,⟨[(zf,(.sl zt T5)),zI],[zI,zI],NG (α:=AO [(zf,(.sl zt T5)),zI]) (β:=AO [zI,zI]) UT 100⟩)::kF
theorem kI:tO kH:=S5 kG xR (by rfl) (by rfl) 100
def su:tA:=[(163,3,11,.loop { keep:=[0,3,5,9,2,8,6],kb:=[0],pl:=[.slot 4 zf zJ,.box 8 [.ow zt T5 zf,.ow zf zJ zt,.lf zJ]],ex:=[(.exit 0,[])],pay:=.unit })]
def ql:Sg:=⟨[(zf,(.sl zt T5))],[(zt,T7)],X3⟩
theorem xF:tQ kH su 163 ql:=fun _=>by kernel_rfl
def kJ:tL:=(163,ql)::kH
theorem kK:tO kJ:=Sj kI xF
def qP:Sg:=⟨[(zf,(.sl zt T5))],[(zt,T7),zI],Ws⟩
theorem wm:tQ kJ [] 135 qP:=fun _=>by kernel_rfl
def kL:tL:=(135,qP)::kJ
theorem kM:tO kL:=Sj kK wm
def sL:tA:=[(110,4,12,.loop { keep:=[0,1,15,11,5,9,13,4,12,10,14],kb:=[0,3,8,6],pl:=[.slot 7 zf zJ,.srow 6 zt T5 zf],ex:=[(.exit 0,[])],pay:=.unit })]
def pf:Sg:=⟨[(zf,(.sl zf (.sl zt T2))),(zf,(.sl zf zJ))],[(zt,T9)],Vu⟩
theorem wK:tQ kL sL 110 pf:=fun _=>by kernel_rfl
def kO:tL:=(110,pf)::kL
theorem kP:tO kO:=Sj kM wK
def pW:Sg:=⟨[(zf,(.sl zf (.sl zt T2)))],[(zt,T9),zI,zI],YW⟩
theorem wG:tQ kO [] 106 pW:=fun _=>by kernel_rfl
def kQ:tL:=(106,pW)::kO
theorem kS:tO kQ:=Sj kP wG
def pX:Sg:=⟨[(zf,.bool)],[(zt,oJ)],Vv⟩
theorem wH:tQ kQ [] 107 pX:=fun _=>by kernel_rfl
def kT:tL:=(107,pX)::kQ
theorem kU:tO kT:=Sj kS wH
def ua:Sg:=⟨[(zf,(.sl zf (.sl zt T2))),(zf,.bool)],[(zt,da),zI,zI],Xj⟩
theorem zu:tQ kT [] 69 ua:=fun _=>by kernel_rfl
def kV:tL:=(69,ua)::kT
theorem kW:tO kV:=Sj kU zu
def t9:Sg:=⟨[(zt,T4),zI,(zf,.bool)],[(zt,ZI)],UU⟩
theorem zL:tQ kV [] 39 t9:=fun _=>by kernel_rfl
def kX:tL:=(39,t9)::kV
theorem kY:tO kX:=Sj kW zL
def vN:tA:=[(30,7,25,.loop { keep:=[0,1,3,7,15,23,11,5,17,25,13,21,2,4,8,16,24,12,20,6,10,26,14,22],kb:=[0,1],pl:=[.slot 9 zf zJ,.box 19 [.lf zJ,.lf (.sl zt (.sl zt T3)),.ow zt ZI zf,.lf zJ]],ex:=[(.exit 0,[])],pay:=.unit })]
def tx:Sg:=⟨[(zt,T4)],[(zt,YM),zI],ah⟩
theorem zB:tQ kX vN 30 tx:=fun _=>by kernel_rfl
def kZ:tL:=(30,tx)::kX
theorem ka:tO kZ:=Sj kY zB
end Go.Proofs.YtiehjicadcamiaaGreat.Pt
