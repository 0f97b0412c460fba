/- The evaluator comes to each of the plain functions. No condition. -/
import Derived.Test.YtiehjicadcamiaaGreatPt0
set_option linter.all false
open Bool renaming true->zt, false->zf
namespace Go.Proofs.YtiehjicadcamiaaGreat.Pt
open Go Sv Pl
set_option maxRecDepth 1000000
def vV:Sg:=⟨[(zt,T4),zI],[(zf,.bool),zI],Yf⟩
theorem e67:tQ kq [] 67 vV:=fun _=>by kernel_rfl
def ks:tL:=(67,vV)::kq
theorem ku:tO ks:=Sj kr e67
def uz:Sg:=⟨[(zt,T4),zI],[(zf,.bool)],Uk⟩
theorem e38:tQ ks [] 38 uz:=fun _=>by kernel_rfl
def kw:tL:=(38,uz)::ks
theorem kz:tO kw:=Sj ku e38
def tZ:tA:=[(111,6,9,.loop { keep:=[0,7,11,9,8,12,10],kb:=[],pl:=[.slot 3 zf zJ,.slot 2 zf zJ,.slot 4 zf zJ],ex:=[(.ret,[]),(.exit 0,[])],pay:=.unit })]
def qk:Sg:=⟨[(zf,(.sl zf (.sl zt T2)))],[zI,zI],WT⟩
theorem xK:tQ kw tZ 111 qk:=fun _=>by kernel_rfl
def lA:tL:=(111,qk)::kw
theorem lB:tO lA:=Sj kz xK
def t8:tA:=[(162,6,8,.loop { keep:=[0,7,5,9,4,8,6],kb:=[],pl:=[.slot 3 zf zJ,.slot 2 zf zJ],ex:=[(.ret,[]),(.exit 0,[])],pay:=.unit })]
def ri:Sg:=⟨[(zf,(.sl zt T5))],[zI],Xn⟩
theorem yM:tQ lA t8 162 ri:=fun _=>by kernel_rfl
def lC:tL:=(162,ri)::lA
theorem lD:tO lC:=Sj lB yM
def sJ:Sg:=⟨[(zf,(.sl zt T5)),zI,zI],[(zf,.bool)],YA⟩
theorem yh:tQ lC [] 184 sJ:=fun _=>by kernel_rfl
def lE:tL:=(184,sJ)::lC
theorem lF:tO lE:=Sj lD yh
theorem yZ(r:AO [(zf,(.sl zt T5)),zI]->Option (AO [zI,zI]))(x:AO [(zf,(.sl zt T5)),zI]):OZ Tryz.prog (Ae pu ((177,⟨[(zf,(.sl zt T5)),zI],[zI,zI],r⟩)::lE)) (RU []) 3000 60 177 [(zf,(.sl zt T5)),zI] [zI,zI] x=US r x:=by kernel_rfl
def lG:tL:=(177,⟨[(zf,(.sl zt T5)),zI],[zI,zI],NG (α:=AO [(zf,(.sl zt T5)),zI]) (β:=AO [zI,zI]) US 100⟩)::lE
theorem lH:tO lG:=S5 lF yZ (by rfl) (by rfl) 100
def t9:tA:=[(163,3,11,.loop { keep:=[0,3,5,9,2,8,6],kb:=[0],pl:=[.slot 4 zf zJ,.box 8 [.ow zt T5 zf,.ow zf zJ zt,.lf zJ]],ex:=[(.exit 0,[])],pay:=.unit })]
def rm:Sg:=⟨[(zf,(.sl zt T5))],[(zt,T7)],X9⟩
theorem yN:tQ lG t9 163 rm:=fun _=>by kernel_rfl
def lI:tL:=(163,rm)::lG
theorem lJ:tO lI:=Sj lH yN
def rI:Sg:=⟨[(zf,(.sl zt T5))],[(zt,T7),zI],Wx⟩
theorem xp:tQ lI [] 135 rI:=fun _=>by kernel_rfl
def lK:tL:=(135,rI)::lI
theorem lL:tO lK:=Sj lJ xp
def tY:tA:=[(110,4,12,.loop { keep:=[0,1,15,11,5,9,13,4,12,10,14],kb:=[0,3,8,6],pl:=[.slot 7 zf zJ,.srow 6 zt T5 zf],ex:=[(.exit 0,[])],pay:=.unit })]
def qj:Sg:=⟨[(zf,(.sl zf (.sl zt T2))),(zf,(.sl zf zJ))],[(zt,T9)],Vx⟩
theorem xJ:tQ lK tY 110 qj:=fun _=>by kernel_rfl
def lM:tL:=(110,qj)::lK
theorem lN:tO lM:=Sj lL xJ
def qf:Sg:=⟨[(zf,(.sl zf (.sl zt T2)))],[(zt,T9),zI,zI],Ye⟩
theorem xF:tQ lM [] 106 qf:=fun _=>by kernel_rfl
def lO:tL:=(106,qf)::lM
theorem lQ:tO lO:=Sj lN xF
def qg:Sg:=⟨[(zf,.bool)],[(zt,pI)],Vy⟩
theorem xG:tQ lO [] 107 qg:=fun _=>by kernel_rfl
def lR:tL:=(107,qg)::lO
theorem lS:tO lR:=Sj lQ xG
def vW:Sg:=⟨[(zf,(.sl zf (.sl zt T2))),(zf,.bool)],[(zt,eC),zI,zI],Xp⟩
theorem e69:tQ lR [] 69 vW:=fun _=>by kernel_rfl
def lT:tL:=(69,vW)::lR
theorem lU:tO lT:=Sj lS e69
def u4:Sg:=⟨[(zt,T4),zI,(zf,.bool)],[(zt,Yh)],UT⟩
theorem e39:tQ lT [] 39 u4:=fun _=>by kernel_rfl
def lV:tL:=(39,u4)::lT
theorem lW:tO lV:=Sj lU e39
def wT:tA:=[(30,7,25,.loop { keep:=[0,1,3,7,15,23,11,5,17,25,13,21,2,4,8,16,24,12,20,6,10,26,14,22],kb:=[0,1],pl:=[.slot 9 zf zJ,.box 19 [.lf zJ,.lf (.sl zt (.sl zt T3)),.ow zt Yh zf,.lf zJ]],ex:=[(.exit 0,[])],pay:=.unit })]
def ut:Sg:=⟨[(zt,T4)],[(zt,Xx),zI],aw⟩
theorem e30:tQ lV wT 30 ut:=fun _=>by kernel_rfl
def lX:tL:=(30,ut)::lV
theorem lY:tO lX:=Sj lW e30
end Go.Proofs.YtiehjicadcamiaaGreat.Pt
