/- The evaluator comes to each of the plain functions. No condition. -/
import Derived.Test.YtiehjicadcamiaaGreatPt6
set_option linter.all false
open Option renaming some->zo, none->zn
open Bool renaming true->zt, false->zf
namespace Go.Proofs.YtiehjicadcamiaaGreat.Pt
open Go Sv Pl
set_option maxRecDepth 1000000
def th:tA:=[(165,1,31,.loop { keep:=[0,1,7,8,6],kb:=[0,1,25,21,26],pl:=[.slot 9 zf zJ,.box 2 [.lf zJ,.ow zt (.sl zt T3) zf],.box 3 [.lf zJ]],ex:=[(.exit 0,[(26,0,zn)]),(.ret,[(26,2,zo .ret)])],pay:=.unit }),(165,4,41,.loop { keep:=[0,1,7,15,11,9,13,4,8,16,12,6,10,14],kb:=[0,1,3,25,21,34,26],pl:=[.slot 5 zf zJ,.box 2 [.lf zJ,.ow zt (.sl zt T3) zf]],ex:=[(.exit 2,[(26,0,zn)])],pay:=.unit }),(165,4,42,.loop { keep:=[0,1,7,15,11,9,13,4,8,16,12,6,10,14],kb:=[0,1,35,25,21,26],pl:=[.slot 5 zf zJ,.box 2 [.lf zJ,.ow zt (.sl zt T3) zf],.box 3 [.lf zJ]],ex:=[(.exit 2,[(26,0,zn)]),(.ret,[(26,2,zo .ret)])],pay:=.unit })]
def qw:Sg:=⟨[(zt,T4),zI,(zt,T3)],[(zt,T4),zI],Uu⟩
theorem xV:tQ oz th 122 qw:=fun _=>by kernel_rfl
def o6:tL:=(122,qw)::oz
theorem o7:tO o6:=Sj o0 xV
def rO:Sg:=⟨[(zt,T4),zI],[(zt,Yh),zI],X6⟩
theorem yA:tQ o6 [] 143 rO:=fun _=>by kernel_rfl
def o8:tL:=(143,rO)::o6
theorem o9:tO o8:=Sj o7 yA
def tj:tA:=[(123,3,10,.loop { keep:=[0,1,3,19,5,9,21,2,4,8,20,10,22],kb:=[0,1,2],pl:=[.slot 23 zf zJ,.map 4 zJ zt Yh],ex:=[(.exit 0,[])],pay:=.unit }),(123,10,22,.loop { keep:=[0,1,3,23,39,19,35,5,33,13,21,37,2,4,8,32,20,36,10,34,22,38],kb:=[0,1,4],pl:=[.slot 9 zf zJ,.slot 40 zf zJ,.box 2 [.lf zJ,.ow zt (.sl zt T3) zf,.ow zt Yh zf,.lf zJ],.box 16 [.lf zJ,.lf (.sl zt (.sl zt T3)),.ow zt Yh zf,.lf zJ]],ex:=[(.exit 2,[]),(.ret,[])],pay:=.unit })]
def qx:Sg:=⟨[(zt,Xx),(zt,T4),zI,zI],[(zt,Xx),zI],Ud⟩
theorem xW:tQ o8 tj 123 qx:=fun _=>by kernel_rfl
def fJ:tL:=(123,qx)::o8
theorem ig:tO fJ:=Sj o9 xW
def v8:Sg:=⟨[(zt,Xx),zI],[(zt,Xx),zI],WW⟩
theorem e91:tQ fJ [] 91 v8:=fun _=>by kernel_rfl
def fK:tL:=(91,v8)::fJ
theorem ii:tO fK:=Sj ig e91
def vH:Sg:=⟨[(zt,Xx),zI],[(zt,Xx),(zf,.bool),zI],Uj⟩
theorem e54:tQ fK [] 54 vH:=fun _=>by kernel_rfl
def fL:tL:=(54,vH)::fK
theorem ij:tO fL:=Sj ii e54
def uh:Sg:=⟨[(zt,zh)],[],Vi⟩
theorem e20:tQ fL [] 20 uh:=fun _=>by kernel_rfl
def fM:tL:=(20,uh)::fL
theorem ik:tO fM:=Sj ij e20
def an7:tA:=[(52,0,47,.loop { keep:=[0,1],kb:=[0,1,35,41,13,45,2,36,34,46],pl:=[],ex:=[],pay:=.unit }),(52,0,68,.loop { keep:=[0,1],kb:=[0,1,55,67,13,2,56,66,62],pl:=[.box 46 [.lf zJ,.lf (.sl zt (.sl zt T3)),.lf (.sl zt Yh),.lf zJ,.lf zJ],.box 57 [.lf zJ,.lf zJ,.lf zJ,.lf zJ,.lf zJ,.lf zJ,.lf zJ,.lf zJ,.lf zJ,.lf zJ,.lf zJ,.lf zJ,.lf zJ,.lf zJ,.lf zJ]],ex:=[(.ret,[(67,0,zn)]),(.ret,[(67,2,zo (.exit 0))])],pay:=.unit })]
def zT:Sg:=⟨[(zt,Xx),zI],[(zt,Xx),(zt,bV),zI],ZG⟩
theorem e7:tQ fM an7 7 zT:=fun _=>by kernel_rfl
def fN:tL:=(7,zT)::fM
theorem il:tO fN:=Sj ik e7
def wN:tA:=[(52,0,47,.loop { keep:=[0,1],kb:=[0,35,41,29,45,12,36,34,46],pl:=[],ex:=[],pay:=.unit }),(52,0,68,.loop { keep:=[0,1],kb:=[0,55,67,56,12,66,62],pl:=[.box 45 [.lf zJ,.lf (.sl zt (.sl zt T3)),.lf (.sl zt Yh),.lf zJ,.lf zJ],.box 50 [.ow zf zJ zf],.box 57 [.lf zJ,.lf zJ,.lf zJ,.lf zJ,.lf zJ,.lf zJ,.lf zJ,.lf zJ,.lf zJ,.lf zJ,.lf zJ,.lf zJ,.lf zJ,.lf zJ,.lf zJ]],ex:=[(.ret,[(67,0,zn)]),(.ret,[(67,2,zo (.exit 0))])],pay:=.unit })]
def uf:Sg:=⟨[(zt,Xx),zI],[(zf,(.sl zf zJ)),zI],ZF⟩
theorem e16:tQ fN wN 16 uf:=fun _=>by kernel_rfl
def fO:tL:=(16,uf)::fN
theorem im:tO fO:=Sj il e16
def wO:tA:=[(52,0,52,.loop { keep:=[0,1],kb:=[0,1,3,11,51,2,50,46],pl:=[],ex:=[],pay:=.unit }),(52,0,61,.loop { keep:=[0,1],kb:=[0,1,55,11,59,60],pl:=[.box 32 [.lf zJ,.lf (.sl zt (.sl zt T3)),.lf (.sl zt Yh),.lf zJ,.lf zJ],.box 2 [.lf zJ],.box 3 [.lf zJ]],ex:=[(.ret,[(60,0,zn)]),(.ret,[(60,2,zo .ret)])],pay:=.unit })]
def ug:Sg:=⟨[(zt,Xx),zI],[zI,zI],Zd⟩
theorem e17:tQ fO wO 17 ug:=fun _=>by kernel_rfl
def fQ:tL:=(17,ug)::fO
theorem io:tO fQ:=Sj im e17
def zR:Sg:=⟨[],[(zf,.bool)],WL⟩
theorem e6:tQ fQ [] 6 zR:=fun _=>by kernel_rfl
def fR:tL:=(6,zR)::fQ
theorem ip:tO fR:=Sj io e6
def wJ:tA:=[(11,5,32,.loop { keep:=[0,1,7,15,11,17,13,21,2,4,16,12,20,10,14],kb:=[0,1,12],pl:=[.srow 5 zt bV zf,.slot 6 zf zJ,.slot 22 zf zJ],ex:=[(.exit 0,[])],pay:=.unit }),(18,7,30,.loop { keep:=[0,1,7,15,11,19,13,21,2,16,12,20,6,10,18,14,22],kb:=[0,1,12],pl:=[.slot 23 zf zJ,.slot 5 zf zJ,.cn 4 .p],ex:=[(.ret,[]),(.exit 0,[])],pay:=.unit }),(52,0,57,.loop { keep:=[0,1],kb:=[0,1,55,51,45,32,56,12,44,46],pl:=[],ex:=[],pay:=.unit }),(11,5,35,.loop { keep:=[0,1,7,15,11,17,13,21,2,4,16,12,20,10,14],kb:=[0,1,12],pl:=[.srow 5 zt bV zf,.slot 6 zf zJ,.slot 22 zf zJ],ex:=[(.exit 0,[])],pay:=.unit }),(11,5,40,.loop { keep:=[0,1,7,15,11,17,13,21,2,4,16,12,20,10,14],kb:=[0,12],pl:=[.srow 5 zt bV zf,.slot 6 zf zJ,.slot 22 zf zJ,.box 32 [.lf zJ,.lf (.sl zt (.sl zt T3)),.lf (.sl zt Yh),.lf zJ,.lf zJ],.box 1 [.lf zJ,.ow zt (.sl zt T3) zf,.ow zt Yh zf,.lf zJ]],ex:=[(.exit 0,[]),(.ret,[])],pay:=.unit }),(52,0,60,.loop { keep:=[0,1],kb:=[0,1,47,35,59,49,48,12,58,54],pl:=[],ex:=[],pay:=.unit }),(52,0,65,.loop { keep:=[0,1],kb:=[0,1,63,59,53,64,40,12,52],pl:=[.box 32 [.lf zJ,.lf (.sl zt (.sl zt T3)),.lf (.sl zt Yh),.lf zJ,.lf zJ],.box 54 [.lf zJ,.lf zJ,.lf zJ,.lf zJ,.lf zJ,.lf zJ,.lf zJ,.lf zJ,.lf zJ,.lf zJ,.lf zJ,.lf zJ,.lf zJ,.lf zJ,.lf zJ]],ex:=[(.ret,[(64,0,zn)])],pay:=.unit }),(52,0,67,.loop { keep:=[0,1],kb:=[0,1,55,65,41,61,40,12,66,42,54],pl:=[.box 32 [.lf zJ,.lf (.sl zt (.sl zt T3)),.lf (.sl zt Yh),.lf zJ,.lf zJ],.box 56 [.lf zJ,.lf zJ,.lf zJ,.lf zJ,.lf zJ,.lf zJ,.lf zJ,.lf zJ,.lf zJ,.lf zJ,.lf zJ,.lf zJ,.lf zJ,.lf zJ,.lf zJ]],ex:=[(.ret,[(66,0,zn)]),(.ret,[(66,2,zo (.exit 0))])],pay:=.unit })]
def ua:Sg:=⟨[(zt,Xx),(zf,(.sl zf zJ))],[(zt,Xx),(zf,(.sl zt bV)),zI],U7⟩
theorem e11:tQ fR wJ 11 ua:=fun _=>by kernel_rfl
def fS:tL:=(11,ua)::fR
theorem iq:tO fS:=Sj ip e11
def td:tA:=[(113,4,7,.loop { keep:=[0,1,7,9,8,6,10],kb:=[],pl:=[.slot 5 zf zJ,.slot 4 zf .bool],ex:=[(.ret,[]),(.exit 0,[])],pay:=.unit })]
def qm:Sg:=⟨[(zf,(.sl zf zJ)),(zf,(.sl zf zJ))],[(zf,.bool)],X8⟩
theorem xM:tQ fS td 113 qm:=fun _=>by kernel_rfl
def fT:tL:=(113,qm)::fS
theorem ir:tO fT:=Sj iq xM
def te:tA:=[(114,4,26,.loop { keep:=[0,1,3,7,15,23,11,19,27,9,17,25,13,21,2,8,16,24,12,20,6,10,18,26,14,22],kb:=[0,1],pl:=[.slot 5 zf zJ,.slot 4 zf .bool],ex:=[(.ret,[]),(.exit 0,[])],pay:=.unit })]
def qn:Sg:=⟨[(zt,T7),(zt,T7)],[(zf,.bool)],XN⟩
theorem xN:tQ fT te 114 qn:=fun _=>by kernel_rfl
def fU:tL:=(114,qn)::fT
theorem iu:tO fU:=Sj ir xN
def tX:tA:=[(109,3,3,.loop { keep:=[0,1,4],kb:=[],pl:=[.slot 5 zf zJ,.slot 6 zf zJ],ex:=[(.exit 0,[])],pay:=.unit })]
def qi:Sg:=⟨[(zf,(.sl zf (.sl zt T2))),(zf,(.sl zf zJ))],[zI],WS⟩
theorem xI:tQ fU tX 109 qi:=fun _=>by kernel_rfl
def fV:tL:=(109,qi)::fU
theorem iv:tO fV:=Sj iu xI
end Go.Proofs.YtiehjicadcamiaaGreat.Pt
