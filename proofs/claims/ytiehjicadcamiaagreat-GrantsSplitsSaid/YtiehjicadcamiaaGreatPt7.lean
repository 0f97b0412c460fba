/- The evaluator comes to each of the plain functions. No condition. -/
import Derived.Test.YtiehjicadcamiaaGreatPt6
set_option linter.all false
open Option renaming some->zo, none->zn
open Bool renaming true->zt, false->zf
namespace Go.Proofs.YtiehjicadcamiaaGreat.Pt
open Go Sv Pl
set_option maxRecDepth 1000000
def sT:tA:=[(165,1,31,.loop { keep:=[0,1,7,8,6],kb:=[0,1,25,21,26],pl:=[.slot 9 zf zJ,.box 2 [.lf zJ,.ow zt (.sl zt T3) zf],.box 3 [.lf zJ]],ex:=[(.exit 0,[(26,0,zn)]),(.ret,[(26,2,zo .ret)])],pay:=.unit }),(165,4,41,.loop { keep:=[0,1,7,15,11,9,13,4,8,16,12,6,10,14],kb:=[0,1,3,25,21,34,26],pl:=[.slot 5 zf zJ,.box 2 [.lf zJ,.ow zt (.sl zt T3) zf]],ex:=[(.exit 2,[(26,0,zn)])],pay:=.unit }),(165,4,42,.loop { keep:=[0,1,7,15,11,9,13,4,8,16,12,6,10,14],kb:=[0,1,35,25,21,26],pl:=[.slot 5 zf zJ,.box 2 [.lf zJ,.ow zt (.sl zt T3) zf],.box 3 [.lf zJ]],ex:=[(.exit 2,[(26,0,zn)]),(.ret,[(26,2,zo .ret)])],pay:=.unit })]
def p9:Sg:=⟨[(zt,T4),zI,(zt,T3)],[(zt,T4),zI],Uo⟩
theorem wW:tQ nv sT 122 p9:=fun _=>by kernel_rfl
def nz:tL:=(122,p9)::nv
theorem oA:tO nz:=Sj ny wW
def qX:Sg:=⟨[(zt,T4),zI],[(zt,ZI),zI],Xy⟩
theorem ww:tQ nz [] 143 qX:=fun _=>by kernel_rfl
def oB:tL:=(143,qX)::nz
theorem oC:tO oB:=Sj oA ww
def sU:tA:=[(123,3,10,.loop { keep:=[0,1,3,19,5,9,21,2,4,8,20,10,22],kb:=[0,1,2],pl:=[.slot 23 zf zJ,.map 4 zJ zt ZI],ex:=[(.exit 0,[])],pay:=.unit }),(123,10,22,.loop { keep:=[0,1,3,23,39,19,35,5,33,13,21,37,2,4,8,32,20,36,10,34,22,38],kb:=[0,1,4],pl:=[.slot 9 zf zJ,.slot 40 zf zJ,.box 2 [.lf zJ,.ow zt (.sl zt T3) zf,.ow zt ZI zf,.lf zJ],.box 16 [.lf zJ,.lf (.sl zt (.sl zt T3)),.ow zt ZI zf,.lf zJ]],ex:=[(.exit 2,[]),(.ret,[])],pay:=.unit })]
def qA:Sg:=⟨[(zt,YM),(zt,T4),zI,zI],[(zt,YM),zI],Ud⟩
theorem wX:tQ oB sU 123 qA:=fun _=>by kernel_rfl
def eJ:tL:=(123,qA)::oB
theorem gz:tO eJ:=Sj oC wX
def uw:Sg:=⟨[(zt,YM),zI],[(zt,YM),zI],WS⟩
theorem e91:tQ eJ [] 91 uw:=fun _=>by kernel_rfl
def eK:tL:=(91,uw)::eJ
theorem g9:tO eK:=Sj gz e91
def uM:Sg:=⟨[(zt,YM),zI],[(zt,YM),(zf,.bool),zI],Un⟩
theorem zZ:tQ eK [] 54 uM:=fun _=>by kernel_rfl
def eL:tL:=(54,uM)::eK
theorem hC:tO eL:=Sj g9 zZ
def tj:Sg:=⟨[(zt,yQ)],[],WY⟩
theorem yy:tQ eL [] 20 tj:=fun _=>by kernel_rfl
def eM:tL:=(20,tj)::eL
theorem hG:tO eM:=Sj hC yy
def yh:tA:=[(52,0,47,.loop { keep:=[0,1],kb:=[0,1,35,41,13,45,2,36,34,46],pl:=[],ex:=[],pay:=.unit }),(52,0,68,.loop { keep:=[0,1],kb:=[0,1,55,67,13,2,56,66,62],pl:=[.box 46 [.lf zJ,.lf (.sl zt (.sl zt T3)),.lf (.sl zt ZI),.lf zJ,.lf zJ],.box 57 [.lf zJ,.lf zJ,.lf zJ,.lf zJ,.lf zJ,.lf zJ,.lf zJ,.lf zJ,.lf zJ,.lf zJ,.lf zJ,.lf zJ,.lf zJ,.lf zJ,.lf zJ]],ex:=[(.ret,[(67,0,zn)]),(.ret,[(67,2,zo (.exit 0))])],pay:=.unit })]
def yG:Sg:=⟨[(zt,YM),zI],[(zt,YM),(zt,vE),zI],Vg⟩
theorem e7:tQ eM yh 7 yG:=fun _=>by kernel_rfl
def eO:tL:=(7,yG)::eM
theorem iA:tO eO:=Sj hG e7
def vG:tA:=[(52,0,47,.loop { keep:=[0,1],kb:=[0,35,41,29,45,12,36,34,46],pl:=[],ex:=[],pay:=.unit }),(52,0,68,.loop { keep:=[0,1],kb:=[0,55,67,56,12,66,62],pl:=[.box 45 [.lf zJ,.lf (.sl zt (.sl zt T3)),.lf (.sl zt ZI),.lf zJ,.lf zJ],.box 50 [.ow zf zJ zf],.box 57 [.lf zJ,.lf zJ,.lf zJ,.lf zJ,.lf zJ,.lf zJ,.lf zJ,.lf zJ,.lf zJ,.lf zJ,.lf zJ,.lf zJ,.lf zJ,.lf zJ,.lf zJ]],ex:=[(.ret,[(67,0,zn)]),(.ret,[(67,2,zo (.exit 0))])],pay:=.unit })]
def tf:Sg:=⟨[(zt,YM),zI],[(zf,(.sl zf zJ)),zI],Y8⟩
theorem yu:tQ eO vG 16 tf:=fun _=>by kernel_rfl
def eP:tL:=(16,tf)::eO
theorem iB:tO eP:=Sj iA yu
def vH:tA:=[(52,0,52,.loop { keep:=[0,1],kb:=[0,1,3,11,51,2,50,46],pl:=[],ex:=[],pay:=.unit }),(52,0,61,.loop { keep:=[0,1],kb:=[0,1,55,11,59,60],pl:=[.box 32 [.lf zJ,.lf (.sl zt (.sl zt T3)),.lf (.sl zt ZI),.lf zJ,.lf zJ],.box 2 [.lf zJ],.box 3 [.lf zJ]],ex:=[(.ret,[(60,0,zn)]),(.ret,[(60,2,zo .ret)])],pay:=.unit })]
def th:Sg:=⟨[(zt,YM),zI],[zI,zI],ZS⟩
theorem yx:tQ eP vH 17 th:=fun _=>by kernel_rfl
def eQ:tL:=(17,th)::eP
theorem iC:tO eQ:=Sj iB yx
def yF:Sg:=⟨[],[(zf,.bool)],WH⟩
theorem e6:tQ eQ [] 6 yF:=fun _=>by kernel_rfl
def eR:tL:=(6,yF)::eQ
theorem iD:tO eR:=Sj iC e6
def yi:tA:=[(8,6,11,.loop { keep:=[0,5,9,13,2,4,8,12,10,14],kb:=[],pl:=[.slot 3 zf zJ,.slot 15 zf zJ,.box 0 [.lf zJ,.lf zJ,.lf zJ,.lf zJ,.lf zJ,.lf zJ,.lf zJ,.lf zJ,.lf zJ,.lf zJ,.lf zJ,.lf zJ,.lf zJ,.lf zJ,.lf zJ],.box 5 [.lf zJ,.lf zJ,.lf zJ,.lf zJ,.lf zJ,.lf zJ,.lf zJ,.lf zJ,.lf zJ,.lf zJ,.lf zJ,.lf zJ,.lf zJ,.lf zJ,.lf zJ]],ex:=[(.exit 0,[]),(.ret,[])],pay:=.unit }),(21,2,34,.loop { keep:=[0,3,18,19],kb:=[0,31,5,20,14],pl:=[.slot 4 zf .bool,.slot 20 zf zJ],ex:=[(.ret,[]),(.exit 0,[])],pay:=.unit }),(21,10,74,.loop { keep:=[0,66],kb:=[0,31,20,14],pl:=[.slot 67 zf zJ,.box 5 [.lf zJ,.lf zJ,.lf zJ,.lf zJ,.lf zJ,.lf zJ,.lf zJ,.lf zJ,.lf zJ,.lf zJ,.lf zJ,.lf zJ,.lf zJ,.lf zJ,.lf zJ]],ex:=[(.exit 2,[])],pay:=.unit,st:=zt })]
def yH:Sg:=⟨[(zf,(.sl zt vE))],[(zt,vE),zI],Xx⟩
theorem e8:tQ eR yi 8 yH:=fun _=>by kernel_rfl
def eU:tL:=(8,yH)::eR
theorem iE:tO eU:=Sj iD e8
def sQ:tA:=[(113,4,7,.loop { keep:=[0,1,7,9,8,6,10],kb:=[],pl:=[.slot 5 zf zJ,.slot 4 zf .bool],ex:=[(.ret,[]),(.exit 0,[])],pay:=.unit })]
def pn:Sg:=⟨[(zf,(.sl zf zJ)),(zf,(.sl zf zJ))],[(zf,.bool)],X2⟩
theorem wN:tQ eU sQ 113 pn:=fun _=>by kernel_rfl
def eV:tL:=(113,pn)::eU
theorem iF:tO eV:=Sj iE wN
def sR:tA:=[(114,4,26,.loop { keep:=[0,1,3,7,15,23,11,19,27,9,17,25,13,21,2,8,16,24,12,20,6,10,18,26,14,22],kb:=[0,1],pl:=[.slot 5 zf zJ,.slot 4 zf .bool],ex:=[(.ret,[]),(.exit 0,[])],pay:=.unit })]
def po:Sg:=⟨[(zt,T7),(zt,T7)],[(zf,.bool)],XI⟩
theorem wO:tQ eV sR 114 po:=fun _=>by kernel_rfl
def eW:tL:=(114,po)::eV
theorem iG:tO eW:=Sj iF wO
def sK:tA:=[(109,3,3,.loop { keep:=[0,1,4],kb:=[],pl:=[.slot 5 zf zJ,.slot 6 zf zJ],ex:=[(.exit 0,[])],pay:=.unit })]
def pZ:Sg:=⟨[(zf,(.sl zf (.sl zt T2))),(zf,(.sl zf zJ))],[zI],WO⟩
theorem wJ:tQ eW sK 109 pZ:=fun _=>by kernel_rfl
def eX:tL:=(109,pZ)::eW
theorem iH:tO eX:=Sj iG wJ
end Go.Proofs.YtiehjicadcamiaaGreat.Pt
