/- The evaluator comes to each of the plain functions. No condition. -/
import Derived.Test.YtiehjicadcamiaaGreatPt8
set_option linter.all false
open Bool renaming true->zt, false->zf
namespace Go.Proofs.YtiehjicadcamiaaGreat.Pt
open Go Sv Pl
set_option maxRecDepth 1000000
def u7:Sg:=⟨[(zt,eC),(zt,eC)],[(zf,.bool)],Us⟩
theorem e42:tQ fo [] 42 u7:=fun _=>by kernel_rfl
def fq:tL:=(42,u7)::fo
theorem jF:tO fq:=Sj jE e42
def wP:tA:=[(22,10,42,.loop { keep:=[0,1,7,31,23,39,19,35,27,43,5,17,33,49,25,41,21,37,29,45,4,16,32,48,24,40,20,36,28,44,6,18,34,50,26,42,22,38,30,46],kb:=[0],pl:=[.slot 3 zf zJ,.slot 2 zf zJ,.slot 8 zf zJ],ex:=[(.ret,[]),(.exit 0,[])],pay:=.unit })]
def ui:Sg:=⟨[(zt,Xx)],[zI,zI],VN⟩
theorem e22:tQ fq wP 22 ui:=fun _=>by kernel_rfl
def ft:tL:=(22,ui)::fq
theorem jG:tO ft:=Sj jF e22
def uo:Sg:=⟨[(zt,Xx),zI],[zI],Vz⟩
theorem e27:tQ ft [] 27 uo:=fun _=>by kernel_rfl
def fu:tL:=(27,uo)::ft
theorem jH:tO fu:=Sj jG e27
def u9:Sg:=⟨[(zt,Xx)],[(zf,(.sl zf zJ)),zI],WI⟩
theorem e43:tQ fu [] 43 u9:=fun _=>by kernel_rfl
def fw:tL:=(43,u9)::fu
theorem jI:tO fw:=Sj jH e43
def wx:tA:=[(78,5,13,.loop { keep:=[0,1,7,15,11,9,13,2,12,6,10,14],kb:=[0],pl:=[.slot 5 zf zJ,.slot 4 zf zJ,.slot 8 zf zJ],ex:=[(.ret,[]),(.exit 0,[])],pay:=.unit })]
def vk:Sg:=⟨[(zt,Xx),zI],[zI,zI],U8⟩
theorem e78:tQ fw wx 78 vk:=fun _=>by kernel_rfl
def fx:tL:=(78,vk)::fw
theorem jJ:tO fx:=Sj jI e78
def vB:Sg:=⟨[(zt,Xx),zI],[zI,zI],Vf⟩
theorem e45:tQ fx [] 45 vB:=fun _=>by kernel_rfl
def fy:tL:=(45,vB)::fx
theorem jK:tO fy:=Sj jJ e45
def qo:Sg:=⟨[zI,zI],[zI,zI],YF⟩
theorem xO:tQ fy [] 115 qo:=fun _=>by kernel_rfl
def f6:tL:=(115,qo)::fy
theorem jL:tO f6:=Sj jK xO
def vn:Sg:=⟨[(zt,Xx),(zt,Yh)],[(zf,.bool)],WU⟩
theorem e79:tQ f6 [] 79 vn:=fun _=>by kernel_rfl
def f7:tL:=(79,vn)::f6
theorem jM:tO f7:=Sj jL e79
def vo:Sg:=⟨[(zt,Xx),zI],[(zf,.bool)],YG⟩
theorem e80:tQ f7 [] 80 vo:=fun _=>by kernel_rfl
def f8:tL:=(80,vo)::f7
theorem jN:tO f8:=Sj jM e80
def vA:Sg:=⟨[(zt,Xx),zI],[(zf,.bool),zI],Wd⟩
theorem e44:tQ f8 [] 44 vA:=fun _=>by kernel_rfl
def f9:tL:=(44,vA)::f8
theorem jO:tO f9:=Sj jN e44
def wQ:tA:=[(23,7,16,.loop { keep:=[0,1,15,11,19,5,9,17,13,4,12,10,18,14],kb:=[0],pl:=[.slot 3 zf zJ,.slot 2 zf zJ,.slot 6 zf zJ],ex:=[(.ret,[]),(.exit 0,[])],pay:=.unit })]
def uj:Sg:=⟨[(zt,Xx)],[zI,zI],XS⟩
theorem e23:tQ f9 wQ 23 uj:=fun _=>by kernel_rfl
def gA:tL:=(23,uj)::f9
theorem jP:tO gA:=Sj jO e23
def vC:Sg:=⟨[(zt,Xx),zI,zI],[(zt,Xx),zI,zI],XR⟩
theorem e46:tQ gA [] 46 vC:=fun _=>by kernel_rfl
def gB:tL:=(46,vC)::gA
theorem jQ:tO gB:=Sj jP e46
def vp:Sg:=⟨[(zt,Xx),zI],[zI,zI],XT⟩
theorem e81:tQ gB [] 81 vp:=fun _=>by kernel_rfl
def gC:tL:=(81,vp)::gB
theorem jR:tO gC:=Sj jQ e81
def wy:tA:=[(82,3,8,.loop { keep:=[0,1,3,7,11,2,12,6,10],kb:=[0,1],pl:=[.slot 8 zf zJ,.box 5 [.lf zJ,.ow zt (.sl zt T3) zf]],ex:=[(.exit 0,[])],pay:=.unit }),(82,9,9,.loop { keep:=[0,1,3,7,11,2,8,12,6,10],kb:=[0,1],pl:=[.box 5 [.lf zJ,.lf (.sl zt (.sl zt T3))]],ex:=[(.exit 2,[])],pay:=.unit,rel:=[(5,1)] })]
def vq:Sg:=⟨[(zt,T4),zI,(zf,(.sl zt T3))],[(zt,T4)],Ve⟩
theorem e82:tQ gC wy 82 vq:=fun _=>by kernel_rfl
def gD:tL:=(82,vq)::gC
theorem jS:tO gD:=Sj jR e82
end Go.Proofs.YtiehjicadcamiaaGreat.Pt
