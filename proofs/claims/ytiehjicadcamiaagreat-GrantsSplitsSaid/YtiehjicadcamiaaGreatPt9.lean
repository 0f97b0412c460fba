/- The evaluator comes to each of the plain functions. No condition. -/
import Derived.Test.YtiehjicadcamiaaGreatPt8
set_option linter.all false
open Bool renaming true->zt, false->zf
namespace Go.Proofs.YtiehjicadcamiaaGreat.Pt
open Go Sv Pl
set_option maxRecDepth 1000000
def uE:Sg:=⟨[(zt,da),(zt,da)],[(zf,.bool)],Um⟩
theorem zO:tQ fE [] 42 uE:=fun _=>by kernel_rfl
def fF:tL:=(42,uE)::fE
theorem iX:tO fF:=Sj iW zO
def vI:tA:=[(22,10,42,.loop { keep:=[0,1,7,31,23,39,19,35,27,43,5,17,33,49,25,41,21,37,29,45,4,16,32,48,24,40,20,36,28,44,6,18,34,50,26,42,22,38,30,46],kb:=[0],pl:=[.slot 3 zf zJ,.slot 2 zf zJ,.slot 8 zf zJ],ex:=[(.ret,[]),(.exit 0,[])],pay:=.unit })]
def tn:Sg:=⟨[(zt,YM)],[zI,zI],Ve⟩
theorem yz:tQ fF vI 22 tn:=fun _=>by kernel_rfl
def fG:tL:=(22,tn)::fF
theorem iY:tO fG:=Sj iX yz
def uF:Sg:=⟨[(zt,YM)],[(zf,(.sl zf zJ)),zI],WE⟩
theorem zQ:tQ fG [] 43 uF:=fun _=>by kernel_rfl
def fH:tL:=(43,uF)::fG
theorem iZ:tO fH:=Sj iY zQ
def vw:tA:=[(78,5,13,.loop { keep:=[0,1,7,15,11,9,13,2,12,6,10,14],kb:=[0],pl:=[.slot 5 zf zJ,.slot 4 zf zJ,.slot 8 zf zJ],ex:=[(.ret,[]),(.exit 0,[])],pay:=.unit })]
def uj:Sg:=⟨[(zt,YM),zI],[zI,zI],U6⟩
theorem e78:tQ fH vw 78 uj:=fun _=>by kernel_rfl
def fI:tL:=(78,uj)::fH
theorem ib:tO fI:=Sj iZ e78
def uH:Sg:=⟨[(zt,YM),zI],[zI,zI],Vb⟩
theorem zT:tQ fI [] 45 uH:=fun _=>by kernel_rfl
def fJ:tL:=(45,uH)::fI
theorem ic:tO fJ:=Sj ib zT
def pq:Sg:=⟨[zI,zI],[zI,zI],X9⟩
theorem wP:tQ fJ [] 115 pq:=fun _=>by kernel_rfl
def fK:tL:=(115,pq)::fJ
theorem ie:tO fK:=Sj ic wP
def uk:Sg:=⟨[(zt,YM),(zt,ZI)],[(zf,.bool)],WQ⟩
theorem e79:tQ fK [] 79 uk:=fun _=>by kernel_rfl
def fL:tL:=(79,uk)::fK
theorem ig:tO fL:=Sj ie e79
def um:Sg:=⟨[(zt,YM),zI],[(zf,.bool)],YA⟩
theorem e80:tQ fL [] 80 um:=fun _=>by kernel_rfl
def fM:tL:=(80,um)::fL
theorem ii:tO fM:=Sj ig e80
def uG:Sg:=⟨[(zt,YM),zI],[(zf,.bool),zI],Wa⟩
theorem zR:tQ fM [] 44 uG:=fun _=>by kernel_rfl
def fN:tL:=(44,uG)::fM
theorem ij:tO fN:=Sj ii zR
def vJ:tA:=[(23,7,16,.loop { keep:=[0,1,15,11,19,5,9,17,13,4,12,10,18,14],kb:=[0],pl:=[.slot 3 zf zJ,.slot 2 zf zJ,.slot 6 zf zJ],ex:=[(.ret,[]),(.exit 0,[])],pay:=.unit })]
def tp:Sg:=⟨[(zt,YM)],[zI,zI],VI⟩
theorem y0:tQ fN vJ 23 tp:=fun _=>by kernel_rfl
def fO:tL:=(23,tp)::fN
theorem ik:tO fO:=Sj ij y0
def uI:Sg:=⟨[(zt,YM),zI,zI],[(zt,YM),zI,zI],XM⟩
theorem zV:tQ fO [] 46 uI:=fun _=>by kernel_rfl
def fQ:tL:=(46,uI)::fO
theorem il:tO fQ:=Sj ik zV
def un:Sg:=⟨[(zt,YM),zI],[zI,zI],XN⟩
theorem e81:tQ fQ [] 81 un:=fun _=>by kernel_rfl
def fR:tL:=(81,un)::fQ
theorem im:tO fR:=Sj il e81
def vz:tA:=[(82,3,8,.loop { keep:=[0,1,3,7,11,2,12,6,10],kb:=[0,1],pl:=[.slot 8 zf zJ,.box 5 [.lf zJ,.ow zt (.sl zt T3) zf]],ex:=[(.exit 0,[])],pay:=.unit }),(82,9,9,.loop { keep:=[0,1,3,7,11,2,8,12,6,10],kb:=[0,1],pl:=[.box 5 [.lf zJ,.lf (.sl zt (.sl zt T3))]],ex:=[(.exit 2,[])],pay:=.unit,rel:=[(5,1)] })]
def uo:Sg:=⟨[(zt,T4),zI,(zf,(.sl zt T3))],[(zt,T4)],Va⟩
theorem e82:tQ fR vz 82 uo:=fun _=>by kernel_rfl
def fS:tL:=(82,uo)::fR
theorem io:tO fS:=Sj im e82
theorem zs(x:AO [(zt,T4),zI]):P6 Tryz.prog (Ae pu fS) (RU []) 3000 60 68 [(zt,T4),zI] zt T3 x=V8 x:=by kernel_rfl
def fT:tL:=(4194372,⟨[(zt,T4),zI],[(zf,(.sl zt T3))],V8⟩)::fS
theorem ip:tO fT:=S2 (f:=68) io zs
end Go.Proofs.YtiehjicadcamiaaGreat.Pt
