/- The evaluator comes to each of the plain functions. No condition. -/
import Derived.Test.YtiehjicadcamiaaGreatPt1
set_option linter.all false
open Bool renaming true->zt, false->zf
namespace Go.Proofs.YtiehjicadcamiaaGreat.Pt
open Go Sv Pl
set_option maxRecDepth 1000000
def te:Sg:=⟨[],[(zt,YM)],Ww⟩
theorem yq:tQ kZ [] 15 te:=fun _=>by kernel_rfl
def kc:tL:=(15,te)::kZ
theorem ke:tO kc:=Sj ka yq
def qy:Sg:=⟨[(zf,.str)],[zI],XD⟩
theorem xS:tQ kc [] 178 qy:=fun _=>by kernel_rfl
def kg:tL:=(178,qy)::kc
theorem kh:tO kg:=Sj ke xS
def qn:Sg:=⟨[(zt,T2)],[zI],VV⟩
theorem xH:tQ kg [] 166 qn:=fun _=>by kernel_rfl
def ki:tL:=(166,qn)::kg
theorem kj:tO ki:=Sj kh xH
def sf:tA:=[(144,4,8,.loop { keep:=[0,7,11,9,8,10],kb:=[],pl:=[.slot 3 zf zJ,.slot 2 zf zJ,.slot 12 zf zJ],ex:=[(.ret,[]),(.exit 0,[])],pay:=.unit })]
def qY:Sg:=⟨[(zf,(.sl zt T2))],[zI,zI],Ut⟩
theorem wx:tQ ki sf 144 qY:=fun _=>by kernel_rfl
def kl:tL:=(144,qY)::ki
theorem km:tO kl:=Sj kj wx
def qB:Sg:=⟨[(zt,T3)],[zI,zI],YB⟩
theorem wY:tQ kl [] 124 qB:=fun _=>by kernel_rfl
def ko:tL:=(124,qB)::kl
theorem kq:tO ko:=Sj km wY
def ux:Sg:=⟨[(zt,T3),zI],[zI],Vt⟩
theorem e92:tQ ko [] 92 ux:=fun _=>by kernel_rfl
def kr:tL:=(92,ux)::ko
theorem ks:tO kr:=Sj kq e92
def vY:tA:=[(55,8,26,.loop { keep:=[0,1,15,23,11,19,27,5,17,25,13,21,29,16,24,12,20,28,18,26,14,22],kb:=[0],pl:=[.slot 3 zf zJ,.slot 2 zf zJ,.slot 4 zf zJ,.slot 30 zf zJ,.map 18 zJ zf .bool],ex:=[(.exit 1,[])],pay:=.unit }),(55,14,44,.loop { keep:=[0,1,7,15,31,23,39,11,19,35,27,5,17,33,25,41,13,21,37,29,2,16,32,24,40,12,20,36,28,6,18,34,26,42,14,22,38,30],kb:=[0,30],pl:=[.slot 3 zf zJ,.slot 43 zf zJ,.slot 4 zf zJ,.map 18 zJ zf .bool],ex:=[(.exit 1,[]),(.exit 3,[])],pay:=.unit })]
def uN:Sg:=⟨[(zt,T4)],[zI,zI,zI],V0⟩
theorem za:tQ kr vY 55 uN:=fun _=>by kernel_rfl
def ku:tL:=(55,uN)::kr
theorem kw:tO ku:=Sj ks za
def vZ:tA:=[(56,2,6,.loop { keep:=[0,1,7,9,8],kb:=[0],pl:=[.slot 2 zf zJ,.slot 10 zf zJ],ex:=[(.exit 0,[])],pay:=.unit }),(56,5,15,.loop { keep:=[0,1,7,15,11,9,13,4,8,16,12,10,14],kb:=[0,9],pl:=[.slot 17 zf zJ,.slot 2 zf zJ],ex:=[(.exit 2,[])],pay:=.unit })]
def uO:Sg:=⟨[(zt,T4)],[zI],Wv⟩
theorem zd:tQ ku vZ 56 uO:=fun _=>by kernel_rfl
def ky:tL:=(56,uO)::ku
theorem kz:tO ky:=Sj kw zd
def uQ:Sg:=⟨[(zt,T4),zI],[(zf,.bool)],Vs⟩
theorem ze:tQ ky [] 59 uQ:=fun _=>by kernel_rfl
def lA:tL:=(59,uQ)::ky
theorem lB:tO lA:=Sj kz ze
def si:tA:=[(145,6,13,.loop { keep:=[0,15,11,9,17,13,8,16,12,10,14],kb:=[],pl:=[.slot 3 zf zJ,.slot 2 zf zJ,.slot 18 zf zJ],ex:=[(.ret,[]),(.exit 1,[])],pay:=.unit })]
def qZ:Sg:=⟨[(zf,(.sl zf (.sl zt T2)))],[zI,zI],WL⟩
theorem wy:tQ lA si 145 qZ:=fun _=>by kernel_rfl
def lC:tL:=(145,qZ)::lA
theorem lD:tO lC:=Sj lB wy
def qC:Sg:=⟨[(zf,.bool)],[(zt,oJ)],Vi⟩
theorem wZ:tQ lC [] 126 qC:=fun _=>by kernel_rfl
def lE:tL:=(126,qC)::lC
theorem lF:tO lE:=Sj lD wZ
theorem xf:MG Tryz.prog (λf=> !pu f) 1000 100 146=zt:=by kernel_rfl
theorem wz(a:Ty.den (.sl zt T2))(l:List (Ty.den (.sl zt T2))):OZ Tryz.prog (Ae pu lE) (RU []) 3000 60 146 [(zf,(.sl zf (.sl zt T2)))] [(zf,(.sl zf (.sl zt T2)))] (a::l)=UP (a::l):=by kernel_rfl
def lG:tL:=(146,⟨[(zf,(.sl zf (.sl zt T2)))],[(zf,(.sl zf (.sl zt T2)))],UP⟩)::lE
theorem lH:tO lG:=Sk (gg:=false) (c:=(.sl zt T2)) lF xf rfl wz
theorem xj:O2 Tryz.prog (λf=> !pu f) 1000 100 146=zt:=by kernel_rfl
theorem x0(a:Ty.den (.sl zt T2))(l:List (Ty.den (.sl zt T2))):QA Tryz.prog (Ae pu lG) (RU []) 3000 60 146 [(zf,(.sl zf (.sl zt T2)))] zf (.sl zt T2) (a::l)=UP (a::l):=by kernel_rfl
def lI:tL:=(146+Ct,⟨[(zf,(.sl zf (.sl zt T2)))],[(zf,(.sl zf (.sl zt T2)))],UP⟩)::lG
theorem lJ:tO lI:=Sl (gg:=false) (c:=(.sl zt T2)) lH xj rfl (λa l y h=>SN h) x0
def qo:Sg:=⟨[(zf,(.sl zt T2)),zI],[(zt,T5)],Uh⟩
theorem xI:tQ lI [] 167 qo:=fun _=>by kernel_rfl
def lK:tL:=(167,qo)::lI
theorem lL:tO lK:=Sj lJ xI
end Go.Proofs.YtiehjicadcamiaaGreat.Pt
