/- The evaluator comes to each of the plain functions. No condition. -/
import Derived.Test.YtfipnhjfbebeiabGreatDoorPt7
set_option linter.all false
namespace Go.Proofs.YtfipnhjfbebeiabGreatDoor.Pt
open Go Sv Pl
set_option maxRecDepth 1000000
def v8:Sg:=⟨[(true,Ye)],[zI,zI,zI],WH⟩
theorem e78:tE fT [] 78 v8:=fun _=>by kernel_rfl
def fU:tL:=(78,v8)::fT
theorem io:tO fU:=SY im e78
def vI:Sg:=⟨[(true,Ye)],[zI,zI],W1⟩
theorem z8:tE fU [] 34 vI:=fun _=>by kernel_rfl
def fV:tL:=(34,vI)::fU
theorem ip:tO fV:=SY io z8
def vJ:Sg:=⟨[(true,Ye)],[zI,zI],Xi⟩
theorem z9:tE fV [] 35 vJ:=fun _=>by kernel_rfl
def fW:tL:=(35,vJ)::fV
theorem iq:tO fW:=SY ip z9
def vU:Sg:=⟨[(true,Ye),zI],[(true,tv),zI],VK⟩
theorem e43:tE fW [] 43 vU:=fun _=>by kernel_rfl
def fX:tL:=(43,vU)::fW
theorem ir:tO fX:=SY iq e43
def vW:Sg:=⟨[(true,tv)],[(false,.bool)],UL⟩
theorem e45:tE fX [] 45 vW:=fun _=>by kernel_rfl
def fY:tL:=(45,vW)::fX
theorem iu:tO fY:=SY ir e45
def rE:Sg:=⟨[zI,zI],[zI,zI],XS⟩
theorem xf:tE fY [] 147 rE:=fun _=>by kernel_rfl
def fZ:tL:=(147,rE)::fY
theorem iv:tO fZ:=SY iu xf
def wI:Sg:=⟨[(true,tv)],[(false,.bool)],UZ⟩
theorem e94:tE fZ [] 94 wI:=fun _=>by kernel_rfl
def fa:tL:=(94,wI)::fZ
theorem iw:tO fa:=SY iv e94
def rG:Sg:=⟨[(true,T4),zI],[zI],Wu⟩
theorem xh:tE fa [] 149 rG:=fun _=>by kernel_rfl
def fb:tL:=(149,rG)::fa
theorem iy:tO fb:=SY iw xh
def rF:Sg:=⟨[(true,T4),zI],[(false,.bool),zI],XR⟩
theorem xg:tE fb [] 148 rF:=fun _=>by kernel_rfl
def fc:tL:=(148,rF)::fb
theorem i0:tO fc:=SY iy xg
def wJ:Sg:=⟨[(true,tv)],[(false,.bool)],Vd⟩
theorem e95:tE fc [] 95 wJ:=fun _=>by kernel_rfl
def fe:tL:=(95,wJ)::fc
theorem i4:tO fe:=SY i0 e95
def wo:tA:=[(44,2,11,.loop { keep:=[0,1,7,11,5,9,8,12,6,10],kb:=[0],pl:=[.slot 13 false zJ,.slot 2 false .bool],ex:=[(.ret,[]),(.exit 0,[])],pay:=.unit })]
def vV:Sg:=⟨[(true,tv)],[(false,.bool)],Uh⟩
theorem e44:tE fe wo 44 vV:=fun _=>by kernel_rfl
def ff:tL:=(44,vV)::fe
theorem i5:tO ff:=SY i4 e44
def wW:tA:=[(11,8,21,.loop { keep:=[0,1,15,23,11,19,17,13,21,4,16,24,12,20,10,14,22],kb:=[0],pl:=[.slot 3 false zJ,.slot 5 false .bool,.slot 25 false zJ,.slot 2 false zJ],ex:=[(.ret,[]),(.exit 1,[])],pay:=.unit })]
def ux:Sg:=⟨[(true,Ye)],[zI,zI],Uz⟩
theorem zj:tE ff wW 11 ux:=fun _=>by kernel_rfl
def fh:tL:=(11,ux)::ff
theorem i6:tO fh:=SY i5 zj
theorem m96:MD Tryz.prog (λf => !pu f) 1000 100 96=true:=by kernel_rfl
theorem e96 (a:Ty.den Z7) (l:List (Ty.den Z7)):OU Tryz.prog (Ae pu fh) (RM []) 3000 60 96 [(false,(.sl true Z7))] [(false,(.sl true Z7))] (a::l)=UY (a::l):=by kernel_rfl
def fi:tL:=(96,⟨[(false,(.sl true Z7))],[(false,(.sl true Z7))],UY⟩)::fh
theorem i7:tO fi:=SZ (gg:=true) (c:=Z7) i6 m96 rfl e96
theorem n96:Ox Tryz.prog (λf => !pu f) 1000 100 96=true:=by kernel_rfl
theorem r96 (a:Ty.den Z7) (l:List (Ty.den Z7)):P2 Tryz.prog (Ae pu fi) (RM []) 3000 60 96 [(false,(.sl true Z7))] true Z7 (a::l)=UY (a::l):=by kernel_rfl
def fj:tL:=(96+Cs,⟨[(false,(.sl true Z7))],[(false,(.sl true Z7))],UY⟩)::fi
theorem i8:tO fj:=Sa (gg:=true) (c:=Z7) i7 n96 rfl (λa l y h=>R8 h) r96
end Go.Proofs.YtfipnhjfbebeiabGreatDoor.Pt
