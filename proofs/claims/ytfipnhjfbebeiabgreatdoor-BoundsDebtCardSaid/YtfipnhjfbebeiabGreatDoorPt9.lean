/- The evaluator comes to each of the plain functions. No condition. -/
import Derived.Test.YtfipnhjfbebeiabGreatDoorPt8
set_option linter.all false
namespace Go.Proofs.YtfipnhjfbebeiabGreatDoor.Pt
open Go Sv Pl
set_option maxRecDepth 1000000
def wa:tA:=[(18,4,12,.loop { keep:=[0,1,3,11,5,13,2,4,12,10,14],kb:=[0],pl:=[.slot 7 false zJ,.slot 6 false zJ],ex:=[(.exit 0,[])],pay:=.unit })]
def u5:Sg:=⟨[(true,Zk)],[zI,zI],YE⟩
theorem zx:tE fS wa 18 u5:=fun _=>by kernel_rfl
def fT:tL:=(18,u5)::fS
theorem i4:tO fT:=SY i0 zx
def vR:Sg:=⟨[(true,Zk),zI],[(true,tj),zI],VK⟩
theorem e43:tE fT [] 43 vR:=fun _=>by kernel_rfl
def fU:tL:=(43,vR)::fT
theorem i5:tO fU:=SY i4 e43
def vT:Sg:=⟨[(true,tj)],[(false,.bool)],UK⟩
theorem e45:tE fU [] 45 vT:=fun _=>by kernel_rfl
def fV:tL:=(45,vT)::fU
theorem i6:tO fV:=SY i5 e45
def rH:Sg:=⟨[zI,zI],[zI,zI],XT⟩
theorem xp:tE fV [] 147 rH:=fun _=>by kernel_rfl
def fW:tL:=(147,rH)::fV
theorem i7:tO fW:=SY i6 xp
def wJ:Sg:=⟨[(true,tj)],[(false,.bool)],UX⟩
theorem e94:tE fW [] 94 wJ:=fun _=>by kernel_rfl
def fX:tL:=(94,wJ)::fW
theorem i8:tO fX:=SY i7 e94
def rJ:Sg:=⟨[(true,T4),zI],[zI],Wv⟩
theorem xu:tE fX [] 149 rJ:=fun _=>by kernel_rfl
def fY:tL:=(149,rJ)::fX
theorem i9:tO fY:=SY i8 xu
def rI:Sg:=⟨[(true,T4),zI],[(false,.bool),zI],XS⟩
theorem xq:tE fY [] 148 rI:=fun _=>by kernel_rfl
def fZ:tL:=(148,rI)::fY
theorem jA:tO fZ:=SY i9 xq
def wK:Sg:=⟨[(true,tj)],[(false,.bool)],Vh⟩
theorem e95:tE fZ [] 95 wK:=fun _=>by kernel_rfl
def fa:tL:=(95,wK)::fZ
theorem jB:tO fa:=SY jA e95
def wq:tA:=[(44,2,11,.loop { keep:=[0,1,7,11,5,9,8,12,6,10],kb:=[0],pl:=[.slot 13 false zJ,.slot 2 false .bool],ex:=[(.ret,[]),(.exit 0,[])],pay:=.unit })]
def vS:Sg:=⟨[(true,tj)],[(false,.bool)],Ug⟩
theorem e44:tE fa wq 44 vS:=fun _=>by kernel_rfl
def fb:tL:=(44,vS)::fa
theorem jC:tO fb:=SY jB e44
def wW:tA:=[(11,8,21,.loop { keep:=[0,1,15,23,11,19,17,13,21,4,16,24,12,20,10,14,22],kb:=[0],pl:=[.slot 3 false zJ,.slot 5 false .bool,.slot 25 false zJ,.slot 2 false zJ],ex:=[(.ret,[]),(.exit 1,[])],pay:=.unit })]
def uv:Sg:=⟨[(true,Zk)],[zI,zI],VA⟩
theorem zo:tE fb wW 11 uv:=fun _=>by kernel_rfl
def fc:tL:=(11,uv)::fb
theorem jD:tO fc:=SY jC zo
theorem m96:MD Tryz.prog (λf => !pu f) 1000 100 96=true:=by kernel_rfl
theorem e96 (a:Ty.den aL) (l:List (Ty.den aL)):OU Tryz.prog (Ae pu fc) (RM []) 3000 60 96 [(false,(.sl true aL))] [(false,(.sl true aL))] (a::l)=UW (a::l):=by kernel_rfl
def fe:tL:=(96,⟨[(false,(.sl true aL))],[(false,(.sl true aL))],UW⟩)::fc
theorem jE:tO fe:=SZ (gg:=true) (c:=aL) jD m96 rfl e96
theorem n96:Ox Tryz.prog (λf => !pu f) 1000 100 96=true:=by kernel_rfl
theorem r96 (a:Ty.den aL) (l:List (Ty.den aL)):P2 Tryz.prog (Ae pu fe) (RM []) 3000 60 96 [(false,(.sl true aL))] true aL (a::l)=UW (a::l):=by kernel_rfl
def ff:tL:=(96+Cs,⟨[(false,(.sl true aL))],[(false,(.sl true aL))],UW⟩)::fe
theorem jF:tO ff:=Sa (gg:=true) (c:=aL) jE n96 rfl (λa l y h=>R8 h) r96
def vU:Sg:=⟨[(true,Zk),zI,zI],[(true,Zk),zI,zI],YA⟩
theorem e46:tE ff [] 46 vU:=fun _=>by kernel_rfl
def fh:tL:=(46,vU)::ff
theorem jG:tO fh:=SY jF e46
def uD:tA:=[(151,5,30,.loop { keep:=[0,1,3,7,15,31,23,11,19,27,9,17,25,13,21,29,2,16,32,24,12,20,28,6,10,18,26,14,22,30],kb:=[0,1,12,10],pl:=[.slot 8 false zJ],ex:=[(.exit 0,[])],pay:=.unit })]
def rK:Sg:=⟨[(true,T4),zI,(false,(.sl true T3))],[(true,T4)],V6⟩
theorem xy:tE fh uD 151 rK:=fun _=>by kernel_rfl
def fi:tL:=(151,rK)::fh
theorem jH:tO fi:=SY jG xy
end Go.Proofs.YtfipnhjfbebeiabGreatDoor.Pt
