/- The evaluator comes to each of the plain functions. No condition. -/
import Derived.Test.YtfipnhjfbebeiaaGreatDoorPt7
set_option linter.all false
namespace Go.Proofs.YtfipnhjfbebeiaaGreatDoor.Pt
open Go Sv Pl
set_option maxRecDepth 1000000
def vD:Sg:=⟨[(true,Yu)],[zI,zI,zI],WI⟩
theorem e41:tE fJ [] 41 vD:=fun _=>by kernel_rfl
def fK:tL:=(41,vD)::fJ
theorem ib:tO fK:=SY iZ e41
def um:Sg:=⟨[(true,Yu)],[zI,zI],WH⟩
theorem zi:tE fK [] 16 um:=fun _=>by kernel_rfl
def fL:tL:=(16,um)::fK
theorem ic:tO fL:=SY ib zi
def uk:Sg:=⟨[(true,Yu)],[zI,zI],W0⟩
theorem zh:tE fL [] 15 uk:=fun _=>by kernel_rfl
def fM:tL:=(15,uk)::fL
theorem ie:tO fM:=SY ic zh
def rI:Sg:=⟨[(true,Yu),zI],[(true,tZ),zI],VJ⟩
theorem xp:tE fM [] 162 rI:=fun _=>by kernel_rfl
def fN:tL:=(162,rI)::fM
theorem ig:tO fN:=SY ie xp
def rK:Sg:=⟨[(true,tZ)],[(false,.bool)],UL⟩
theorem xu:tE fN [] 164 rK:=fun _=>by kernel_rfl
def fO:tL:=(164,rK)::fN
theorem ii:tO fO:=SY ig xu
def sG:Sg:=⟨[zI,zI],[zI,zI],XS⟩
theorem yc:tE fO [] 196 sG:=fun _=>by kernel_rfl
def fQ:tL:=(196,sG)::fO
theorem ij:tO fQ:=SY ii yc
def rn:Sg:=⟨[(true,tZ)],[(false,.bool)],UY⟩
theorem yN:tE fQ [] 182 rn:=fun _=>by kernel_rfl
def fR:tL:=(182,rn)::fQ
theorem ik:tO fR:=SY ij yN
def sI:Sg:=⟨[(true,T4),zI],[zI],Wt⟩
theorem ye:tE fR [] 198 sI:=fun _=>by kernel_rfl
def fS:tL:=(198,sI)::fR
theorem il:tO fS:=SY ik ye
def sH:Sg:=⟨[(true,T4),zI],[(false,.bool),zI],XR⟩
theorem yd:tE fS [] 197 sH:=fun _=>by kernel_rfl
def fT:tL:=(197,sH)::fS
theorem im:tO fT:=SY il yd
def rp:Sg:=⟨[(true,tZ)],[(false,.bool)],Vc⟩
theorem yO:tE fT [] 183 rp:=fun _=>by kernel_rfl
def fU:tL:=(183,rp)::fT
theorem io:tO fU:=SY im yO
def uC:tA:=[(163,2,11,.loop { keep:=[0,1,7,11,5,9,8,12,6,10],kb:=[0],pl:=[.slot 13 false zJ,.slot 2 false .bool],ex:=[(.ret,[]),(.exit 0,[])],pay:=.unit })]
def rJ:Sg:=⟨[(true,tZ)],[(false,.bool)],Uh⟩
theorem xq:tE fU uC 163 rJ:=fun _=>by kernel_rfl
def fV:tL:=(163,rJ)::fU
theorem ip:tO fV:=SY io xq
def t4:tA:=[(135,8,21,.loop { keep:=[0,1,15,23,11,19,17,13,21,4,16,24,12,20,10,14,22],kb:=[0],pl:=[.slot 3 false zJ,.slot 5 false .bool,.slot 25 false zJ,.slot 2 false zJ],ex:=[(.ret,[]),(.exit 1,[])],pay:=.unit })]
def qw:Sg:=⟨[(true,Yu)],[zI,zI],U7⟩
theorem xS:tE fV t4 135 qw:=fun _=>by kernel_rfl
def fW:tL:=(135,qw)::fV
theorem iq:tO fW:=SY ip xS
theorem yx:MD Tryz.prog (λf => !pu f) 1000 100 184=true:=by kernel_rfl
theorem yP (a:Ty.den Z5) (l:List (Ty.den Z5)):OU Tryz.prog (Ae pu fW) (RM []) 3000 60 184 [(false,(.sl true Z5))] [(false,(.sl true Z5))] (a::l)=UX (a::l):=by kernel_rfl
def fX:tL:=(184,⟨[(false,(.sl true Z5))],[(false,(.sl true Z5))],UX⟩)::fW
theorem ir:tO fX:=SZ (gg:=true) (c:=Z5) iq yx rfl yP
theorem y8:Ox Tryz.prog (λf => !pu f) 1000 100 184=true:=by kernel_rfl
theorem zD (a:Ty.den Z5) (l:List (Ty.den Z5)):P2 Tryz.prog (Ae pu fX) (RM []) 3000 60 184 [(false,(.sl true Z5))] true Z5 (a::l)=UX (a::l):=by kernel_rfl
def fY:tL:=(184+Cs,⟨[(false,(.sl true Z5))],[(false,(.sl true Z5))],UX⟩)::fX
theorem iu:tO fY:=Sa (gg:=true) (c:=Z5) ir y8 rfl (λa l y h=>R8 h) zD
end Go.Proofs.YtfipnhjfbebeiaaGreatDoor.Pt
