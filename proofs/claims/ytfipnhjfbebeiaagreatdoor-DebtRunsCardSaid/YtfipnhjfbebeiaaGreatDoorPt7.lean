/- The evaluator comes to each of the plain functions. No condition. -/
import Derived.Test.YtfipnhjfbebeiaaGreatDoorPt6
set_option linter.all false
namespace Go.Proofs.YtfipnhjfbebeiaaGreatDoor.Pt
open Go Sv Pl
set_option maxRecDepth 1000000
def tI:Sg:=⟨[zI,zI],[zI,zI],XW⟩
theorem zj:tE pP [] 196 tI:=fun _=>by kernel_rfl
def pR:tL:=(196,tI)::pP
theorem pT:tO pR:=SY pQ zj
def sq:Sg:=⟨[(true,uN)],[(false,.bool)],UW⟩
theorem zV:tE pR [] 182 sq:=fun _=>by kernel_rfl
def pU:tL:=(182,sq)::pR
theorem pV:tO pU:=SY pT zV
def tK:Sg:=⟨[(true,T4),zI],[zI],Wv⟩
theorem zl:tE pU [] 198 tK:=fun _=>by kernel_rfl
def eW:tL:=(198,tK)::pU
theorem ie:tO eW:=SY pV zl
def tJ:Sg:=⟨[(true,T4),zI],[(false,.bool),zI],XV⟩
theorem zk:tE eW [] 197 tJ:=fun _=>by kernel_rfl
def eX:tL:=(197,tJ)::eW
theorem ig:tO eX:=SY ie zk
def ss:Sg:=⟨[(true,uN)],[(false,.bool)],VZ⟩
theorem zW:tE eX [] 183 ss:=fun _=>by kernel_rfl
def eY:tL:=(183,ss)::eX
theorem ii:tO eY:=SY ig zW
def uk:tA:=[(163,2,11,.loop { keep:=[0,1,7,11,5,9,8,12,6,10],kb:=[0],pl:=[.slot 13 false zJ,.slot 2 false .bool],ex:=[(.ret,[]),(.exit 0,[])],pay:=.unit })]
def sN:Sg:=⟨[(true,uN)],[(false,.bool)],Ug⟩
theorem y0:tE eY uk 163 sN:=fun _=>by kernel_rfl
def eZ:tL:=(163,sN)::eY
theorem ij:tO eZ:=SY ii y0
def ue:tA:=[(135,8,21,.loop { keep:=[0,1,15,23,11,19,17,13,21,4,16,24,12,20,10,14,22],kb:=[0],pl:=[.slot 3 false zJ,.slot 5 false .bool,.slot 25 false zJ,.slot 2 false zJ],ex:=[(.ret,[]),(.exit 1,[])],pay:=.unit })]
def rp:Sg:=⟨[(true,XL)],[zI,zI],U9⟩
theorem yX:tE eZ ue 135 rp:=fun _=>by kernel_rfl
def ec:tL:=(135,rp)::eZ
theorem ik:tO ec:=SY ij yX
theorem zx:MD Tryz.prog (λf => !pu f) 1000 100 184=true:=by kernel_rfl
theorem zX (a:Ty.den ZL) (l:List (Ty.den ZL)):OU Tryz.prog (Ae pu ec) (RM []) 3000 60 184 [(false,(.sl true ZL))] [(false,(.sl true ZL))] (a::l)=UV (a::l):=by kernel_rfl
def eh:tL:=(184,⟨[(false,(.sl true ZL))],[(false,(.sl true ZL))],UV⟩)::ec
theorem il:tO eh:=SZ (gg:=true) (c:=ZL) ik zx rfl zX
theorem z9:Ox Tryz.prog (λf => !pu f) 1000 100 184=true:=by kernel_rfl
theorem AAD (a:Ty.den ZL) (l:List (Ty.den ZL)):P2 Tryz.prog (Ae pu eh) (RM []) 3000 60 184 [(false,(.sl true ZL))] true ZL (a::l)=UV (a::l):=by kernel_rfl
def ei:tL:=(184+Cs,⟨[(false,(.sl true ZL))],[(false,(.sl true ZL))],UV⟩)::eh
theorem im:tO ei:=Sa (gg:=true) (c:=ZL) il z9 rfl (λa l y h=>R8 h) AAD
def sQ:Sg:=⟨[(true,XL),zI,zI],[(true,XL),zI,zI],YH⟩
theorem y9:tE ei [] 165 sQ:=fun _=>by kernel_rfl
def ej:tL:=(165,sQ)::ei
theorem io:tO ej:=SY im y9
def uw:tA:=[(200,5,30,.loop { keep:=[0,1,3,7,15,31,23,11,19,27,9,17,25,13,21,29,2,16,32,24,12,20,28,6,10,18,26,14,22,30],kb:=[0,1,12,10],pl:=[.slot 8 false zJ],ex:=[(.exit 0,[])],pay:=.unit })]
def tM:Sg:=⟨[(true,T4),zI,(false,(.sl true T3))],[(true,T4)],V3⟩
theorem zm:tE ej uw 200 tM:=fun _=>by kernel_rfl
def eu:tL:=(200,tM)::ej
theorem ip:tO eu:=SY io zm
def su:Sg:=⟨[(true,T4),zI],[(true,T4),(false,(.sl true T3)),zI],Vo⟩
theorem zY:tE eu [] 185 su:=fun _=>by kernel_rfl
def ew:tL:=(185,su)::eu
theorem iq:tO ew:=SY ip zY
def uq:tA:=[(144,1,31,.loop { keep:=[0,1,7,8,6],kb:=[0,1,25,21,26],pl:=[.slot 9 false zJ,.box 2 [.lf zJ,.ow true (.sl true T3) false],.box 3 [.lf zJ]],ex:=[(.exit 0,[(26,0,none)]),(.ret,[(26,2,some .ret)])],pay:=.unit }),(144,4,41,.loop { keep:=[0,1,7,15,11,9,13,4,8,16,12,6,10,14],kb:=[0,1,3,25,21,34,26],pl:=[.slot 5 false zJ,.box 2 [.lf zJ,.ow true (.sl true T3) false]],ex:=[(.exit 2,[(26,0,none)])],pay:=.unit }),(144,4,42,.loop { keep:=[0,1,7,15,11,9,13,4,8,16,12,6,10,14],kb:=[0,1,35,25,21,26],pl:=[.slot 5 false zJ,.box 2 [.lf zJ,.ow true (.sl true T3) false],.box 3 [.lf zJ]],ex:=[(.exit 2,[(26,0,none)]),(.ret,[(26,2,some .ret)])],pay:=.unit })]
def sv:Sg:=⟨[(true,T4),zI,(true,T3)],[(true,T4),zI],UY⟩
theorem zZ:tE ew uq 186 sv:=fun _=>by kernel_rfl
def ez:tL:=(186,sv)::ew
theorem ir:tO ez:=SY iq zZ
def tN:Sg:=⟨[(true,T4),zI],[(true,ZL),zI],Xo⟩
theorem zn:tE ez [] 201 tN:=fun _=>by kernel_rfl
def fA:tL:=(201,tN)::ez
theorem iu:tO fA:=SY ir zn
end Go.Proofs.YtfipnhjfbebeiaaGreatDoor.Pt
