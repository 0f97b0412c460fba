/- The evaluator comes to each of the plain functions. No condition. -/
import Derived.Test.YtanppfoapnaeaaaGreatPt0
set_option linter.all false
namespace Go.Proofs.YtanppfoapnaeaaaGreat.Pt
open Go Sv Pl
set_option maxRecDepth 1000000
def pQ:tA:=[(107,4,8,.loop { keep:=[0,7,11,9,8,10],kb:=[],pl:=[.slot 3 false zJ,.slot 2 false zJ,.slot 12 false zJ],ex:=[(.ret,[]),(.exit 0,[])],pay:=.unit })]
def nM:Sg:=⟨[(false,(.sl true T2))],[zI,zI],UG⟩
theorem t9:tQ iS pQ 107 nM:=fun _=>by kernel_rfl
def iU:tL:=(107,nM)::iS
theorem iV:tO iU:=SS iT t9
def rm:Sg:=⟨[(true,T3)],[zI,zI],Wr⟩
theorem wy:tQ iU [] 70 rm:=fun _=>by kernel_rfl
def iW:tL:=(70,rm)::iU
theorem iY:tO iW:=SS iV wy
def sU:Sg:=⟨[(true,T3),zI],[zI],VE⟩
theorem xS:tQ iW [] 95 sU:=fun _=>by kernel_rfl
def iZ:tL:=(95,sU)::iW
theorem ib:tO iZ:=SS iY xS
def tR:tA:=[(60,8,26,.loop { keep:=[0,1,15,23,11,19,27,5,17,25,13,21,29,16,24,12,20,28,18,26,14,22],kb:=[0],pl:=[.slot 3 false zJ,.slot 2 false zJ,.slot 4 false zJ,.slot 30 false zJ,.map 18 zJ false .bool],ex:=[(.exit 1,[])],pay:=.unit }),(60,14,44,.loop { keep:=[0,1,7,15,31,23,39,11,19,35,27,5,17,33,25,41,13,21,37,29,2,16,32,24,40,12,20,36,28,6,18,34,26,42,14,22,38,30],kb:=[0,30],pl:=[.slot 3 false zJ,.slot 43 false zJ,.slot 4 false zJ,.map 18 zJ false .bool],ex:=[(.exit 1,[]),(.exit 3,[])],pay:=.unit })]
def rS:Sg:=⟨[(true,T4)],[zI,zI,zI],VO⟩
theorem wm:tQ iZ tR 60 rS:=fun _=>by kernel_rfl
def ic:tL:=(60,rS)::iZ
theorem ie:tO ic:=SS ib wm
def tT:tA:=[(61,2,6,.loop { keep:=[0,1,7,9,8],kb:=[0],pl:=[.slot 2 false zJ,.slot 10 false zJ],ex:=[(.exit 0,[])],pay:=.unit }),(61,5,15,.loop { keep:=[0,1,7,15,11,9,13,4,8,16,12,10,14],kb:=[0,9],pl:=[.slot 17 false zJ,.slot 2 false zJ],ex:=[(.exit 2,[])],pay:=.unit })]
def rT:Sg:=⟨[(true,T4)],[zI],WM⟩
theorem wo:tQ ic tT 61 rT:=fun _=>by kernel_rfl
def ig:tL:=(61,rT)::ic
theorem ii:tO ig:=SS ie wo
def rU:Sg:=⟨[(true,T4),zI],[(false,.bool)],VD⟩
theorem wq:tQ ig [] 64 rU:=fun _=>by kernel_rfl
def ij:tL:=(64,rU)::ig
theorem ik:tO ij:=SS ii wq
def p9:tA:=[(145,6,13,.loop { keep:=[0,15,11,9,17,13,8,16,12,10,14],kb:=[],pl:=[.slot 3 false zJ,.slot 2 false zJ,.slot 18 false zJ],ex:=[(.ret,[]),(.exit 1,[])],pay:=.unit })]
def oH:Sg:=⟨[(false,(.sl false (.sl true T2)))],[zI,zI],Vj⟩
theorem uk:tQ ij p9 145 oH:=fun _=>by kernel_rfl
def il:tL:=(145,oH)::ij
theorem im:tO il:=SS ik uk
def ni:Sg:=⟨[(false,.bool)],[(true,mV)],U0⟩
theorem uR:tQ il [] 126 ni:=fun _=>by kernel_rfl
def io:tL:=(126,ni)::il
theorem ip:tO io:=SS im uR
theorem vM:MC Tryz.prog (λf=> !pu f) 1000 100 146=true:=by kernel_rfl
theorem um(a:Ty.den (.sl true T2))(l:List (Ty.den (.sl true T2))):OS Tryz.prog (Ae pu io) (RL []) 3000 60 146 [(false,(.sl false (.sl true T2)))] [(false,(.sl false (.sl true T2)))] (a::l)=Th (a::l):=by kernel_rfl
def iq:tL:=(146,⟨[(false,(.sl false (.sl true T2)))],[(false,(.sl false (.sl true T2)))],Th⟩)::io
theorem ir:tO iq:=SU (gg:=false) (c:=(.sl true T2)) ip vM rfl um
theorem vQ:Ov Tryz.prog (λf=> !pu f) 1000 100 146=true:=by kernel_rfl
theorem vT(a:Ty.den (.sl true T2))(l:List (Ty.den (.sl true T2))):P0 Tryz.prog (Ae pu iq) (RL []) 3000 60 146 [(false,(.sl false (.sl true T2)))] false (.sl true T2) (a::l)=Th (a::l):=by kernel_rfl
def iu:tL:=(146+Cs,⟨[(false,(.sl false (.sl true T2)))],[(false,(.sl false (.sl true T2)))],Th⟩)::iq
theorem iv:tO iu:=SV (gg:=false) (c:=(.sl true T2)) ir vQ rfl (λa l y h=>R7 h) vT
def oQ:Sg:=⟨[(false,(.sl true T2)),zI],[(true,T5)],UH⟩
theorem uw:tQ iu [] 162 oQ:=fun _=>by kernel_rfl
def iw:tL:=(162,oQ)::iu
theorem iy:tO iw:=SS iv uw
def oe:Sg:=⟨[(true,T5)],[(false,.bool)],Vd⟩
theorem vG:tQ iw [] 181 oe:=fun _=>by kernel_rfl
def i0:tL:=(181,oe)::iw
theorem i4:tO i0:=SS iy vG
def qG:tA:=[(184,2,22,.loop { keep:=[0,1,7,6],kb:=[],pl:=[.slot 4 false zJ,.slot 8 false zJ],ex:=[(.ret,[]),(.exit 0,[])],pay:=.unit })]
def oa:Sg:=⟨[(false,(.sl true T5))],[zI],Vh⟩
theorem vB:tQ i0 qG 174 oa:=fun _=>by kernel_rfl
def i5:tL:=(174,oa)::i0
theorem i6:tO i5:=SS i4 vB
theorem vO:MC Tryz.prog (λf=> !pu f) 1000 100 177=true:=by kernel_rfl
theorem vE(a:Ty.den T5)(l:List (Ty.den T5)):OS Tryz.prog (Ae pu i5) (RL []) 3000 60 177 [(false,(.sl true T5))] [(false,(.sl true T5))] (a::l)=Ti (a::l):=by kernel_rfl
def i7:tL:=(177,⟨[(false,(.sl true T5))],[(false,(.sl true T5))],Ti⟩)::i5
theorem i8:tO i7:=SU (gg:=true) (c:=T5) i6 vO rfl vE
end Go.Proofs.YtanppfoapnaeaaaGreat.Pt
