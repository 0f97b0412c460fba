/- The evaluator comes to each of the plain functions. No condition. -/
import Derived.Test.YtanppfoapnaeaaaGreatPt1
set_option linter.all false
namespace Go.Proofs.YtanppfoapnaeaaaGreat.Pt
open Go Sv Pl
set_option maxRecDepth 1000000
theorem vS:Ov Tryz.prog (λf=> !pu f) 1000 100 177=true:=by kernel_rfl
theorem vV(a:Ty.den T5)(l:List (Ty.den T5)):P0 Tryz.prog (Ae pu i7) (RL []) 3000 60 177 [(false,(.sl true T5))] true T5 (a::l)=Ti (a::l):=by kernel_rfl
def i9:tL:=(177+Cs,⟨[(false,(.sl true T5))],[(false,(.sl true T5))],Ti⟩)::i7
theorem jA:tO i9:=SV (gg:=true) (c:=T5) i8 vS rfl (λa l y h=>R7 h) vV
def qH:tA:=[(175,6,26,.loop { keep:=[0,3,15,23,11,19,17,13,2,4,24,12,6,10,14,22],kb:=[0,7],pl:=[.slot 7 false zJ,.srow 5 false zJ true,.box 20 [.ow true T5 false,.ow false zJ true,.lf zJ]],ex:=[(.exit 0,[])],pay:=.unit })]
def oc:Sg:=⟨[(false,(.sl true T5))],[(true,T7)],Wf⟩
theorem vC:tQ i9 qH 175 oc:=fun _=>by kernel_rfl
def jB:tL:=(175,oc)::i9
theorem jC:tO jB:=SS jA vC
def oR:Sg:=⟨[(false,(.sl true T5))],[(true,T7),zI],Uu⟩
theorem ux:tQ jB [] 163 oR:=fun _=>by kernel_rfl
def jD:tL:=(163,oR)::jB
theorem jE:tO jD:=SS jC ux
def tx:tA:=[(147,3,47,.loop { keep:=[0,1,11,13,4,10,14],kb:=[0,39,27,13,30],pl:=[.slot 15 false zJ,.srow 5 true T5 true],ex:=[(.exit 0,[])],pay:=.unit })]
def sV:Sg:=⟨[(false,(.sl false (.sl true T2))),(false,.bool)],[(true,bT),zI,zI],Ws⟩
theorem xT:tQ jD tx 98 sV:=fun _=>by kernel_rfl
def jF:tL:=(98,sV)::jD
theorem jG:tO jF:=SS jE xT
def rV:Sg:=⟨[(true,T4),zI,(false,.bool)],[(true,gR)],Ur⟩
theorem wt:tQ jF [] 65 rV:=fun _=>by kernel_rfl
def jH:tL:=(65,rV)::jF
theorem jI:tO jH:=SS jG wt
def qA:tA:=[(147,3,8,.loop { keep:=[0,1,11,13,4,10,14],kb:=[0],pl:=[.slot 15 false zJ,.srow 5 true T5 true],ex:=[(.exit 0,[])],pay:=.unit })]
theorem un(x:AP [(false,(.sl false (.sl true T2))),(false,(.sl false zJ))]):OS Tryz.prog (Ae pu jH) (RL qA) 3000 60 147 [(false,(.sl false (.sl true T2))),(false,(.sl false zJ))] [(true,T7)] x=Wg x:=by kernel_rfl
def jJ:tL:=(1048723,⟨[(false,(.sl false (.sl true T2))),(false,(.sl false zJ))],[(true,T7)],Wg⟩)::jH
theorem jK:tO jJ:=SS jI un
def pP:tA:=[(106,4,9,.loop { keep:=[0,1,7,11,9,8,12,6,10],kb:=[],pl:=[.slot 13 false zJ,.slot 4 false .bool],ex:=[(.ret,[]),(.exit 0,[])],pay:=.unit })]
def nL:Sg:=⟨[(false,(.sl true T5)),(false,(.sl true T5))],[(false,.bool)],Tq⟩
theorem t8:tQ jJ pP 106 nL:=fun _=>by kernel_rfl
def jL:tL:=(106,nL)::jJ
theorem jM:tO jL:=SS jK t8
def pO:tA:=[(105,4,9,.loop { keep:=[0,1,7,11,9,8,12,6,10],kb:=[],pl:=[.slot 13 false zJ,.slot 4 false .bool],ex:=[(.ret,[]),(.exit 0,[])],pay:=.unit })]
def nK:Sg:=⟨[(false,(.sl false zJ)),(false,(.sl false zJ))],[(false,.bool)],Tj⟩
theorem t7:tQ jL pO 105 nK:=fun _=>by kernel_rfl
def jN:tL:=(105,nK)::jL
theorem jO:tO jN:=SS jM t7
def oI:Sg:=⟨[(true,T7),(true,T7)],[(false,.bool)],WE⟩
theorem uo:tQ jN [] 148 oI:=fun _=>by kernel_rfl
def jP:tL:=(148,oI)::jN
theorem jQ:tO jP:=SS jO uo
def qI:tA:=[(176,8,25,.loop { keep:=[0,1,15,23,11,19,5,9,17,25,21,4,8,16,24,12,20,10,18,26,14,22],kb:=[0,19],pl:=[.slot 3 false zJ,.slot 27 false zJ,.slot 2 false zJ],ex:=[(.ret,[]),(.exit 0,[])],pay:=.unit })]
def od:Sg:=⟨[(true,T7)],[zI,zI],W2⟩
theorem vD:tQ jP qI 176 od:=fun _=>by kernel_rfl
def jR:tL:=(176,od)::jP
theorem jS:tO jR:=SS jQ vD
def oS:Sg:=⟨[(true,T7)],[zI],We⟩
theorem uy:tQ jR [] 164 oS:=fun _=>by kernel_rfl
def jT:tL:=(164,oS)::jR
theorem jU:tO jT:=SS jS uy
def oJ:Sg:=⟨[(true,T7)],[zI,(false,.str),zI],Uz⟩
theorem uq:tQ jT [] 149 oJ:=fun _=>by kernel_rfl
def jV:tL:=(149,oJ)::jT
theorem jW:tO jV:=SS jU uq
def oT:Sg:=⟨[(false,.str)],[(false,.bool)],VV⟩
theorem uz:tQ jV [] 165 oT:=fun _=>by kernel_rfl
def jX:tL:=(165,oT)::jV
theorem jY:tO jX:=SS jW uz
def oL:Sg:=⟨[(false,.str),(false,.str)],[zI],U6⟩
theorem us:tQ jX [] 151 oL:=fun _=>by kernel_rfl
def jZ:tL:=(151,oL)::jX
theorem ja:tO jZ:=SS jY us
end Go.Proofs.YtanppfoapnaeaaaGreat.Pt
