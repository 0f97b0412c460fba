/- The evaluator comes to each of the plain functions. No condition. -/
import Derived.Test.YtggceepiljjadaaGreatPt1
set_option linter.all false
namespace Go.Proofs.YtggceepiljjadaaGreat.Pt
open Go Sv Pl
set_option maxRecDepth 1000000
theorem yZ:Ou Tryz.prog (λf=> !pu f) 1000 100 176=true:=by kernel_rfl
theorem ye(a:Ty.den T5)(l:List (Ty.den T5)):Py Tryz.prog (Ah pu lj) (RK []) 3000 60 176 [(false,(.sl true T5))] true T5 (a::l)=Tq (a::l):=by kernel_rfl
def lq:tL:=(176+Di,⟨[(false,(.sl true T5))],[(false,(.sl true T5))],Tq⟩)::lj
theorem lr:tO lq:=SU (gg:=true) (c:=T5) lm yZ rfl (λa l y h=>R6 h) ye
def uG:tA:=[(174,6,26,.loop { keep:=[0,3,15,23,11,19,17,13,2,4,24,12,6,10,14,22],kb:=[0,7],pl:=[.slot 7 false zJ,.srow 5 false zJ true,.box 20 [.ow true T5 false,.ow false zJ true,.lf zJ]],ex:=[(.exit 0,[])],pay:=.unit })]
def sG:Sg:=⟨[(false,(.sl true T5))],[(true,T7)],W8⟩
theorem yN:tE lq uG 174 sG:=fun _=>by kernel_rfl
def lu:tL:=(174,sG)::lq
theorem lw:tO lu:=SR lr yN
def rt:Sg:=⟨[(false,(.sl true T5))],[(true,T7),zI],VJ⟩
theorem yD:tE lu [] 163 rt:=fun _=>by kernel_rfl
def ly:tL:=(163,rt)::lu
theorem lz:tO ly:=SR lw yD
def tj:tA:=[(145,3,47,.loop { keep:=[0,1,11,13,4,10,14],kb:=[0,39,27,13,30],pl:=[.slot 15 false zJ,.srow 5 true T5 true],ex:=[(.exit 0,[])],pay:=.unit })]
def rC:Sg:=⟨[(false,(.sl false (.sl true T2))),(false,.bool)],[(true,d9),zI,zI],XI⟩
theorem xM:tE ly tj 121 rC:=fun _=>by kernel_rfl
def l7:tL:=(121,rC)::ly
theorem l8:tO l7:=SR lz xM
def vw:Sg:=⟨[(true,T4),zI,(false,.bool)],[(true,ah)],VH⟩
theorem e90:tE l7 [] 90 vw:=fun _=>by kernel_rfl
def l9:tL:=(90,vw)::l7
theorem mA:tO l9:=SR l8 e90
def t7:tA:=[(145,3,8,.loop { keep:=[0,1,11,13,4,10,14],kb:=[0],pl:=[.slot 15 false zJ,.srow 5 true T5 true],ex:=[(.exit 0,[])],pay:=.unit })]
theorem xh(x:AR [(false,(.sl false (.sl true T2))),(false,(.sl false zJ))]):OQ Tryz.prog (Ah pu l9) (RK t7) 3000 60 145 [(false,(.sl false (.sl true T2))),(false,(.sl false zJ))] [(true,T7)] x=W9 x:=by kernel_rfl
def mB:tL:=(1048721,⟨[(false,(.sl false (.sl true T2))),(false,(.sl false zJ))],[(true,T7)],W9⟩)::l9
theorem mC:tO mB:=SR mA xh
def tp:tA:=[(125,4,9,.loop { keep:=[0,1,7,11,9,8,12,6,10],kb:=[],pl:=[.slot 13 false zJ,.slot 4 false .bool],ex:=[(.ret,[]),(.exit 0,[])],pay:=.unit })]
def rF:Sg:=⟨[(false,(.sl true T5)),(false,(.sl true T5))],[(false,.bool)],UC⟩
theorem xP:tE mB tp 125 rF:=fun _=>by kernel_rfl
def mD:tL:=(125,rF)::mB
theorem mE:tO mD:=SR mC xP
def tn:tA:=[(124,4,9,.loop { keep:=[0,1,7,11,9,8,12,6,10],kb:=[],pl:=[.slot 13 false zJ,.slot 4 false .bool],ex:=[(.ret,[]),(.exit 0,[])],pay:=.unit })]
def rE:Sg:=⟨[(false,(.sl false zJ)),(false,(.sl false zJ))],[(false,.bool)],Ts⟩
theorem xO:tE mD tn 124 rE:=fun _=>by kernel_rfl
def mF:tL:=(124,rE)::mD
theorem mG:tO mF:=SR mE xO
def rU:Sg:=⟨[(true,T7),(true,T7)],[(false,.bool)],Wj⟩
theorem xg:tE mF [] 144 rU:=fun _=>by kernel_rfl
def mH:tL:=(144,rU)::mF
theorem mI:tO mH:=SR mG xg
def uH:tA:=[(175,8,25,.loop { keep:=[0,1,15,23,11,19,5,9,17,25,21,4,8,16,24,12,20,10,18,26,14,22],kb:=[0,19],pl:=[.slot 3 false zJ,.slot 27 false zJ,.slot 2 false zJ],ex:=[(.ret,[]),(.exit 0,[])],pay:=.unit })]
def sH:Sg:=⟨[(true,T7)],[zI,zI],XW⟩
theorem yO:tE mH uH 175 sH:=fun _=>by kernel_rfl
def mJ:tL:=(175,sH)::mH
theorem mK:tO mJ:=SR mI yO
def ru:Sg:=⟨[(true,T7)],[zI],W7⟩
theorem yE:tE mJ [] 164 ru:=fun _=>by kernel_rfl
def mL:tL:=(164,ru)::mJ
theorem mM:tO mL:=SR mK yE
def rV:Sg:=⟨[(true,T7)],[zI,(false,.str),zI],VQ⟩
theorem xi:tE mL [] 146 rV:=fun _=>by kernel_rfl
def mN:tL:=(146,rV)::mL
theorem mO:tO mN:=SR mM xi
def rx:Sg:=⟨[(false,.str)],[(false,.bool)],V3⟩
theorem yF:tE mN [] 165 rx:=fun _=>by kernel_rfl
def mQ:tL:=(165,rx)::mN
theorem mR:tO mQ:=SR mO yF
def ra:Sg:=⟨[(false,.str),(false,.str)],[zI],VV⟩
theorem xp:tE mQ [] 148 ra:=fun _=>by kernel_rfl
def mS:tL:=(148,ra)::mQ
theorem mT:tO mS:=SR mR xp
end Go.Proofs.YtggceepiljjadaaGreat.Pt
