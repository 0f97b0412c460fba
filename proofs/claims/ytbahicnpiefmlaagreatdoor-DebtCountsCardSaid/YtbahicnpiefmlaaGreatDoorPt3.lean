/- The evaluator comes to each of the plain functions. No condition. -/
import Derived.Test.YtbahicnpiefmlaaGreatDoorPt2
set_option linter.all false
namespace Go.Proofs.YtbahicnpiefmlaaGreatDoor.Pt
open Go Sv Pl
set_option maxRecDepth 1000000
def sT:tA:=[(276,6,13,.loop { keep:=[0,15,11,9,17,13,8,16,12,10,14],kb:=[],pl:=[.slot 3 false zJ,.slot 2 false zJ,.slot 18 false zJ],ex:=[(.ret,[]),(.exit 1,[])],pay:=.unit })]
def pq:Sg:=⟨[(false,(.sl false (.sl true T2)))],[zI,zI],Vo⟩
theorem wO:tE jz sT 276 pq:=fun _=>by kernel_rfl
def j7:tL:=(276,pq)::jz
theorem j8:tO j7:=SX j0 wO
def pU:Sg:=⟨[(false,.bool)],[(true,m6)],VD⟩
theorem wD:tE j7 [] 248 pU:=fun _=>by kernel_rfl
def j9:tL:=(248,pU)::j7
theorem kA:tO j9:=SX j8 wD
theorem w8:MD Tryz.prog (λf => !pu f) 1000 100 286=true:=by kernel_rfl
theorem wV (a:Ty.den (.sl true T2)) (l:List (Ty.den (.sl true T2))):OU Tryz.prog (Ae pu j9) (RL []) 3000 60 286 [(false,(.sl false (.sl true T2)))] [(false,(.sl false (.sl true T2)))] (a::l)=Ts (a::l):=by kernel_rfl
def kB:tL:=(286,⟨[(false,(.sl false (.sl true T2)))],[(false,(.sl false (.sl true T2)))],Ts⟩)::j9
theorem kC:tO kB:=SY (gg:=false) (c:=(.sl true T2)) kA w8 rfl wV
theorem xC:Ox Tryz.prog (λf => !pu f) 1000 100 286=true:=by kernel_rfl
theorem xG (a:Ty.den (.sl true T2)) (l:List (Ty.den (.sl true T2))):P2 Tryz.prog (Ae pu kB) (RL []) 3000 60 286 [(false,(.sl false (.sl true T2)))] false (.sl true T2) (a::l)=Ts (a::l):=by kernel_rfl
def kD:tL:=(286+Cs,⟨[(false,(.sl false (.sl true T2)))],[(false,(.sl false (.sl true T2)))],Ts⟩)::kB
theorem kF:tO kD:=SZ (gg:=false) (c:=(.sl true T2)) kC xC rfl (λa l y h=>R7 h) xG
def qE:Sg:=⟨[(false,(.sl true T2)),zI],[(true,T5)],UN⟩
theorem wb:tE kD [] 303 qE:=fun _=>by kernel_rfl
def kG:tL:=(303,qE)::kD
theorem kH:tO kG:=SX kF wb
def qU:Sg:=⟨[(true,T5)],[(false,.bool)],Vj⟩
theorem wx:tE kG [] 322 qU:=fun _=>by kernel_rfl
def kI:tL:=(322,qU)::kG
theorem kJ:tO kI:=SX kH wx
def sc:tA:=[(324,2,22,.loop { keep:=[0,1,7,6],kb:=[],pl:=[.slot 4 false zJ,.slot 8 false zJ],ex:=[(.ret,[]),(.exit 0,[])],pay:=.unit })]
def qP:Sg:=⟨[(false,(.sl true T5))],[zI],Vm⟩
theorem wq:tE kI sc 315 qP:=fun _=>by kernel_rfl
def kK:tL:=(315,qP)::kI
theorem kL:tO kK:=SX kJ wq
theorem xA:MD Tryz.prog (λf => !pu f) 1000 100 318=true:=by kernel_rfl
theorem wv (a:Ty.den T5) (l:List (Ty.den T5)):OU Tryz.prog (Ae pu kK) (RL []) 3000 60 318 [(false,(.sl true T5))] [(false,(.sl true T5))] (a::l)=Tu (a::l):=by kernel_rfl
def kM:tL:=(318,⟨[(false,(.sl true T5))],[(false,(.sl true T5))],Tu⟩)::kK
theorem kO:tO kM:=SY (gg:=true) (c:=T5) kL xA rfl wv
theorem xE:Ox Tryz.prog (λf => !pu f) 1000 100 318=true:=by kernel_rfl
theorem xI (a:Ty.den T5) (l:List (Ty.den T5)):P2 Tryz.prog (Ae pu kM) (RL []) 3000 60 318 [(false,(.sl true T5))] true T5 (a::l)=Tu (a::l):=by kernel_rfl
def kP:tL:=(318+Cs,⟨[(false,(.sl true T5))],[(false,(.sl true T5))],Tu⟩)::kM
theorem kQ:tO kP:=SZ (gg:=true) (c:=T5) kO xE rfl (λa l y h=>R7 h) xI
def se:tA:=[(316,6,26,.loop { keep:=[0,3,15,23,11,19,17,13,2,4,24,12,6,10,14,22],kb:=[0,7],pl:=[.slot 7 false zJ,.srow 5 false zJ true,.box 20 [.ow true T5 false,.ow false zJ true,.lf zJ]],ex:=[(.exit 0,[])],pay:=.unit })]
def qQ:Sg:=⟨[(false,(.sl true T5))],[(true,T7)],Wa⟩
theorem wt:tE kP se 316 qQ:=fun _=>by kernel_rfl
def kS:tL:=(316,qQ)::kP
theorem kT:tO kS:=SX kQ wt
def qG:Sg:=⟨[(false,(.sl true T5))],[(true,T7),zI],U6⟩
theorem wc:tE kS [] 304 qG:=fun _=>by kernel_rfl
def kU:tL:=(304,qG)::kS
theorem kV:tO kU:=SX kT wc
def ru:tA:=[(278,3,47,.loop { keep:=[0,1,11,13,4,10,14],kb:=[0,39,27,13,30],pl:=[.slot 15 false zJ,.srow 5 true T5 true],ex:=[(.exit 0,[])],pay:=.unit })]
def o7:Sg:=⟨[(false,(.sl false (.sl true T2))),(false,.bool)],[(true,cK),zI,zI],Wh⟩
theorem vZ:tE kU ru 198 o7:=fun _=>by kernel_rfl
def kW:tL:=(198,o7)::kU
theorem kX:tO kW:=SX kV vZ
def oO:Sg:=⟨[(true,T4),zI,(false,.bool)],[(true,Zj)],U5⟩
theorem u4:tE kW [] 134 oO:=fun _=>by kernel_rfl
def kY:tL:=(134,oO)::kW
theorem kZ:tO kY:=SX kX u4
def sU:tA:=[(278,3,8,.loop { keep:=[0,1,11,13,4,10,14],kb:=[0],pl:=[.slot 15 false zJ,.srow 5 true T5 true],ex:=[(.exit 0,[])],pay:=.unit })]
theorem wQ (x:AP [(false,(.sl false (.sl true T2))),(false,(.sl false zJ))]):OU Tryz.prog (Ae pu kY) (RL sU) 3000 60 278 [(false,(.sl false (.sl true T2))),(false,(.sl false zJ))] [(true,T7)] x=Wb x:=by kernel_rfl
def ka:tL:=(1048854,⟨[(false,(.sl false (.sl true T2))),(false,(.sl false zJ))],[(true,T7)],Wb⟩)::kY
theorem kc:tO ka:=SX kZ wQ
end Go.Proofs.YtbahicnpiefmlaaGreatDoor.Pt
