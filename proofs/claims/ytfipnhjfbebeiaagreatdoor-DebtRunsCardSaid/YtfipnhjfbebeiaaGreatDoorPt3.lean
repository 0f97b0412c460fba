/- The evaluator comes to each of the plain functions. No condition. -/
import Derived.Test.YtfipnhjfbebeiaaGreatDoorPt2
set_option linter.all false
namespace Go.Proofs.YtfipnhjfbebeiaaGreatDoor.Pt
open Go Sv Pl
set_option maxRecDepth 1000000
def uh:tA:=[(147,6,13,.loop { keep:=[0,15,11,9,17,13,8,16,12,10,14],kb:=[],pl:=[.slot 3 false zJ,.slot 2 false zJ,.slot 18 false zJ],ex:=[(.ret,[]),(.exit 1,[])],pay:=.unit })]
def sF:Sg:=⟨[(false,(.sl false (.sl true T2)))],[zI,zI],V6⟩
theorem yh:tE mg uh 147 sF:=fun _=>by kernel_rfl
def mi:tL:=(147,sF)::mg
theorem mj:tO mi:=SY mh yh
def rU:Sg:=⟨[(false,.bool)],[(true,pn)],VT⟩
theorem yP:tE mi [] 127 rU:=fun _=>by kernel_rfl
def ml:tL:=(127,rU)::mi
theorem mo:tO ml:=SY mj yP
theorem zu:MD Tryz.prog (λf => !pu f) 1000 100 148=true:=by kernel_rfl
theorem yi (a:Ty.den (.sl true T2)) (l:List (Ty.den (.sl true T2))):OU Tryz.prog (Ae pu ml) (RM []) 3000 60 148 [(false,(.sl false (.sl true T2)))] [(false,(.sl false (.sl true T2)))] (a::l)=Tw (a::l):=by kernel_rfl
def mq:tL:=(148,⟨[(false,(.sl false (.sl true T2)))],[(false,(.sl false (.sl true T2)))],Tw⟩)::ml
theorem mr:tO mq:=SZ (gg:=false) (c:=(.sl true T2)) mo zu rfl yi
theorem zz:Ox Tryz.prog (λf => !pu f) 1000 100 148=true:=by kernel_rfl
theorem AAB (a:Ty.den (.sl true T2)) (l:List (Ty.den (.sl true T2))):P2 Tryz.prog (Ae pu mq) (RM []) 3000 60 148 [(false,(.sl false (.sl true T2)))] false (.sl true T2) (a::l)=Tw (a::l):=by kernel_rfl
def mu:tL:=(148+Cs,⟨[(false,(.sl false (.sl true T2)))],[(false,(.sl false (.sl true T2)))],Tw⟩)::mq
theorem mv:tO mu:=Sa (gg:=false) (c:=(.sl true T2)) mr zz rfl (λa l y h=>R8 h) AAB
def sY:Sg:=⟨[(false,(.sl true T2)),zI],[(true,T5)],UT⟩
theorem zK:tE mu [] 173 sY:=fun _=>by kernel_rfl
def mw:tL:=(173,sY)::mu
theorem my:tO mw:=SY mv zK
def tR:Sg:=⟨[(true,T5)],[(false,.bool)],Vy⟩
theorem zp:tE mw [] 204 tR:=fun _=>by kernel_rfl
def mz:tL:=(204,tR)::mw
theorem m6:tO mz:=SY my zp
def ut:tA:=[(206,2,22,.loop { keep:=[0,1,7,6],kb:=[],pl:=[.slot 4 false zJ,.slot 8 false zJ],ex:=[(.ret,[]),(.exit 0,[])],pay:=.unit })]
def tD:Sg:=⟨[(false,(.sl true T5))],[zI],V4⟩
theorem zf:tE mz ut 191 tD:=fun _=>by kernel_rfl
def m7:tL:=(191,tD)::mz
theorem m8:tO m7:=SY m6 zf
theorem zy:MD Tryz.prog (λf => !pu f) 1000 100 194=true:=by kernel_rfl
theorem zi (a:Ty.den T5) (l:List (Ty.den T5)):OU Tryz.prog (Ae pu m7) (RM []) 3000 60 194 [(false,(.sl true T5))] [(false,(.sl true T5))] (a::l)=Tx (a::l):=by kernel_rfl
def m9:tL:=(194,⟨[(false,(.sl true T5))],[(false,(.sl true T5))],Tx⟩)::m7
theorem nA:tO m9:=SZ (gg:=true) (c:=T5) m8 zy rfl zi
theorem AAA:Ox Tryz.prog (λf => !pu f) 1000 100 194=true:=by kernel_rfl
theorem AAE (a:Ty.den T5) (l:List (Ty.den T5)):P2 Tryz.prog (Ae pu m9) (RM []) 3000 60 194 [(false,(.sl true T5))] true T5 (a::l)=Tx (a::l):=by kernel_rfl
def nB:tL:=(194+Cs,⟨[(false,(.sl true T5))],[(false,(.sl true T5))],Tx⟩)::m9
theorem nC:tO nB:=Sa (gg:=true) (c:=T5) nA AAA rfl (λa l y h=>R8 h) AAE
def uu:tA:=[(192,6,26,.loop { keep:=[0,3,15,23,11,19,17,13,2,4,24,12,6,10,14,22],kb:=[0,7],pl:=[.slot 7 false zJ,.srow 5 false zJ true,.box 20 [.ow true T5 false,.ow false zJ true,.lf zJ]],ex:=[(.exit 0,[])],pay:=.unit })]
def tG:Sg:=⟨[(false,(.sl true T5))],[(true,T7)],W5⟩
theorem zg:tE nB uu 192 tG:=fun _=>by kernel_rfl
def nD:tL:=(192,tG)::nB
theorem nF:tO nD:=SY nC zg
def sZ:Sg:=⟨[(false,(.sl true T5))],[(true,T7),zI],VO⟩
theorem zL:tE nD [] 174 sZ:=fun _=>by kernel_rfl
def nG:tL:=(174,sZ)::nD
theorem nH:tO nG:=SY nF zL
def xi:tA:=[(149,3,47,.loop { keep:=[0,1,11,13,4,10,14],kb:=[0,39,27,13,30],pl:=[.slot 15 false zJ,.srow 5 true T5 true],ex:=[(.exit 0,[])],pay:=.unit })]
def wi:Sg:=⟨[(false,(.sl false (.sl true T2))),(false,.bool)],[(true,dl),zI,zI],XF⟩
theorem e86:tE nG xi 86 wi:=fun _=>by kernel_rfl
def nI:tL:=(86,wi)::nG
theorem nJ:tO nI:=SY nH e86
def wF:Sg:=⟨[(true,T4),zI,(false,.bool)],[(true,ZL)],VJ⟩
theorem e52:tE nI [] 52 wF:=fun _=>by kernel_rfl
def nK:tL:=(52,wF)::nI
theorem nL:tO nK:=SY nJ e52
def ui:tA:=[(149,3,8,.loop { keep:=[0,1,11,13,4,10,14],kb:=[0],pl:=[.slot 15 false zJ,.srow 5 true T5 true],ex:=[(.exit 0,[])],pay:=.unit })]
theorem yj (x:AP [(false,(.sl false (.sl true T2))),(false,(.sl false zJ))]):OU Tryz.prog (Ae pu nK) (RM ui) 3000 60 149 [(false,(.sl false (.sl true T2))),(false,(.sl false zJ))] [(true,T7)] x=W6 x:=by kernel_rfl
def nM:tL:=(1048725,⟨[(false,(.sl false (.sl true T2))),(false,(.sl false zJ))],[(true,T7)],W6⟩)::nK
theorem nN:tO nM:=SY nL yj
end Go.Proofs.YtfipnhjfbebeiaaGreatDoor.Pt
