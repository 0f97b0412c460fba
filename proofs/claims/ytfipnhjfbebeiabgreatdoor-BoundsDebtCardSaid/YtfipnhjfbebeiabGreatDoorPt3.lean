/- The evaluator comes to each of the plain functions. No condition. -/
import Derived.Test.YtfipnhjfbebeiabGreatDoorPt2
set_option linter.all false
namespace Go.Proofs.YtfipnhjfbebeiabGreatDoor.Pt
open Go Sv Pl
set_option maxRecDepth 1000000
def xA:tA:=[(79,8,26,.loop { keep:=[0,1,15,23,11,19,27,5,17,25,13,21,29,16,24,12,20,28,18,26,14,22],kb:=[0],pl:=[.slot 3 false zJ,.slot 2 false zJ,.slot 4 false zJ,.slot 30 false zJ,.map 18 zJ false .bool],ex:=[(.exit 1,[])],pay:=.unit }),(79,14,44,.loop { keep:=[0,1,7,15,31,23,39,11,19,35,27,5,17,33,25,41,13,21,37,29,2,16,32,24,40,12,20,36,28,6,18,34,26,42,14,22,38,30],kb:=[0,30],pl:=[.slot 3 false zJ,.slot 43 false zJ,.slot 4 false zJ,.map 18 zJ false .bool],ex:=[(.exit 1,[]),(.exit 3,[])],pay:=.unit })]
def wB:Sg:=⟨[(true,T4)],[zI,zI,zI],VW⟩
theorem e79:tE mO xA 79 wB:=fun _=>by kernel_rfl
def mS:tL:=(79,wB)::mO
theorem mT:tO mS:=SY mQ e79
def xB:tA:=[(80,2,6,.loop { keep:=[0,1,7,9,8],kb:=[0],pl:=[.slot 2 false zJ,.slot 10 false zJ],ex:=[(.exit 0,[])],pay:=.unit }),(80,5,15,.loop { keep:=[0,1,7,15,11,9,13,4,8,16,12,10,14],kb:=[0,9],pl:=[.slot 17 false zJ,.slot 2 false zJ],ex:=[(.exit 2,[])],pay:=.unit })]
def wC:Sg:=⟨[(true,T4)],[zI],Wo⟩
theorem e80:tE mS xB 80 wC:=fun _=>by kernel_rfl
def mU:tL:=(80,wC)::mS
theorem mV:tO mU:=SY mT e80
def wD:Sg:=⟨[(true,T4),zI],[(false,.bool)],Vm⟩
theorem e83:tE mU [] 83 wD:=fun _=>by kernel_rfl
def mW:tL:=(83,wD)::mU
theorem mX:tO mW:=SY mV e83
def uR:tA:=[(183,6,13,.loop { keep:=[0,15,11,9,17,13,8,16,12,10,14],kb:=[],pl:=[.slot 3 false zJ,.slot 2 false zJ,.slot 18 false zJ],ex:=[(.ret,[]),(.exit 1,[])],pay:=.unit })]
def sB:Sg:=⟨[(false,(.sl false (.sl true T2)))],[zI,zI],V9⟩
theorem yT:tE mW uR 183 sB:=fun _=>by kernel_rfl
def mY:tL:=(183,sB)::mW
theorem mZ:tO mY:=SY mX yT
def rS:Sg:=⟨[(false,.bool)],[(true,pM)],VY⟩
theorem yE:tE mY [] 162 rS:=fun _=>by kernel_rfl
def ma:tL:=(162,rS)::mY
theorem mb:tO ma:=SY mZ yE
theorem zH:MD Tryz.prog (λf => !pu f) 1000 100 184=true:=by kernel_rfl
theorem yU (a:Ty.den (.sl true T2)) (l:List (Ty.den (.sl true T2))):OU Tryz.prog (Ae pu ma) (RM []) 3000 60 184 [(false,(.sl false (.sl true T2)))] [(false,(.sl false (.sl true T2)))] (a::l)=Tw (a::l):=by kernel_rfl
def mc:tL:=(184,⟨[(false,(.sl false (.sl true T2)))],[(false,(.sl false (.sl true T2)))],Tw⟩)::ma
theorem md:tO mc:=SZ (gg:=false) (c:=(.sl true T2)) mb zH rfl yU
theorem zM:Ox Tryz.prog (λf => !pu f) 1000 100 184=true:=by kernel_rfl
theorem zQ (a:Ty.den (.sl true T2)) (l:List (Ty.den (.sl true T2))):P2 Tryz.prog (Ae pu mc) (RM []) 3000 60 184 [(false,(.sl false (.sl true T2)))] false (.sl true T2) (a::l)=Tw (a::l):=by kernel_rfl
def me:tL:=(184+Cs,⟨[(false,(.sl false (.sl true T2)))],[(false,(.sl false (.sl true T2)))],Tw⟩)::mc
theorem mf:tO me:=Sa (gg:=false) (c:=(.sl true T2)) md zM rfl (λa l y h=>R8 h) zQ
def sK:Sg:=⟨[(false,(.sl true T2)),zI],[(true,T5)],UU⟩
theorem yg:tE me [] 201 sK:=fun _=>by kernel_rfl
def mg:tL:=(201,sK)::me
theorem mh:tO mg:=SY mf yg
def sY:Sg:=⟨[(true,T5)],[(false,.bool)],V3⟩
theorem zB:tE mg [] 218 sY:=fun _=>by kernel_rfl
def mi:tL:=(218,sY)::mg
theorem mj:tO mi:=SY mh zB
def uW:tA:=[(220,2,22,.loop { keep:=[0,1,7,6],kb:=[],pl:=[.slot 4 false zJ,.slot 8 false zJ],ex:=[(.ret,[]),(.exit 0,[])],pay:=.unit })]
def sV:Sg:=⟨[(false,(.sl true T5))],[zI],V7⟩
theorem y0:tE mi uW 212 sV:=fun _=>by kernel_rfl
def ml:tL:=(212,sV)::mi
theorem mo:tO ml:=SY mj y0
theorem zL:MD Tryz.prog (λf => !pu f) 1000 100 215=true:=by kernel_rfl
theorem zA (a:Ty.den T5) (l:List (Ty.den T5)):OU Tryz.prog (Ae pu ml) (RM []) 3000 60 215 [(false,(.sl true T5))] [(false,(.sl true T5))] (a::l)=Tx (a::l):=by kernel_rfl
def mq:tL:=(215,⟨[(false,(.sl true T5))],[(false,(.sl true T5))],Tx⟩)::ml
theorem mr:tO mq:=SZ (gg:=true) (c:=T5) mo zL rfl zA
theorem zO:Ox Tryz.prog (λf => !pu f) 1000 100 215=true:=by kernel_rfl
theorem zT (a:Ty.den T5) (l:List (Ty.den T5)):P2 Tryz.prog (Ae pu mq) (RM []) 3000 60 215 [(false,(.sl true T5))] true T5 (a::l)=Tx (a::l):=by kernel_rfl
def mu:tL:=(215+Cs,⟨[(false,(.sl true T5))],[(false,(.sl true T5))],Tx⟩)::mq
theorem mv:tO mu:=Sa (gg:=true) (c:=T5) mr zO rfl (λa l y h=>R8 h) zT
def uX:tA:=[(213,6,26,.loop { keep:=[0,3,15,23,11,19,17,13,2,4,24,12,6,10,14,22],kb:=[0,7],pl:=[.slot 7 false zJ,.srow 5 false zJ true,.box 20 [.ow true T5 false,.ow false zJ true,.lf zJ]],ex:=[(.exit 0,[])],pay:=.unit })]
def sW:Sg:=⟨[(false,(.sl true T5))],[(true,T7)],W5⟩
theorem y8:tE mu uX 213 sW:=fun _=>by kernel_rfl
def mw:tL:=(213,sW)::mu
theorem my:tO mw:=SY mv y8
def sL:Sg:=⟨[(false,(.sl true T5))],[(true,T7),zI],VQ⟩
theorem yh:tE mw [] 202 sL:=fun _=>by kernel_rfl
def mz:tL:=(202,sL)::mw
theorem m6:tO mz:=SY my yh
end Go.Proofs.YtfipnhjfbebeiabGreatDoor.Pt
