/- The evaluator comes to each of the plain functions. No condition. -/
import Derived.Test.YtfipnhjfbebeiaaGreatDoorPt3
set_option linter.all false
namespace Go.Proofs.YtfipnhjfbebeiaaGreatDoor.Pt
open Go Sv Pl
set_option maxRecDepth 1000000
def xu:tA:=[(94,4,9,.loop { keep:=[0,1,7,11,9,8,12,6,10],kb:=[],pl:=[.slot 13 false zJ,.slot 4 false .bool],ex:=[(.ret,[]),(.exit 0,[])],pay:=.unit })]
def wt:Sg:=⟨[(false,(.sl true T5)),(false,(.sl true T5))],[(false,.bool)],UF⟩
theorem e94:tE nM xu 94 wt:=fun _=>by kernel_rfl
def nO:tL:=(94,wt)::nM
theorem nQ:tO nO:=SY nN e94
def xq:tA:=[(93,4,9,.loop { keep:=[0,1,7,11,9,8,12,6,10],kb:=[],pl:=[.slot 13 false zJ,.slot 4 false .bool],ex:=[(.ret,[]),(.exit 0,[])],pay:=.unit })]
def wq:Sg:=⟨[(false,(.sl false zJ)),(false,(.sl false zJ))],[(false,.bool)],Tz⟩
theorem e93:tE nO xq 93 wq:=fun _=>by kernel_rfl
def nR:tL:=(93,wq)::nO
theorem nS:tO nR:=SY nQ e93
def sG:Sg:=⟨[(true,T7),(true,T7)],[(false,.bool)],Wf⟩
theorem yp:tE nR [] 150 sG:=fun _=>by kernel_rfl
def nT:tL:=(150,sG)::nR
theorem nU:tO nT:=SY nS yp
def uv:tA:=[(193,8,25,.loop { keep:=[0,1,15,23,11,19,5,9,17,25,21,4,8,16,24,12,20,10,18,26,14,22],kb:=[0,19],pl:=[.slot 3 false zJ,.slot 27 false zJ,.slot 2 false zJ],ex:=[(.ret,[]),(.exit 0,[])],pay:=.unit })]
def tH:Sg:=⟨[(true,T7)],[zI,zI],XX⟩
theorem zh:tE nT uv 193 tH:=fun _=>by kernel_rfl
def nV:tL:=(193,tH)::nT
theorem nX:tO nV:=SY nU zh
def sc:Sg:=⟨[(true,T7)],[zI],W4⟩
theorem zM:tE nV [] 175 sc:=fun _=>by kernel_rfl
def nY:tL:=(175,sc)::nV
theorem nZ:tO nY:=SY nX zM
def sH:Sg:=⟨[(true,T7)],[zI,(false,.str),zI],VS⟩
theorem yq:tE nY [] 151 sH:=fun _=>by kernel_rfl
def na:tL:=(151,sH)::nY
theorem ng:tO na:=SY nZ yq
def se:Sg:=⟨[(false,.str)],[(false,.bool)],Vu⟩
theorem zN:tE na [] 176 se:=fun _=>by kernel_rfl
def nh:tL:=(176,se)::na
theorem ni:tO nh:=SY ng zN
def sJ:Sg:=⟨[(false,.str),(false,.str)],[zI],VY⟩
theorem yx:tE nh [] 153 sJ:=fun _=>by kernel_rfl
def nj:tL:=(153,sJ)::nh
theorem nk:tO nj:=SY ni yx
def sf:Sg:=⟨[zI],[(false,.bool)],Wk⟩
theorem zO:tE nj [] 177 sf:=fun _=>by kernel_rfl
def nl:tL:=(177,sf)::nj
theorem np:tO nl:=SY nk zO
def sK:Sg:=⟨[zI,zI],[zI],VC⟩
theorem yy:tE nl [] 154 sK:=fun _=>by kernel_rfl
def nq:tL:=(154,sK)::nl
theorem nr:tO nq:=SY np yy
def uj:tA:=[(152,3,5,.loop { keep:=[0,3,7,6],kb:=[],pl:=[.slot 2 false zJ,.slot 8 false zJ],ex:=[(.ret,[]),(.exit 0,[])],pay:=.unit })]
def sI:Sg:=⟨[(false,(.sl false zJ))],[zI],Xn⟩
theorem yu:tE nq uj 152 sI:=fun _=>by kernel_rfl
def nu:tL:=(152,sI)::nq
theorem nv:tO nu:=SY nr yu
def uY:tA:=[(128,7,24,.loop { keep:=[0,1,15,31,23,19,27,5,17,25,13,29,4,16,24,12,28,18,26,14,22,30],kb:=[0],pl:=[.slot 3 false zJ,.slot 2 false zJ,.slot 32 false zJ],ex:=[(.ret,[]),(.exit 0,[])],pay:=.unit }),(128,18,49,.loop { keep:=[0,1,15,31,63,23,71,55,19,67,51,27,59,5,9,17,65,25,57,13,69,53,29,61,4,8,16,32,64,24,56,12,68,52,28,60,18,66,26,58,14,22,70,54,30,62],kb:=[0],pl:=[.slot 3 false zJ,.slot 2 false zJ,.slot 72 false zJ],ex:=[(.ret,[]),(.exit 2,[])],pay:=.unit })]
def rV:Sg:=⟨[(true,T9)],[zI,zI],V5⟩
theorem yQ:tE nu uY 128 rV:=fun _=>by kernel_rfl
def ny:tL:=(128,rV)::nu
theorem nz:tO ny:=SY nv yQ
theorem zw:MD Tryz.prog (λf => !pu f) 1000 100 179=true:=by kernel_rfl
theorem zQ (a:Ty.den zJ) (l:List (Ty.den zJ)):OU Tryz.prog (Ae pu ny) (RM []) 3000 60 179 [(false,(.sl false zJ))] [(false,(.sl false zJ))] (a::l)=UE (a::l):=by kernel_rfl
def oA:tL:=(179,⟨[(false,(.sl false zJ))],[(false,(.sl false zJ))],UE⟩)::ny
theorem oB:tO oA:=SZ (gg:=false) (c:=zJ) nz zw rfl zQ
theorem z8:Ox Tryz.prog (λf => !pu f) 1000 100 179=true:=by kernel_rfl
theorem AAC (a:Ty.den zJ) (l:List (Ty.den zJ)):P2 Tryz.prog (Ae pu oA) (RM []) 3000 60 179 [(false,(.sl false zJ))] false zJ (a::l)=UE (a::l):=by kernel_rfl
def oC:tL:=(179+Cs,⟨[(false,(.sl false zJ))],[(false,(.sl false zJ))],UE⟩)::oA
theorem oD:tO oC:=Sa (gg:=false) (c:=zJ) oB z8 rfl (λa l y h=>R8 h) AAC
end Go.Proofs.YtfipnhjfbebeiaaGreatDoor.Pt
