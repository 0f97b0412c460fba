/- The evaluator comes to each of the plain functions. No condition. -/
import Derived.Test.YtfipnhjfbebeiabGreatDoorPt4
set_option linter.all false
namespace Go.Proofs.YtfipnhjfbebeiabGreatDoor.Pt
open Go Sv Pl
set_option maxRecDepth 1000000
def uH:tA:=[(163,7,24,.loop { keep:=[0,1,15,31,23,19,27,5,17,25,13,29,4,16,24,12,28,18,26,14,22,30],kb:=[0],pl:=[.slot 3 false zJ,.slot 2 false zJ,.slot 32 false zJ],ex:=[(.ret,[]),(.exit 0,[])],pay:=.unit }),(163,18,49,.loop { keep:=[0,1,15,31,63,23,71,55,19,67,51,27,59,5,9,17,65,25,57,13,69,53,29,61,4,8,16,32,64,24,56,12,68,52,28,60,18,66,26,58,14,22,70,54,30,62],kb:=[0],pl:=[.slot 3 false zJ,.slot 2 false zJ,.slot 72 false zJ],ex:=[(.ret,[]),(.exit 2,[])],pay:=.unit })]
def rT:Sg:=⟨[(true,T9)],[zI,zI],V8⟩
theorem yF:tE na uH 163 rT:=fun _=>by kernel_rfl
def nh:tL:=(163,rT)::na
theorem ni:tO nh:=SY ng yF
theorem zK:MD Tryz.prog (λf => !pu f) 1000 100 207=true:=by kernel_rfl
theorem yq (a:Ty.den zJ) (l:List (Ty.den zJ)):OU Tryz.prog (Ae pu nh) (RM []) 3000 60 207 [(false,(.sl false zJ))] [(false,(.sl false zJ))] (a::l)=UE (a::l):=by kernel_rfl
def nj:tL:=(207,⟨[(false,(.sl false zJ))],[(false,(.sl false zJ))],UE⟩)::nh
theorem nk:tO nj:=SZ (gg:=false) (c:=zJ) ni zK rfl yq
theorem zN:Ox Tryz.prog (λf => !pu f) 1000 100 207=true:=by kernel_rfl
theorem zR (a:Ty.den zJ) (l:List (Ty.den zJ)):P2 Tryz.prog (Ae pu nj) (RM []) 3000 60 207 [(false,(.sl false zJ))] false zJ (a::l)=UE (a::l):=by kernel_rfl
def nl:tL:=(207+Cs,⟨[(false,(.sl false zJ))],[(false,(.sl false zJ))],UE⟩)::nj
theorem np:tO nl:=Sa (gg:=false) (c:=zJ) nk zN rfl (λa l y h=>R8 h) zR
theorem zC (x:AP [zI,zI,(true,wU)]):P0 Tryz.prog (Ae pu nl) (RM []) 3000 60 219 [zI,zI,(true,wU)] [(false,.bool)] x=UZ x:=by kernel_rfl
def nq:tL:=(3145947,⟨[zI,zI,(true,wU)],[(false,.bool)],UZ⟩)::nl
theorem nr:tO nq:=Sr (f:=219) np zC
def uV:tA:=[(208,13,63,.loop { keep:=[0,1,3,7,31,63,47,55,11,19,35,51,27,43,59,9,17,33,49,25,41,57,13,21,37,53,29,61,2,4,8,32,24,40,56,12,20,36,52,28,44,60,6,18,34,50,26,42,58,14,38,54,30,46,62],kb:=[0,1,33,52],pl:=[.slot 5 false zJ,.slot 10 false zJ,.box 2 [.kp 33,.ow false zJ false,.lf zJ]],ex:=[(.exit 0,[])],pay:=.unit })]
def sR:Sg:=⟨[(true,T7),(true,T5)],[(true,T7),zI,zI],VI⟩
theorem yu:tE nq uV 208 sR:=fun _=>by kernel_rfl
def nu:tL:=(208,sR)::nq
theorem nv:tO nu:=SY nr yu
def uI:tA:=[(206,0,45,.loop { keep:=[0,1],kb:=[39,35,43,9,13,44],pl:=[.box 0 [.ow true T2 false],.box 1 [.ow false zJ false]],ex:=[(.ret,[(44,0,none)])],pay:=.unit }),(185,3,47,.loop { keep:=[0,1,11,13,4,10,14],kb:=[0,1,39,27,13,30],pl:=[.slot 15 false zJ,.srow 5 true T5 true],ex:=[(.exit 0,[])],pay:=.unit }),(206,0,72,.loop { keep:=[0,1],kb:=[47,39,71,9,13,53,66,70,30],pl:=[.box 0 [.ow true T2 false],.box 1 [.ow false zJ false],.box 62 [.kp 30,.ow false zJ true,.lf (.sl true T5),.lf (.sl false zJ),.lf zJ]],ex:=[(.ret,[(71,0,none)])],pay:=.unit })]
def rU:Sg:=⟨[(false,(.sl false (.sl true T2)))],[(false,(.sl true T2)),(false,(.sl false zJ)),zI],YD⟩
theorem yG:tE nu uI 164 rU:=fun _=>by kernel_rfl
def ny:tL:=(164,rU)::nu
theorem nz:tO ny:=SY nv yG
def sS:Sg:=⟨[(true,pM)],[zI],WS⟩
theorem yx:tE ny [] 209 sS:=fun _=>by kernel_rfl
def oA:tL:=(209,sS)::ny
theorem oB:tO oA:=SY nz yx
def sZ:Sg:=⟨[(true,T2)],[(true,T2)],UP⟩
theorem zD:tE oA [] 254 sZ:=fun _=>by kernel_rfl
def oC:tL:=(254,sZ)::oA
theorem oD:tO oC:=SY oB zD
def uJ:tA:=[(192,5,24,.loop { keep:=[0,1,15,19,17,2,8,16,20,18,14],kb:=[],pl:=[.slot 7 false zJ,.slot 21 false zJ,.slot 6 false zJ,.box 19 [.lf .bool,.lf .str,.lf .bool],.box 0 [.ow true T2 false]],ex:=[(.ret,[]),(.exit 0,[])],pay:=.unit })]
def rV:Sg:=⟨[(false,(.sl true T2)),(false,.bool)],[(false,(.sl true T2)),zI,zI],Wq⟩
theorem yH:tE oC uJ 165 rV:=fun _=>by kernel_rfl
def oE:tL:=(165,rV)::oC
theorem oF:tO oE:=SY oD yH
def uK:tA:=[(166,4,9,.loop { keep:=[0,1,7,11,9,13,8,12,10],kb:=[],pl:=[.slot 4 false .bool,.slot 14 false zJ],ex:=[(.ret,[]),(.exit 0,[])],pay:=.unit })]
def rZ:Sg:=⟨[(false,(.sl true T2)),(false,(.sl true T2))],[(false,.bool)],WT⟩
theorem yI:tE oE uK 166 rZ:=fun _=>by kernel_rfl
def oG:tL:=(166,rZ)::oE
theorem oH:tO oG:=SY oF yI
def t7:tA:=[(127,6,18,.loop { keep:=[0,1,3,15,23,19,17,25,21,2,4,16,24,20,18,26,14],kb:=[0],pl:=[.slot 27 false zJ,.slot 5 false zJ],ex:=[(.exit 0,[])],pay:=.unit })]
def rC:Sg:=⟨[(true,dk)],[zI],XF⟩
theorem xf:tE oG t7 127 rC:=fun _=>by kernel_rfl
def oI:tL:=(127,rC)::oG
theorem oJ:tO oI:=SY oH xf
def t8:tA:=[(128,6,17,.loop { keep:=[0,1,3,15,11,19,5,9,17,13,2,4,12,10,18,14],kb:=[0],pl:=[.slot 20 false zJ,.slot 6 false zJ],ex:=[(.exit 0,[])],pay:=.unit })]
def rD:Sg:=⟨[(true,T9)],[zI,zI],Xl⟩
theorem xg:tE oI t8 128 rD:=fun _=>by kernel_rfl
def oK:tL:=(128,rD)::oI
theorem oL:tO oK:=SY oJ xg
def wF:Sg:=⟨[(true,dk)],[zI,zI],Uc⟩
theorem e85:tE oK [] 85 wF:=fun _=>by kernel_rfl
def oM:tL:=(85,wF)::oK
theorem oN:tO oM:=SY oL e85
def ra:Sg:=⟨[(true,T9)],[(true,T2),zI,(true,T9),zI],Uz⟩
theorem yJ:tE oM [] 167 ra:=fun _=>by kernel_rfl
def oO:tL:=(167,ra)::oM
theorem oQ:tO oO:=SY oN yJ
end Go.Proofs.YtfipnhjfbebeiabGreatDoor.Pt
