/- The evaluator comes to each of the plain functions. No condition. -/
import Derived.Test.YtbahicnpiefmlaaGreatDoorPt1
set_option linter.all false
namespace Go.Proofs.YtbahicnpiefmlaaGreatDoor.Pt
open Go Sv Pl
set_option maxRecDepth 1000000
def sE:tA:=[(223,4,12,.loop { keep:=[0,1,15,11,5,9,13,4,12,10,14],kb:=[0,3,8,6],pl:=[.slot 7 false zJ,.srow 6 true T5 false],ex:=[(.exit 0,[])],pay:=.unit })]
def pG:Sg:=⟨[(false,(.sl false (.sl true T2))),(false,(.sl false zJ))],[(true,T9)],VT⟩
theorem vp:tE jU sE 223 pG:=fun _=>by kernel_rfl
def jW:tL:=(223,pG)::jU
theorem jX:tO jW:=SX jV vp
def pC:Sg:=⟨[(false,(.sl false (.sl true T2)))],[(true,T9),zI,zI],Xs⟩
theorem vj:tE jW [] 219 pC:=fun _=>by kernel_rfl
def jY:tL:=(219,pC)::jW
theorem jZ:tO jY:=SX jX vj
def pD:Sg:=⟨[(false,.bool)],[(true,m6)],VU⟩
theorem vk:tE jY [] 220 pD:=fun _=>by kernel_rfl
def ja:tL:=(220,pD)::jY
theorem jc:tO ja:=SX jZ vk
def oU:Sg:=⟨[(false,(.sl false (.sl true T2))),(false,.bool)],[(true,cK),zI,zI],W3⟩
theorem vA:tE ja [] 148 oU:=fun _=>by kernel_rfl
def jd:tL:=(148,oU)::ja
theorem je:tO jd:=SX jc vA
def uH:Sg:=⟨[(true,T4),zI,(false,.bool)],[(true,Zj)],UI⟩
theorem yR:tE jd [] 84 uH:=fun _=>by kernel_rfl
def jf:tL:=(84,uH)::jd
theorem jg:tO jf:=SX je yR
def ug:tA:=[(67,7,25,.loop { keep:=[0,1,3,7,15,23,11,5,17,25,13,21,2,4,8,16,24,12,20,6,10,26,14,22],kb:=[0,1],pl:=[.slot 9 false zJ,.box 19 [.lf zJ,.lf (.sl true (.sl true T3)),.ow true Zj false,.lf zJ]],ex:=[(.exit 0,[])],pay:=.unit })]
def tv:Sg:=⟨[(true,T4)],[(true,Xq),zI],Zv⟩
theorem yE:tE jf ug 67 tv:=fun _=>by kernel_rfl
def jh:tL:=(67,tv)::jf
theorem ji:tO jh:=SX jg yE
def qC:Sg:=⟨[(false,.str)],[zI],WW⟩
theorem wZ:tE jh [] 294 qC:=fun _=>by kernel_rfl
def jj:tL:=(294,qC)::jh
theorem jk:tO jj:=SX ji wZ
def pk:Sg:=⟨[(true,T2)],[zI],U1⟩
theorem wL:tE jj [] 261 pk:=fun _=>by kernel_rfl
def jl:tL:=(261,pk)::jj
theorem jm:tO jl:=SX jk wL
def sV:tA:=[(285,4,8,.loop { keep:=[0,7,11,9,8,10],kb:=[],pl:=[.slot 3 false zJ,.slot 2 false zJ,.slot 12 false zJ],ex:=[(.ret,[]),(.exit 0,[])],pay:=.unit })]
def p8:Sg:=⟨[(false,(.sl true T2))],[zI,zI],UW⟩
theorem wU:tE jl sV 285 p8:=fun _=>by kernel_rfl
def jo:tL:=(285,p8)::jl
theorem jp:tO jo:=SX jm wU
def pW:Sg:=⟨[(true,T3)],[zI,zI],XV⟩
theorem wF:tE jo [] 250 pW:=fun _=>by kernel_rfl
def jq:tL:=(250,pW)::jo
theorem jr:tO jq:=SX jp wF
def o6:Sg:=⟨[(true,T3),zI],[zI],VS⟩
theorem vY:tE jq [] 197 o6:=fun _=>by kernel_rfl
def jt:tL:=(197,o6)::jq
theorem ju:tO jt:=SX jr vY
def rO:tA:=[(131,8,26,.loop { keep:=[0,1,15,23,11,19,27,5,17,25,13,21,29,16,24,12,20,28,18,26,14,22],kb:=[0],pl:=[.slot 3 false zJ,.slot 2 false zJ,.slot 4 false zJ,.slot 30 false zJ,.map 18 zJ false .bool],ex:=[(.exit 1,[])],pay:=.unit }),(131,14,44,.loop { keep:=[0,1,7,15,31,23,39,11,19,35,27,5,17,33,25,41,13,21,37,29,2,16,32,24,40,12,20,36,28,6,18,34,26,42,14,22,38,30],kb:=[0,30],pl:=[.slot 3 false zJ,.slot 43 false zJ,.slot 4 false zJ,.map 18 zJ false .bool],ex:=[(.exit 1,[]),(.exit 3,[])],pay:=.unit })]
def oL:Sg:=⟨[(true,T4)],[zI,zI,zI],VB⟩
theorem uy:tE jt rO 131 oL:=fun _=>by kernel_rfl
def jv:tL:=(131,oL)::jt
theorem jw:tO jv:=SX ju uy
def rQ:tA:=[(132,2,6,.loop { keep:=[0,1,7,9,8],kb:=[0],pl:=[.slot 2 false zJ,.slot 10 false zJ],ex:=[(.exit 0,[])],pay:=.unit }),(132,5,15,.loop { keep:=[0,1,7,15,11,9,13,4,8,16,12,10,14],kb:=[0,9],pl:=[.slot 17 false zJ,.slot 2 false zJ],ex:=[(.exit 2,[])],pay:=.unit })]
def oM:Sg:=⟨[(true,T4)],[zI],WJ⟩
theorem uz:tE jv rQ 132 oM:=fun _=>by kernel_rfl
def jx:tL:=(132,oM)::jv
theorem jy:tO jx:=SX jw uz
def oN:Sg:=⟨[(true,T4),zI],[(false,.bool)],VQ⟩
theorem u3:tE jx [] 133 oN:=fun _=>by kernel_rfl
def jz:tL:=(133,oN)::jx
theorem j0:tO jz:=SX jy u3
end Go.Proofs.YtbahicnpiefmlaaGreatDoor.Pt
