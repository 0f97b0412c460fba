/- The evaluator comes to each of the plain functions. No condition. -/
import Derived.Test.YtfceigpbgndbgaaGreatDoorPt6
set_option linter.all false
open Bool renaming true->zt, false->zf
namespace Go.Proofs.YtfceigpbgndbgaaGreatDoor.Pt
open Go Sv Pl
set_option maxRecDepth 1000000
def wX:tA:=[(208,6,8,.loop { keep:=[0,7,5,9,4,8,6],kb:=[],pl:=[.slot 3 zf zJ,.slot 2 zf zJ],ex:=[(.ret,[]),(.exit 0,[])],pay:=.unit })]
def tu:Sg:=⟨[(zf,(.sl zt T5))],[zI],YM⟩
theorem AA8:tQ qU wX 208 tu:=fun _=>by kernel_rfl
def qX:tL:=(208,tu)::qU
theorem qY:tO qX:=S6 qV AA8
def uU:Sg:=⟨[(zf,(.sl zt T5)),zI,zI],[(zf,.bool)],Xw⟩
theorem ABd:tQ qX [] 249 uU:=fun _=>by kernel_rfl
def qZ:tL:=(249,uU)::qX
theorem qc:tO qZ:=S6 qY ABd
theorem ABP(r:AP [(zf,(.sl zt T5)),zI]->Option (AP [zI,zI]))(x:AP [(zf,(.sl zt T5)),zI]):Ou Tryz.prog (Ae pu ((234,⟨[(zf,(.sl zt T5)),zI],[zI,zI],r⟩)::qZ)) (Rn []) 3000 60 234 [(zf,(.sl zt T5)),zI] [zI,zI] x=Ur r x:=by kernel_rfl
def gX:tL:=(234,⟨[(zf,(.sl zt T5)),zI],[zI,zI],Nb (α:=AP [(zf,(.sl zt T5)),zI]) (β:=AP [zI,zI]) Ur 100⟩)::qZ
theorem ji:tO gX:=TS qc ABP (by rfl) (by rfl) 100
def wY:tA:=[(209,3,11,.loop { keep:=[0,3,5,9,2,8,6],kb:=[0],pl:=[.slot 4 zf zJ,.box 8 [.ow zt T5 zf,.ow zf zJ zt,.lf zJ]],ex:=[(.exit 0,[])],pay:=.unit })]
def tv:Sg:=⟨[(zf,(.sl zt T5))],[(zt,T7)],Yf⟩
theorem AA9:tQ gX wY 209 tv:=fun _=>by kernel_rfl
def gY:tL:=(209,tv)::gX
theorem jj:tO gY:=S6 ji AA9
def tN:Sg:=⟨[(zf,(.sl zt T5))],[(zt,T7),zI],XT⟩
theorem AAs:tQ gY [] 178 tN:=fun _=>by kernel_rfl
def gZ:tL:=(178,tN)::gY
theorem jk:tO gZ:=S6 jj AAs
def wD:tA:=[(127,4,12,.loop { keep:=[0,1,15,11,5,9,13,4,12,10,14],kb:=[0,3,8,6],pl:=[.slot 7 zf zJ,.srow 6 zt T5 zf],ex:=[(.exit 0,[])],pay:=.unit })]
def sf:Sg:=⟨[(zf,(.sl zf (.sl zt T2))),(zf,(.sl zf zJ))],[(zt,T9)],WR⟩
theorem AAb:tQ gZ wD 127 sf:=fun _=>by kernel_rfl
def ga:tL:=(127,sf)::gZ
theorem jl:tO ga:=S6 jk AAb
def sY:Sg:=⟨[(zf,(.sl zf (.sl zt T2)))],[(zt,T9),zI,zI],Y9⟩
theorem AAX:tQ ga [] 123 sY:=fun _=>by kernel_rfl
def gb:tL:=(123,sY)::ga
theorem jm:tO gb:=S6 jl AAX
def sZ:Sg:=⟨[(zf,.bool)],[(zt,qk)],WS⟩
theorem AAY:tQ gb [] 124 sZ:=fun _=>by kernel_rfl
def gf:tL:=(124,sZ)::gb
theorem jo:tO gf:=S6 jm AAY
def yd:Sg:=⟨[(zf,(.sl zf (.sl zt T2))),(zf,.bool)],[(zt,fc),zI,zI],YO⟩
theorem e79:tQ gf [] 79 yd:=fun _=>by kernel_rfl
def gh:tL:=(79,yd)::gf
theorem jp:tO gh:=S6 jo e79
def yN:Sg:=⟨[(zt,T4),zI,(zf,.bool)],[(zt,bN)],Ux⟩
theorem e49:tQ gh [] 49 yN:=fun _=>by kernel_rfl
def gi:tL:=(49,yN)::gh
theorem jq:tO gi:=S6 jp e49
def wG:tA:=[(130,4,7,.loop { keep:=[0,1,7,9,8,6,10],kb:=[],pl:=[.slot 5 zf zJ,.slot 4 zf .bool],ex:=[(.ret,[]),(.exit 0,[])],pay:=.unit })]
def sq:Sg:=⟨[(zf,(.sl zf zJ)),(zf,(.sl zf zJ))],[(zf,.bool)],Ye⟩
theorem AAe:tQ gi wG 130 sq:=fun _=>by kernel_rfl
def gj:tL:=(130,sq)::gi
theorem jr:tO gj:=S6 jq AAe
def wH:tA:=[(131,4,26,.loop { keep:=[0,1,3,7,15,23,11,19,27,9,17,25,13,21,2,8,16,24,12,20,6,10,18,26,14,22],kb:=[0,1],pl:=[.slot 5 zf zJ,.slot 4 zf .bool],ex:=[(.ret,[]),(.exit 0,[])],pay:=.unit })]
def ss:Sg:=⟨[(zt,T7),(zt,T7)],[(zf,.bool)],Xu⟩
theorem AAf:tQ gj wH 131 ss:=fun _=>by kernel_rfl
def gm:tL:=(131,ss)::gj
theorem jt:tO gm:=S6 jr AAf
def wC:tA:=[(126,3,3,.loop { keep:=[0,1,4],kb:=[],pl:=[.slot 5 zf zJ,.slot 6 zf zJ],ex:=[(.exit 0,[])],pay:=.unit })]
def se:Sg:=⟨[(zf,(.sl zf (.sl zt T2))),(zf,(.sl zf zJ))],[zI],Wu⟩
theorem AAa:tQ gm wC 126 se:=fun _=>by kernel_rfl
def gn:tL:=(126,se)::gm
theorem ju:tO gn:=S6 jt AAa
def wB:tA:=[(125,7,21,.loop { keep:=[0,1,15,23,11,27,5,17,25,13,21,4,16,24,12,18,26,14,22],kb:=[0],pl:=[.slot 3 zf zJ,.slot 2 zf zJ,.slot 6 zf zJ],ex:=[(.ret,[]),(.exit 0,[])],pay:=.unit }),(125,15,38,.loop { keep:=[0,1,7,15,63,23,11,67,27,59,5,17,65,25,57,13,21,69,61,4,16,64,24,56,12,68,60,6,18,66,26,58,14,22,70,62],kb:=[0],pl:=[.slot 3 zf zJ,.slot 2 zf zJ,.slot 8 zf zJ],ex:=[(.ret,[]),(.exit 2,[])],pay:=.unit })]
def sc:Sg:=⟨[(zt,T9)],[zI,zI],Wt⟩
theorem AAZ:tQ gn wB 125 sc:=fun _=>by kernel_rfl
def gp:tL:=(125,sc)::gn
theorem jv:tO gp:=S6 ju AAZ
end Go.Proofs.YtfceigpbgndbgaaGreatDoor.Pt
