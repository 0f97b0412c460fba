/- The evaluator comes to each of the plain functions. No condition. -/
import Derived.Test.YtfipnhjfbebeiaaGreatDoorPt10
set_option linter.all false
namespace Go.Proofs.YtfipnhjfbebeiaaGreatDoor.Pt
open Go Sv Pl
set_option maxRecDepth 1000000
def vg:Sg:=⟨[(true,XL),zI],[(true,XL),(false,.bool),zI],VN⟩
theorem e28:tE f9 [] 28 vg:=fun _=>by kernel_rfl
def gA:tL:=(28,vg)::f9
theorem jh:tO gA:=SY jg e28
def an9:tA:=[(9,7,24,.loop { keep:=[0,1,7,15,23,19,27,17,25,21,29,2,4,8,16,24,20,28,18,26,14,22,30],kb:=[],pl:=[.slot 5 false zJ,.slot 9 false zJ,.slot 6 false zJ,.box 1 [.lf zJ,.lf (.sl true (.sl true T3)),.lf (.sl true ZL),.lf zJ],.box 0 [.lf zJ,.lf (.sl true (.sl true T3)),.lf (.sl true ZL),.lf zJ]],ex:=[(.exit 0,[]),(.ret,[])],pay:=.unit })]
def sg9:Sg:=⟨[(true,XL),zI],[(true,XL),zI,zI],Wx⟩
theorem e9:tE gA an9 9 sg9:=fun _=>by kernel_rfl
def gB:tL:=(9,sg9)::gA
theorem ji:tO gB:=SY jh e9
def w7:tA:=[(17,2,2,.loop { keep:=[0,1],kb:=[],pl:=[.slot 5 false zJ,.slot 4 false .bool],ex:=[(.ret,[]),(.exit 0,[])],pay:=.unit })]
def vS:Sg:=⟨[(false,(.sl true T2)),(false,(.sl true T2))],[(false,.bool)],WU⟩
theorem e17:tE gB w7 17 vS:=fun _=>by kernel_rfl
def gC:tL:=(17,vS)::gB
theorem jj:tO gC:=SY ji e17
def rG:Sg:=⟨[(true,T3),(true,T3)],[(false,.bool)],Wm⟩
theorem yC:tE gC [] 110 rG:=fun _=>by kernel_rfl
def gD:tL:=(110,rG)::gC
theorem jk:tO gD:=SY jj yC
def xS:tA:=[(65,4,7,.loop { keep:=[0,1,7,9,8,6,10],kb:=[],pl:=[.slot 5 false zJ,.slot 4 false .bool],ex:=[(.ret,[]),(.exit 0,[])],pay:=.unit })]
def wO:Sg:=⟨[(false,(.sl true T3)),(false,(.sl true T3))],[(false,.bool)],WV⟩
theorem e65:tE gD xS 65 wO:=fun _=>by kernel_rfl
def gE:tL:=(65,wO)::gD
theorem jl:tO gE:=SY jk e65
def xE:tA:=[(29,4,18,.loop { keep:=[0,1,3,7,15,11,19,9,17,13,2,8,16,12,6,10,18,14],kb:=[0,1],pl:=[.slot 5 false zJ,.slot 4 false .bool],ex:=[(.ret,[]),(.exit 0,[])],pay:=.unit })]
def vi:Sg:=⟨[(true,T4),(true,T4)],[(false,.bool)],Xx⟩
theorem e29:tE gE xE 29 vi:=fun _=>by kernel_rfl
def gF:tL:=(29,vi)::gE
theorem jm:tO gF:=SY jl e29
def vj:Sg:=⟨[(true,ZL),(true,ZL)],[(false,.bool)],Wn⟩
theorem e30:tE gF [] 30 vj:=fun _=>by kernel_rfl
def gG:tL:=(30,vj)::gF
theorem jo:tO gG:=SY jm e30
def wy:tA:=[(10,4,26,.loop { keep:=[0,1,3,7,15,23,11,19,27,9,17,25,13,21,2,8,16,24,12,20,6,10,18,26,14,22],kb:=[0,1],pl:=[.slot 5 false zJ,.slot 4 false .bool],ex:=[(.ret,[]),(.exit 0,[])],pay:=.unit })]
def vI:Sg:=⟨[(true,XL),(true,XL)],[(false,.bool)],VM⟩
theorem e10:tE gG wy 10 vI:=fun _=>by kernel_rfl
def gH:tL:=(10,vI)::gG
theorem jp:tO gH:=SY jo e10
def xU:tA:=[(66,6,15,.loop { keep:=[0,1,3,15,11,5,9,13,2,4,12,6,10,14],kb:=[0],pl:=[.slot 7 false zJ,.slot 8 false zJ],ex:=[(.exit 0,[])],pay:=.unit })]
def wP:Sg:=⟨[(true,T4)],[zI,zI,zI],Xd⟩
theorem e66:tE gH xU 66 wP:=fun _=>by kernel_rfl
def gI:tL:=(66,wP)::gH
theorem jq:tO gI:=SY jp e66
def vk:Sg:=⟨[(true,XL)],[zI,zI],Wo⟩
theorem e31:tE gI [] 31 vk:=fun _=>by kernel_rfl
def gJ:tL:=(31,vk)::gI
theorem jr:tO gJ:=SY jq e31
def vK:Sg:=⟨[(true,XL)],[(true,XL),zI,zI],WM⟩
theorem e12:tE gJ [] 12 vK:=fun _=>by kernel_rfl
def lQ:tL:=(12,vK)::gJ
theorem jt:tO lQ:=SY jr e12
theorem e3 (x:AP [(true,XL),zI]):OU Tryz.prog (Ae pu lQ) (RM []) 3000 60 3 [(true,XL),zI] [(false,.bool)] x=WR x:=by kernel_rfl
theorem Yx {x:AP [(true,XL),zI]} (h:WR x=some true) {ps:List Pi.PV} (c:Df [(true,XL),zI] x ps) {M:Pi.Ap} (gl:Pi.GlOK M) {w:World} (b : ∀ a v,M a=some v->a.spot=none/\w.cell? a=some v) {vs:List Value} (d:Pi.RepL M Pi.mu0 ps vs) :
  Calls Tryz.prog 3 vs.toArray w λe w'=>e = .returned (.bool true)/\RowKit.Grown w w':=R0 Gv.prim jt ((e3 x).trans h) c gl b d
end Go.Proofs.YtfipnhjfbebeiaaGreatDoor.Pt
