/- The evaluator comes to each of the plain functions. No condition. -/
import Derived.Test.YtbahicnpiefmlaaGreatDoorPt9
set_option linter.all false
namespace Go.Proofs.YtbahicnpiefmlaaGreatDoor.Pt
open Go Sv Pl
set_option maxRecDepth 1000000
def rN:tA:=[(128,5,13,.loop { keep:=[0,1,7,15,11,9,13,2,12,6,10,14],kb:=[0],pl:=[.slot 5 false zJ,.slot 4 false zJ,.slot 8 false zJ],ex:=[(.ret,[]),(.exit 0,[])],pay:=.unit })]
def oK:Sg:=⟨[(true,Xq),zI],[zI,zI],XT⟩
theorem ux:tE dz rN 128 oK:=fun _=>by kernel_rfl
def d6:tL:=(128,oK)::dz
theorem ga:tO d6:=SX gZ ux
def t4:Sg:=⟨[(true,Xq),zI],[zI,zI],XU⟩
theorem yH:tE d6 [] 70 t4:=fun _=>by kernel_rfl
def d7:tL:=(70,t4)::d6
theorem gb:tO d7:=SX ga yH
def tN:Sg:=⟨[(true,Xq),zI],[zI,zI],Ve⟩
theorem xc:tE d7 [] 18 tN:=fun _=>by kernel_rfl
def d8:tL:=(18,tN)::d7
theorem gf:tO d8:=SX gb xc
def uY:tA:=[(20,4,12,.loop { keep:=[0,1,3,11,5,13,2,4,12,10,14],kb:=[0],pl:=[.slot 7 false zJ,.slot 6 false zJ],ex:=[(.exit 0,[])],pay:=.unit })]
def tR:Sg:=⟨[(true,Xq)],[zI,zI],Xj⟩
theorem xe:tE d8 uY 20 tR:=fun _=>by kernel_rfl
def d9:tL:=(20,tR)::d8
theorem gh:tO d9:=SX gf xe
def uc:tA:=[(41,6,15,.loop { keep:=[0,1,3,15,11,5,9,13,2,4,12,6,10,14],kb:=[0],pl:=[.slot 7 false zJ,.slot 8 false zJ],ex:=[(.exit 0,[])],pay:=.unit })]
def tn:Sg:=⟨[(true,T4)],[zI,zI,zI],WH⟩
theorem yA:tE d9 uc 41 tn:=fun _=>by kernel_rfl
def eA:tL:=(41,tn)::d9
theorem gi:tO eA:=SX gh yA
def tV:Sg:=⟨[(true,Xq)],[zI,zI],WK⟩
theorem xg:tE eA [] 22 tV:=fun _=>by kernel_rfl
def eB:tL:=(22,tV)::eA
theorem gj:tO eB:=SX gi xg
def tX:Sg:=⟨[(true,Xq)],[zI,zI],W5⟩
theorem xi:tE eB [] 24 tX:=fun _=>by kernel_rfl
def eC:tL:=(24,tX)::eB
theorem gm:tO eC:=SX gj xi
def tZ:Sg:=⟨[(true,Xq)],[(false,.bool),zI],XD⟩
theorem xp:tE eC [] 26 tZ:=fun _=>by kernel_rfl
def i4:tL:=(26,tZ)::eC
theorem gn:tO i4:=SX gm xp
theorem e3 (x:AP [(true,Xq),zI]):OU Tryz.prog (Ae pu i4) (RL []) 3000 60 3 [(true,Xq),zI] [(false,.bool)] x=Vi x:=by kernel_rfl
theorem YB {x:AP [(true,Xq),zI]} (h:Vi x=some true) {ps:List Pi.PV} (c:Df [(true,Xq),zI] x ps) {M:Pi.Ap} (gl:Pi.GlOK M) {w:World} (b : ∀ a v,M a=some v->a.spot=none/\w.cell? a=some v) {vs:List Value} (d:Pi.RepL M Pi.mu0 ps vs) :
  Calls Tryz.prog 3 vs.toArray w λe w'=>e = .returned (.bool true)/\RowKit.Grown w w':=Rz Gv.prim gn ((e3 x).trans h) c gl b d
end Go.Proofs.YtbahicnpiefmlaaGreatDoor.Pt
