/- The evaluator comes to each of the plain functions. No condition. -/
import Derived.Test.YtfipnhjfbebeiabGreatDoorPt9
set_option linter.all false
namespace Go.Proofs.YtfipnhjfbebeiabGreatDoor.Pt
open Go Sv Pl
set_option maxRecDepth 1000000
def uR:tA:=[(172,2,2,.loop { keep:=[0,1],kb:=[],pl:=[.slot 5 false zJ,.slot 4 false .bool],ex:=[(.ret,[]),(.exit 0,[])],pay:=.unit })]
def rZ:Sg:=⟨[(false,(.sl true T2)),(false,(.sl true T2))],[(false,.bool)],WP⟩
theorem yG:tE gD uR 172 rZ:=fun _=>by kernel_rfl
def gE:tL:=(172,rZ)::gD
theorem jN:tO gE:=SY jM yG
def rD:Sg:=⟨[(true,T3),(true,T3)],[(false,.bool)],Wh⟩
theorem xe:tE gE [] 144 rD:=fun _=>by kernel_rfl
def gF:tL:=(144,rD)::gE
theorem jO:tO gF:=SY jN xe
def xC:tA:=[(92,4,7,.loop { keep:=[0,1,7,9,8,6,10],kb:=[],pl:=[.slot 5 false zJ,.slot 4 false .bool],ex:=[(.ret,[]),(.exit 0,[])],pay:=.unit })]
def wG:Sg:=⟨[(false,(.sl true T3)),(false,(.sl true T3))],[(false,.bool)],WQ⟩
theorem e92:tE gF xC 92 wG:=fun _=>by kernel_rfl
def gG:tL:=(92,wG)::gF
theorem jP:tO gG:=SY jO e92
def wj:tA:=[(40,4,18,.loop { keep:=[0,1,3,7,15,11,19,9,17,13,2,8,16,12,6,10,18,14],kb:=[0,1],pl:=[.slot 5 false zJ,.slot 4 false .bool],ex:=[(.ret,[]),(.exit 0,[])],pay:=.unit })]
def vR:Sg:=⟨[(true,T4),(true,T4)],[(false,.bool)],Xs⟩
theorem e40:tE gG wj 40 vR:=fun _=>by kernel_rfl
def gH:tL:=(40,vR)::gG
theorem jQ:tO gH:=SY jP e40
def vS:Sg:=⟨[(true,Z7),(true,Z7)],[(false,.bool)],Wj⟩
theorem e41:tE gH [] 41 vS:=fun _=>by kernel_rfl
def gI:tL:=(41,vS)::gH
theorem jR:tO gI:=SY jQ e41
def wV:tA:=[(10,4,26,.loop { keep:=[0,1,3,7,15,23,11,19,27,9,17,25,13,21,2,8,16,24,12,20,6,10,18,26,14,22],kb:=[0,1],pl:=[.slot 5 false zJ,.slot 4 false .bool],ex:=[(.ret,[]),(.exit 0,[])],pay:=.unit })]
def uw:Sg:=⟨[(true,Ye),(true,Ye)],[(false,.bool)],Xu⟩
theorem zi:tE gI wV 10 uw:=fun _=>by kernel_rfl
def gJ:tL:=(10,uw)::gI
theorem cK:tO gJ:=SY jR zi
theorem e3 (x:AP [(true,Ye),(true,th)]):OU Tryz.prog (Ae pu gJ) (RM []) 3000 60 3 [(true,Ye),(true,th)] [(false,.bool)] x=VD x:=by kernel_rfl
theorem Y7 {x:AP [(true,Ye),(true,th)]} (h:VD x=some true) {ps:List Pi.PV} (c:Df [(true,Ye),(true,th)] x ps) {M:Pi.Ap} (gl:Pi.GlOK M) {w:World} (b : ∀ a v,M a=some v->a.spot=none/\w.cell? a=some v) {vs:List Value} (d:Pi.RepL M Pi.mu0 ps vs) :
  Calls Tryz.prog 3 vs.toArray w λe w'=>e = .returned (.bool true)/\RowKit.Grown w w':=R0 Gv.prim cK ((e3 x).trans h) c gl b d
def tQ:tL:=(3,⟨[(true,Ye),(true,th)],[(false,.bool)],VD⟩)::gJ
theorem tq:tO tQ:=SY cK e3
end Go.Proofs.YtfipnhjfbebeiabGreatDoor.Pt
