/- The evaluator comes to each of the plain functions. No condition. -/
import Derived.Test.YtoefnfbpoabinaaGreatDoorPt7
set_option linter.all false
open Option renaming some->zo, none->zn
open Bool renaming true->zt, false->zf
namespace Go.Proofs.YtoefnfbpoabinaaGreatDoor.Pt
open Go Sv Pl
set_option maxRecDepth 1000000
def sg9:Sg:=⟨[(zt,iy)],[(zf,(.sl zt T2)),zI],Ye⟩
theorem e9:tQ iT [] 9 sg9:=fun _=>by kernel_rfl
def iU:tL:=(9,sg9)::iT
theorem kO:tO iU:=Tb kM e9
def ui:tA:=[(94,1,27,.loop { keep:=[0,1,7,8,6],kb:=[0,17,21,22],pl:=[.slot 9 zf zJ,.box 1 [.lf zJ],.box 2 [.lf zJ]],ex:=[(.exit 0,[(22,0,zn)])],pay:=.unit }),(94,4,37,.loop { keep:=[0,1,7,15,11,9,13,4,8,16,12,6,10,14],kb:=[0,17,21,22,30],pl:=[.slot 5 zf zJ,.box 1 [.lf zJ],.box 2 [.lf zJ]],ex:=[(.exit 2,[(22,0,zn)])],pay:=.unit })]
def yL:Sg:=⟨[(zt,T4)],[zI,zI,zI],XS⟩
theorem e29:tQ iU ui 29 yL:=fun _=>by kernel_rfl
def iV:tL:=(29,yL)::iU
theorem kP:tO iV:=Tb kO e29
def yW:Sg:=⟨[zI,zI],[zI,zI],Xk⟩
theorem e62:tQ iV [] 62 yW:=fun _=>by kernel_rfl
def iW:tL:=(62,yW)::iV
theorem kQ:tO iW:=Tb kP e62
def uj:tA:=[(30,4,5,.loop { keep:=[0,1,9,8],kb:=[],pl:=[.slot 5 zf zJ,.slot 4 zf zJ,.slot 10 zf zJ],ex:=[(.ret,[]),(.exit 0,[])],pay:=.unit })]
def yM:Sg:=⟨[zI,zI],[zI,zI],X6⟩
theorem e30:tQ iW uj 30 yM:=fun _=>by kernel_rfl
def iX:tL:=(30,yM)::iW
theorem kS:tO iX:=Tb kQ e30
def yN:Sg:=⟨[(zt,T2)],[(zf,.bool)],We⟩
theorem e32:tQ iX [] 32 yN:=fun _=>by kernel_rfl
def iY:tL:=(32,yN)::iX
theorem kT:tO iY:=Tb kS e32
def uc:tA:=[(63,2,76,.loop { keep:=[0,1,7,6],kb:=[0,23,60],pl:=[.slot 4 zf zJ,.slot 8 zf zJ],ex:=[(.ret,[]),(.exit 0,[])],pay:=.unit })]
def yC:Sg:=⟨[(zt,iy)],[(zf,.bool),zI],W2⟩
theorem e10:tQ iY uc 10 yC:=fun _=>by kernel_rfl
def iZ:tL:=(10,yC)::iY
theorem kU:tO iZ:=Tb kT e10
def ue:tA:=[(21,6,15,.loop { keep:=[0,1,3,15,11,5,9,13,2,4,12,6,10,14],kb:=[0],pl:=[.slot 7 zf zJ,.slot 8 zf zJ],ex:=[(.exit 0,[])],pay:=.unit })]
def yF:Sg:=⟨[(zt,T4)],[zI,zI,zI],Yc⟩
theorem e21:tQ iZ ue 21 yF:=fun _=>by kernel_rfl
def ib:tL:=(21,yF)::iZ
theorem kV:tO ib:=Tb kU e21
def uk:tA:=[(33,4,13,.loop { keep:=[0,1,7,15,11,9,13,8,16,12,10,14],kb:=[],pl:=[.slot 5 zf zJ,.slot 4 zf zJ,.slot 6 zf zJ],ex:=[(.ret,[]),(.exit 0,[])],pay:=.unit })]
def yO:Sg:=⟨[zI,zI],[zI,zI],Yd⟩
theorem e33:tQ ib uk 33 yO:=fun _=>by kernel_rfl
def ic:tL:=(33,yO)::ib
theorem kW:tO ic:=Tb kV e33
def yD:Sg:=⟨[(zt,iy)],[(zf,.bool),zI],XI⟩
theorem e11:tQ ic [] 11 yD:=fun _=>by kernel_rfl
def ie:tL:=(11,yD)::ic
theorem kX:tO ie:=Tb kW e11
def ud:tA:=[(12,4,7,.loop { keep:=[0,1,7,9,8,6,10],kb:=[],pl:=[.slot 5 zf zJ,.slot 4 zf .bool],ex:=[(.ret,[]),(.exit 0,[])],pay:=.unit })]
def yE:Sg:=⟨[(zf,(.sl zt T2)),(zf,(.sl zt T2))],[(zf,.bool)],YB⟩
theorem e12:tQ ie ud 12 yE:=fun _=>by kernel_rfl
def mN:tL:=(12,yE)::ie
theorem kY:tO mN:=Tb kX e12
theorem e3(x:AO [(zt,iy)]):ND Tryz.prog (Af pu mN) (R3 []) 3000 60 3 [(zt,iy)] [(zf,.bool)] x=WB x:=by kernel_rfl
theorem ZS{x:AO [(zt,iy)]}(h:WB x=zo zt){ps:List Pi.PV}(c:DU [(zt,iy)] x ps){M:Pi.Al}(gl:Pi.GlOK M){w:World}(b:∀ a v,M a=zo v->a.spot=zn/\w.cell? a=zo v){vs:List Value}(d:Pi.RepL M Pi.mu0 ps vs) :
  Calls Tryz.prog 3 vs.toArray w λe w'=>e=.returned (.bool zt)/\Pi.WStays w w':=Sz Gs.prim kY ((e3 x).trans h) c gl b d
end Go.Proofs.YtoefnfbpoabinaaGreatDoor.Pt
