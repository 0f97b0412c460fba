/- The evaluator comes to each of the plain functions. No condition. -/
import Derived.Test.YtoefnfbpoabinabGreatDoorPt7
set_option linter.all false
open Option renaming some->zo, none->zn
open Bool renaming true->zt, false->zf
namespace Go.Proofs.YtoefnfbpoabinabGreatDoor.Pt
open Go Sv Pl
set_option maxRecDepth 1000000
def ABA:Sg:=⟨[(zt,t9),(zt,t9)],[(zf,.bool)],Vw⟩
theorem e61:tQ kK [] 61 ABA:=fun _=>by kernel_rfl
def kL:tL:=(61,ABA)::kK
theorem mq:tO kL:=Tb mo e61
def ABG:Sg:=⟨[(zt,dM),(zt,dM)],[(zf,.bool)],YZ⟩
theorem e69:tQ kL [] 69 ABG:=fun _=>by kernel_rfl
def kM:tL:=(69,ABG)::kL
theorem mr:tO kM:=Tb mq e69
def wu:tA:=[(36,4,26,.loop { keep:=[0,1,3,7,15,23,11,19,27,9,17,25,13,21,2,8,16,24,12,20,6,10,18,26,14,22],kb:=[0,1],pl:=[.slot 5 zf zJ,.slot 4 zf .bool],ex:=[(.ret,[]),(.exit 0,[])],pay:=.unit })]
def AA2:Sg:=⟨[(zt,dW),(zt,dW)],[(zf,.bool)],YA⟩
theorem e36:tQ kM wu 36 AA2:=fun _=>by kernel_rfl
def kO:tL:=(36,AA2)::kM
theorem mu:tO kO:=Tb mr e36
def AAs:Sg:=⟨[(zt,gm),(zt,gm)],[(zf,.bool)],ZW⟩
theorem e16:tQ kO [] 16 AAs:=fun _=>by kernel_rfl
def kP:tL:=(16,AAs)::kO
theorem mv:tO kP:=Tb mu e16
def AAt:Sg:=⟨[zI,zI],[zI,zI],Ys⟩
theorem e17:tQ kP [] 17 AAt:=fun _=>by kernel_rfl
def kQ:tL:=(17,AAt)::kP
theorem mw:tO kQ:=Tb mv e17
def an8:tA:=[(8,4,7,.loop { keep:=[0,1,7,9,8,6,10],kb:=[],pl:=[.slot 5 zf zJ,.slot 4 zf .bool],ex:=[(.ret,[]),(.exit 0,[])],pay:=.unit })]
def sg8:Sg:=⟨[(zf,(.sl zt T2)),(zf,(.sl zt T2))],[(zf,.bool)],Ym⟩
theorem e8:tQ kQ an8 8 sg8:=fun _=>by kernel_rfl
def oi:tL:=(8,sg8)::kQ
theorem my:tO oi:=Tb mw e8
def an4:tA:=[(4,1009009,39,.join { keep:=[0,1,3,7,47,23,39,11,35,27,43,5,9,17,33,49,25,41,21,37,45,2,4,8,48,24,40,20,36,44,6,10,18,34,26,42,22,38,46],kb:=[0,10],pl0:=[],pl1:=[.slot 91 zf .bool],ex:=[],pay:=.unit }),(4,1018018,72,.join { keep:=[0,1,3,7,15,127,95,47,23,39,135,103,11,35,131,99,27,43,139,91,5,9,17,33,129,97,49,25,41,137,13,21,37,133,101,45,93,2,4,8,128,96,48,24,40,136,12,20,36,132,44,140,92,6,10,18,34,130,98,26,42,138,14,22,38,134,102,46,94,126],kb:=[0,45,10],pl0:=[],pl1:=[.slot 190 zf .bool],ex:=[],pay:=.unit })]
theorem e4(x:AO [(zt,gm)]):ND Tryz.prog (Af pu oi) (R3 an4) 3000 60 4 [(zt,gm)] [(zf,.bool)] x=Wm x:=by kernel_rfl
theorem aQ{x:AO [(zt,gm)]}(h:Wm x=zo zt){ps:List Pi.PV}(c:DU [(zt,gm)] x ps){M:Pi.Al}(gl:Pi.GlOK M){w:World}(b:∀ a v,M a=zo v->a.spot=zn/\w.cell? a=zo v){vs:List Value}(d:Pi.RepL M Pi.mu0 ps vs) :
  Calls Tryz.prog 4 vs.toArray w λe w'=>e=.returned (.bool zt)/\Pi.WStays w w':=Sz Gs.prim my ((e4 x).trans h) c gl b d
end Go.Proofs.YtoefnfbpoabinabGreatDoor.Pt
