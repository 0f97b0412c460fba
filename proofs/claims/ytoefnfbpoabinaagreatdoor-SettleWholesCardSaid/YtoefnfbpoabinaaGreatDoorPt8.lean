/- The evaluator comes to each of the plain functions. No condition. -/
import Derived.Test.YtoefnfbpoabinaaGreatDoorPt7
set_option linter.all false
open Option renaming some->zo, none->zn
open Bool renaming true->zt, false->zf
namespace Go.Proofs.YtoefnfbpoabinaaGreatDoor.Pt
open Go Sv Pl
set_option maxRecDepth 1000000
def sg9:Sg:=⟨[(zt,jG)],[(zf,(.sl zt T2)),zI],Y5⟩
theorem e9:tQ il [] 9 sg9:=fun _=>by kernel_rfl
def im:tL:=(9,sg9)::il
theorem kZ:tO im:=UE kY e9
def uk:tA:=[(94,1,27,.loop { keep:=[0,1,7,8,6],kb:=[0,17,21,22],pl:=[.slot 9 zf zJ,.box 1 [.lf zJ],.box 2 [.lf zJ]],ex:=[(.exit 0,[(22,0,zn)])],pay:=.unit }),(94,4,37,.loop { keep:=[0,1,7,15,11,9,13,4,8,16,12,6,10,14],kb:=[0,17,21,22,30],pl:=[.slot 5 zf zJ,.box 1 [.lf zJ],.box 2 [.lf zJ]],ex:=[(.exit 2,[(22,0,zn)])],pay:=.unit })]
def yM:Sg:=⟨[(zt,T4)],[zI,zI,zI],Xp⟩
theorem e29:tQ im uk 29 yM:=fun _=>by kernel_rfl
def io:tL:=(29,yM)::im
theorem ka:tO io:=UE kZ e29
def yX:Sg:=⟨[zI,zI],[zI,zI],X9⟩
theorem e62:tQ io [] 62 yX:=fun _=>by kernel_rfl
def ip:tL:=(62,yX)::io
theorem kc:tO ip:=UE ka e62
def um:tA:=[(30,4,5,.loop { keep:=[0,1,9,8],kb:=[],pl:=[.slot 5 zf zJ,.slot 4 zf zJ,.slot 10 zf zJ],ex:=[(.ret,[]),(.exit 0,[])],pay:=.unit })]
def yN:Sg:=⟨[zI,zI],[zI,zI],YS⟩
theorem e30:tQ ip um 30 yN:=fun _=>by kernel_rfl
def iq:tL:=(30,yN)::ip
theorem ke:tO iq:=UE kc e30
def yO:Sg:=⟨[(zt,T2)],[(zf,.bool)],W3⟩
theorem e32:tQ iq [] 32 yO:=fun _=>by kernel_rfl
def ir:tL:=(32,yO)::iq
theorem kg:tO ir:=UE ke e32
def ue:tA:=[(63,2,76,.loop { keep:=[0,1,7,6],kb:=[0,23,60],pl:=[.slot 4 zf zJ,.slot 8 zf zJ],ex:=[(.ret,[]),(.exit 0,[])],pay:=.unit })]
def yD:Sg:=⟨[(zt,jG)],[(zf,.bool),zI],XR⟩
theorem e10:tQ ir ue 10 yD:=fun _=>by kernel_rfl
def iu:tL:=(10,yD)::ir
theorem kh:tO iu:=UE kg e10
def ug:tA:=[(21,6,15,.loop { keep:=[0,1,3,15,11,5,9,13,2,4,12,6,10,14],kb:=[0],pl:=[.slot 7 zf zJ,.slot 8 zf zJ],ex:=[(.exit 0,[])],pay:=.unit })]
def yG:Sg:=⟨[(zt,T4)],[zI,zI,zI],Yy⟩
theorem e21:tQ iu ug 21 yG:=fun _=>by kernel_rfl
def iv:tL:=(21,yG)::iu
theorem ki:tO iv:=UE kh e21
def un:tA:=[(33,4,13,.loop { keep:=[0,1,7,15,11,9,13,8,16,12,10,14],kb:=[],pl:=[.slot 5 zf zJ,.slot 4 zf zJ,.slot 6 zf zJ],ex:=[(.ret,[]),(.exit 0,[])],pay:=.unit })]
def yP:Sg:=⟨[zI,zI],[zI,zI],Yz⟩
theorem e33:tQ iv un 33 yP:=fun _=>by kernel_rfl
def iw:tL:=(33,yP)::iv
theorem kj:tO iw:=UE ki e33
def yE:Sg:=⟨[(zt,jG)],[(zf,.bool),zI],Xf⟩
theorem e11:tQ iw [] 11 yE:=fun _=>by kernel_rfl
def iy:tL:=(11,yE)::iw
theorem kl:tO iy:=UE kj e11
def uf:tA:=[(12,4,7,.loop { keep:=[0,1,7,9,8,6,10],kb:=[],pl:=[.slot 5 zf zJ,.slot 4 zf .bool],ex:=[(.ret,[]),(.exit 0,[])],pay:=.unit })]
def yF:Sg:=⟨[(zf,(.sl zt T2)),(zf,(.sl zt T2))],[(zf,.bool)],YX⟩
theorem e12:tQ iy uf 12 yF:=fun _=>by kernel_rfl
def mX:tL:=(12,yF)::iy
theorem km:tO mX:=UE kl e12
theorem e3(x:AO [(zt,jG)]):NV Tryz.prog (Af pu mX) (SO []) 3000 60 3 [(zt,jG)] [(zf,.bool)] x=Wa x:=by kernel_rfl
theorem Zo{x:AO [(zt,jG)]}(h:Wa x=zo zt){ps:List Pi.PV}(c:DZ [(zt,jG)] x ps){M:Pi.Ak}(gl:Pi.GlOK M){w:World}(b:∀ a v,M a=zo v->a.spot=zn/\w.cell? a=zo v){vs:List Value}(d:Pi.RepL M Pi.mu0 ps vs) :
  Calls Tryz.prog 3 vs.toArray w λe w'=>e=.returned (.bool zt)/\Pi.WStays w w':=TQ Gs.prim km ((e3 x).trans h) c gl b d
end Go.Proofs.YtoefnfbpoabinaaGreatDoor.Pt
