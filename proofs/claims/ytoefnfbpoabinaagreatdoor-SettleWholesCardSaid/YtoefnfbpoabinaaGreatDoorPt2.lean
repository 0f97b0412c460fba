/- The evaluator comes to each of the plain functions. No condition. -/
import Derived.Test.YtoefnfbpoabinaaGreatDoorPt1
set_option linter.all false
open Bool renaming true->zt, false->zf
namespace Go.Proofs.YtoefnfbpoabinaaGreatDoor.Pt
open Go Sv Pl
set_option maxRecDepth 1000000
def wQ:tA:=[(161,4,9,.loop { keep:=[0,1,7,11,9,8,12,6,10],kb:=[],pl:=[.slot 13 zf zJ,.slot 4 zf .bool],ex:=[(.ret,[]),(.exit 0,[])],pay:=.unit })]
def tR:Sg:=⟨[(zf,(.sl zf zJ)),(zf,(.sl zf zJ))],[(zf,.bool)],Vn⟩
theorem AAi:tQ nG wQ 161 tR:=fun _=>by kernel_rfl
def nI:tL:=(161,tR)::nG
theorem nJ:tO nI:=UE nH AAi
def t7:Sg:=⟨[(zt,T7),(zt,T7)],[(zf,.bool)],YB⟩
theorem AA7:tQ nI [] 215 t7:=fun _=>by kernel_rfl
def nK:tL:=(215,t7)::nI
theorem nL:tO nK:=UE nJ AA7
def wv:tA:=[(261,8,25,.loop { keep:=[0,1,15,23,11,19,5,9,17,25,21,4,8,16,24,12,20,10,18,26,14,22],kb:=[0,19],pl:=[.slot 3 zf zJ,.slot 27 zf zJ,.slot 2 zf zJ],ex:=[(.ret,[]),(.exit 0,[])],pay:=.unit })]
def uR:Sg:=⟨[(zt,T7)],[zI,zI],Yr⟩
theorem ABP:tQ nK wv 261 uR:=fun _=>by kernel_rfl
def nM:tL:=(261,uR)::nK
theorem nN:tO nM:=UE nL ABP
def uJ:Sg:=⟨[(zt,T7)],[zI],YT⟩
theorem ABG:tQ nM [] 242 uJ:=fun _=>by kernel_rfl
def nO:tL:=(242,uJ)::nM
theorem nQ:tO nO:=UE nN ABG
def t8:Sg:=⟨[(zt,T7)],[zI,(zf,.str),zI],Ws⟩
theorem AA8:tQ nO [] 216 t8:=fun _=>by kernel_rfl
def nR:tL:=(216,t8)::nO
theorem nS:tO nR:=UE nQ AA8
def uK:Sg:=⟨[(zf,.str)],[(zf,.bool)],XM⟩
theorem ABH:tQ nR [] 243 uK:=fun _=>by kernel_rfl
def nT:tL:=(243,uK)::nR
theorem nU:tO nT:=UE nS ABH
def t9:Sg:=⟨[(zf,.str),(zf,.str)],[zI],W0⟩
theorem AA9:tQ nT [] 217 t9:=fun _=>by kernel_rfl
def nV:tL:=(217,t9)::nT
theorem nX:tO nV:=UE nU AA9
def uL:Sg:=⟨[zI],[(zf,.bool)],YF⟩
theorem ABI:tQ nV [] 244 uL:=fun _=>by kernel_rfl
def nY:tL:=(244,uL)::nV
theorem nZ:tO nY:=UE nX ABI
def uC:Sg:=⟨[zI,zI],[zI],Wf⟩
theorem ABA:tQ nY [] 218 uC:=fun _=>by kernel_rfl
def na:tL:=(218,uC)::nY
theorem nf:tO na:=UE nZ ABA
def kz:tA:=[(128,3,5,.loop { keep:=[0,3,7,6],kb:=[],pl:=[.slot 2 zf zJ,.slot 8 zf zJ],ex:=[(.ret,[]),(.exit 0,[])],pay:=.unit })]
def sf:Sg:=⟨[(zf,(.sl zf zJ))],[zI],Wk⟩
theorem us:tQ na kz 128 sf:=fun _=>by kernel_rfl
def ng:tL:=(128,sf)::na
theorem nh:tO ng:=UE nf us
def wb:tA:=[(194,7,24,.loop { keep:=[0,1,15,31,23,19,27,5,17,25,13,29,4,16,24,12,28,18,26,14,22,30],kb:=[0],pl:=[.slot 3 zf zJ,.slot 2 zf zJ,.slot 32 zf zJ],ex:=[(.ret,[]),(.exit 0,[])],pay:=.unit }),(194,18,49,.loop { keep:=[0,1,15,31,63,23,71,55,19,67,51,27,59,5,9,17,65,25,57,13,69,53,29,61,4,8,16,32,64,24,56,12,68,52,28,60,18,66,26,58,14,22,70,54,30,62],kb:=[0],pl:=[.slot 3 zf zJ,.slot 2 zf zJ,.slot 72 zf zJ],ex:=[(.ret,[]),(.exit 2,[])],pay:=.unit })]
def tn:Sg:=⟨[(zt,T9)],[zI,zI],XW⟩
theorem AAv:tQ ng wb 194 tn:=fun _=>by kernel_rfl
def ni:tL:=(194,tn)::ng
theorem nj:tO ni:=UE nh AAv
theorem ABW:Mx Tryz.prog (λf=> !pu f) 1000 100 246=zt:=by kernel_rfl
theorem ABJ(a:Ty.den zJ)(l:List (Ty.den zJ)):NV Tryz.prog (Af pu ni) (SO []) 3000 60 246 [(zf,(.sl zf zJ))] [(zf,(.sl zf zJ))] (a::l)=Vq (a::l):=by kernel_rfl
def nk:tL:=(246,⟨[(zf,(.sl zf zJ))],[(zf,(.sl zf zJ))],Vq⟩)::ni
theorem nl:tO nk:=UF (gg:=false) (c:=zJ) nj ABW rfl ABJ
theorem ABZ:Ps Tryz.prog (λf=> !pu f) 1000 100 246=zt:=by kernel_rfl
theorem AB7(a:Ty.den zJ)(l:List (Ty.den zJ)):Qu Tryz.prog (Af pu nk) (SO []) 3000 60 246 [(zf,(.sl zf zJ))] zf zJ (a::l)=Vq (a::l):=by kernel_rfl
def np:tL:=(246+C2,⟨[(zf,(.sl zf zJ))],[(zf,(.sl zf zJ))],Vq⟩)::nk
theorem nq:tO np:=UG (gg:=false) (c:=zJ) nl ABZ rfl (λa l y h=>Tb h) AB7
theorem ABT(x:AO [zI,zI,(zt,zD)]):Qs Tryz.prog (Af pu np) (SO []) 3000 60 270 [zI,zI,(zt,zD)] [(zf,.bool)] x=WB x:=by kernel_rfl
def nr:tL:=(3145998,⟨[zI,zI,(zt,zD)],[(zf,.bool)],WB⟩)::np
theorem nu:tO nr:=Ud (f:=270) nq ABT
end Go.Proofs.YtoefnfbpoabinaaGreatDoor.Pt
