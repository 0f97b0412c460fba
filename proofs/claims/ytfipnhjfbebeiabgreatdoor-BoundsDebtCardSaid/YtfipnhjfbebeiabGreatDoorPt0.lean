/- The evaluator comes to each of the plain functions. No condition. -/
import Derived.Test.YtfipnhjfbebeiabGreatDoorPl4
import Derived.Test.YtfipnhjfbebeiabGreatDoorPg0
import Derived.Test.YtfipnhjfbebeiabGreatDoorProg
set_option linter.all false
namespace Go.Proofs.YtfipnhjfbebeiabGreatDoor.Pt
open Go Sv Pl
set_option maxRecDepth 1000000
def pu (g:Nat):Bool:=[2,3,4,5,6,7,8,9,10,11,12,13,14,15,16,17,18,19,20,21,22,23,24,25,26,27,28,29,30,31,32,33,34,35,36,37,38,39,40,41,42,43,44,45,46,47,48,49,50,51,52,53,56,57,58,62,63,64,66,67,68,69,70,71,72,73,74,75,76,77,78,79,80,83,84,85,86,87,92,93,94,95,96,97,98,99,100,101,102,103,104,105,111,112,113,114,115,116,117,118,119,120,121,122,123,126,127,128,132,133,134,144,147,148,149,151,153,156,157,158,159,160,162,163,164,165,166,167,168,169,172,175,177,178,179,180,181,182,183,184,186,187,188,189,190,198,199,200,201,202,203,204,205,207,208,209,210,211,212,213,214,215,218,254,255,256,264].any (Nat.beq g)||Nat.ble 1048576 g
@[reducible] def zJ:Ty:=.int .i64
@[reducible] def zI:Bool×Ty:=(false,zJ)
@[reducible] def T0:Ty:=.pair .bool zJ
@[reducible] def T1:Ty:=.pair .str T0
@[reducible] def T2:Ty:=.pair .str T1
@[reducible] def T3:Ty:=.pair zJ (.sl true T2)
@[reducible] def T4:Ty:=.pair zJ (.sl true (.sl true T3))
@[reducible] def T5:Ty:=.pair .str .bool
@[reducible] def T6:Ty:=.pair (.sl false zJ) zJ
@[reducible] def T7:Ty:=.pair (.sl true T5) T6
@[reducible] def T8:Ty:=.pair (.sl false zJ) T7
@[reducible] def T9:Ty:=.pair (.sl false (.sl true T2)) T8
@[reducible] def pM:Ty:=.pair .bool T5
@[reducible] def ze:Ty:=.pair (.sl true T2) zJ
@[reducible] def zf:Ty:=.pair pM ze
@[reducible] def dk:Ty:=.pair T9 zf
@[reducible] def aL:Ty:=.pair zJ dk
@[reducible] def zg:Ty:=.pair (.sl true aL) zJ
@[reducible] def Zk:Ty:=.pair T4 zg
@[reducible] def gm:Ty:=.pair T3 Zk
@[reducible] def wU:Ty:=.pair (.sl true T5) .unit
@[reducible] def zh:Ty:=.pair zJ zJ
@[reducible] def zi:Ty:=.pair zJ zh
@[reducible] def zj:Ty:=.pair zJ zi
@[reducible] def zk:Ty:=.pair gm zj
@[reducible] def wV:Ty:=.pair zk .unit
@[reducible] def zl:Ty:=.pair aL zJ
@[reducible] def tj:Ty:=.pair Zk zl
abbrev tL:=List (FuncId×Sg)
abbrev tA:=List (Nat×Nat×Nat×An)
abbrev tO (L:tL):Prop:=TabOK Tryz.prog (Ae pu L)
abbrev tE (L:tL) (a:tA) (f:Nat) (s:Sg):Prop:=∀ x,OU Tryz.prog (Ae pu L) (RM a) 3000 60 f s.dom s.cod x=s.fn x
def tM:tL:=[]
theorem qB:tO tM:=Sq _ _
def wt:tA:=[(48,3,4,.loop { keep:=[0,1],kb:=[0],pl:=[.slot 3 false zJ,.slot 2 false .bool,.slot 4 false zJ],ex:=[(.exit 0,[]),(.ret,[])],pay:=.unit }),(48,6,15,.loop { keep:=[0,1,15,19,17,13,21,4,16,12,20,18,14],kb:=[0],pl:=[.slot 3 false zJ,.slot 5 false zJ,.slot 2 false .bool],ex:=[(.exit 2,[]),(.ret,[])],pay:=.unit }),(48,11,47,.loop { keep:=[0,1,3,15,31,47,19,35,51,27,43,5,17,33,49,25,41,13,21,37,53,29,45,4,16,32,48,24,40,12,20,36,52,28,44,6,18,34,50,26,42,14,54,30,46],kb:=[0],pl:=[.slot 7 false zJ,.slot 2 false .bool],ex:=[(.ret,[]),(.exit 4,[])],pay:=.unit }),(48,18,5,.loop { keep:=[0,1,3,4],kb:=[0],pl:=[.slot 2 false .bool,.slot 8 false zJ],ex:=[(.ret,[]),(.exit 6,[])],pay:=.unit }),(48,25,55,.loop { keep:=[0,1,3,127,95,111,135,103,119,131,115,107,91,123,9,129,97,113,137,105,121,133,101,117,109,93,125,2,4,8,128,96,112,136,104,120,132,116,108,92,124,130,98,114,106,90,122,134,102,118,110,94,126],kb:=[0,20],pl:=[.slot 11 false zJ,.slot 10 false zJ],ex:=[(.exit 8,[])],pay:=.unit })]
def vW:Sg:=⟨[(true,Zk)],[(false,.bool)],YB⟩
theorem e48:tE tM wt 48 vW:=fun _=>by kernel_rfl
def tN:tL:=(48,vW)::tM
theorem qC:tO tN:=SY qB e48
def wY:tA:=[(14,2,3,.loop { keep:=[0,1],kb:=[0],pl:=[.slot 3 false zJ,.slot 2 false .bool],ex:=[(.ret,[]),(.exit 0,[])],pay:=.unit })]
def uy:Sg:=⟨[(true,gm)],[(false,.bool)],YC⟩
theorem zs:tE tN wY 14 uy:=fun _=>by kernel_rfl
def tQ:tL:=(14,uy)::tN
theorem qD:tO tQ:=SY qC zs
def tn:tA:=[(100,4,10,.loop { keep:=[0,1,7,11,9,13,8,12,10,14],kb:=[],pl:=[.slot 15 false zJ,.slot 4 false .bool],ex:=[(.ret,[]),(.exit 0,[])],pay:=.unit })]
def qg:Sg:=⟨[zI,(false,(.sl false zJ))],[(false,.bool)],Vs⟩
theorem xI:tE tQ tn 100 qg:=fun _=>by kernel_rfl
def tR:tL:=(100,qg)::tQ
theorem qE:tO tR:=SY qD xI
def wu:tA:=[(49,7,12,.loop { keep:=[0,1,15,11,5,9,13,4,8,12,10,14],kb:=[],pl:=[.slot 7 false zJ,.slot 6 false zJ],ex:=[(.exit 0,[])],pay:=.unit })]
def vX:Sg:=⟨[zI,zI],[zI,zI],Ve⟩
theorem e49:tE tR wu 49 vX:=fun _=>by kernel_rfl
def tU:tL:=(49,vX)::tR
theorem qG:tO tU:=SY qE e49
def vY:Sg:=⟨[zI,zI],[zI,zI],ZQ⟩
theorem e50:tE tU [] 50 vY:=fun _=>by kernel_rfl
def tV:tL:=(50,vY)::tU
theorem qH:tO tV:=SY qG e50
def vZ:Sg:=⟨[zI,zI,zI],[zI,zI],Yy⟩
theorem e51:tE tV [] 51 vZ:=fun _=>by kernel_rfl
def tW:tL:=(51,vZ)::tV
theorem qI:tO tW:=SY qH e51
def qi:Sg:=⟨[(false,.str),zI,(false,.bool)],[(true,T2)],V5⟩
theorem xK:tE tW [] 102 qi:=fun _=>by kernel_rfl
def tX:tL:=(102,qi)::tW
theorem qK:tO tX:=SY qI xK
def qh:Sg:=⟨[zI,(false,(.sl true T2))],[(true,T3)],WG⟩
theorem xJ:tE tX [] 101 qh:=fun _=>by kernel_rfl
def tY:tL:=(101,qh)::tX
theorem qN:tO tY:=SY qK xJ
def wy:tA:=[(63,2,2,.loop { keep:=[1,4],kb:=[],pl:=[.slot 0 false zJ,.slot 5 false zJ],ex:=[(.exit 0,[])],pay:=.unit })]
def vn:Sg:=⟨[zI,zI],[zI],V1⟩
theorem e63:tE tY wy 63 vn:=fun _=>by kernel_rfl
def tZ:tL:=(63,vn)::tY
theorem qO:tO tZ:=SY qN e63
def rn:Sg:=⟨[(true,T2)],[zI],WA⟩
theorem yN:tE tZ [] 177 rn:=fun _=>by kernel_rfl
def kg:tL:=(177,rn)::tZ
theorem kh:tO kg:=SY qO yN
def uU:tA:=[(199,2,2,.loop { keep:=[0,1,4],kb:=[],pl:=[.slot 5 false zJ],ex:=[(.exit 0,[])],pay:=.unit })]
def sJ:Sg:=⟨[(false,.str),(false,.str)],[zI],W7⟩
theorem ye:tE kg uU 199 sJ:=fun _=>by kernel_rfl
def ki:tL:=(199,sJ)::kg
theorem kj:tO ki:=SY kh ye
def rp:Sg:=⟨[(false,.str),(false,.str)],[zI],Wj⟩
theorem yO:tE ki [] 178 rp:=fun _=>by kernel_rfl
def kl:tL:=(178,rp)::ki
theorem km:tO kl:=SY kj yO
def uG:tA:=[(157,4,6,.loop { keep:=[0,7,8,6],kb:=[],pl:=[.slot 3 false zJ,.slot 2 false zJ,.slot 4 false zJ],ex:=[(.ret,[]),(.exit 0,[])],pay:=.unit })]
def rN:Sg:=⟨[(false,(.sl true T2))],[zI,zI],Vi⟩
theorem yA:tE kl uG 157 rN:=fun _=>by kernel_rfl
def kn:tL:=(157,rN)::kl
theorem ko:tO kn:=SY km yA
end Go.Proofs.YtfipnhjfbebeiabGreatDoor.Pt
