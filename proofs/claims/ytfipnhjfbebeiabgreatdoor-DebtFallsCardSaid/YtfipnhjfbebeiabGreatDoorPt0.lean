/- The evaluator comes to each of the plain functions. No condition. -/
import Derived.Test.YtfipnhjfbebeiabGreatDoorPl4
import Derived.Test.YtfipnhjfbebeiabGreatDoorPg0
import Derived.Test.YtfipnhjfbebeiabGreatDoorProg
set_option linter.all false
namespace Go.Proofs.YtfipnhjfbebeiabGreatDoor.Pt
open Go Sv Pl
set_option maxRecDepth 1000000
def pu (g:Nat):Bool:=[2,3,4,5,6,7,8,9,10,11,12,13,14,15,16,17,18,19,20,21,22,23,24,25,26,27,28,29,30,31,32,33,34,35,36,37,38,39,40,41,42,43,44,45,46,47,48,49,50,51,52,53,56,57,58,62,63,64,66,67,68,69,70,71,72,73,74,75,76,77,78,79,80,83,84,85,86,87,92,93,94,95,96,97,98,99,100,101,102,103,104,105,111,112,113,114,115,116,117,118,119,120,121,122,123,126,127,128,132,133,134,144,147,148,149,151,153,156,157,158,159,160,162,163,164,165,166,167,168,169,172,175,177,178,179,180,181,182,183,184,186,187,188,189,190,198,199,200,201,202,203,204,205,207,208,209,210,211,212,213,214,215,218,254,255,256,264].any (Nat.beq g)||Nat.ble 1048576 g
@[reducible] def zJ:Ty:=.int .i64
@[reducible] def zI:Bool×Ty:=(false,zJ)
@[reducible] def T0:Ty:=.pair .bool zJ
@[reducible] def T1:Ty:=.pair .str T0
@[reducible] def T2:Ty:=.pair .str T1
@[reducible] def T3:Ty:=.pair zJ (.sl true T2)
@[reducible] def T4:Ty:=.pair zJ (.sl true (.sl true T3))
@[reducible] def T5:Ty:=.pair .str .bool
@[reducible] def T6:Ty:=.pair (.sl false zJ) zJ
@[reducible] def T7:Ty:=.pair (.sl true T5) T6
@[reducible] def T8:Ty:=.pair (.sl false zJ) T7
@[reducible] def T9:Ty:=.pair (.sl false (.sl true T2)) T8
@[reducible] def pG:Ty:=.pair .bool T5
@[reducible] def zZ:Ty:=.pair (.sl true T2) zJ
@[reducible] def za:Ty:=.pair pG zZ
@[reducible] def eB:Ty:=.pair T9 za
@[reducible] def Z7:Ty:=.pair zJ eB
@[reducible] def zb:Ty:=.pair (.sl true Z7) zJ
@[reducible] def Ye:Ty:=.pair T4 zb
@[reducible] def wT:Ty:=.pair (.sl true T5) .unit
@[reducible] def zd:Ty:=.pair Z7 zJ
@[reducible] def tv:Ty:=.pair Ye zd
@[reducible] def th:Ty:=.pair (.int .u8) (.int .u8)
abbrev tL:=List (FuncId×Sg)
abbrev tA:=List (Nat×Nat×Nat×An)
abbrev tO (L:tL):Prop:=TabOK Tryz.prog (Ae pu L)
abbrev tE (L:tL) (a:tA) (f:Nat) (s:Sg):Prop:=∀ x,OU Tryz.prog (Ae pu L) (RM a) 3000 60 f s.dom s.cod x=s.fn x
def tM:tL:=[]
theorem qA:tO tM:=Sq _ _
def wu:tA:=[(63,2,2,.loop { keep:=[1,4],kb:=[],pl:=[.slot 0 false zJ,.slot 5 false zJ],ex:=[(.exit 0,[])],pay:=.unit })]
def ve:Sg:=⟨[zI,zI],[zI],Vy⟩
theorem e63:tE tM wu 63 ve:=fun _=>by kernel_rfl
def tN:tL:=(63,ve)::tM
theorem qB:tO tN:=SY qA e63
def ra:Sg:=⟨[(true,T2)],[zI],V6⟩
theorem yH:tE tN [] 177 ra:=fun _=>by kernel_rfl
def tR:tL:=(177,ra)::tN
theorem qC:tO tR:=SY qB yH
def uY:tA:=[(199,2,2,.loop { keep:=[0,1,4],kb:=[],pl:=[.slot 5 false zJ],ex:=[(.exit 0,[])],pay:=.unit })]
def sF:Sg:=⟨[(false,.str),(false,.str)],[zI],W8⟩
theorem yW:tE tR uY 199 sF:=fun _=>by kernel_rfl
def tU:tL:=(199,sF)::tR
theorem qD:tO tU:=SY qC yW
def rf:Sg:=⟨[(false,.str),(false,.str)],[zI],Wb⟩
theorem yI:tE tU [] 178 rf:=fun _=>by kernel_rfl
def tV:tL:=(178,rf)::tU
theorem qE:tO tV:=SY qD yI
def uK:tA:=[(157,4,6,.loop { keep:=[0,7,8,6],kb:=[],pl:=[.slot 3 false zJ,.slot 2 false zJ,.slot 4 false zJ],ex:=[(.ret,[]),(.exit 0,[])],pay:=.unit })]
def rJ:Sg:=⟨[(false,(.sl true T2))],[zI,zI],Vf⟩
theorem xp:tE tV uK 157 rJ:=fun _=>by kernel_rfl
def tW:tL:=(157,rJ)::tV
theorem qG:tO tW:=SY qE xp
def qi:Sg:=⟨[(true,T3)],[zI,zI],XU⟩
theorem xH:tE tW [] 111 qi:=fun _=>by kernel_rfl
def tX:tL:=(111,qi)::tW
theorem qH:tO tX:=SY qG xH
def wt:tA:=[(62,9,21,.loop { keep:=[0,1,3,7,15,23,11,19,25,13,21,2,8,16,24,12,20,10,18,26,14,22],kb:=[0],pl:=[.slot 9 false zJ,.slot 6 false zJ],ex:=[(.ret,[]),(.exit 0,[])],pay:=.unit })]
def vd:Sg:=⟨[(true,T3),zI,(false,(.sl false zJ))],[zI],WR⟩
theorem e62:tE tX wt 62 vd:=fun _=>by kernel_rfl
def tY:tL:=(62,vd)::tX
theorem qI:tO tY:=SY qH e62
def wY:tA:=[(21,7,18,.loop { keep:=[0,1,15,11,19,17,13,21,16,12,20,10,18,14],kb:=[0],pl:=[.slot 3 false zJ,.srow 5 false zJ false,.slot 2 false zJ,.slot 4 false zJ,.slot 6 false zJ],ex:=[(.ret,[]),(.exit 0,[])],pay:=.unit }),(21,13,35,.loop { keep:=[0,1,7,15,31,23,11,19,35,17,33,25,13,21,37,29,16,32,24,12,20,36,6,10,18,34,26,14,22,30],kb:=[0],pl:=[.slot 3 false zJ,.srow 5 false zJ false,.slot 2 false zJ,.slot 4 false zJ,.slot 8 false zJ],ex:=[(.ret,[]),(.exit 2,[])],pay:=.unit })]
def u3:Sg:=⟨[(true,T4)],[zI,zI,zI],U8⟩
theorem zm:tE tY wY 21 u3:=fun _=>by kernel_rfl
def tZ:tL:=(21,u3)::tY
theorem qK:tO tZ:=SY qI zm
def wq:tA:=[(56,6,16,.loop { keep:=[0,1,3,15,11,5,17,13,2,4,16,12,6,10,14],kb:=[0],pl:=[.srow 7 true T3 false,.slot 8 false zJ],ex:=[(.exit 0,[])],pay:=.unit }),(56,9,31,.loop { keep:=[0,1,3,15,31,23,11,19,27,5,17,33,13,21,29,2,4,8,16,32,12,20,28,6,10,26,14,22,30],kb:=[0],pl:=[.srow 7 true T3 false,.slot 9 false zJ],ex:=[(.exit 2,[])],pay:=.unit })]
def vZ:Sg:=⟨[(true,T4)],[(false,(.sl true T3)),zI],WI⟩
theorem e56:tE tZ wq 56 vZ:=fun _=>by kernel_rfl
def td:tL:=(56,vZ)::tZ
theorem qN:tO td:=SY qK e56
def wZ:tA:=[(22,4,11,.loop { keep:=[0,1,3,7,11,9,2,4,8,10],kb:=[0],pl:=[.slot 5 false zJ,.slot 6 false zJ],ex:=[(.exit 0,[])],pay:=.unit })]
def u4:Sg:=⟨[(true,T4)],[zI],VT⟩
theorem zn:tE td wZ 22 u4:=fun _=>by kernel_rfl
def kY:tL:=(22,u4)::td
theorem kZ:tO kY:=SY qN zn
def wa:tA:=[(23,3,4,.loop { keep:=[0,1,2],kb:=[0],pl:=[.srow 3 false zJ false,.slot 4 false zJ],ex:=[(.exit 0,[])],pay:=.unit })]
def u5:Sg:=⟨[(true,T4)],[(false,(.sl false zJ))],Ui⟩
theorem zo:tE kY wa 23 u5:=fun _=>by kernel_rfl
def ka:tL:=(23,u5)::kY
theorem kc:tO ka:=SY kZ zo
def qj:Sg:=⟨[(true,T4),zI],[zI],Ym⟩
theorem xI:tE ka [] 112 qj:=fun _=>by kernel_rfl
def ke:tL:=(112,qj)::ka
theorem kg:tO ke:=SY kc xI
def vg:Sg:=⟨[(true,T4),zI],[(false,.bool),zI],YO⟩
theorem e64:tE ke [] 64 vg:=fun _=>by kernel_rfl
def kh:tL:=(64,vg)::ke
theorem ki:tO kh:=SY kg e64
end Go.Proofs.YtfipnhjfbebeiabGreatDoor.Pt
