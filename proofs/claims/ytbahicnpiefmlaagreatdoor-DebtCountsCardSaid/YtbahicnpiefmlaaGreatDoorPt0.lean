/- The evaluator comes to each of the plain functions. No condition. -/
import Derived.Test.YtbahicnpiefmlaaGreatDoorPg0
import Derived.Test.YtbahicnpiefmlaaGreatDoorProg
set_option linter.all false
namespace Go.Proofs.YtbahicnpiefmlaaGreatDoor.Pt
open Go Sv Pl
set_option maxRecDepth 1000000
def pu (g:Nat):Bool:=[2,3,4,5,6,7,8,9,10,11,12,13,14,15,16,17,18,19,20,21,22,23,24,25,26,27,28,29,30,31,32,33,34,35,36,37,38,39,40,41,42,43,44,45,46,47,48,49,50,51,52,53,54,55,56,57,58,59,60,61,62,63,64,65,66,67,68,69,70,71,72,73,74,75,76,77,78,79,80,81,82,83,84,85,86,87,88,89,90,91,92,93,94,95,96,97,98,99,105,106,107,108,110,111,112,114,115,116,117,118,119,120,122,123,124,125,126,127,128,131,132,133,134,135,136,141,142,143,144,145,146,148,149,150,151,152,153,154,155,156,157,158,159,160,161,162,163,164,165,171,172,173,176,179,181,182,183,184,185,188,190,193,194,197,198,202,203,204,214,215,216,217,218,219,220,221,222,223,224,225,226,227,228,229,231,232,234,235,238,239,240,241,242,245,246,247,248,249,250,252,253,254,257,258,260,261,270,271,272,273,274,275,276,277,279,280,281,285,286,291,292,293,294,296,300,301,302,303,304,305,306,307,309,310,311,312,315,316,317,318,320,322,357,358,359,367].any (Nat.beq g)||Nat.ble 1048576 g
@[reducible] def zJ:Ty:=.int .i64
@[reducible] def zI:Bool×Ty:=(false,zJ)
@[reducible] def T0:Ty:=.pair .bool zJ
@[reducible] def T1:Ty:=.pair .str T0
@[reducible] def T2:Ty:=.pair .str T1
@[reducible] def T3:Ty:=.pair zJ (.sl true T2)
@[reducible] def T4:Ty:=.pair zJ (.sl true (.sl true T3))
@[reducible] def T5:Ty:=.pair .str .bool
@[reducible] def T6:Ty:=.pair (.sl false zJ) zJ
@[reducible] def T7:Ty:=.pair (.sl true T5) T6
@[reducible] def T8:Ty:=.pair (.sl false zJ) T7
@[reducible] def T9:Ty:=.pair (.sl false (.sl true T2)) T8
@[reducible] def m6:Ty:=.pair .bool T5
@[reducible] def xQ:Ty:=.pair (.sl true T2) zJ
@[reducible] def xR:Ty:=.pair m6 xQ
@[reducible] def cK:Ty:=.pair T9 xR
@[reducible] def Zj:Ty:=.pair zJ cK
@[reducible] def xS:Ty:=.pair (.sl true Zj) zJ
@[reducible] def Xq:Ty:=.pair T4 xS
@[reducible] def uV:Ty:=.pair (.sl true T5) .unit
@[reducible] def xU:Ty:=.pair Zj zJ
@[reducible] def rH:Ty:=.pair Xq xU
abbrev tL:=List (FuncId×Sg)
abbrev tA:=List (Nat×Nat×Nat×An)
abbrev tO (L:tL):Prop:=TabOK Tryz.prog (Ae pu L)
abbrev tE (L:tL) (a:tA) (f:Nat) (s:Sg):Prop:=∀ x,OU Tryz.prog (Ae pu L) (RL a) 3000 60 f s.dom s.cod x=s.fn x
def qw:tL:=[]
theorem nU:tO qw:=Sp _ _
def ue:tA:=[(65,2,2,.loop { keep:=[0],kb:=[],pl:=[.slot 3 false zJ,.slot 2 false .bool],ex:=[(.ret,[]),(.exit 0,[])],pay:=.unit })]
def tq:Sg:=⟨[(false,(.sl true T2))],[(false,.bool)],VK⟩
theorem yC:tE qw ue 65 tq:=fun _=>by kernel_rfl
def qx:tL:=(65,tq)::qw
theorem nV:tO qx:=SX nU yC
def rn:tA:=[(190,2,2,.loop { keep:=[0],kb:=[],pl:=[.slot 3 false zJ,.slot 2 false .bool],ex:=[(.ret,[]),(.exit 0,[])],pay:=.unit })]
def ov:Sg:=⟨[(false,(.sl true T2))],[(false,.bool)],WX⟩
theorem vV:tE qx rn 190 ov:=fun _=>by kernel_rfl
def qy:tL:=(190,ov)::qx
theorem nX:tO qy:=SX nV vV
def rK:tA:=[(124,2,2,.loop { keep:=[0],kb:=[],pl:=[.slot 3 false zJ,.slot 2 false .bool],ex:=[(.ret,[]),(.exit 0,[])],pay:=.unit })]
def oG:Sg:=⟨[(false,(.sl true T3))],[(false,.bool)],VY⟩
theorem ut:tE qy rK 124 oG:=fun _=>by kernel_rfl
def qz:tL:=(124,oG)::qy
theorem nY:tO qz:=SX nX ut
def uf:tA:=[(66,2,3,.loop { keep:=[0,1],kb:=[0],pl:=[.slot 3 false zJ,.slot 2 false .bool],ex:=[(.ret,[]),(.exit 0,[])],pay:=.unit })]
def tu:Sg:=⟨[(true,T4)],[(false,.bool)],XL⟩
theorem yD:tE qz uf 66 tu:=fun _=>by kernel_rfl
def q9:tL:=(66,tu)::qz
theorem nZ:tO q9:=SX nY yD
def uW:tA:=[(15,2,3,.loop { keep:=[0,1],kb:=[0],pl:=[.slot 3 false zJ,.slot 2 false .bool],ex:=[(.exit 0,[]),(.ret,[])],pay:=.unit }),(15,6,21,.loop { keep:=[0,1,3,7,11,19,9,17,13,21,4,8,12,20,6,10,18,14,22],kb:=[0,18],pl:=[.slot 5 false zJ,.slot 2 false .bool],ex:=[(.ret,[]),(.exit 2,[])],pay:=.unit })]
def tJ:Sg:=⟨[(true,Xq)],[(false,.bool)],XM⟩
theorem xW:tE q9 uW 15 tJ:=fun _=>by kernel_rfl
def rB:tL:=(15,tJ)::q9
theorem na:tO rB:=SX nZ xW
def rL:tA:=[(125,3,6,.loop { keep:=[0,1,7,9,2,6,10],kb:=[0],pl:=[.slot 8 false zJ,.box 3 [.lf zJ,.ow true T2 false]],ex:=[(.exit 0,[])],pay:=.unit })]
def oH:Sg:=⟨[zI,(false,.bool),(false,.str)],[(true,T3)],Yx⟩
theorem uu:tE rB rL 125 oH:=fun _=>by kernel_rfl
def rC:tL:=(125,oH)::rB
theorem ng:tO rC:=SX na uu
def tx:Sg:=⟨[],[(true,T4)],YM⟩
theorem yF:tE rC [] 68 tx:=fun _=>by kernel_rfl
def rD:tL:=(68,tx)::rC
theorem nh:tO rD:=SX ng yF
def rJ:tA:=[(123,2,2,.loop { keep:=[1,4],kb:=[],pl:=[.slot 0 false zJ,.slot 5 false zJ],ex:=[(.exit 0,[])],pay:=.unit })]
def oF:Sg:=⟨[zI,zI],[zI],V9⟩
theorem us:tE rD rJ 123 oF:=fun _=>by kernel_rfl
def rE:tL:=(123,oF)::rD
theorem ni:tO rE:=SX nh us
def oq:Sg:=⟨[(true,T2)],[zI],Vp⟩
theorem vS:tE rE [] 183 oq:=fun _=>by kernel_rfl
def rF:tL:=(183,oq)::rE
theorem nj:tO rF:=SX ni vS
def sY:tA:=[(302,2,2,.loop { keep:=[0,1,4],kb:=[],pl:=[.slot 5 false zJ],ex:=[(.exit 0,[])],pay:=.unit })]
def qD:Sg:=⟨[(false,.str),(false,.str)],[zI],Wc⟩
theorem wa:tE rF sY 302 qD:=fun _=>by kernel_rfl
def io:tL:=(302,qD)::rF
theorem ip:tO io:=SX nj wa
def po:Sg:=⟨[(false,.str),(false,.str)],[zI],WF⟩
theorem wN:tE io [] 275 po:=fun _=>by kernel_rfl
def iq:tL:=(275,po)::io
theorem ir:tO iq:=SX ip wN
def sK:tA:=[(241,4,6,.loop { keep:=[0,7,8,6],kb:=[],pl:=[.slot 3 false zJ,.slot 2 false zJ,.slot 4 false zJ],ex:=[(.ret,[]),(.exit 0,[])],pay:=.unit })]
def pP:Sg:=⟨[(false,(.sl true T2))],[zI,zI],VM⟩
theorem v9:tE iq sK 241 pP:=fun _=>by kernel_rfl
def iu:tL:=(241,pP)::iq
theorem iv:tO iu:=SX ir v9
def ot:Sg:=⟨[(true,T3)],[zI,zI],W0⟩
theorem vT:tE iu [] 184 ot:=fun _=>by kernel_rfl
def iw:tL:=(184,ot)::iu
theorem iy:tO iw:=SX iv vT
end Go.Proofs.YtbahicnpiefmlaaGreatDoor.Pt
