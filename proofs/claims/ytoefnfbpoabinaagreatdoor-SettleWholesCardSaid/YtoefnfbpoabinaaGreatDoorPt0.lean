/- The evaluator comes to each of the plain functions. No condition. -/
import Derived.Test.YtoefnfbpoabinaaGreatDoorPl5
import Derived.Test.YtoefnfbpoabinaaGreatDoorPc1
import Derived.Test.YtoefnfbpoabinaaGreatDoorProg
set_option linter.all false
open Bool renaming true->zt, false->zf
namespace Go.Proofs.YtoefnfbpoabinaaGreatDoor.Pt
open Go Sv Pl
set_option maxRecDepth 1000000
def pu(g:Nat):Bool:=[2,3,4,5,6,7,8,9,10,11,12,13,14,15,16,17,18,19,20,21,22,23,24,25,26,27,28,29,30,32,33,38,39,40,41,42,43,44,45,46,47,50,53,55,56,57,58,59,60,62,64,65,66,67,68,70,71,72,73,74,76,77,78,79,80,81,83,85,86,87,88,89,90,91,92,93,95,97,98,100,101,102,103,104,105,106,107,108,109,110,113,114,115,116,117,126,127,128,129,130,131,132,133,134,135,136,137,138,139,145,146,147,148,149,150,151,154,155,156,160,161,162,164,168,169,170,171,172,173,174,175,176,177,187,188,189,190,191,193,194,195,196,197,198,199,200,203,204,205,206,209,210,211,212,213,215,216,217,218,226,227,228,229,230,231,232,233,234,235,236,237,238,239,240,241,242,243,244,246,247,248,249,250,251,252,253,254,255,256,257,258,259,260,261,262,264,267,269,305,306,307,315].any (Nat.beq g)||Nat.ble 1048576 g
@[reducible] def zJ:Ty:=.int .i64
@[reducible] def zI:Bool×Ty:=(zf,zJ)
@[reducible] def T0:Ty:=.pair .bool zJ
@[reducible] def T1:Ty:=.pair .str T0
@[reducible] def T2:Ty:=.pair .str T1
@[reducible] def T3:Ty:=.pair zJ (.sl zt T2)
@[reducible] def T4:Ty:=.pair zJ (.sl zt (.sl zt T3))
@[reducible] def T5:Ty:=.pair .str .bool
@[reducible] def T6:Ty:=.pair (.sl zf zJ) zJ
@[reducible] def T7:Ty:=.pair (.sl zt T5) T6
@[reducible] def T8:Ty:=.pair (.sl zf zJ) T7
@[reducible] def T9:Ty:=.pair (.sl zf (.sl zt T2)) T8
@[reducible] def qu:Ty:=.pair .bool T5
@[reducible] def T11:Ty:=.pair (.sl zt T2) zJ
@[reducible] def T12:Ty:=.pair qu T11
@[reducible] def gL:Ty:=.pair T9 T12
@[reducible] def zB:Ty:=.pair zJ gL
@[reducible] def T15:Ty:=.pair (.sl zt zB) zJ
@[reducible] def y8:Ty:=.pair T4 T15
@[reducible] def iy:Ty:=.pair T3 y8
@[reducible] def zC:Ty:=.pair (.sl zt T5) .unit
abbrev tL:=List (FuncId×Sg)
abbrev tA:=List (Nat×Nat×Nat×An)
abbrev tO(L:tL):Prop:=TabOK Tryz.prog (Af pu L)
abbrev tQ(L:tL)(a:tA)(f:Nat)(s:Sg):Prop:=∀ x,ND Tryz.prog (Af pu L) (R3 a) 3000 60 f s.dom s.cod x=s.fn x
def iF:tL:=[]
theorem eU:tO iF:=UB _ _
def uf:tA:=[(22,3,4,.loop { keep:=[0,1],kb:=[0],pl:=[.slot 3 zf zJ,.slot 2 zf .bool,.slot 4 zf zJ],ex:=[(.exit 0,[]),(.ret,[])],pay:=.unit }),(22,6,15,.loop { keep:=[0,1,15,19,17,13,21,4,16,12,20,18,14],kb:=[0],pl:=[.slot 3 zf zJ,.slot 5 zf zJ,.slot 2 zf .bool],ex:=[(.exit 2,[]),(.ret,[])],pay:=.unit }),(22,11,47,.loop { keep:=[0,1,3,15,31,47,19,35,51,27,43,5,17,33,49,25,41,13,21,37,53,29,45,4,16,32,48,24,40,12,20,36,52,28,44,6,18,34,50,26,42,14,54,30,46],kb:=[0],pl:=[.slot 7 zf zJ,.slot 2 zf .bool],ex:=[(.ret,[]),(.exit 4,[])],pay:=.unit }),(22,18,5,.loop { keep:=[0,1,3,4],kb:=[0],pl:=[.slot 2 zf .bool,.slot 8 zf zJ],ex:=[(.ret,[]),(.exit 6,[])],pay:=.unit }),(22,25,55,.loop { keep:=[0,1,3,127,95,111,135,103,119,131,115,107,91,123,9,129,97,113,137,105,121,133,101,117,109,93,125,2,4,8,128,96,112,136,104,120,132,116,108,92,124,130,98,114,106,90,122,134,102,118,110,94,126],kb:=[0,20],pl:=[.slot 11 zf zJ,.slot 10 zf zJ],ex:=[(.exit 8,[])],pay:=.unit })]
def yG:Sg:=⟨[(zt,y8)],[(zf,.bool)],Yj⟩
theorem e22:tQ iF uf 22 yG:=fun _=>by kernel_rfl
def iG:tL:=(22,yG)::iF
theorem eV:tO iG:=Tb eU e22
def zq:tA:=[(6,2,3,.loop { keep:=[0,1],kb:=[0],pl:=[.slot 3 zf zJ,.slot 2 zf .bool],ex:=[(.ret,[]),(.exit 0,[])],pay:=.unit })]
def sg6:Sg:=⟨[(zt,iy)],[(zf,.bool)],aG⟩
theorem e6:tQ iG zq 6 sg6:=fun _=>by kernel_rfl
def ig:tL:=(6,sg6)::iG
theorem eW:tO ig:=Tb eV e6
def sg7:Sg:=⟨[],[(zf,.bool)],YU⟩
theorem e7:tQ ig [] 7 sg7:=fun _=>by kernel_rfl
def ii:tL:=(7,sg7)::ig
theorem eX:tO ii:=Tb eW e7
def tG:Sg:=⟨[(zf,.str)],[zI],W0⟩
theorem ur:tQ ii [] 151 tG:=fun _=>by kernel_rfl
def ij:tL:=(151,tG)::ii
theorem eY:tO ij:=Tb eX ur
def sT:Sg:=⟨[(zt,T2)],[zI],Vl⟩
theorem uo:tQ ij [] 109 sT:=fun _=>by kernel_rfl
def ik:tL:=(109,sT)::ij
theorem eZ:tO ik:=Tb eY uo
def z9:tA:=[(81,6,23,.loop { keep:=[0,1,7,15,23,11,19,9,17,25,13,21,8,16,24,12,20,10,18,14,22],kb:=[0],pl:=[.slot 3 zf zJ,.slot 2 zf zJ,.slot 26 zf zJ],ex:=[(.ret,[]),(.exit 1,[])],pay:=.unit })]
def yg:Sg:=⟨[(zt,T3)],[zI,zI],XQ⟩
theorem e81:tQ ik z9 81 yg:=fun _=>by kernel_rfl
def il:tL:=(81,yg)::ik
theorem ec:tO il:=Tb eZ e81
def wX:tA:=[(177,4,8,.loop { keep:=[0,7,11,9,8,10],kb:=[],pl:=[.slot 3 zf zJ,.slot 2 zf zJ,.slot 12 zf zJ],ex:=[(.ret,[]),(.exit 0,[])],pay:=.unit })]
def td:Sg:=⟨[(zf,(.sl zt T2))],[zI,zI],Vd⟩
theorem AAr:tQ il wX 177 td:=fun _=>by kernel_rfl
def im:tL:=(177,td)::il
theorem eh:tO im:=Tb ec AAr
def sy:Sg:=⟨[(zt,T3)],[zI,zI],Yz⟩
theorem AAZ:tQ im [] 139 sy:=fun _=>by kernel_rfl
def io:tL:=(139,sy)::im
theorem ei:tO io:=Tb eh AAZ
def yx:Sg:=⟨[(zt,T3),zI],[zI],Wg⟩
theorem e93:tQ io [] 93 yx:=fun _=>by kernel_rfl
def kZ:tL:=(93,yx)::io
theorem ej:tO kZ:=Tb ei e93
def zs:tA:=[(60,8,26,.loop { keep:=[0,1,15,23,11,19,27,5,17,25,13,21,29,16,24,12,20,28,18,26,14,22],kb:=[0],pl:=[.slot 3 zf zJ,.slot 2 zf zJ,.slot 4 zf zJ,.slot 30 zf zJ,.map 18 zJ zf .bool],ex:=[(.exit 1,[])],pay:=.unit }),(60,14,44,.loop { keep:=[0,1,7,15,31,23,39,11,19,35,27,5,17,33,25,41,13,21,37,29,2,16,32,24,40,12,20,36,28,6,18,34,26,42,14,22,38,30],kb:=[0,30],pl:=[.slot 3 zf zJ,.slot 43 zf zJ,.slot 4 zf zJ,.map 18 zJ zf .bool],ex:=[(.exit 1,[]),(.exit 3,[])],pay:=.unit })]
def yV:Sg:=⟨[(zt,T4)],[zI,zI,zI],WC⟩
theorem e60:tQ kZ zs 60 yV:=fun _=>by kernel_rfl
def mG:tL:=(60,yV)::kZ
theorem mH:tO mG:=Tb ej e60
def wD:tA:=[(110,2,6,.loop { keep:=[0,1,7,9,8],kb:=[0],pl:=[.slot 2 zf zJ,.slot 10 zf zJ],ex:=[(.exit 0,[])],pay:=.unit }),(110,5,15,.loop { keep:=[0,1,7,15,11,9,13,4,8,16,12,10,14],kb:=[0,9],pl:=[.slot 17 zf zJ,.slot 2 zf zJ],ex:=[(.exit 2,[])],pay:=.unit })]
def sU:Sg:=⟨[(zt,T4)],[zI],Xs⟩
theorem AAJ:tQ mG wD 110 sU:=fun _=>by kernel_rfl
def mJ:tL:=(110,sU)::mG
theorem mL:tO mJ:=Tb mH AAJ
def sV:Sg:=⟨[(zt,T4),zI],[(zf,.bool)],Wf⟩
theorem AAK:tQ mJ [] 113 sV:=fun _=>by kernel_rfl
def mM:tL:=(113,sV)::mJ
theorem mO:tO mM:=Tb mL AAK
def wg:tA:=[(212,6,13,.loop { keep:=[0,15,11,9,17,13,8,16,12,10,14],kb:=[],pl:=[.slot 3 zf zJ,.slot 2 zf zJ,.slot 18 zf zJ],ex:=[(.ret,[]),(.exit 1,[])],pay:=.unit })]
def t4:Sg:=⟨[(zf,(.sl zf (.sl zt T2)))],[zI,zI],W9⟩
theorem AA3:tQ mM wg 212 t4:=fun _=>by kernel_rfl
def mQ:tL:=(212,t4)::mM
theorem mS:tO mQ:=Tb mO AA3
end Go.Proofs.YtoefnfbpoabinaaGreatDoor.Pt
