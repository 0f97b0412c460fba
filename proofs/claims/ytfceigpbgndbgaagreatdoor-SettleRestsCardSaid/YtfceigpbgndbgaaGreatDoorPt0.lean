/- The evaluator comes to each of the plain functions. No condition. -/
import Derived.Test.YtfceigpbgndbgaaGreatDoorPl5
import Derived.Test.YtfceigpbgndbgaaGreatDoorPk9
import Derived.Test.YtfceigpbgndbgaaGreatDoorProg
set_option linter.all false
open Bool renaming true->zt, false->zf
namespace Go.Proofs.YtfceigpbgndbgaaGreatDoor.Pt
open Go Sv Pl
set_option maxRecDepth 1000000
def pu(g:Nat):Bool:=[2,3,4,5,6,7,8,9,10,11,12,13,14,15,16,17,18,19,22,23,24,25,27,28,29,30,31,32,33,35,36,37,38,39,40,41,42,43,44,45,46,47,48,49,50,51,52,53,54,55,56,57,60,63,65,66,67,68,69,70,71,73,74,75,76,77,79,80,81,82,83,84,85,86,87,88,90,91,92,94,95,99,100,101,102,105,106,107,108,109,114,115,116,118,119,120,122,123,124,125,126,127,128,129,130,131,133,134,143,144,145,146,147,150,151,152,156,157,158,168,169,170,171,172,173,174,175,176,177,178,179,180,181,183,187,188,190,191,192,193,194,195,196,197,198,199,202,203,204,205,206,207,208,209,210,213,214,216,217,218,219,227,228,229,230,231,232,233,234,235,236,237,238,239,241,242,243,244,245,246,247,248,249,250,251,252,253,258,294,295,296,304].any (Nat.beq g)||Nat.ble 1048576 g
@[reducible] def zJ:Ty:=.int .i64
@[reducible] def zI:Bool×Ty:=(zf,zJ)
@[reducible] def T0:Ty:=.pair .bool zJ
@[reducible] def T1:Ty:=.pair .str T0
@[reducible] def T2:Ty:=.pair .str T1
@[reducible] def T3:Ty:=.pair zJ (.sl zt T2)
@[reducible] def T4:Ty:=.pair zJ (.sl zt (.sl zt T3))
@[reducible] def T5:Ty:=.pair .str .bool
@[reducible] def T6:Ty:=.pair (.sl zf zJ) zJ
@[reducible] def T7:Ty:=.pair (.sl zt T5) T6
@[reducible] def T8:Ty:=.pair (.sl zf zJ) T7
@[reducible] def T9:Ty:=.pair (.sl zf (.sl zt T2)) T8
@[reducible] def qk:Ty:=.pair .bool T5
@[reducible] def T11:Ty:=.pair (.sl zt T2) zJ
@[reducible] def T12:Ty:=.pair qk T11
@[reducible] def fc:Ty:=.pair T9 T12
@[reducible] def bN:Ty:=.pair zJ fc
@[reducible] def T15:Ty:=.pair (.sl zt bN) zJ
@[reducible] def bO:Ty:=.pair T4 T15
@[reducible] def dx:Ty:=.pair T3 bO
@[reducible] def zR:Ty:=.pair (.sl zt T5) .unit
@[reducible] def T19:Ty:=.pair bN zJ
@[reducible] def vu:Ty:=.pair bO T19
abbrev tL:=List (FuncId×Sg)
abbrev tA:=List (Nat×Nat×Nat×An)
abbrev tO(L:tL):Prop:=TabOK Tryz.prog (Ae pu L)
abbrev tQ(L:tL)(a:tA)(f:Nat)(s:Sg):Prop:=∀ x,Ou Tryz.prog (Ae pu L) (Rn a) 3000 60 f s.dom s.cod x=s.fn x
def vV:tL:=[]
theorem rU:tO vV:=TP _ _
def ug:tA:=[(15,3,4,.loop { keep:=[0,1],kb:=[0],pl:=[.slot 3 zf zJ,.slot 2 zf .bool,.slot 4 zf zJ],ex:=[(.exit 0,[]),(.ret,[])],pay:=.unit }),(15,6,15,.loop { keep:=[0,1,15,19,17,13,21,4,16,12,20,18,14],kb:=[0],pl:=[.slot 3 zf zJ,.slot 5 zf zJ,.slot 2 zf .bool],ex:=[(.exit 2,[]),(.ret,[])],pay:=.unit }),(15,11,47,.loop { keep:=[0,1,3,15,31,47,19,35,51,27,43,5,17,33,49,25,41,13,21,37,53,29,45,4,16,32,48,24,40,12,20,36,52,28,44,6,18,34,50,26,42,14,54,30,46],kb:=[0],pl:=[.slot 7 zf zJ,.slot 2 zf .bool],ex:=[(.ret,[]),(.exit 4,[])],pay:=.unit }),(15,18,5,.loop { keep:=[0,1,3,4],kb:=[0],pl:=[.slot 2 zf .bool,.slot 8 zf zJ],ex:=[(.ret,[]),(.exit 6,[])],pay:=.unit }),(15,25,55,.loop { keep:=[0,1,3,127,95,111,135,103,119,131,115,107,91,123,9,129,97,113,137,105,121,133,101,117,109,93,125,2,4,8,128,96,112,136,104,120,132,116,108,92,124,130,98,114,106,90,122,134,102,118,110,94,126],kb:=[0,20],pl:=[.slot 11 zf zJ,.slot 10 zf zJ],ex:=[(.exit 8,[])],pay:=.unit })]
def xy:Sg:=⟨[(zt,bO)],[(zf,.bool)],YU⟩
theorem e15:tQ vV ug 15 xy:=fun _=>by kernel_rfl
def vW:tL:=(15,xy)::vV
theorem rV:tO vW:=S6 rU e15
def zw:tA:=[(5,2,3,.loop { keep:=[0,1],kb:=[0],pl:=[.slot 3 zf zJ,.slot 2 zf .bool],ex:=[(.ret,[]),(.exit 0,[])],pay:=.unit })]
def sg5:Sg:=⟨[(zt,dx)],[(zf,.bool)],Zs⟩
theorem e5:tQ vW zw 5 sg5:=fun _=>by kernel_rfl
def vX:tL:=(5,sg5)::vW
theorem rZ:tO vX:=S6 rV e5
def sg6:Sg:=⟨[],[(zf,.bool)],Wn⟩
theorem e6:tQ vX [] 6 sg6:=fun _=>by kernel_rfl
def vY:tL:=(6,sg6)::vX
theorem ra:tO vY:=S6 rZ e6
def tV:Sg:=⟨[(zf,.str)],[zI],Xp⟩
theorem AAv:tQ vY [] 181 tV:=fun _=>by kernel_rfl
def vZ:tL:=(181,tV)::vY
theorem rf:tO vZ:=S6 ra AAv
def sv:Sg:=⟨[(zt,T2)],[zI],Vi⟩
theorem AAh:tQ vZ [] 134 sv:=fun _=>by kernel_rfl
def vd:tL:=(134,sv)::vZ
theorem ri:tO vd:=S6 rf AAh
def AAM:tA:=[(95,6,23,.loop { keep:=[0,1,7,15,23,11,19,9,17,25,13,21,8,16,24,12,20,10,18,14,22],kb:=[0],pl:=[.slot 3 zf zJ,.slot 2 zf zJ,.slot 26 zf zJ],ex:=[(.ret,[]),(.exit 1,[])],pay:=.unit })]
def y8:Sg:=⟨[(zt,T3)],[zI,zI],WV⟩
theorem e95:tQ vd AAM 95 y8:=fun _=>by kernel_rfl
def ve:tL:=(95,y8)::vd
theorem rm:tO ve:=S6 ri e95
def wQ:tA:=[(180,4,8,.loop { keep:=[0,7,11,9,8,10],kb:=[],pl:=[.slot 3 zf zJ,.slot 2 zf zJ,.slot 12 zf zJ],ex:=[(.ret,[]),(.exit 0,[])],pay:=.unit })]
def tU:Sg:=⟨[(zf,(.sl zt T2))],[zI,zI],U8⟩
theorem AAu:tQ ve wQ 180 tU:=fun _=>by kernel_rfl
def vi:tL:=(180,tU)::ve
theorem rn:tO vi:=S6 rm AAu
def su:Sg:=⟨[(zt,T3)],[zI,zI],X3⟩
theorem AAg:tQ vi [] 133 su:=fun _=>by kernel_rfl
def vj:tL:=(133,su)::vi
theorem rp:tO vj:=S6 rn AAg
def yz:Sg:=⟨[(zt,T3),zI],[zI],WQ⟩
theorem e92:tQ vj [] 92 yz:=fun _=>by kernel_rfl
def vk:tL:=(92,yz)::vj
theorem rq:tO vk:=S6 rp e92
def AAK:tA:=[(88,8,26,.loop { keep:=[0,1,15,23,11,19,27,5,17,25,13,21,29,16,24,12,20,28,18,26,14,22],kb:=[0],pl:=[.slot 3 zf zJ,.slot 2 zf zJ,.slot 4 zf zJ,.slot 30 zf zJ,.map 18 zJ zf .bool],ex:=[(.exit 1,[])],pay:=.unit }),(88,14,44,.loop { keep:=[0,1,7,15,31,23,39,11,19,35,27,5,17,33,25,41,13,21,37,29,2,16,32,24,40,12,20,36,28,6,18,34,26,42,14,22,38,30],kb:=[0,30],pl:=[.slot 3 zf zJ,.slot 43 zf zJ,.slot 4 zf zJ,.map 18 zJ zf .bool],ex:=[(.exit 1,[]),(.exit 3,[])],pay:=.unit })]
def yu:Sg:=⟨[(zt,T4)],[zI,zI,zI],WA⟩
theorem e88:tQ vk AAK 88 yu:=fun _=>by kernel_rfl
def l7:tL:=(88,yu)::vk
theorem l8:tO l7:=S6 rq e88
def vw:tA:=[(102,2,6,.loop { keep:=[0,1,7,9,8],kb:=[0],pl:=[.slot 2 zf zJ,.slot 10 zf zJ],ex:=[(.exit 0,[])],pay:=.unit }),(102,5,15,.loop { keep:=[0,1,7,15,11,9,13,4,8,16,12,10,14],kb:=[0,9],pl:=[.slot 17 zf zJ,.slot 2 zf zJ],ex:=[(.exit 2,[])],pay:=.unit })]
def sN:Sg:=⟨[(zt,T4)],[zI],XX⟩
theorem AAN:tQ l7 vw 102 sN:=fun _=>by kernel_rfl
def l9:tL:=(102,sN)::l7
theorem mB:tO l9:=S6 l8 AAN
def sO:Sg:=⟨[(zt,T4),zI],[(zf,.bool)],WP⟩
theorem AAO:tQ l9 [] 105 sO:=fun _=>by kernel_rfl
def mC:tL:=(105,sO)::l9
theorem mD:tO mC:=S6 mB AAO
def wZ:tA:=[(213,6,13,.loop { keep:=[0,15,11,9,17,13,8,16,12,10,14],kb:=[],pl:=[.slot 3 zf zJ,.slot 2 zf zJ,.slot 18 zf zJ],ex:=[(.ret,[]),(.exit 1,[])],pay:=.unit })]
def tz:Sg:=⟨[(zf,(.sl zf (.sl zt T2)))],[zI,zI],Wr⟩
theorem ABB:tQ mC wZ 213 tz:=fun _=>by kernel_rfl
def mF:tL:=(213,tz)::mC
theorem mG:tO mF:=S6 mD ABB
end Go.Proofs.YtfceigpbgndbgaaGreatDoor.Pt
