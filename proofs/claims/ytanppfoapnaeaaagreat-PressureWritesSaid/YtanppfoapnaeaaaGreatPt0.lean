/- The evaluator comes to each of the plain functions. No condition. -/
import Derived.Test.YtanppfoapnaeaaaGreatPl3
import Derived.Test.YtanppfoapnaeaaaGreatProg
set_option linter.all false
namespace Go.Proofs.YtanppfoapnaeaaaGreat.Pt
open Go Sv Pl
set_option maxRecDepth 1000000
instance glN:Pi.Gl:=⟨λ_=>none,λ_=>none⟩
def pu(g:Nat):Bool:=[2,3,4,5,6,7,8,9,10,11,12,13,14,15,16,17,23,25,26,27,28,29,30,31,32,33,34,35,36,38,39,40,41,42,43,44,45,46,47,48,49,50,51,52,54,55,57,58,59,60,61,64,65,66,67,68,69,70,71,72,73,74,75,76,77,78,79,80,81,82,83,84,85,86,87,88,89,90,91,92,93,95,98,99,100,104,105,106,107,109,110,113,114,115,116,117,118,119,120,121,122,123,124,126,127,128,129,130,131,132,133,135,136,137,138,139,140,141,142,143,144,145,146,148,149,150,151,152,160,161,162,163,164,165,166,168,169,170,171,172,173,174,175,176,177,179,181,183,200,201,202].any (Nat.beq g)||Nat.ble 1048576 g
@[reducible] def zJ:Ty:=.int .i64
@[reducible] def zI:Bool×Ty:=(false,zJ)
@[reducible] def T0:Ty:=.pair .bool zJ
@[reducible] def T1:Ty:=.pair .str T0
@[reducible] def T2:Ty:=.pair .str T1
@[reducible] def T3:Ty:=.pair zJ (.sl true T2)
@[reducible] def T4:Ty:=.pair zJ (.sl true (.sl true T3))
@[reducible] def T5:Ty:=.pair .str .bool
@[reducible] def T6:Ty:=.pair (.sl false zJ) zJ
@[reducible] def T7:Ty:=.pair (.sl true T5) T6
@[reducible] def T8:Ty:=.pair (.sl false zJ) T7
@[reducible] def T9:Ty:=.pair (.sl false (.sl true T2)) T8
@[reducible] def mV:Ty:=.pair .bool T5
@[reducible] def vj:Ty:=.pair (.sl true T2) zJ
@[reducible] def vk:Ty:=.pair mV vj
@[reducible] def bT:Ty:=.pair T9 vk
@[reducible] def gR:Ty:=.pair zJ bT
@[reducible] def vn:Ty:=.pair (.sl true gR) zJ
@[reducible] def eC:Ty:=.pair T4 vn
@[reducible] def ZM:Ty:=.pair T3 eC
@[reducible] def sZ:Ty:=.pair (.sl true T5) .unit
abbrev tL:=List (FuncId×Sg)
abbrev tA:=List (Nat×Nat×Nat×An)
abbrev tO(L:tL):Prop:=TabOK Tryz.prog (Ae pu L)
abbrev tQ(L:tL)(a:tA)(f:Nat)(s:Sg):Prop:=∀ x,OS Tryz.prog (Ae pu L) (RL a) 3000 60 f s.dom s.cod x=s.fn x
def pC:tL:=[]
theorem mu:tO pC:=Sj _ _
def vo:tA:=[(5,2,2,.loop { keep:=[0],kb:=[],pl:=[.slot 3 false zJ,.slot 2 false .bool],ex:=[(.ret,[]),(.exit 0,[])],pay:=.unit })]
def vX:Sg:=⟨[(false,(.sl true T2))],[(false,.bool)],VW⟩
theorem e5:tQ pC vo 5 vX:=fun _=>by kernel_rfl
def pD:tL:=(5,vX)::pC
theorem mv:tO pD:=SS mu e5
def ss:tA:=[(33,2,2,.loop { keep:=[0],kb:=[],pl:=[.slot 3 false zJ,.slot 2 false .bool],ex:=[(.ret,[]),(.exit 0,[])],pay:=.unit })]
def qt:Sg:=⟨[(false,(.sl true T2))],[(false,.bool)],U7⟩
theorem wJ:tQ pD ss 33 qt:=fun _=>by kernel_rfl
def pE:tL:=(33,qt)::pD
theorem mw:tO pE:=SS mv wJ
def tN:tA:=[(57,2,2,.loop { keep:=[0],kb:=[],pl:=[.slot 3 false zJ,.slot 2 false .bool],ex:=[(.ret,[]),(.exit 0,[])],pay:=.unit })]
def rO:Sg:=⟨[(false,(.sl true T3))],[(false,.bool)],VN⟩
theorem wh:tQ pE tN 57 rO:=fun _=>by kernel_rfl
def pF:tL:=(57,rO)::pE
theorem my:tO pF:=SS mw wh
def su:tA:=[(34,2,3,.loop { keep:=[0,1],kb:=[0],pl:=[.slot 3 false zJ,.slot 2 false .bool],ex:=[(.ret,[]),(.exit 0,[])],pay:=.unit })]
def qu:Sg:=⟨[(true,T4)],[(false,.bool)],XM⟩
theorem wK:tQ pF su 34 qu:=fun _=>by kernel_rfl
def pG:tL:=(34,qu)::pF
theorem mz:tO pG:=SS my wK
def se:tA:=[(12,2,3,.loop { keep:=[0,1],kb:=[0],pl:=[.slot 3 false zJ,.slot 2 false .bool],ex:=[(.exit 0,[]),(.ret,[])],pay:=.unit }),(12,6,21,.loop { keep:=[0,1,3,7,11,19,9,17,13,21,4,8,12,20,6,10,18,14,22],kb:=[0,18],pl:=[.slot 5 false zJ,.slot 2 false .bool],ex:=[(.ret,[]),(.exit 2,[])],pay:=.unit })]
def qZ:Sg:=⟨[(true,eC)],[(false,.bool)],XN⟩
theorem vw:tQ pG se 12 qZ:=fun _=>by kernel_rfl
def pH:tL:=(12,qZ)::pG
theorem m6:tO pH:=SS mz vw
def vW:Sg:=⟨[(true,ZM)],[(false,.bool)],XO⟩
theorem e4:tQ pH [] 4 vW:=fun _=>by kernel_rfl
def pI:tL:=(4,vW)::pH
theorem m7:tO pI:=SS m6 e4
def qv:Sg:=⟨[zI],[(true,T3),zI],Yr⟩
theorem wL:tQ pI [] 35 qv:=fun _=>by kernel_rfl
def pJ:tL:=(35,qv)::pI
theorem m8:tO pJ:=SS m7 wL
def rQ:Sg:=⟨[zI],[(true,T4),zI],Ys⟩
theorem wi:tQ pJ [] 58 rQ:=fun _=>by kernel_rfl
def pK:tL:=(58,rQ)::pJ
theorem m9:tO pK:=SS m8 wi
def qw:Sg:=⟨[zI],[(true,eC),zI],Ze⟩
theorem wM:tQ pK [] 36 qw:=fun _=>by kernel_rfl
def pL:tL:=(36,qw)::pK
theorem nA:tO pL:=SS m9 wM
def qc:Sg:=⟨[zI],[(true,ZM),zI],YO⟩
theorem vz:tQ pL [] 13 qc:=fun _=>by kernel_rfl
def iL:tL:=(13,qc)::pL
theorem iM:tO iL:=SS nA vz
def ri:Sg:=⟨[(false,.str)],[zI],Wd⟩
theorem wx:tQ iL [] 69 ri:=fun _=>by kernel_rfl
def iN:tL:=(69,ri)::iL
theorem iO:tO iN:=SS iM wx
def qz:Sg:=⟨[(true,T2)],[zI],UA⟩
theorem wP:tQ iN [] 40 qz:=fun _=>by kernel_rfl
def iQ:tL:=(40,qz)::iN
theorem iR:tO iQ:=SS iO wP
def sv:tA:=[(38,6,23,.loop { keep:=[0,1,7,15,23,11,19,9,17,25,13,21,8,16,24,12,20,10,18,14,22],kb:=[0],pl:=[.slot 3 false zJ,.slot 2 false zJ,.slot 26 false zJ],ex:=[(.ret,[]),(.exit 1,[])],pay:=.unit })]
def qx:Sg:=⟨[(true,T3)],[zI,zI],UP⟩
theorem wN:tQ iQ sv 38 qx:=fun _=>by kernel_rfl
def iS:tL:=(38,qx)::iQ
theorem iT:tO iS:=SS iR wN
end Go.Proofs.YtanppfoapnaeaaaGreat.Pt
