/- The evaluator comes to each of the plain functions. No condition. -/
import Derived.Test.YtbahicnpiefmlaaGreatDoorPt4
set_option linter.all false
namespace Go.Proofs.YtbahicnpiefmlaaGreatDoor.Pt
open Go Sv Pl
set_option maxRecDepth 1000000
theorem wy (x:AP [zI,zI,(true,uV)]):P0 Tryz.prog (Ae pu lK) (RL []) 3000 60 323 [zI,zI,(true,uV)] [(false,.bool)] x=US x:=by kernel_rfl
def lM:tL:=(3146051,⟨[zI,zI,(true,uV)],[(false,.bool)],US⟩)::lK
theorem lN:tO lM:=Sq (f:=323) lL wy
def sZ:tA:=[(310,13,63,.loop { keep:=[0,1,3,7,31,63,47,55,11,19,35,51,27,43,59,9,17,33,49,25,41,57,13,21,37,53,29,61,2,4,8,32,24,40,56,12,20,36,52,28,44,60,6,18,34,50,26,42,58,14,38,54,30,46,62],kb:=[0,1,33,52],pl:=[.slot 5 false zJ,.slot 10 false zJ,.box 2 [.kp 33,.ow false zJ false,.lf zJ]],ex:=[(.exit 0,[])],pay:=.unit })]
def qN:Sg:=⟨[(true,T7),(true,T5)],[(true,T7),zI,zI],U2⟩
theorem wj:tE lM sZ 310 qN:=fun _=>by kernel_rfl
def lO:tL:=(310,qN)::lM
theorem lQ:tO lO:=SX lN wj
def sN:tA:=[(308,0,45,.loop { keep:=[0,1],kb:=[39,35,43,9,13,44],pl:=[.box 0 [.ow true T2 false],.box 1 [.ow false zJ false]],ex:=[(.ret,[(44,0,none)])],pay:=.unit }),(278,3,47,.loop { keep:=[0,1,11,13,4,10,14],kb:=[0,1,39,27,13,30],pl:=[.slot 15 false zJ,.srow 5 true T5 true],ex:=[(.exit 0,[])],pay:=.unit }),(308,0,72,.loop { keep:=[0,1],kb:=[47,39,71,9,13,53,66,70,30],pl:=[.box 0 [.ow true T2 false],.box 1 [.ow false zJ false],.box 62 [.kp 30,.ow false zJ true,.lf (.sl true T5),.lf (.sl false zJ),.lf zJ]],ex:=[(.ret,[(71,0,none)])],pay:=.unit })]
def pR:Sg:=⟨[(false,(.sl false (.sl true T2)))],[(false,(.sl true T2)),(false,(.sl false zJ)),zI],Xi⟩
theorem wB:tE lO sN 246 pR:=fun _=>by kernel_rfl
def lR:tL:=(246,pR)::lO
theorem lS:tO lR:=SX lQ wB
def qO:Sg:=⟨[(true,m6)],[zI],V1⟩
theorem wm:tE lR [] 311 qO:=fun _=>by kernel_rfl
def lT:tL:=(311,qO)::lR
theorem lU:tO lT:=SX lS wm
def qV:Sg:=⟨[(true,T2)],[(true,T2)],UG⟩
theorem wz:tE lT [] 357 qV:=fun _=>by kernel_rfl
def lV:tL:=(357,qV)::lT
theorem lW:tO lV:=SX lU wz
def sO:tA:=[(283,5,24,.loop { keep:=[0,1,15,19,17,2,8,16,20,18,14],kb:=[],pl:=[.slot 7 false zJ,.slot 21 false zJ,.slot 6 false zJ,.box 19 [.lf .bool,.lf .str,.lf .bool],.box 0 [.ow true T2 false]],ex:=[(.ret,[]),(.exit 0,[])],pay:=.unit })]
def pT:Sg:=⟨[(false,(.sl true T2)),(false,.bool)],[(false,(.sl true T2)),zI,zI],WL⟩
theorem wC:tE lV sO 247 pT:=fun _=>by kernel_rfl
def lX:tL:=(247,pT)::lV
theorem lY:tO lX:=SX lW wC
def sQ:tA:=[(249,4,9,.loop { keep:=[0,1,7,11,9,13,8,12,10],kb:=[],pl:=[.slot 4 false .bool,.slot 14 false zJ],ex:=[(.ret,[]),(.exit 0,[])],pay:=.unit })]
def pV:Sg:=⟨[(false,(.sl true T2)),(false,(.sl true T2))],[(false,.bool)],V2⟩
theorem wE:tE lX sQ 249 pV:=fun _=>by kernel_rfl
def lZ:tL:=(249,pV)::lX
theorem ld:tO lZ:=SX lY wE
def rp:tA:=[(193,6,18,.loop { keep:=[0,1,3,15,23,19,17,25,21,2,4,16,24,20,18,26,14],kb:=[0],pl:=[.slot 27 false zJ,.slot 5 false zJ],ex:=[(.exit 0,[])],pay:=.unit })]
def oz:Sg:=⟨[(true,cK)],[zI],Wi⟩
theorem vW:tE lZ rp 193 oz:=fun _=>by kernel_rfl
def lg:tL:=(193,oz)::lZ
theorem lh:tO lg:=SX ld vW
def rq:tA:=[(194,6,17,.loop { keep:=[0,1,3,15,11,19,5,9,17,13,2,4,12,10,18,14],kb:=[0],pl:=[.slot 20 false zJ,.slot 6 false zJ],ex:=[(.exit 0,[])],pay:=.unit })]
def o0:Sg:=⟨[(true,T9)],[zI,zI],XN⟩
theorem vX:tE lg rq 194 o0:=fun _=>by kernel_rfl
def lj:tL:=(194,o0)::lg
theorem lm:tO lj:=SX lh vX
def oJ:Sg:=⟨[(true,cK)],[zI,zI],UV⟩
theorem uw:tE lj [] 127 oJ:=fun _=>by kernel_rfl
def lq:tL:=(127,oJ)::lj
theorem lr:tO lq:=SX lm uw
def pX:Sg:=⟨[(true,T9)],[(true,T2),zI,(true,T9),zI],Uj⟩
theorem wG:tE lq [] 252 pX:=fun _=>by kernel_rfl
def lu:tL:=(252,pX)::lq
theorem lw:tO lu:=SX lr wG
def pY:Sg:=⟨[(true,m6),(true,T2)],[(false,.bool),(true,m6),zI],Ut⟩
theorem wH:tE lu [] 253 pY:=fun _=>by kernel_rfl
def ly:tL:=(253,pY)::lu
theorem lz:tO ly:=SX lw wH
def rR:tA:=[(199,2,81,.loop { keep:=[0,1,6],kb:=[0,1,39,67,68],pl:=[.slot 7 false zJ,.slot 4 false zJ,.box 28 [.lf (.sl false (.sl true T2)),.lf (.sl false zJ),.lf (.sl true T5),.lf (.sl false zJ),.lf zJ,.lf .bool,.lf .str,.lf .bool,.ow true T2 false,.lf zJ]],ex:=[(.ret,[]),(.exit 0,[])],pay:=.unit }),(199,2,98,.loop { keep:=[0,1,6],kb:=[0,1,39,67,68,86],pl:=[.slot 7 false zJ,.slot 4 false zJ,.box 28 [.lf (.sl false (.sl true T2)),.lf (.sl false zJ),.lf (.sl true T5),.lf (.sl false zJ),.lf zJ,.lf .bool,.lf .str,.lf .bool,.ow true T2 false,.lf zJ]],ex:=[(.ret,[]),(.exit 0,[])],pay:=.unit }),(199,2,133,.loop { keep:=[0,1,6],kb:=[0,1,39,67,68,86],pl:=[.slot 7 false zJ,.slot 4 false zJ,.box 28 [.lf (.sl false (.sl true T2)),.lf (.sl false zJ),.lf (.sl true T5),.lf (.sl false zJ),.lf zJ,.lf .bool,.lf .str,.lf .bool,.ow true T2 false,.lf zJ]],ex:=[(.ret,[]),(.exit 0,[])],pay:=.unit }),(199,2,120,.loop { keep:=[0,1,6],kb:=[0,1,39,67,68,86],pl:=[.slot 7 false zJ,.slot 4 false zJ,.box 28 [.lf (.sl false (.sl true T2)),.lf (.sl false zJ),.lf (.sl true T5),.lf (.sl false zJ),.lf zJ,.lf .bool,.lf .str,.lf .bool,.ow true T2 false,.lf zJ]],ex:=[(.ret,[]),(.exit 0,[])],pay:=.unit })]
def oQ:Sg:=⟨[(true,cK),zI],[(true,cK),zI,zI],Ui⟩
theorem u5:tE ly rR 135 oQ:=fun _=>by kernel_rfl
def l7:tL:=(135,oQ)::ly
theorem l8:tO l7:=SX lz u5
def sR:tA:=[(254,4,9,.loop { keep:=[0,1,7,11,9,8,12,6,10],kb:=[],pl:=[.slot 13 false zJ,.slot 4 false .bool],ex:=[(.ret,[]),(.exit 0,[])],pay:=.unit })]
def pZ:Sg:=⟨[(false,(.sl true T2)),(false,(.sl true T2))],[(false,.bool)],Ub⟩
theorem wI:tE l7 sR 254 pZ:=fun _=>by kernel_rfl
def l9:tL:=(254,pZ)::l7
theorem mB:tO l9:=SX l8 wI
end Go.Proofs.YtbahicnpiefmlaaGreatDoor.Pt
