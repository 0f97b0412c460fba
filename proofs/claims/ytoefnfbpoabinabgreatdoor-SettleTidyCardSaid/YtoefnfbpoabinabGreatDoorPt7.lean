/- The evaluator comes to each of the plain functions. No condition. -/
import Derived.Test.YtoefnfbpoabinabGreatDoorPt6
set_option linter.all false
open Bool renaming true->zt, false->zf
namespace Go.Proofs.YtoefnfbpoabinabGreatDoor.Pt
open Go Sv Pl
set_option maxRecDepth 1000000
def yh:tA:=[(137,4,6,.loop { keep:=[0,7,8,6],kb:=[],pl:=[.slot 3 zf zJ,.slot 2 zf zJ,.slot 4 zf zJ],ex:=[(.ret,[]),(.exit 0,[])],pay:=.unit })]
def vJ:Sg:=⟨[(zf,(.sl zt T2))],[zI,zI],W3⟩
theorem ACP:tQ tf yh 137 vJ:=fun _=>by kernel_rfl
def tj:tL:=(137,vJ)::tf
theorem tn:tO tj:=Tb th ACP
def ABQ:Sg:=⟨[(zt,T3)],[zI,zI],ZE⟩
theorem e96:tQ tj [] 96 ABQ:=fun _=>by kernel_rfl
def tp:tL:=(96,ABQ)::tj
theorem tq:tO tp:=Tb tn e96
def AB2:tA:=[(66,9,21,.loop { keep:=[0,1,3,7,15,23,11,19,25,13,21,2,8,16,24,12,20,10,18,26,14,22],kb:=[0],pl:=[.slot 9 zf zJ,.slot 6 zf zJ],ex:=[(.ret,[]),(.exit 0,[])],pay:=.unit })]
def ABD:Sg:=⟨[(zt,T3),zI,(zf,(.sl zf zJ))],[zI],X9⟩
theorem e66:tQ tp AB2 66 ABD:=fun _=>by kernel_rfl
def j8:tL:=(66,ABD)::tp
theorem mZ:tO j8:=Tb tq e66
def wt:tA:=[(34,7,18,.loop { keep:=[0,1,15,11,19,17,13,21,16,12,20,10,18,14],kb:=[0],pl:=[.slot 3 zf zJ,.srow 5 zf zJ zf,.slot 2 zf zJ,.slot 4 zf zJ,.slot 6 zf zJ],ex:=[(.ret,[]),(.exit 0,[])],pay:=.unit }),(34,13,35,.loop { keep:=[0,1,7,15,31,23,11,19,35,17,33,25,13,21,37,29,16,32,24,12,20,36,6,10,18,34,26,14,22,30],kb:=[0],pl:=[.slot 3 zf zJ,.srow 5 zf zJ zf,.slot 2 zf zJ,.slot 4 zf zJ,.slot 8 zf zJ],ex:=[(.ret,[]),(.exit 2,[])],pay:=.unit })]
def AA0:Sg:=⟨[(zt,T4)],[zI,zI,zI],Wk⟩
theorem e34:tQ j8 wt 34 AA0:=fun _=>by kernel_rfl
def j9:tL:=(34,AA0)::j8
theorem ma:tO j9:=Tb mZ e34
def wi:tA:=[(15,6,16,.loop { keep:=[0,1,3,15,11,5,17,13,2,4,16,12,6,10,14],kb:=[0],pl:=[.srow 7 zt T3 zf,.slot 8 zf zJ],ex:=[(.exit 0,[])],pay:=.unit }),(15,9,31,.loop { keep:=[0,1,3,15,31,23,11,19,27,5,17,33,13,21,29,2,4,8,16,32,12,20,28,6,10,26,14,22,30],kb:=[0],pl:=[.srow 7 zt T3 zf,.slot 9 zf zJ],ex:=[(.exit 2,[])],pay:=.unit })]
def AAr:Sg:=⟨[(zt,T4)],[(zf,(.sl zt T3)),zI],XJ⟩
theorem e15:tQ j9 wi 15 AAr:=fun _=>by kernel_rfl
def kA:tL:=(15,AAr)::j9
theorem mb:tO kA:=Tb ma e15
def AB3:tA:=[(67,2,2,.loop { keep:=[0,1],kb:=[],pl:=[.slot 5 zf zJ,.slot 4 zf .bool],ex:=[(.ret,[]),(.exit 0,[])],pay:=.unit })]
def ABE:Sg:=⟨[(zf,(.sl zt T2)),(zf,(.sl zt T2))],[(zf,.bool)],XI⟩
theorem e67:tQ kA AB3 67 ABE:=fun _=>by kernel_rfl
def kB:tL:=(67,ABE)::kA
theorem mc:tO kB:=Tb mb e67
def AA1:Sg:=⟨[(zt,T3),(zt,T3)],[(zf,.bool)],aW⟩
theorem e35:tQ kB [] 35 AA1:=fun _=>by kernel_rfl
def kC:tL:=(35,AA1)::kB
theorem md:tO kC:=Tb mc e35
def vK:Sg:=⟨[(zt,T3),(zt,T3)],[(zf,.bool)],YX⟩
theorem ACQ:tQ kC [] 138 vK:=fun _=>by kernel_rfl
def kD:tL:=(138,vK)::kC
theorem me:tO kD:=Tb md ACQ
def ACC:tA:=[(97,4,7,.loop { keep:=[0,1,7,9,8,6,10],kb:=[],pl:=[.slot 5 zf zJ,.slot 4 zf .bool],ex:=[(.ret,[]),(.exit 0,[])],pay:=.unit })]
def ABR:Sg:=⟨[(zf,(.sl zt T3)),(zf,(.sl zt T3))],[(zf,.bool)],X8⟩
theorem e97:tQ kD ACC 97 ABR:=fun _=>by kernel_rfl
def kF:tL:=(97,ABR)::kD
theorem mf:tO kF:=Tb me e97
def AB4:tA:=[(68,4,18,.loop { keep:=[0,1,3,7,15,11,19,9,17,13,2,8,16,12,6,10,18,14],kb:=[0,1],pl:=[.slot 5 zf zJ,.slot 4 zf .bool],ex:=[(.ret,[]),(.exit 0,[])],pay:=.unit })]
def ABF:Sg:=⟨[(zt,T4),(zt,T4)],[(zf,.bool)],ZU⟩
theorem e68:tQ kF AB4 68 ABF:=fun _=>by kernel_rfl
def kG:tL:=(68,ABF)::kF
theorem mg:tO kG:=Tb mf e68
def yf:tA:=[(135,4,7,.loop { keep:=[0,1,7,9,8,6,10],kb:=[],pl:=[.slot 5 zf zJ,.slot 4 zf .bool],ex:=[(.ret,[]),(.exit 0,[])],pay:=.unit })]
def vH:Sg:=⟨[(zf,(.sl zf zJ)),(zf,(.sl zf zJ))],[(zf,.bool)],ZS⟩
theorem ACN:tQ kG yf 135 vH:=fun _=>by kernel_rfl
def kH:tL:=(135,vH)::kG
theorem mh:tO kH:=Tb mg ACN
def yg:tA:=[(136,4,26,.loop { keep:=[0,1,3,7,15,23,11,19,27,9,17,25,13,21,2,8,16,24,12,20,6,10,18,26,14,22],kb:=[0,1],pl:=[.slot 5 zf zJ,.slot 4 zf .bool],ex:=[(.ret,[]),(.exit 0,[])],pay:=.unit })]
def vI:Sg:=⟨[(zt,T7),(zt,T7)],[(zf,.bool)],Yn⟩
theorem ACO:tQ kH yg 136 vI:=fun _=>by kernel_rfl
def kI:tL:=(136,vI)::kH
theorem mi:tO kI:=Tb mh ACO
def ACB:tA:=[(94,4,7,.loop { keep:=[0,1,7,9,8,6,10],kb:=[],pl:=[.slot 5 zf zJ,.slot 4 zf .bool],ex:=[(.ret,[]),(.exit 0,[])],pay:=.unit })]
def ABP:Sg:=⟨[(zf,(.sl zt T2)),(zf,(.sl zt T2))],[(zf,.bool)],WN⟩
theorem e94:tQ kI ACB 94 ABP:=fun _=>by kernel_rfl
def kJ:tL:=(94,ABP)::kI
theorem mj:tO kJ:=Tb mi e94
def ACA:tA:=[(93,4,27,.loop { keep:=[0,1,3,7,15,23,11,19,27,9,17,25,13,21,2,8,16,24,12,20,28,6,10,18,26,14,22],kb:=[0,1],pl:=[.slot 5 zf zJ,.slot 4 zf .bool],ex:=[(.ret,[]),(.exit 0,[])],pay:=.unit })]
def ABO:Sg:=⟨[(zt,T9),(zt,T9)],[(zf,.bool)],ZT⟩
theorem e93:tQ kJ ACA 93 ABO:=fun _=>by kernel_rfl
def kK:tL:=(93,ABO)::kJ
theorem mo:tO kK:=Tb mj e93
end Go.Proofs.YtoefnfbpoabinabGreatDoor.Pt
