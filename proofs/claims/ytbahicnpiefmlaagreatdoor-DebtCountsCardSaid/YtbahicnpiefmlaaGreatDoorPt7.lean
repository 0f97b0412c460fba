/- The evaluator comes to each of the plain functions. No condition. -/
import Derived.Test.YtbahicnpiefmlaaGreatDoorPt6
set_option linter.all false
namespace Go.Proofs.YtbahicnpiefmlaaGreatDoor.Pt
open Go Sv Pl
set_option maxRecDepth 1000000
def ou:Sg:=⟨[zI,zI],[zI,zI],Wy⟩
theorem vU:tE mh [] 188 ou:=fun _=>by kernel_rfl
def mj:tL:=(188,ou)::mh
theorem ml:tO mj:=SX mi vU
def oe:Sg:=⟨[(true,rH)],[(false,.bool)],Ua⟩
theorem vK:tE mj [] 157 oe:=fun _=>by kernel_rfl
def mo:tL:=(157,oe)::mj
theorem mq:tO mo:=SX ml vK
def pM:Sg:=⟨[(true,T4),zI],[zI],WQ⟩
theorem v6:tE mo [] 229 pM:=fun _=>by kernel_rfl
def dD:tL:=(229,pM)::mo
theorem fe:tO dD:=SX mq v6
def pL:Sg:=⟨[(true,T4),zI],[(false,.bool),zI],Wx⟩
theorem vz:tE dD [] 228 pL:=fun _=>by kernel_rfl
def dE:tL:=(228,pL)::dD
theorem ff:tO dE:=SX fe vz
def og:Sg:=⟨[(true,rH)],[(false,.bool)],VJ⟩
theorem vM:tE dE [] 158 og:=fun _=>by kernel_rfl
def dF:tL:=(158,og)::dE
theorem fh:tO dF:=SX ff vM
def uq:tA:=[(90,2,11,.loop { keep:=[0,1,7,11,5,9,8,12,6,10],kb:=[0],pl:=[.slot 13 false zJ,.slot 2 false .bool],ex:=[(.ret,[]),(.exit 0,[])],pay:=.unit })]
def uM:Sg:=⟨[(true,rH)],[(false,.bool)],Ug⟩
theorem yW:tE dF uq 90 uM:=fun _=>by kernel_rfl
def dG:tL:=(90,uM)::dF
theorem fi:tO dG:=SX fh yW
def ub:tA:=[(36,8,21,.loop { keep:=[0,1,15,23,11,19,17,13,21,4,16,24,12,20,10,14,22],kb:=[0],pl:=[.slot 3 false zJ,.slot 5 false .bool,.slot 25 false zJ,.slot 2 false zJ],ex:=[(.ret,[]),(.exit 1,[])],pay:=.unit })]
def th:Sg:=⟨[(true,Xq)],[zI,zI],YU⟩
theorem xz:tE dG ub 36 th:=fun _=>by kernel_rfl
def dH:tL:=(36,th)::dG
theorem fj:tO dH:=SX fi xz
theorem w7:MD Tryz.prog (λf => !pu f) 1000 100 159=true:=by kernel_rfl
theorem vN (a:Ty.den Zj) (l:List (Ty.den Zj)):OU Tryz.prog (Ae pu dH) (RL []) 3000 60 159 [(false,(.sl true Zj))] [(false,(.sl true Zj))] (a::l)=UO (a::l):=by kernel_rfl
def dI:tL:=(159,⟨[(false,(.sl true Zj))],[(false,(.sl true Zj))],UO⟩)::dH
theorem fm:tO dI:=SY (gg:=true) (c:=Zj) fj w7 rfl vN
theorem xB:Ox Tryz.prog (λf => !pu f) 1000 100 159=true:=by kernel_rfl
theorem xF (a:Ty.den Zj) (l:List (Ty.den Zj)):P2 Tryz.prog (Ae pu dI) (RL []) 3000 60 159 [(false,(.sl true Zj))] true Zj (a::l)=UO (a::l):=by kernel_rfl
def dJ:tL:=(159+Cs,⟨[(false,(.sl true Zj))],[(false,(.sl true Zj))],UO⟩)::dI
theorem fo:tO dJ:=SZ (gg:=true) (c:=Zj) fm xB rfl (λa l y h=>R7 h) xF
def uO:Sg:=⟨[(true,Xq),zI,zI],[(true,Xq),zI,zI],Xh⟩
theorem yY:tE dJ [] 92 uO:=fun _=>by kernel_rfl
def dK:tL:=(92,uO)::dJ
theorem fq:tO dK:=SX fo yY
def sJ:tA:=[(231,5,30,.loop { keep:=[0,1,3,7,15,31,23,11,19,27,9,17,25,13,21,29,2,16,32,24,12,20,28,6,10,18,26,14,22,30],kb:=[0,1,12,10],pl:=[.slot 8 false zJ],ex:=[(.exit 0,[])],pay:=.unit })]
def pN:Sg:=⟨[(true,T4),zI,(false,(.sl true T3))],[(true,T4)],Vl⟩
theorem v7:tE dK sJ 231 pN:=fun _=>by kernel_rfl
def dL:tL:=(231,pN)::dK
theorem ft:tO dL:=SX fq v7
def oh:Sg:=⟨[(true,T4),zI],[(true,T4),(false,(.sl true T3)),zI],VZ⟩
theorem vO:tE dL [] 160 oh:=fun _=>by kernel_rfl
def dM:tL:=(160,oh)::dL
theorem fu:tO dM:=SX ft vO
def ri:tA:=[(243,1,31,.loop { keep:=[0,1,7,8,6],kb:=[0,1,25,21,26],pl:=[.slot 9 false zJ,.box 2 [.lf zJ,.ow true (.sl true T3) false],.box 3 [.lf zJ]],ex:=[(.exit 0,[(26,0,none)]),(.ret,[(26,2,some .ret)])],pay:=.unit }),(243,4,41,.loop { keep:=[0,1,7,15,11,9,13,4,8,16,12,6,10,14],kb:=[0,1,3,25,21,34,26],pl:=[.slot 5 false zJ,.box 2 [.lf zJ,.ow true (.sl true T3) false]],ex:=[(.exit 2,[(26,0,none)])],pay:=.unit }),(243,4,42,.loop { keep:=[0,1,7,15,11,9,13,4,8,16,12,6,10,14],kb:=[0,1,35,25,21,26],pl:=[.slot 5 false zJ,.box 2 [.lf zJ,.ow true (.sl true T3) false],.box 3 [.lf zJ]],ex:=[(.exit 2,[(26,0,none)]),(.ret,[(26,2,some .ret)])],pay:=.unit })]
def oi:Sg:=⟨[(true,T4),zI,(true,T3)],[(true,T4),zI],UR⟩
theorem vQ:tE dM ri 161 oi:=fun _=>by kernel_rfl
def dN:tL:=(161,oi)::dM
theorem fw:tO dN:=SX fu vQ
def pO:Sg:=⟨[(true,T4),zI],[(true,Zj),zI],XK⟩
theorem v8:tE dN [] 232 pO:=fun _=>by kernel_rfl
def dO:tL:=(232,pO)::dN
theorem fx:tO dO:=SX fw v8
end Go.Proofs.YtbahicnpiefmlaaGreatDoor.Pt
