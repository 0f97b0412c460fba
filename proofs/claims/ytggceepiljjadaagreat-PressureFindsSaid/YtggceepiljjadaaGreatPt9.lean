/- The evaluator comes to each of the plain functions. No condition. -/
import Derived.Test.YtggceepiljjadaaGreatPt8
set_option linter.all false
namespace Go.Proofs.YtggceepiljjadaaGreat.Pt
open Go Sv Pl
set_option maxRecDepth 1000000
def wq:tA:=[(83,4,27,.loop { keep:=[0,1,3,7,15,23,11,19,27,9,17,25,13,21,2,8,16,24,12,20,28,6,10,18,26,14,22],kb:=[0,1],pl:=[.slot 5 false zJ,.slot 4 false .bool],ex:=[(.ret,[]),(.exit 0,[])],pay:=.unit })]
def vk:Sg:=⟨[(true,T9),(true,T9)],[(false,.bool)],Xx⟩
theorem e83:tE fZ wq 83 vk:=fun _=>by kernel_rfl
def fa:tL:=(83,vk)::fZ
theorem jF:tO fa:=SR jE e83
def u5:Sg:=⟨[(true,d9),(true,d9)],[(false,.bool)],Uc⟩
theorem zs:tE fa [] 47 u5:=fun _=>by kernel_rfl
def fb:tL:=(47,u5)::fa
theorem jG:tO fb:=SR jF zs
def wI:tA:=[(16,10,42,.loop { keep:=[0,1,7,31,23,39,19,35,27,43,5,17,33,49,25,41,21,37,29,45,4,16,32,48,24,40,20,36,28,44,6,18,34,50,26,42,22,38,30,46],kb:=[0],pl:=[.slot 3 false zJ,.slot 2 false zJ,.slot 8 false zJ],ex:=[(.ret,[]),(.exit 0,[])],pay:=.unit })]
def ub:Sg:=⟨[(true,bn)],[zI,zI],VM⟩
theorem zO:tE fb wI 16 ub:=fun _=>by kernel_rfl
def fc:tL:=(16,ub)::fb
theorem jH:tO fc:=SR jG zO
def yi:Sg:=⟨[(true,eA)],[zI],Vj⟩
theorem e6:tE fc [] 6 yi:=fun _=>by kernel_rfl
def fe:tL:=(6,yi)::fc
theorem jI:tO fe:=SR jH e6
def wV:tA:=[(52,2,3,.loop { keep:=[0,1,3,4],kb:=[0],pl:=[.slot 5 false zJ],ex:=[(.exit 0,[])],pay:=.unit })]
def vA:Sg:=⟨[(false,(.sl true T2)),(true,T2)],[(false,(.sl true T2))],Xh⟩
theorem zx:tE fe wV 52 vA:=fun _=>by kernel_rfl
def ff:tL:=(52,vA)::fe
theorem jJ:tO ff:=SR jI zx
def wL:tA:=[(22,4,11,.loop { keep:=[0,1,3,11,13,2,4,12,10,14],kb:=[0],pl:=[.slot 5 false (.sl true T2),.slot 6 false zJ],ex:=[(.exit 0,[])],pay:=.unit }),(22,7,17,.loop { keep:=[0,1,3,15,11,17,13,2,4,16,12,6,10,18,14],kb:=[0,11],pl:=[.slot 7 false zJ,.slot 5 false (.sl true T2)],ex:=[(.exit 2,[])],pay:=.unit,relS:=[5] }),(22,12,14,.loop { keep:=[0,1,3,11,5,13,2,4,12,6,10,14],kb:=[0,11],pl:=[.slot 9 false zJ,.srow 8 true T2 false],ex:=[],pay:=.unit }),(22,7,16,.loop { keep:=[0,1,3,15,11,17,13,2,4,16,12,6,10,18,14],kb:=[0],pl:=[.slot 7 false zJ,.slot 5 false (.sl true T2)],ex:=[(.exit 2,[])],pay:=.unit }),(22,12,13,.loop { keep:=[0,1,3,11,5,13,2,4,12,6,10,14],kb:=[0],pl:=[.slot 9 false zJ,.srow 8 true T2 false],ex:=[(.exit 4,[])],pay:=.unit })]
def uh:Sg:=⟨[(true,T4)],[(false,(.sl true T2))],YJ⟩
theorem zX:tE ff wL 22 uh:=fun _=>by kernel_rfl
def fh:tL:=(22,uh)::ff
theorem jK:tO fh:=SR jJ zX
def zC:tA:=[(8,4,14,.loop { keep:=[0,1,15,19,17,21,2,4,16,20,14,22],kb:=[0],pl:=[.srow 3 true T2 false,.slot 5 false zJ],ex:=[(.exit 0,[])],pay:=.unit }),(8,8,21,.loop { keep:=[0,1,3,15,23,19,5,17,25,21,2,4,16,24,20,18,26,14,22],kb:=[0,14],pl:=[.slot 7 false zJ,.slot 6 false .bool],ex:=[(.exit 2,[])],pay:=.unit }),(8,14,16,.loop { keep:=[0,1,3,15,19,5,17,21,2,4,16,20,14,22],kb:=[0,14],pl:=[.srow 8 true T2 false],ex:=[(.exit 4,[])],pay:=.unit }),(8,17,24,.loop { keep:=[0,1,3,15,63,19,5,17,65,21,2,4,8,16,64,20,66,14,22,62],kb:=[0,16,14],pl:=[.slot 9 false zJ,.slot 10 false zJ],ex:=[(.exit 6,[])],pay:=.unit }),(8,25,19,.loop { keep:=[0,1,3,15,19,5,17,21,2,4,8,16,20,14,22],kb:=[0,16,14],pl:=[.slot 13 false zJ,.srow 12 true T2 false],ex:=[(.exit 8,[])],pay:=.unit })]
def yp:Sg:=⟨[(true,eA)],[(false,(.sl true T2))],W1⟩
theorem e8:tE fh zC 8 yp:=fun _=>by kernel_rfl
def fi:tL:=(8,yp)::fh
theorem jL:tO fi:=SR jK e8
def wD:tA:=[(10,4,7,.loop { keep:=[0,1,3,9,4,8],kb:=[0],pl:=[.slot 7 false zJ,.srow 5 true T2 false,.slot 6 false .bool],ex:=[(.exit 0,[])],pay:=.unit })]
def uU:Sg:=⟨[(false,(.sl true T2)),(true,T2)],[(false,(.sl true T2))],Xs⟩
theorem zG:tE fi wD 10 uU:=fun _=>by kernel_rfl
def fj:tL:=(10,uU)::fi
theorem jM:tO fj:=SR jL zG
def wM:tA:=[(96,1,35,.loop { keep:=[0,1,7,5,6],kb:=[0,29,18,30],pl:=[.slot 8 false zJ,.box 26 [.ow false zJ false]],ex:=[(.exit 0,[(30,0,none)])],pay:=.unit })]
def uk:Sg:=⟨[(true,bn)],[(false,(.sl false zJ)),zI],W5⟩
theorem za:tE fj wM 31 uk:=fun _=>by kernel_rfl
def fm:tL:=(31,uk)::fj
theorem jN:tO fm:=SR jM za
def wa:tA:=[(129,2,31,.loop { keep:=[0,1,7,6],kb:=[0,1],pl:=[.slot 4 false zJ,.slot 8 false zJ],ex:=[(.ret,[]),(.exit 0,[])],pay:=.unit })]
def vI:Sg:=⟨[(true,bn),zI],[zI,zI],Xg⟩
theorem e62:tE fm wa 62 vI:=fun _=>by kernel_rfl
def fo:tL:=(62,vI)::fm
theorem jO:tO fo:=SR jN e62
def um:Sg:=⟨[(true,bn),zI],[(true,tV),zI],VG⟩
theorem zb:tE fo [] 32 um:=fun _=>by kernel_rfl
def fq:tL:=(32,um)::fo
theorem jP:tO fq:=SR jO zb
def uo:Sg:=⟨[(true,tV)],[(false,.bool)],UO⟩
theorem ze:tE fq [] 34 uo:=fun _=>by kernel_rfl
def ft:tL:=(34,uo)::fq
theorem jQ:tO ft:=SR jP ze
def qk:Sg:=⟨[zI,zI],[zI,zI],XV⟩
theorem w6:tE ft [] 101 qk:=fun _=>by kernel_rfl
def fu:tL:=(101,qk)::ft
theorem jR:tO fu:=SR jQ w6
def vK:Sg:=⟨[(true,tV)],[(false,.bool)],UX⟩
theorem e64:tE fu [] 64 vK:=fun _=>by kernel_rfl
def fw:tL:=(64,vK)::fu
theorem jS:tO fw:=SR jR e64
end Go.Proofs.YtggceepiljjadaaGreat.Pt
