/- The evaluator comes to each of the plain functions. No condition. -/
import Derived.Test.YtanppfoapnaeaaaGreatPt4
set_option linter.all false
namespace Go.Proofs.YtanppfoapnaeaaaGreat.Pt
open Go Sv Pl
set_option maxRecDepth 1000000
def q9:Sg:=⟨[(true,T3),(false,(.sl true T2))],[(false,.bool),zI],Vf⟩
theorem wQ:tQ ki [] 41 q9:=fun _=>by kernel_rfl
def kl:tL:=(41,q9)::ki
theorem km:tO kl:=SS kj wQ
def qi:Sg:=⟨[(true,T3),(false,(.sl true T2))],[(true,T3),zI,zI],VJ⟩
theorem wA:tQ kl [] 23 qi:=fun _=>by kernel_rfl
def kn:tL:=(23,qi)::kl
theorem ko:tO kn:=SS km wA
def qj:Sg:=⟨[(true,ZM)],[(true,ZM)],UY⟩
theorem wB:tQ kn [] 25 qj:=fun _=>by kernel_rfl
def kq:tL:=(25,qj)::kn
theorem kr:tO kq:=SS ko wB
def sT:Sg:=⟨[(true,T4),zI],[zI],XE⟩
theorem xR:tQ kq [] 93 sT:=fun _=>by kernel_rfl
def ks:tL:=(93,sT)::kq
theorem ku:tO ks:=SS kr xR
def rR:Sg:=⟨[(true,T4),zI],[(false,.bool),zI],Uh⟩
theorem wj:tQ ks [] 59 rR:=fun _=>by kernel_rfl
def kw:tL:=(59,rR)::ks
theorem ky:tO kw:=SS ku wj
def pR:tA:=[(109,5,30,.loop { keep:=[0,1,3,7,15,31,23,11,19,27,9,17,25,13,21,29,2,16,32,24,12,20,28,6,10,18,26,14,22,30],kb:=[0,1,12,10],pl:=[.slot 8 false zJ],ex:=[(.exit 0,[])],pay:=.unit })]
def nN:Sg:=⟨[(true,T4),zI,(false,(.sl true T3))],[(true,T4)],WD⟩
theorem uC:tQ kw pR 109 nN:=fun _=>by kernel_rfl
def kz:tL:=(109,nN)::kw
theorem lA:tO kz:=SS ky uC
def tW:tA:=[(134,1,31,.loop { keep:=[0,1,7,8,6],kb:=[0,1,25,21,26],pl:=[.slot 9 false zJ,.box 2 [.lf zJ,.ow true (.sl true T3) false],.box 3 [.lf zJ]],ex:=[(.exit 0,[(26,0,none)]),(.ret,[(26,2,some .ret)])],pay:=.unit }),(134,4,41,.loop { keep:=[0,1,7,15,11,9,13,4,8,16,12,6,10,14],kb:=[0,1,3,25,21,34,26],pl:=[.slot 5 false zJ,.box 2 [.lf zJ,.ow true (.sl true T3) false]],ex:=[(.exit 2,[(26,0,none)])],pay:=.unit }),(134,4,42,.loop { keep:=[0,1,7,15,11,9,13,4,8,16,12,6,10,14],kb:=[0,1,35,25,21,26],pl:=[.slot 5 false zJ,.box 2 [.lf zJ,.ow true (.sl true T3) false],.box 3 [.lf zJ]],ex:=[(.exit 2,[(26,0,none)]),(.ret,[(26,2,some .ret)])],pay:=.unit })]
def rn:Sg:=⟨[(true,T4),zI,(true,T3)],[(true,T4),zI],Vc⟩
theorem wz:tQ kz tW 71 rn:=fun _=>by kernel_rfl
def lB:tL:=(71,rn)::kz
theorem lC:tO lB:=SS lA wz
def nO:Sg:=⟨[(true,T4),zI],[(true,gR),zI],XL⟩
theorem uD:tQ lB [] 110 nO:=fun _=>by kernel_rfl
def lD:tL:=(110,nO)::lB
theorem lE:tO lD:=SS lC uD
def tX:tA:=[(72,3,10,.loop { keep:=[0,1,3,19,5,9,21,2,4,8,20,10,22],kb:=[0,1,2],pl:=[.slot 23 false zJ,.map 4 zJ true gR],ex:=[(.exit 0,[])],pay:=.unit }),(72,10,22,.loop { keep:=[0,1,3,23,39,19,35,5,33,13,21,37,2,4,8,32,20,36,10,34,22,38],kb:=[0,1,4],pl:=[.slot 9 false zJ,.slot 40 false zJ,.box 2 [.lf zJ,.ow true (.sl true T3) false,.ow true gR false,.lf zJ],.box 16 [.lf zJ,.lf (.sl true (.sl true T3)),.ow true gR false,.lf zJ]],ex:=[(.exit 2,[]),(.ret,[])],pay:=.unit })]
def rp:Sg:=⟨[(true,eC),(true,T4),zI,zI],[(true,eC),zI],Vw⟩
theorem w6:tQ lD tX 72 rp:=fun _=>by kernel_rfl
def lF:tL:=(72,rp)::lD
theorem lG:tO lF:=SS lE w6
def rB:Sg:=⟨[(true,eC),(false,(.sl true T2))],[(true,eC),zI],VM⟩
theorem wR:tQ lF [] 42 rB:=fun _=>by kernel_rfl
def lH:tL:=(42,rB)::lF
theorem lI:tO lH:=SS lG wR
def vq:tA:=[(20,4,72,.loop { keep:=[0,1,7,15,11,19,9,17,25,13,21,2,8,16,24,12,20,10,18,14,22],kb:=[0,1,3,7,9,52,10],pl:=[.slot 26 false zJ],ex:=[(.pan 93 true zJ,[]),(.exit 0,[])],pay:=zJ }),(20,9,76,.loop { keep:=[0,1,7,15,11,19,35,9,17,25,13,21,2,8,16,24,12,20,36,10,18,34,26,14,22],kb:=[0,1,3,7,9,52,10],pl:=[.slot 37 false zJ],ex:=[(.pan 93 true zJ,[]),(.exit 2,[])],pay:=zJ })]
def vZ:Sg:=⟨[(true,ZM),(false,(.sl true T2))],[(true,ZM),zI,zI],UT⟩
theorem e7:tQ lH vq 7 vZ:=fun _=>by kernel_rfl
def lJ:tL:=(7,vZ)::lH
theorem lK:tO lJ:=SS lI e7
def sf:tA:=[(20,4,71,.loop { keep:=[0,1,7,15,11,19,9,17,25,13,21,2,8,16,24,12,20,10,18,14,22],kb:=[0,51,9,2,8,6],pl:=[.slot 26 false zJ],ex:=[(.pan 93 true zJ,[]),(.exit 0,[])],pay:=zJ }),(20,9,75,.loop { keep:=[0,1,7,15,11,19,35,9,17,25,13,21,2,8,16,24,12,20,36,10,18,34,26,14,22],kb:=[0,51,9,2,8,6],pl:=[.slot 37 false zJ],ex:=[(.pan 93 true zJ,[]),(.exit 2,[])],pay:=zJ })]
def qg:Sg:=⟨[(true,ZM),(false,(.sl true T2))],[(false,.bool),zI],Xs⟩
theorem v8:tQ lJ sf 16 qg:=fun _=>by kernel_rfl
def lL:tL:=(16,qg)::lJ
theorem lM:tO lL:=SS lK v8
def si:tA:=[(20,4,71,.loop { keep:=[0,1,7,15,11,19,9,17,25,13,21,2,8,16,24,12,20,10,18,14,22],kb:=[0,51,9,2,8,6],pl:=[.slot 26 false zJ],ex:=[(.pan 93 true zJ,[]),(.exit 0,[])],pay:=zJ }),(20,9,75,.loop { keep:=[0,1,7,15,11,19,35,9,17,25,13,21,2,8,16,24,12,20,36,10,18,34,26,14,22],kb:=[0,51,9,2,8,6],pl:=[.slot 37 false zJ],ex:=[(.pan 93 true zJ,[]),(.exit 2,[])],pay:=zJ })]
def qh:Sg:=⟨[(true,ZM),(false,(.sl true T2))],[(false,.bool),zI],YF⟩
theorem v9:tQ lL si 17 qh:=fun _=>by kernel_rfl
def lN:tL:=(17,qh)::lL
theorem lO:tO lN:=SS lM v9
def vp:tA:=[(6,8,32,.loop { keep:=[1,3,31,23,39,35,27,5,33,25,21,37,29,2,4,32,24,40,20,36,28,6,34,26,22,38,30],kb:=[29,26],pl:=[.slot 0 false .bool,.slot 7 false zJ,.box 5 [.lf zJ,.lf (.sl true T2),.lf zJ,.lf (.sl true (.sl true T3)),.lf (.sl true gR),.lf zJ]],ex:=[(.ret,[]),(.exit 0,[])],pay:=.unit })]
def vY:Sg:=⟨[],[(false,.bool)],WC⟩
theorem e6:tQ lN vp 6 vY:=fun _=>by kernel_rfl
def lQ:tL:=(6,vY)::lN
theorem lR:tO lQ:=SS lO e6
end Go.Proofs.YtanppfoapnaeaaaGreat.Pt
