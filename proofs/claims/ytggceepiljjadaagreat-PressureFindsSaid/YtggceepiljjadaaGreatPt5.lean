/- The evaluator comes to each of the plain functions. No condition. -/
import Derived.Test.YtggceepiljjadaaGreatPt4
set_option linter.all false
namespace Go.Proofs.YtggceepiljjadaaGreat.Pt
open Go Sv Pl
set_option maxRecDepth 1000000
def vE:Sg:=⟨[(true,T3),(false,(.sl true T2))],[(false,.bool),zI],WC⟩
theorem z9:tE ni [] 56 vE:=fun _=>by kernel_rfl
def nk:tL:=(56,vE)::ni
theorem nl:tO nk:=SR nj z9
def ui:Sg:=⟨[(true,T3),(false,(.sl true T2))],[(true,T3),zI,zI],Vp⟩
theorem zY:tE nk [] 28 ui:=fun _=>by kernel_rfl
def np:tL:=(28,ui)::nk
theorem nq:tO np:=SR nl zY
def uj:Sg:=⟨[(true,eA)],[(true,eA)],VI⟩
theorem zZ:tE np [] 30 uj:=fun _=>by kernel_rfl
def nr:tL:=(30,uj)::np
theorem nu:tO nr:=SR nq zZ
def ql:Sg:=⟨[(true,T4),zI],[zI],Wy⟩
theorem w7:tE nr [] 104 ql:=fun _=>by kernel_rfl
def nv:tL:=(104,ql)::nr
theorem ny:tO nv:=SR nu w7
def vp:Sg:=⟨[(true,T4),zI],[(false,.bool),zI],U7⟩
theorem e86:tE nv [] 86 vp:=fun _=>by kernel_rfl
def nz:tL:=(86,vp)::nv
theorem oA:tO nz:=SR ny e86
def tX:tA:=[(106,5,30,.loop { keep:=[0,1,3,7,15,31,23,11,19,27,9,17,25,13,21,29,2,16,32,24,12,20,28,6,10,18,26,14,22,30],kb:=[0,1,12,10],pl:=[.slot 8 false zJ],ex:=[(.exit 0,[])],pay:=.unit })]
def qm:Sg:=⟨[(true,T4),zI,(false,(.sl true T3))],[(true,T4)],WE⟩
theorem w8:tE nz tX 106 qm:=fun _=>by kernel_rfl
def oB:tL:=(106,qm)::nz
theorem oC:tO oB:=SR oA w8
def wc:tA:=[(137,1,31,.loop { keep:=[0,1,7,8,6],kb:=[0,1,25,21,26],pl:=[.slot 9 false zJ,.box 2 [.lf zJ,.ow true (.sl true T3) false],.box 3 [.lf zJ]],ex:=[(.exit 0,[(26,0,none)]),(.ret,[(26,2,some .ret)])],pay:=.unit }),(137,4,41,.loop { keep:=[0,1,7,15,11,9,13,4,8,16,12,6,10,14],kb:=[0,1,3,25,21,34,26],pl:=[.slot 5 false zJ,.box 2 [.lf zJ,.ow true (.sl true T3) false]],ex:=[(.exit 2,[(26,0,none)])],pay:=.unit }),(137,4,42,.loop { keep:=[0,1,7,15,11,9,13,4,8,16,12,6,10,14],kb:=[0,1,35,25,21,26],pl:=[.slot 5 false zJ,.box 2 [.lf zJ,.ow true (.sl true T3) false],.box 3 [.lf zJ]],ex:=[(.exit 2,[(26,0,none)]),(.ret,[(26,2,some .ret)])],pay:=.unit })]
def vR:Sg:=⟨[(true,T4),zI,(true,T3)],[(true,T4),zI],UQ⟩
theorem e69:tE oB wc 69 vR:=fun _=>by kernel_rfl
def oD:tL:=(69,vR)::oB
theorem oE:tO oD:=SR oC e69
def qo:Sg:=⟨[(true,T4),zI],[(true,ah),zI],Xo⟩
theorem xA:tE oD [] 109 qo:=fun _=>by kernel_rfl
def oF:tL:=(109,qo)::oD
theorem oG:tO oF:=SR oE xA
def we:tA:=[(70,3,10,.loop { keep:=[0,1,3,19,5,9,21,2,4,8,20,10,22],kb:=[0,1,2],pl:=[.slot 23 false zJ,.map 4 zJ true ah],ex:=[(.exit 0,[])],pay:=.unit }),(70,10,22,.loop { keep:=[0,1,3,23,39,19,35,5,33,13,21,37,2,4,8,32,20,36,10,34,22,38],kb:=[0,1,4],pl:=[.slot 9 false zJ,.slot 40 false zJ,.box 2 [.lf zJ,.ow true (.sl true T3) false,.ow true ah false,.lf zJ],.box 16 [.lf zJ,.lf (.sl true (.sl true T3)),.ow true ah false,.lf zJ]],ex:=[(.exit 2,[]),(.ret,[])],pay:=.unit })]
def vS:Sg:=⟨[(true,bn),(true,T4),zI,zI],[(true,bn),zI],UB⟩
theorem e70:tE oF we 70 vS:=fun _=>by kernel_rfl
def oH:tL:=(70,vS)::oF
theorem oI:tO oH:=SR oG e70
def vF:Sg:=⟨[(true,bn),(false,(.sl true T2))],[(true,bn),zI],WZ⟩
theorem e57:tE oH [] 57 vF:=fun _=>by kernel_rfl
def oJ:tL:=(57,vF)::oH
theorem oK:tO oJ:=SR oI e57
def zD:tA:=[(25,4,72,.loop { keep:=[0,1,7,15,11,19,9,17,25,13,21,2,8,16,24,12,20,10,18,14,22],kb:=[0,1,3,7,9,52,10],pl:=[.slot 26 false zJ],ex:=[(.pan 120 true zJ,[]),(.exit 0,[])],pay:=zJ }),(25,9,76,.loop { keep:=[0,1,7,15,11,19,35,9,17,25,13,21,2,8,16,24,12,20,36,10,18,34,26,14,22],kb:=[0,1,3,7,9,52,10],pl:=[.slot 37 false zJ],ex:=[(.pan 120 true zJ,[]),(.exit 2,[])],pay:=zJ })]
def yq:Sg:=⟨[(true,eA),(false,(.sl true T2))],[(true,eA),zI,zI],UR⟩
theorem e9:tE oJ zD 9 yq:=fun _=>by kernel_rfl
def oL:tL:=(9,yq)::oJ
theorem oM:tO oL:=SR oK e9
def wJ:tA:=[(25,4,71,.loop { keep:=[0,1,7,15,11,19,9,17,25,13,21,2,8,16,24,12,20,10,18,14,22],kb:=[0,51,9,2,8,6],pl:=[.slot 26 false zJ],ex:=[(.pan 120 true zJ,[]),(.exit 0,[])],pay:=zJ }),(25,9,75,.loop { keep:=[0,1,7,15,11,19,35,9,17,25,13,21,2,8,16,24,12,20,36,10,18,34,26,14,22],kb:=[0,51,9,2,8,6],pl:=[.slot 37 false zJ],ex:=[(.pan 120 true zJ,[]),(.exit 2,[])],pay:=zJ })]
def uf:Sg:=⟨[(true,eA),(false,(.sl true T2))],[(false,.bool),zI],Yb⟩
theorem zV:tE oL wJ 20 uf:=fun _=>by kernel_rfl
def oN:tL:=(20,uf)::oL
theorem oO:tO oN:=SR oM zV
def wK:tA:=[(25,4,71,.loop { keep:=[0,1,7,15,11,19,9,17,25,13,21,2,8,16,24,12,20,10,18,14,22],kb:=[0,51,9,2,8,6],pl:=[.slot 26 false zJ],ex:=[(.pan 120 true zJ,[]),(.exit 0,[])],pay:=zJ }),(25,9,75,.loop { keep:=[0,1,7,15,11,19,35,9,17,25,13,21,2,8,16,24,12,20,36,10,18,34,26,14,22],kb:=[0,51,9,2,8,6],pl:=[.slot 37 false zJ],ex:=[(.pan 120 true zJ,[]),(.exit 2,[])],pay:=zJ })]
def ug:Sg:=⟨[(true,eA),(false,(.sl true T2))],[(false,.bool),zI],ZB⟩
theorem zW:tE oN wK 21 ug:=fun _=>by kernel_rfl
def oQ:tL:=(21,ug)::oN
theorem oR:tO oQ:=SR oO zW
def zB:tA:=[(7,8,32,.loop { keep:=[1,3,31,23,39,35,27,5,33,25,21,37,29,2,4,32,24,40,20,36,28,6,34,26,22,38,30],kb:=[29,26],pl:=[.slot 0 false .bool,.slot 7 false zJ,.box 5 [.lf zJ,.lf (.sl true T2),.lf zJ,.lf (.sl true (.sl true T3)),.lf (.sl true ah),.lf zJ]],ex:=[(.ret,[]),(.exit 0,[])],pay:=.unit })]
def yj:Sg:=⟨[],[(false,.bool)],U9⟩
theorem e7:tE oQ zB 7 yj:=fun _=>by kernel_rfl
def oS:tL:=(7,yj)::oQ
theorem oT:tO oS:=SR oR e7
end Go.Proofs.YtggceepiljjadaaGreat.Pt
