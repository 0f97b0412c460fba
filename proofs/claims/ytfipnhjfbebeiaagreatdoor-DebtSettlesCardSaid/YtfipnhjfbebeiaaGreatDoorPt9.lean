/- The evaluator comes to each of the plain functions. No condition. -/
import Derived.Test.YtfipnhjfbebeiaaGreatDoorPt8
set_option linter.all false
namespace Go.Proofs.YtfipnhjfbebeiaaGreatDoor.Pt
open Go Sv Pl
set_option maxRecDepth 1000000
def rL:Sg:=⟨[(true,Yu),zI,zI],[(true,Yu),zI,zI],YH⟩
theorem xy:tE fY [] 165 rL:=fun _=>by kernel_rfl
def fZ:tL:=(165,rL)::fY
theorem iv:tO fZ:=SY iu xy
def uN:tA:=[(200,5,30,.loop { keep:=[0,1,3,7,15,31,23,11,19,27,9,17,25,13,21,29,2,16,32,24,12,20,28,6,10,18,26,14,22,30],kb:=[0,1,12,10],pl:=[.slot 8 false zJ],ex:=[(.exit 0,[])],pay:=.unit })]
def sJ:Sg:=⟨[(true,T4),zI,(false,(.sl true T3))],[(true,T4)],V2⟩
theorem yf:tE fZ uN 200 sJ:=fun _=>by kernel_rfl
def fa:tL:=(200,sJ)::fZ
theorem iw:tO fa:=SY iv yf
def rq:Sg:=⟨[(true,T4),zI],[(true,T4),(false,(.sl true T3)),zI],Vq⟩
theorem yQ:tE fa [] 185 rq:=fun _=>by kernel_rfl
def fb:tL:=(185,rq)::fa
theorem iy:tO fb:=SY iw yQ
def uH:tA:=[(144,1,31,.loop { keep:=[0,1,7,8,6],kb:=[0,1,25,21,26],pl:=[.slot 9 false zJ,.box 2 [.lf zJ,.ow true (.sl true T3) false],.box 3 [.lf zJ]],ex:=[(.exit 0,[(26,0,none)]),(.ret,[(26,2,some .ret)])],pay:=.unit }),(144,4,41,.loop { keep:=[0,1,7,15,11,9,13,4,8,16,12,6,10,14],kb:=[0,1,3,25,21,34,26],pl:=[.slot 5 false zJ,.box 2 [.lf zJ,.ow true (.sl true T3) false]],ex:=[(.exit 2,[(26,0,none)])],pay:=.unit }),(144,4,42,.loop { keep:=[0,1,7,15,11,9,13,4,8,16,12,6,10,14],kb:=[0,1,35,25,21,26],pl:=[.slot 5 false zJ,.box 2 [.lf zJ,.ow true (.sl true T3) false],.box 3 [.lf zJ]],ex:=[(.exit 2,[(26,0,none)]),(.ret,[(26,2,some .ret)])],pay:=.unit })]
def ru:Sg:=⟨[(true,T4),zI,(true,T3)],[(true,T4),zI],Ua⟩
theorem yR:tE fb uH 186 ru:=fun _=>by kernel_rfl
def fc:tL:=(186,ru)::fb
theorem i0:tO fc:=SY iy yR
def sK:Sg:=⟨[(true,T4),zI],[(true,Z5),zI],Xl⟩
theorem yg:tE fc [] 201 sK:=fun _=>by kernel_rfl
def fe:tL:=(201,sK)::fc
theorem i4:tO fe:=SY i0 yg
def uI:tA:=[(187,3,10,.loop { keep:=[0,1,3,19,5,9,21,2,4,8,20,10,22],kb:=[0,1,2],pl:=[.slot 23 false zJ,.map 4 zJ true Z5],ex:=[(.exit 0,[])],pay:=.unit }),(187,10,22,.loop { keep:=[0,1,3,23,39,19,35,5,33,13,21,37,2,4,8,32,20,36,10,34,22,38],kb:=[0,1,4],pl:=[.slot 9 false zJ,.slot 40 false zJ,.box 2 [.lf zJ,.ow true (.sl true T3) false,.ow true Z5 false,.lf zJ],.box 16 [.lf zJ,.lf (.sl true (.sl true T3)),.ow true Z5 false,.lf zJ]],ex:=[(.exit 2,[]),(.ret,[])],pay:=.unit })]
def rx:Sg:=⟨[(true,Yu),(true,T4),zI,zI],[(true,Yu),zI],UO⟩
theorem yS:tE fe uI 187 rx:=fun _=>by kernel_rfl
def ff:tL:=(187,rx)::fe
theorem i5:tO ff:=SY i4 yS
def rM:Sg:=⟨[(true,Yu),zI],[(true,Yu),zI],WC⟩
theorem xz:tE ff [] 166 rM:=fun _=>by kernel_rfl
def fh:tL:=(166,rM)::ff
theorem i6:tO fh:=SY i5 xz
def qx:Sg:=⟨[(true,Yu),zI],[(true,Yu),(false,.bool),zI],Uw⟩
theorem xU:tE fh [] 136 qx:=fun _=>by kernel_rfl
def fi:tL:=(136,qx)::fh
theorem i7:tO fi:=SY i6 xU
def wO:tA:=[(95,3,25,.loop { keep:=[0,1,5,2,4,6],kb:=[0,3,19,9,18,14],pl:=[.box 13 [.lf zJ,.lf (.sl true (.sl true T3)),.lf (.sl true Z5),.lf zJ],.box 22 [.er 264 0 102 .i64],.box 20 [.lf zJ],.box 2 [.lf zJ,.lf (.sl true (.sl true T3)),.lf (.sl true Z5),.lf zJ],.box 1 [.lf zJ]],ex:=[(.ret,[(19,0,none)]),(.ret,[(19,2,some (.exit 0))])],pay:=.unit })]
def ux:Sg:=⟨[(true,Yu),zI],[(true,Yu),zI,zI],Wn⟩
theorem zt:tE fi wO 26 ux:=fun _=>by kernel_rfl
def fj:tL:=(26,ux)::fi
theorem i8:tO fj:=SY i7 zt
def zO:Sg:=⟨[(true,Yu),zI],[(true,Yu),zI,zI],X6⟩
theorem e8:tE fj [] 8 zO:=fun _=>by kernel_rfl
def fm:tL:=(8,zO)::fj
theorem i9:tO fm:=SY i8 e8
def uh:Sg:=⟨[(true,Yu)],[(true,Yu),zI,zI],V1⟩
theorem ze:tE fm [] 11 uh:=fun _=>by kernel_rfl
def fo:tL:=(11,uh)::fm
theorem jA:tO fo:=SY i9 ze
def uv:Sg:=⟨[(true,Yu)],[(false,.bool),zI],Y9⟩
theorem zq:tE fo [] 24 uv:=fun _=>by kernel_rfl
def fq:tL:=(24,uv)::fo
theorem jB:tO fq:=SY jA zq
def zN:Sg:=⟨[],[(false,.bool)],VO⟩
theorem e7:tE fq [] 7 zN:=fun _=>by kernel_rfl
def ft:tL:=(7,zN)::fq
theorem jC:tO ft:=SY jB e7
def za:tA:=[(6,3,4,.loop { keep:=[0,1,2],kb:=[0],pl:=[.slot 3 false zJ,.slot 4 false zJ],ex:=[(.exit 0,[])],pay:=.unit }),(6,6,11,.loop { keep:=[0,1,7,11,9,2,4,8,6,10],kb:=[0],pl:=[.slot 3 false zJ,.slot 5 false zJ],ex:=[(.exit 2,[])],pay:=.unit })]
def zM:Sg:=⟨[(true,Yu)],[(false,.bool)],YI⟩
theorem e6:tE ft za 6 zM:=fun _=>by kernel_rfl
def fu:tL:=(6,zM)::ft
theorem jD:tO fu:=SY jC e6
end Go.Proofs.YtfipnhjfbebeiaaGreatDoor.Pt
