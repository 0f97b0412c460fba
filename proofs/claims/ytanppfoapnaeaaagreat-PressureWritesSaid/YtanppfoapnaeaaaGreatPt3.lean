/- The evaluator comes to each of the plain functions. No condition. -/
import Derived.Test.YtanppfoapnaeaaaGreatPt2
set_option linter.all false
namespace Go.Proofs.YtanppfoapnaeaaaGreat.Pt
open Go Sv Pl
set_option maxRecDepth 1000000
def oU:Sg:=⟨[zI],[(false,.bool)],WL⟩
theorem u3:tQ jZ [] 166 oU:=fun _=>by kernel_rfl
def jc:tL:=(166,oU)::jZ
theorem jd:tO jc:=SS ja u3
def oM:Sg:=⟨[zI,zI],[zI],Um⟩
theorem ut:tQ jc [] 152 oM:=fun _=>by kernel_rfl
def je:tL:=(152,oM)::jc
theorem jf:tO je:=SS jd ut
def qB:tA:=[(150,3,5,.loop { keep:=[0,3,7,6],kb:=[],pl:=[.slot 2 false zJ,.slot 8 false zJ],ex:=[(.ret,[]),(.exit 0,[])],pay:=.unit })]
def oK:Sg:=⟨[(false,(.sl false zJ))],[zI],XK⟩
theorem ur:tQ je qB 150 oK:=fun _=>by kernel_rfl
def jg:tL:=(150,oK)::je
theorem jh:tO jg:=SS jf ur
def pY:tA:=[(127,7,24,.loop { keep:=[0,1,15,31,23,19,27,5,17,25,13,29,4,16,24,12,28,18,26,14,22,30],kb:=[0],pl:=[.slot 3 false zJ,.slot 2 false zJ,.slot 32 false zJ],ex:=[(.ret,[]),(.exit 0,[])],pay:=.unit }),(127,18,49,.loop { keep:=[0,1,15,31,63,23,71,55,19,67,51,27,59,5,9,17,65,25,57,13,69,53,29,61,4,8,16,32,64,24,56,12,68,52,28,60,18,66,26,58,14,22,70,54,30,62],kb:=[0],pl:=[.slot 3 false zJ,.slot 2 false zJ,.slot 72 false zJ],ex:=[(.ret,[]),(.exit 2,[])],pay:=.unit })]
def nj:Sg:=⟨[(true,T9)],[zI,zI],Vi⟩
theorem uS:tQ jg pY 127 nj:=fun _=>by kernel_rfl
def ji:tL:=(127,nj)::jg
theorem jj:tO ji:=SS jh uS
theorem vN:MC Tryz.prog (λf=> !pu f) 1000 100 168=true:=by kernel_rfl
theorem u4(a:Ty.den zJ)(l:List (Ty.den zJ)):OS Tryz.prog (Ae pu ji) (RL []) 3000 60 168 [(false,(.sl false zJ))] [(false,(.sl false zJ))] (a::l)=Tp (a::l):=by kernel_rfl
def jk:tL:=(168,⟨[(false,(.sl false zJ))],[(false,(.sl false zJ))],Tp⟩)::ji
theorem jl:tO jk:=SU (gg:=false) (c:=zJ) jj vN rfl u4
theorem vR:Ov Tryz.prog (λf=> !pu f) 1000 100 168=true:=by kernel_rfl
theorem vU(a:Ty.den zJ)(l:List (Ty.den zJ)):P0 Tryz.prog (Ae pu jk) (RL []) 3000 60 168 [(false,(.sl false zJ))] false zJ (a::l)=Tp (a::l):=by kernel_rfl
def jm:tL:=(168+Cs,⟨[(false,(.sl false zJ))],[(false,(.sl false zJ))],Tp⟩)::jk
theorem jo:tO jm:=SV (gg:=false) (c:=zJ) jl vR rfl (λa l y h=>R7 h) vU
theorem vH(x:AP [zI,zI,(true,sZ)]):Py Tryz.prog (Ae pu jm) (RL []) 3000 60 182 [zI,zI,(true,sZ)] [(false,.bool)] x=UQ x:=by kernel_rfl
def jp:tL:=(3145910,⟨[zI,zI,(true,sZ)],[(false,.bool)],UQ⟩)::jm
theorem jq:tO jp:=Sk (f:=182) jo vH
def qC:tA:=[(169,13,63,.loop { keep:=[0,1,3,7,31,63,47,55,11,19,35,51,27,43,59,9,17,33,49,25,41,57,13,21,37,53,29,61,2,4,8,32,24,40,56,12,20,36,52,28,44,60,6,18,34,50,26,42,58,14,38,54,30,46,62],kb:=[0,1,33,52],pl:=[.slot 5 false zJ,.slot 10 false zJ,.box 2 [.kp 33,.ow false zJ false,.lf zJ]],ex:=[(.exit 0,[])],pay:=.unit })]
def oV:Sg:=⟨[(true,T7),(true,T5)],[(true,T7),zI,zI],Uq⟩
theorem u5:tQ jp qC 169 oV:=fun _=>by kernel_rfl
def jr:tL:=(169,oV)::jp
theorem jt:tO jr:=SS jq u5
def pZ:tA:=[(167,0,45,.loop { keep:=[0,1],kb:=[39,35,43,9,13,44],pl:=[.box 0 [.ow true T2 false],.box 1 [.ow false zJ false]],ex:=[(.ret,[(44,0,none)])],pay:=.unit }),(147,3,47,.loop { keep:=[0,1,11,13,4,10,14],kb:=[0,1,39,27,13,30],pl:=[.slot 15 false zJ,.srow 5 true T5 true],ex:=[(.exit 0,[])],pay:=.unit }),(167,0,72,.loop { keep:=[0,1],kb:=[47,39,71,9,13,53,66,70,30],pl:=[.box 0 [.ow true T2 false],.box 1 [.ow false zJ false],.box 62 [.kp 30,.ow false zJ true,.lf (.sl true T5),.lf (.sl false zJ),.lf zJ]],ex:=[(.ret,[(71,0,none)])],pay:=.unit })]
def nk:Sg:=⟨[(false,(.sl false (.sl true T2)))],[(false,(.sl true T2)),(false,(.sl false zJ)),zI],Xk⟩
theorem uT:tQ jr pZ 128 nk:=fun _=>by kernel_rfl
def ju:tL:=(128,nk)::jr
theorem jv:tO ju:=SS jt uT
def oW:Sg:=⟨[(true,mV)],[zI],Vz⟩
theorem u6:tQ ju [] 170 oW:=fun _=>by kernel_rfl
def jw:tL:=(170,oW)::ju
theorem jx:tO jw:=SS jv u6
def oh:Sg:=⟨[(true,T2)],[(true,T2)],UD⟩
theorem vJ:tQ jw [] 200 oh:=fun _=>by kernel_rfl
def jy:tL:=(200,oh)::jw
theorem jz:tO jy:=SS jx vJ
def pf:tA:=[(154,5,24,.loop { keep:=[0,1,15,19,17,2,8,16,20,18,14],kb:=[],pl:=[.slot 7 false zJ,.slot 21 false zJ,.slot 6 false zJ,.box 19 [.lf .bool,.lf .str,.lf .bool],.box 0 [.ow true T2 false]],ex:=[(.ret,[]),(.exit 0,[])],pay:=.unit })]
def nl:Sg:=⟨[(false,(.sl true T2)),(false,.bool)],[(false,(.sl true T2)),zI,zI],WQ⟩
theorem uU:tQ jy pf 129 nl:=fun _=>by kernel_rfl
def j0:tL:=(129,nl)::jy
theorem j7:tO j0:=SS jz uU
def pj:tA:=[(130,4,9,.loop { keep:=[0,1,7,11,9,13,8,12,10],kb:=[],pl:=[.slot 4 false .bool,.slot 14 false zJ],ex:=[(.ret,[]),(.exit 0,[])],pay:=.unit })]
def np:Sg:=⟨[(false,(.sl true T2)),(false,(.sl true T2))],[(false,.bool)],V0⟩
theorem uV:tQ j0 pj 130 np:=fun _=>by kernel_rfl
def j8:tL:=(130,np)::j0
theorem j9:tO j8:=SS j7 uV
def tz:tA:=[(99,6,18,.loop { keep:=[0,1,3,15,23,19,17,25,21,2,4,16,24,20,18,26,14],kb:=[0],pl:=[.slot 27 false zJ,.slot 5 false zJ],ex:=[(.exit 0,[])],pay:=.unit })]
def sW:Sg:=⟨[(true,bT)],[zI],Wt⟩
theorem xU:tQ j8 tz 99 sW:=fun _=>by kernel_rfl
def kA:tL:=(99,sW)::j8
theorem kB:tO kA:=SS j9 xU
end Go.Proofs.YtanppfoapnaeaaaGreat.Pt
