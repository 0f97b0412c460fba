/- The evaluator comes to each of the plain functions. No condition. -/
import Derived.Test.YtggceepiljjadaaGreatPt5
set_option linter.all false
namespace Go.Proofs.YtggceepiljjadaaGreat.Pt
open Go Sv Pl
set_option maxRecDepth 1000000
def uu:Sg:=⟨[(true,T2)],[zI],Vg⟩
theorem zj:tE oS [] 39 uu:=fun _=>by kernel_rfl
def oU:tL:=(39,uu)::oS
theorem oV:tO oU:=SR oT zj
def wH:tA:=[(15,6,18,.loop { keep:=[0,1,7,15,11,19,9,17,13,8,16,12,6,10,18,14],kb:=[0],pl:=[.slot 3 false zJ,.slot 2 false zJ,.slot 4 false zJ],ex:=[(.ret,[]),(.exit 0,[])],pay:=.unit })]
def ua:Sg:=⟨[(true,T3)],[zI,zI],Xc⟩
theorem zN:tE oU wH 15 ua:=fun _=>by kernel_rfl
def oW:tL:=(15,ua)::oU
theorem oX:tO oW:=SR oV zN
def wi:tA:=[(73,2,2,.loop { keep:=[1,4],kb:=[],pl:=[.slot 0 false zJ,.slot 5 false zJ],ex:=[(.exit 0,[])],pay:=.unit })]
def vV:Sg:=⟨[zI,zI],[zI],V5⟩
theorem e73:tE oW wi 73 vV:=fun _=>by kernel_rfl
def oY:tL:=(73,vV)::oW
theorem oZ:tO oY:=SR oX e73
def uE:tA:=[(171,2,2,.loop { keep:=[0,1,4],kb:=[],pl:=[.slot 5 false zJ],ex:=[(.exit 0,[])],pay:=.unit })]
def sE:Sg:=⟨[(false,.str),(false,.str)],[zI],XB⟩
theorem yK:tE oY uE 171 sE:=fun _=>by kernel_rfl
def oa:tL:=(171,sE)::oY
theorem oc:tO oa:=SR oZ yK
def ri:Sg:=⟨[(false,.str),(false,.str)],[zI],Wk⟩
theorem xu:tE oa [] 157 ri:=fun _=>by kernel_rfl
def od:tL:=(157,ri)::oa
theorem oe:tO od:=SR oc xu
def t4:tA:=[(138,4,6,.loop { keep:=[0,7,8,6],kb:=[],pl:=[.slot 3 false zJ,.slot 2 false zJ,.slot 4 false zJ],ex:=[(.ret,[]),(.exit 0,[])],pay:=.unit })]
def rO:Sg:=⟨[(false,(.sl true T2))],[zI,zI],VY⟩
theorem xY:tE od t4 138 rO:=fun _=>by kernel_rfl
def og:tL:=(138,rO)::od
theorem oh:tO og:=SR oe xY
def qp:Sg:=⟨[(true,T3)],[zI,zI],XX⟩
theorem xB:tE og [] 110 qp:=fun _=>by kernel_rfl
def oi:tL:=(110,qp)::og
theorem om:tO oi:=SR oh xB
def wh:tA:=[(72,9,21,.loop { keep:=[0,1,3,7,15,23,11,19,25,13,21,2,8,16,24,12,20,10,18,26,14,22],kb:=[0],pl:=[.slot 9 false zJ,.slot 6 false zJ],ex:=[(.ret,[]),(.exit 0,[])],pay:=.unit })]
def vU:Sg:=⟨[(true,T3),zI,(false,(.sl false zJ))],[zI],Wc⟩
theorem e72:tE oi wh 72 vU:=fun _=>by kernel_rfl
def oq:tL:=(72,vU)::oi
theorem ot:tO oq:=SR om e72
def wQ:tA:=[(40,7,18,.loop { keep:=[0,1,15,11,19,17,13,21,16,12,20,10,18,14],kb:=[0],pl:=[.slot 3 false zJ,.srow 5 false zJ false,.slot 2 false zJ,.slot 4 false zJ,.slot 6 false zJ],ex:=[(.ret,[]),(.exit 0,[])],pay:=.unit }),(40,13,35,.loop { keep:=[0,1,7,15,31,23,11,19,35,17,33,25,13,21,37,29,16,32,24,12,20,36,6,10,18,34,26,14,22,30],kb:=[0],pl:=[.slot 3 false zJ,.srow 5 false zJ false,.slot 2 false zJ,.slot 4 false zJ,.slot 8 false zJ],ex:=[(.ret,[]),(.exit 2,[])],pay:=.unit })]
def uv:Sg:=⟨[(true,T4)],[zI,zI,zI],VK⟩
theorem zk:tE oq wQ 40 uv:=fun _=>by kernel_rfl
def ou:tL:=(40,uv)::oq
theorem ov:tO ou:=SR ot zk
def wU:tA:=[(51,6,16,.loop { keep:=[0,1,3,15,11,5,17,13,2,4,16,12,6,10,14],kb:=[0],pl:=[.srow 7 true T3 false,.slot 8 false zJ],ex:=[(.exit 0,[])],pay:=.unit }),(51,9,31,.loop { keep:=[0,1,3,15,31,23,11,19,27,5,17,33,13,21,29,2,4,8,16,32,12,20,28,6,10,26,14,22,30],kb:=[0],pl:=[.srow 7 true T3 false,.slot 9 false zJ],ex:=[(.exit 2,[])],pay:=.unit })]
def u9:Sg:=⟨[(true,T4)],[(false,(.sl true T3)),zI],WT⟩
theorem zw:tE ou wU 51 u9:=fun _=>by kernel_rfl
def oz:tL:=(51,u9)::ou
theorem o0:tO oz:=SR ov zw
def wR:tA:=[(41,4,11,.loop { keep:=[0,1,3,7,11,9,2,4,8,10],kb:=[0],pl:=[.slot 5 false zJ,.slot 6 false zJ],ex:=[(.exit 0,[])],pay:=.unit })]
def uw:Sg:=⟨[(true,T4)],[zI],Vw⟩
theorem zl:tE oz wR 41 uw:=fun _=>by kernel_rfl
def o6:tL:=(41,uw)::oz
theorem o7:tO o6:=SR o0 zl
def wS:tA:=[(42,3,4,.loop { keep:=[0,1,2],kb:=[0],pl:=[.srow 3 false zJ false,.slot 4 false zJ],ex:=[(.exit 0,[])],pay:=.unit })]
def ux:Sg:=⟨[(true,T4)],[(false,(.sl false zJ))],Uk⟩
theorem zm:tE o6 wS 42 ux:=fun _=>by kernel_rfl
def o8:tL:=(42,ux)::o6
theorem o9:tO o8:=SR o7 zm
def qq:Sg:=⟨[(true,T4),zI],[zI],Ys⟩
theorem xC:tE o8 [] 111 qq:=fun _=>by kernel_rfl
def pA:tL:=(111,qq)::o8
theorem pB:tO pA:=SR o9 xC
def vW:Sg:=⟨[(true,T4),zI],[(false,.bool),zI],YS⟩
theorem e74:tE pA [] 74 vW:=fun _=>by kernel_rfl
def pC:tL:=(74,vW)::pA
theorem pD:tO pC:=SR pB e74
end Go.Proofs.YtggceepiljjadaaGreat.Pt
