/- The evaluator comes to each of the plain functions. No condition. -/
import Derived.Test.YtfceigpbgndbgaaGreatDoorPt3
set_option linter.all false
open Option renaming none->zn
open Bool renaming true->zt, false->zf
namespace Go.Proofs.YtfceigpbgndbgaaGreatDoor.Pt
open Go Sv Pl
set_option maxRecDepth 1000000
def wA:tA:=[(155,4,81,.loop { keep:=[0,1,15,11,13,2,16,12,10,14],kb:=[0,1,7,8],pl:=[.slot 17 zf zJ,.slot 6 zf .bool],ex:=[(.ret,[]),(.exit 0,[])],pay:=.unit })]
def sT:Sg:=⟨[(zt,fc),(zt,fc)],[(zf,.bool)],Wd⟩
theorem AAS:tQ oJ wA 109 sT:=fun _=>by kernel_rfl
def oL:tL:=(109,sT)::oJ
theorem oM:tO oL:=S6 oK AAS
def AAB:tA:=[(149,1,52,.loop { keep:=[0,1,7,5,6],kb:=[0,47,35,46],pl:=[.slot 8 zf zJ,.box 43 [.ow zf zJ zf]],ex:=[(.exit 0,[(47,0,zn)])],pay:=.unit }),(67,10,59,.loop { keep:=[0,1,15,31,47,23,39,19,35,27,43,17,33,25,41,21,37,29,45,4,16,32,40,20,36,28,44,18,34,26,42,14,22,38,30,46],kb:=[0,47,35,43,52],pl:=[.slot 3 zf zJ,.slot 2 zf zJ,.slot 48 zf zJ],ex:=[(.ret,[(47,3,zn)]),(.exit 1,[(47,3,zn)])],pay:=.unit })]
def yU:Sg:=⟨[(zt,bO)],[zI,zI],VP⟩
theorem e67:tQ oL AAB 67 yU:=fun _=>by kernel_rfl
def oN:tL:=(67,yU)::oL
theorem oO:tO oN:=S6 oM e67
def yD:Sg:=⟨[(zt,dx)],[zI],WX⟩
theorem e35:tQ oN [] 35 yD:=fun _=>by kernel_rfl
def oQ:tL:=(35,yD)::oN
theorem oR:tO oQ:=S6 oO e35
def wb:tA:=[(149,1,35,.loop { keep:=[0,1,7,5,6],kb:=[0,29,18,30],pl:=[.slot 8 zf zJ,.box 26 [.ow zf zJ zf]],ex:=[(.exit 0,[(30,0,zn)])],pay:=.unit })]
def t8:Sg:=⟨[(zt,bO)],[(zf,(.sl zf zJ)),zI],Xo⟩
theorem ABI:tQ oQ wb 227 t8:=fun _=>by kernel_rfl
def oS:tL:=(227,t8)::oQ
theorem oT:tO oS:=S6 oR ABI
def wh:tA:=[(260,2,31,.loop { keep:=[0,1,7,6],kb:=[0,1],pl:=[.slot 4 zf zJ,.slot 8 zf zJ],ex:=[(.ret,[]),(.exit 0,[])],pay:=.unit })]
def uQ:Sg:=⟨[(zt,bO),zI],[zI,zI],Xk⟩
theorem ABY:tQ oS wh 244 uQ:=fun _=>by kernel_rfl
def oU:tL:=(244,uQ)::oS
theorem oV:tO oU:=S6 oT ABY
def t9:Sg:=⟨[(zt,bO),zI],[(zt,vu),zI],V2⟩
theorem ABJ:tQ oU [] 228 t9:=fun _=>by kernel_rfl
def oW:tL:=(228,t9)::oU
theorem oX:tO oW:=S6 oV ABJ
def uD:Sg:=⟨[(zt,vu)],[(zf,.bool)],U0⟩
theorem ABL:tQ oW [] 230 uD:=fun _=>by kernel_rfl
def oY:tL:=(230,uD)::oW
theorem oZ:tO oY:=S6 oX ABL
def yx:Sg:=⟨[zI,zI],[zI,zI],YJ⟩
theorem e90:tQ oY [] 90 yx:=fun _=>by kernel_rfl
def oa:tL:=(90,yx)::oY
theorem oc:tO oa:=S6 oZ e90
def uR:Sg:=⟨[(zt,vu)],[(zf,.bool)],VC⟩
theorem ABZ:tQ oa [] 245 uR:=fun _=>by kernel_rfl
def od:tL:=(245,uR)::oa
theorem oe:tO od:=S6 oc ABZ
def yy:Sg:=⟨[(zt,T4),zI],[zI],Xl⟩
theorem e91:tQ od [] 91 yy:=fun _=>by kernel_rfl
def og:tL:=(91,yy)::od
theorem oh:tO og:=S6 oe e91
def tJ:Sg:=⟨[(zt,T4),zI],[(zf,.bool),zI],V5⟩
theorem AAp:tQ og [] 173 tJ:=fun _=>by kernel_rfl
def oi:tL:=(173,tJ)::og
theorem om:tO oi:=S6 oh AAp
def uS:Sg:=⟨[(zt,vu)],[(zf,.bool)],WK⟩
theorem ABa:tQ oi [] 246 uS:=fun _=>by kernel_rfl
def oq:tL:=(246,uS)::oi
theorem ot:tO oq:=S6 om ABa
def wc:tA:=[(229,2,11,.loop { keep:=[0,1,7,11,5,9,8,12,6,10],kb:=[0],pl:=[.slot 13 zf zJ,.slot 2 zf .bool],ex:=[(.ret,[]),(.exit 0,[])],pay:=.unit })]
def uC:Sg:=⟨[(zt,vu)],[(zf,.bool)],VM⟩
theorem ABK:tQ oq wc 229 uC:=fun _=>by kernel_rfl
def ou:tL:=(229,uC)::oq
theorem ov:tO ou:=S6 ot ABK
def wW:tA:=[(198,8,21,.loop { keep:=[0,1,15,23,11,19,17,13,21,4,16,24,12,20,10,14,22],kb:=[0],pl:=[.slot 3 zf zJ,.slot 5 zf .bool,.slot 25 zf zJ,.slot 2 zf zJ],ex:=[(.ret,[]),(.exit 1,[])],pay:=.unit })]
def tj:Sg:=⟨[(zt,bO)],[zI,zI],Vp⟩
theorem AA4:tQ ou wW 198 tj:=fun _=>by kernel_rfl
def oz:tL:=(198,tj)::ou
theorem o0:tO oz:=S6 ov AA4
end Go.Proofs.YtfceigpbgndbgaaGreatDoor.Pt
