/- The evaluator comes to each of the plain functions. No condition. -/
import Derived.Test.YtfceigpbgndbgaaGreatDoorPt3
set_option linter.all false
open Option renaming none->zn
open Bool renaming true->zt, false->zf
namespace Go.Proofs.YtfceigpbgndbgaaGreatDoor.Pt
open Go Sv Pl
set_option maxRecDepth 1000000
def yB:tA:=[(155,4,81,.loop { keep:=[0,1,15,11,13,2,16,12,10,14],kb:=[0,1,7,8],pl:=[.slot 17 zf zJ,.slot 6 zf .bool],ex:=[(.ret,[]),(.exit 0,[])],pay:=.unit })]
def ua:Sg:=⟨[(zt,gC),(zt,gC)],[(zf,.bool)],Wi⟩
theorem ABt:tQ qE yB 109 ua:=fun _=>by kernel_rfl
def qH:tL:=(109,ua)::qE
theorem qI:tO qH:=S6 qG ABt
def ABa:tA:=[(149,1,52,.loop { keep:=[0,1,7,5,6],kb:=[0,47,35,46],pl:=[.slot 8 zf zJ,.box 43 [.ow zf zJ zf]],ex:=[(.exit 0,[(47,0,zn)])],pay:=.unit }),(67,10,59,.loop { keep:=[0,1,15,31,47,23,39,19,35,27,43,17,33,25,41,21,37,29,45,4,16,32,40,20,36,28,44,18,34,26,42,14,22,38,30,46],kb:=[0,47,35,43,52],pl:=[.slot 3 zf zJ,.slot 2 zf zJ,.slot 48 zf zJ],ex:=[(.ret,[(47,3,zn)]),(.exit 1,[(47,3,zn)])],pay:=.unit })]
def AAj:Sg:=⟨[(zt,ZH)],[zI,zI],VV⟩
theorem e67:tQ qH ABa 67 AAj:=fun _=>by kernel_rfl
def qK:tL:=(67,AAj)::qH
theorem qN:tO qK:=S6 qI e67
def AAP:Sg:=⟨[(zt,aq)],[zI],Wc⟩
theorem e35:tQ qK [] 35 AAP:=fun _=>by kernel_rfl
def qO:tL:=(35,AAP)::qK
theorem qP:tO qO:=S6 qN e35
def yj:tA:=[(149,1,35,.loop { keep:=[0,1,7,5,6],kb:=[0,29,18,30],pl:=[.slot 8 zf zJ,.box 26 [.ow zf zJ zf]],ex:=[(.exit 0,[(30,0,zn)])],pay:=.unit })]
def wA:Sg:=⟨[(zt,ZH)],[(zf,(.sl zf zJ)),zI],Xr⟩
theorem ACx:tQ qO yj 227 wA:=fun _=>by kernel_rfl
def qQ:tL:=(227,wA)::qO
theorem qR:tO qQ:=S6 qP ACx
def yx:tA:=[(260,2,31,.loop { keep:=[0,1,7,6],kb:=[0,1],pl:=[.slot 4 zf zJ,.slot 8 zf zJ],ex:=[(.ret,[]),(.exit 0,[])],pay:=.unit })]
def wO:Sg:=⟨[(zt,ZH),zI],[zI,zI],Xn⟩
theorem ADD:tQ qQ yx 244 wO:=fun _=>by kernel_rfl
def qT:tL:=(244,wO)::qQ
theorem qU:tO qT:=S6 qR ADD
def wB:Sg:=⟨[(zt,ZH),zI],[(zt,xy),zI],V8⟩
theorem ACy:tQ qT [] 228 wB:=fun _=>by kernel_rfl
def qV:tL:=(228,wB)::qT
theorem qX:tO qV:=S6 qU ACy
def wD:Sg:=⟨[(zt,xy)],[(zf,.bool)],U0⟩
theorem AC0:tQ qV [] 230 wD:=fun _=>by kernel_rfl
def qY:tL:=(230,wD)::qV
theorem qZ:tO qY:=S6 qX AC0
def AA3:Sg:=⟨[zI,zI],[zI,zI],YQ⟩
theorem e90:tQ qY [] 90 AA3:=fun _=>by kernel_rfl
def qc:tL:=(90,AA3)::qY
theorem qd:tO qc:=S6 qZ e90
def wP:Sg:=⟨[(zt,xy)],[(zf,.bool)],VF⟩
theorem ADE:tQ qc [] 245 wP:=fun _=>by kernel_rfl
def qf:tL:=(245,wP)::qc
theorem qg:tO qf:=S6 qd ADE
def AA4:Sg:=⟨[(zt,T4),zI],[zI],Xo⟩
theorem e91:tQ qf [] 91 AA4:=fun _=>by kernel_rfl
def qh:tL:=(91,AA4)::qf
theorem qi:tO qh:=S6 qg e91
def vB:Sg:=⟨[(zt,T4),zI],[(zf,.bool),zI],WB⟩
theorem ACO:tQ qh [] 173 vB:=fun _=>by kernel_rfl
def qj:tL:=(173,vB)::qh
theorem qk:tO qj:=S6 qi ACO
def wQ:Sg:=⟨[(zt,xy)],[(zf,.bool)],WQ⟩
theorem ADF:tQ qj [] 246 wQ:=fun _=>by kernel_rfl
def ql:tL:=(246,wQ)::qj
theorem qm:tO ql:=S6 qk ADF
def yp:tA:=[(229,2,11,.loop { keep:=[0,1,7,11,5,9,8,12,6,10],kb:=[0],pl:=[.slot 13 zf zJ,.slot 2 zf .bool],ex:=[(.ret,[]),(.exit 0,[])],pay:=.unit })]
def wC:Sg:=⟨[(zt,xy)],[(zf,.bool)],VO⟩
theorem ACz:tQ ql yp 229 wC:=fun _=>by kernel_rfl
def qn:tL:=(229,wC)::ql
theorem qo:tO qn:=S6 qm ACz
def yd:tA:=[(198,8,21,.loop { keep:=[0,1,15,23,11,19,17,13,21,4,16,24,12,20,10,14,22],kb:=[0],pl:=[.slot 3 zf zJ,.slot 5 zf .bool,.slot 25 zf zJ,.slot 2 zf zJ],ex:=[(.ret,[]),(.exit 1,[])],pay:=.unit })]
def vW:Sg:=⟨[(zt,ZH)],[zI,zI],Vw⟩
theorem ACf:tQ qn yd 198 vW:=fun _=>by kernel_rfl
def qp:tL:=(198,vW)::qn
theorem qq:tO qp:=S6 qo ACf
end Go.Proofs.YtfceigpbgndbgaaGreatDoor.Pt
