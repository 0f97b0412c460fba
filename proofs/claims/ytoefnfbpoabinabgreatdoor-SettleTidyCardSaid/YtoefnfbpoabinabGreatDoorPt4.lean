/- The evaluator comes to each of the plain functions. No condition. -/
import Derived.Test.YtoefnfbpoabinabGreatDoorPt3
set_option linter.all false
open Option renaming none->zn
open Bool renaming true->zt, false->zf
namespace Go.Proofs.YtoefnfbpoabinabGreatDoor.Pt
open Go Sv Pl
set_option maxRecDepth 1000000
def ye:tA:=[(147,4,81,.loop { keep:=[0,1,15,11,13,2,16,12,10,14],kb:=[0,1,7,8],pl:=[.slot 17 zf zJ,.slot 6 zf .bool],ex:=[(.ret,[]),(.exit 0,[])],pay:=.unit })]
def vC:Sg:=⟨[(zt,t9),(zt,t9)],[(zf,.bool)],XP⟩
theorem ACI:tQ qy ye 106 vC:=fun _=>by kernel_rfl
def rB:tL:=(106,vC)::qy
theorem rC:tO rB:=Tb qz ACI
def AB6:tA:=[(141,1,52,.loop { keep:=[0,1,7,5,6],kb:=[0,47,35,46],pl:=[.slot 8 zf zJ,.box 43 [.ow zf zJ zf]],ex:=[(.exit 0,[(47,0,zn)])],pay:=.unit }),(72,10,59,.loop { keep:=[0,1,15,31,47,23,39,19,35,27,43,17,33,25,41,21,37,29,45,4,16,32,40,20,36,28,44,18,34,26,42,14,22,38,30,46],kb:=[0,47,35,43,52],pl:=[.slot 3 zf zJ,.slot 2 zf zJ,.slot 48 zf zJ],ex:=[(.ret,[(47,3,zn)]),(.exit 1,[(47,3,zn)])],pay:=.unit })]
def ABI:Sg:=⟨[(zt,dW)],[zI,zI],V6⟩
theorem e72:tQ rB AB6 72 ABI:=fun _=>by kernel_rfl
def rD:tL:=(72,ABI)::rB
theorem rE:tO rD:=Tb rC e72
def AAv:Sg:=⟨[(zt,gm)],[zI],WP⟩
theorem e21:tQ rD [] 21 AAv:=fun _=>by kernel_rfl
def rF:tL:=(21,AAv)::rD
theorem rG:tO rF:=Tb rE e21
def zH:tA:=[(141,1,35,.loop { keep:=[0,1,7,5,6],kb:=[0,29,18,30],pl:=[.slot 8 zf zJ,.box 26 [.ow zf zJ zf]],ex:=[(.exit 0,[(30,0,zn)])],pay:=.unit })]
def wE:Sg:=⟨[(zt,dW)],[(zf,(.sl zf zJ)),zI],Yh⟩
theorem ACv:tQ rF zH 207 wE:=fun _=>by kernel_rfl
def rH:tL:=(207,wE)::rF
theorem rI:tO rH:=Tb rG ACv
def zM:tA:=[(239,2,31,.loop { keep:=[0,1,7,6],kb:=[0,1],pl:=[.slot 4 zf zJ,.slot 8 zf zJ],ex:=[(.ret,[]),(.exit 0,[])],pay:=.unit })]
def wR:Sg:=⟨[(zt,dW),zI],[zI,zI],Ye⟩
theorem AC9:tQ rH zM 223 wR:=fun _=>by kernel_rfl
def rJ:tL:=(223,wR)::rH
theorem rK:tO rJ:=Tb rI AC9
def wF:Sg:=⟨[(zt,dW),zI],[(zt,yc),zI],Wf⟩
theorem ACw:tQ rJ [] 208 wF:=fun _=>by kernel_rfl
def rL:tL:=(208,wF)::rJ
theorem rM:tO rL:=Tb rK ACw
def wH:Sg:=⟨[(zt,yc)],[(zf,.bool)],Vg⟩
theorem ACy:tQ rL [] 210 wH:=fun _=>by kernel_rfl
def rN:tL:=(210,wH)::rL
theorem rO:tO rN:=Tb rM ACy
def ABC:Sg:=⟨[zI,zI],[zI,zI],YL⟩
theorem e64:tQ rN [] 64 ABC:=fun _=>by kernel_rfl
def rQ:tL:=(64,ABC)::rN
theorem rR:tO rQ:=Tb rO e64
def wS:Sg:=⟨[(zt,yc)],[(zf,.bool)],Vv⟩
theorem ADA:tQ rQ [] 224 wS:=fun _=>by kernel_rfl
def rS:tL:=(224,wS)::rQ
theorem rT:tO rS:=Tb rR ADA
def ABL:Sg:=⟨[(zt,T4),zI],[zI],Yf⟩
theorem e80:tQ rS [] 80 ABL:=fun _=>by kernel_rfl
def rU:tL:=(80,ABL)::rS
theorem rV:tO rU:=Tb rT e80
def vV:Sg:=⟨[(zt,T4),zI],[(zf,.bool),zI],Wi⟩
theorem ACY:tQ rU [] 167 vV:=fun _=>by kernel_rfl
def rZ:tL:=(167,vV)::rU
theorem ra:tO rZ:=Tb rV ACY
def wT:Sg:=⟨[(zt,yc)],[(zf,.bool)],W2⟩
theorem ADB:tQ rZ [] 225 wT:=fun _=>by kernel_rfl
def rf:tL:=(225,wT)::rZ
theorem ri:tO rf:=Tb ra ADB
def zK:tA:=[(209,2,11,.loop { keep:=[0,1,7,11,5,9,8,12,6,10],kb:=[0],pl:=[.slot 13 zf zJ,.slot 2 zf .bool],ex:=[(.ret,[]),(.exit 0,[])],pay:=.unit })]
def wG:Sg:=⟨[(zt,yc)],[(zf,.bool)],V2⟩
theorem ACx:tQ rf zK 209 wG:=fun _=>by kernel_rfl
def rm:tL:=(209,wG)::rf
theorem rn:tO rm:=Tb ri ACx
def zB:tA:=[(184,8,21,.loop { keep:=[0,1,15,23,11,19,17,13,21,4,16,24,12,20,10,14,22],kb:=[0],pl:=[.slot 3 zf zJ,.slot 5 zf .bool,.slot 25 zf zJ,.slot 2 zf zJ],ex:=[(.ret,[]),(.exit 1,[])],pay:=.unit })]
def vp:Sg:=⟨[(zt,dW)],[zI,zI],WU⟩
theorem ACk:tQ rm zB 184 vp:=fun _=>by kernel_rfl
def rp:tL:=(184,vp)::rm
theorem rq:tO rp:=Tb rn ACk
end Go.Proofs.YtoefnfbpoabinabGreatDoor.Pt
