/- The evaluator comes to each of the plain functions. No condition. -/
import Derived.Test.YtfipnhjfbebeiabGreatDoorPt5
set_option linter.all false
namespace Go.Proofs.YtfipnhjfbebeiabGreatDoor.Pt
open Go Sv Pl
set_option maxRecDepth 1000000
def rf:Sg:=⟨[(true,pM),(true,T2)],[(false,.bool),(true,pM),zI],U9⟩
theorem yK:tE oO [] 168 rf:=fun _=>by kernel_rfl
def oR:tL:=(168,rf)::oO
theorem oS:tO oR:=SY oQ yK
def xC:tA:=[(129,2,81,.loop { keep:=[0,1,6],kb:=[0,1,39,67,68],pl:=[.slot 7 false zJ,.slot 4 false zJ,.box 28 [.lf (.sl false (.sl true T2)),.lf (.sl false zJ),.lf (.sl true T5),.lf (.sl false zJ),.lf zJ,.lf .bool,.lf .str,.lf .bool,.ow true T2 false,.lf zJ]],ex:=[(.ret,[]),(.exit 0,[])],pay:=.unit }),(129,2,98,.loop { keep:=[0,1,6],kb:=[0,1,39,67,68,86],pl:=[.slot 7 false zJ,.slot 4 false zJ,.box 28 [.lf (.sl false (.sl true T2)),.lf (.sl false zJ),.lf (.sl true T5),.lf (.sl false zJ),.lf zJ,.lf .bool,.lf .str,.lf .bool,.ow true T2 false,.lf zJ]],ex:=[(.ret,[]),(.exit 0,[])],pay:=.unit }),(129,2,133,.loop { keep:=[0,1,6],kb:=[0,1,39,67,68,86],pl:=[.slot 7 false zJ,.slot 4 false zJ,.box 28 [.lf (.sl false (.sl true T2)),.lf (.sl false zJ),.lf (.sl true T5),.lf (.sl false zJ),.lf zJ,.lf .bool,.lf .str,.lf .bool,.ow true T2 false,.lf zJ]],ex:=[(.ret,[]),(.exit 0,[])],pay:=.unit }),(129,2,120,.loop { keep:=[0,1,6],kb:=[0,1,39,67,68,86],pl:=[.slot 7 false zJ,.slot 4 false zJ,.box 28 [.lf (.sl false (.sl true T2)),.lf (.sl false zJ),.lf (.sl true T5),.lf (.sl false zJ),.lf zJ,.lf .bool,.lf .str,.lf .bool,.ow true T2 false,.lf zJ]],ex:=[(.ret,[]),(.exit 0,[])],pay:=.unit })]
def wG:Sg:=⟨[(true,dk),zI],[(true,dk),zI,zI],Ux⟩
theorem e86:tE oR xC 86 wG:=fun _=>by kernel_rfl
def oT:tL:=(86,wG)::oR
theorem oU:tO oT:=SY oS e86
def uL:tA:=[(169,4,9,.loop { keep:=[0,1,7,11,9,8,12,6,10],kb:=[],pl:=[.slot 13 false zJ,.slot 4 false .bool],ex:=[(.ret,[]),(.exit 0,[])],pay:=.unit })]
def ri:Sg:=⟨[(false,(.sl true T2)),(false,(.sl true T2))],[(false,.bool)],Ui⟩
theorem yL:tE oT uL 169 ri:=fun _=>by kernel_rfl
def oV:tL:=(169,ri)::oT
theorem oW:tO oV:=SY oU yL
def rE:Sg:=⟨[(false,(.sl true T2)),(false,(.sl true T2))],[(false,.bool)],Us⟩
theorem xh:tE oV [] 132 rE:=fun _=>by kernel_rfl
def oX:tL:=(132,rE)::oV
theorem oY:tO oX:=SY oW xh
def xD:tA:=[(131,4,81,.loop { keep:=[0,1,15,11,13,2,16,12,10,14],kb:=[0,1,7,8],pl:=[.slot 17 false zJ,.slot 6 false .bool],ex:=[(.ret,[]),(.exit 0,[])],pay:=.unit })]
def wH:Sg:=⟨[(true,dk),(true,dk)],[(false,.bool)],Vy⟩
theorem e87:tE oX xD 87 wH:=fun _=>by kernel_rfl
def oZ:tL:=(87,wH)::oX
theorem oa:tO oZ:=SY oY e87
def wj:tA:=[(125,1,52,.loop { keep:=[0,1,7,5,6],kb:=[0,47,35,46],pl:=[.slot 8 false zJ,.box 43 [.ow false zJ false]],ex:=[(.exit 0,[(47,0,none)])],pay:=.unit }),(38,10,59,.loop { keep:=[0,1,15,31,47,23,39,19,35,27,43,17,33,25,41,21,37,29,45,4,16,32,40,20,36,28,44,18,34,26,42,14,22,38,30,46],kb:=[0,47,35,43,52],pl:=[.slot 3 false zJ,.slot 2 false zJ,.slot 48 false zJ],ex:=[(.ret,[(47,3,none)]),(.exit 1,[(47,3,none)])],pay:=.unit })]
def vN:Sg:=⟨[(true,Zk)],[zI,zI],VM⟩
theorem e38:tE oZ wj 38 vN:=fun _=>by kernel_rfl
def oc:tL:=(38,vN)::oZ
theorem od:tO oc:=SY oa e38
def qj:Sg:=⟨[(true,gm)],[zI],VT⟩
theorem xL:tE oc [] 103 qj:=fun _=>by kernel_rfl
def oe:tL:=(103,qj)::oc
theorem og:tO oe:=SY od xL
def wo:tA:=[(125,1,35,.loop { keep:=[0,1,7,5,6],kb:=[0,29,18,30],pl:=[.slot 8 false zJ,.box 26 [.ow false zJ false]],ex:=[(.exit 0,[(30,0,none)])],pay:=.unit })]
def vQ:Sg:=⟨[(true,Zk)],[(false,(.sl false zJ)),zI],WP⟩
theorem e42:tE oe wo 42 vQ:=fun _=>by kernel_rfl
def oh:tL:=(42,vQ)::oe
theorem oi:tO oh:=SY og e42
def xE:tA:=[(173,2,31,.loop { keep:=[0,1,7,6],kb:=[0,1],pl:=[.slot 4 false zJ,.slot 8 false zJ],ex:=[(.ret,[]),(.exit 0,[])],pay:=.unit })]
def wI:Sg:=⟨[(true,Zk),zI],[zI,zI],Wu⟩
theorem e93:tE oh xE 93 wI:=fun _=>by kernel_rfl
def om:tL:=(93,wI)::oh
theorem oq:tO om:=SY oi e93
def wA:Sg:=⟨[(true,Zk),zI],[zI,zI],X9⟩
theorem e77:tE om [] 77 wA:=fun _=>by kernel_rfl
def ot:tL:=(77,wA)::om
theorem ou:tO ot:=SY oq e77
def vJ:Sg:=⟨[(true,Zk),zI],[zI,zI],Yg⟩
theorem e33:tE ot [] 33 vJ:=fun _=>by kernel_rfl
def ov:tL:=(33,vJ)::ot
theorem oz:tO ov:=SY ou e33
def wX:tA:=[(13,6,16,.loop { keep:=[0,1,15,11,19,5,17,13,4,16,12,20,14],kb:=[0],pl:=[.slot 3 false zJ,.slot 21 false zJ,.slot 2 false zJ,.slot 6 false zJ],ex:=[(.ret,[]),(.exit 0,[])],pay:=.unit })]
def ux:Sg:=⟨[(true,Zk)],[zI,zI],Xx⟩
theorem zq:tE ov wX 13 ux:=fun _=>by kernel_rfl
def o0:tL:=(13,ux)::ov
theorem o6:tO o0:=SY oz zq
def tp:tA:=[(174,1,27,.loop { keep:=[0,1,7,8,6],kb:=[0,17,21,22],pl:=[.slot 9 false zJ,.box 1 [.lf zJ],.box 2 [.lf zJ]],ex:=[(.exit 0,[(22,0,none)])],pay:=.unit }),(174,4,37,.loop { keep:=[0,1,7,15,11,9,13,4,8,16,12,6,10,14],kb:=[0,17,21,22,30],pl:=[.slot 5 false zJ,.box 1 [.lf zJ],.box 2 [.lf zJ]],ex:=[(.exit 2,[(22,0,none)])],pay:=.unit })]
def qk:Sg:=⟨[(true,T4)],[zI,zI,zI],WQ⟩
theorem xM:tE o0 tp 104 qk:=fun _=>by kernel_rfl
def o7:tL:=(104,qk)::o0
theorem o8:tO o7:=SY o6 xM
theorem e55 (x:AP [(true,wV)]):P0 Tryz.prog (Ae pu o7) (RM []) 3000 60 55 [(true,wV)] [zI] x=Ud x:=by kernel_rfl
def o9:tL:=(3145783,⟨[(true,wV)],[zI],Ud⟩)::o7
theorem pA:tO o9:=Sr (f:=55) o8 e55
end Go.Proofs.YtfipnhjfbebeiabGreatDoor.Pt
