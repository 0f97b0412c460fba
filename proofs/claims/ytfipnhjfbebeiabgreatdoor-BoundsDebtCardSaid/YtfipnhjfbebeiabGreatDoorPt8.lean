/- The evaluator comes to each of the plain functions. No condition. -/
import Derived.Test.YtfipnhjfbebeiabGreatDoorPt7
set_option linter.all false
namespace Go.Proofs.YtfipnhjfbebeiabGreatDoor.Pt
open Go Sv Pl
set_option maxRecDepth 1000000
def v7:Sg:=⟨[(false,(.sl true T2)),(false,.bool)],[(false,(.sl true T2)),(true,pM)],Vu⟩
theorem e72:tE fD [] 72 v7:=fun _=>by kernel_rfl
def fE:tL:=(72,v7)::fD
theorem ii:tO fE:=SY ig e72
def w9:tA:=[(74,4,7,.loop { keep:=[0,1,7,9,8,6,10],kb:=[],pl:=[.slot 5 false zJ,.slot 4 false .bool],ex:=[(.ret,[]),(.exit 0,[])],pay:=.unit })]
def v9:Sg:=⟨[(false,(.sl true T2)),(false,(.sl true T2))],[(false,.bool)],U0⟩
theorem e74:tE fE w9 74 v9:=fun _=>by kernel_rfl
def fF:tL:=(74,v9)::fE
theorem ij:tO fF:=SY ii e74
def vq:Sg:=⟨[(true,dk)],[zI],XZ⟩
theorem e67:tE fF [] 67 vq:=fun _=>by kernel_rfl
def fG:tL:=(67,vq)::fF
theorem ik:tO fG:=SY ij e67
def wz:tA:=[(68,6,14,.loop { keep:=[0,1,3,11,5,9,13,2,4,8,12,10,14],kb:=[0],pl:=[.slot 7 false zJ,.slot 6 false zJ],ex:=[(.exit 0,[])],pay:=.unit })]
def vu:Sg:=⟨[(true,T9)],[zI,zI],Xo⟩
theorem e68:tE fG wz 68 vu:=fun _=>by kernel_rfl
def fH:tL:=(68,vu)::fG
theorem il:tO fH:=SY ik e68
def vF:Sg:=⟨[(true,dk)],[zI,zI],UQ⟩
theorem e26:tE fH [] 26 vF:=fun _=>by kernel_rfl
def fI:tL:=(26,vF)::fH
theorem im:tO fI:=SY il e26
def vz:Sg:=⟨[(true,T9)],[(true,T2),zI,(true,T9),zI],WW⟩
theorem e70:tE fI [] 70 vz:=fun _=>by kernel_rfl
def fJ:tL:=(70,vz)::fI
theorem io:tO fJ:=SY im e70
def wh:tA:=[(27,11,32,.loop { keep:=[0,1,7,15,31,23,39,19,35,27,5,9,17,33,25,21,37,2,4,8,16,32,24,20,36,6,10,18,34,26,22,30],kb:=[0,1],pl:=[.slot 11 false zJ,.box 29 [.lf (.sl false (.sl true T2)),.lf (.sl false zJ),.lf (.sl true T5),.lf (.sl false zJ),.lf zJ,.lf .bool,.lf .str,.lf .bool,.lf (.sl true T2),.lf zJ]],ex:=[(.exit 0,[])],pay:=.unit })]
def vG:Sg:=⟨[(true,dk),zI],[(true,dk),zI,zI],UJ⟩
theorem zE:tE fJ wh 27 vG:=fun _=>by kernel_rfl
def fK:tL:=(27,vG)::fJ
theorem ip:tO fK:=SY io zE
def w8:tA:=[(73,4,27,.loop { keep:=[0,1,3,7,15,23,11,19,27,9,17,25,13,21,2,8,16,24,12,20,28,6,10,18,26,14,22],kb:=[0,1],pl:=[.slot 5 false zJ,.slot 4 false .bool],ex:=[(.ret,[]),(.exit 0,[])],pay:=.unit })]
def v8:Sg:=⟨[(true,T9),(true,T9)],[(false,.bool)],Xp⟩
theorem e73:tE fK w8 73 v8:=fun _=>by kernel_rfl
def fL:tL:=(73,v8)::fK
theorem iq:tO fL:=SY ip e73
def vH:Sg:=⟨[(true,dk),(true,dk)],[(false,.bool)],Uf⟩
theorem e28:tE fL [] 28 vH:=fun _=>by kernel_rfl
def fM:tL:=(28,vH)::fL
theorem ir:tO fM:=SY iq e28
def zm:tA:=[(5,10,42,.loop { keep:=[0,1,7,31,23,39,19,35,27,43,5,17,33,49,25,41,21,37,29,45,4,16,32,48,24,40,20,36,28,44,6,18,34,50,26,42,22,38,30,46],kb:=[0],pl:=[.slot 3 false zJ,.slot 2 false zJ,.slot 8 false zJ],ex:=[(.ret,[]),(.exit 0,[])],pay:=.unit })]
def zY:Sg:=⟨[(true,Zk)],[zI,zI],Vq⟩
theorem e5:tE fM zm 5 zY:=fun _=>by kernel_rfl
def fN:tL:=(5,zY)::fM
theorem iu:tO fN:=SY ir e5
def vi:Sg:=⟨[(true,Zk)],[(false,(.sl false zJ)),zI],Vf⟩
theorem e57:tE fN [] 57 vi:=fun _=>by kernel_rfl
def fO:tL:=(57,vi)::fN
theorem iv:tO fO:=SY iu e57
def uF:tA:=[(156,5,13,.loop { keep:=[0,1,7,15,11,9,13,2,12,6,10,14],kb:=[0],pl:=[.slot 5 false zJ,.slot 4 false zJ,.slot 8 false zJ],ex:=[(.ret,[]),(.exit 0,[])],pay:=.unit })]
def rM:Sg:=⟨[(true,Zk),zI],[zI,zI],Uq⟩
theorem x0:tE fO uF 156 rM:=fun _=>by kernel_rfl
def fQ:tL:=(156,rM)::fO
theorem iw:tO fQ:=SY iv x0
def ql:Sg:=⟨[(true,Zk),zI],[zI,zI],U8⟩
theorem xN:tE fQ [] 105 ql:=fun _=>by kernel_rfl
def fR:tL:=(105,ql)::fQ
theorem iy:tO fR:=SY iw xN
def vj:Sg:=⟨[(true,Zk),zI],[zI,zI],YF⟩
theorem e58:tE fR [] 58 vj:=fun _=>by kernel_rfl
def fS:tL:=(58,vj)::fR
theorem i0:tO fS:=SY iy e58
end Go.Proofs.YtfipnhjfbebeiabGreatDoor.Pt
