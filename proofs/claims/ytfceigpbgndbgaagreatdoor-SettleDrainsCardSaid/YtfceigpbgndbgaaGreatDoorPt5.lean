/- The evaluator comes to each of the plain functions. No condition. -/
import Derived.Test.YtfceigpbgndbgaaGreatDoorPt4
set_option linter.all false
open Option renaming some->zo, none->zn
open Bool renaming true->zt, false->zf
namespace Go.Proofs.YtfceigpbgndbgaaGreatDoor.Pt
open Go Sv Pl
set_option maxRecDepth 1000000
theorem ADS:MW Tryz.prog (λf=> !pu f) 1000 100 247=zt:=by kernel_rfl
theorem ADG(a:Ty.den aO)(l:List (Ty.den aO)):Ou Tryz.prog (Ae pu qp) (Rn []) 3000 60 247 [(zf,(.sl zt aO))] [(zf,(.sl zt aO))] (a::l)=VC (a::l):=by kernel_rfl
def qt:tL:=(247,⟨[(zf,(.sl zt aO))],[(zf,(.sl zt aO))],VC⟩)::qp
theorem qu:tO qt:=S7 (gg:=true) (c:=aO) qq ADS rfl ADG
theorem ADW:PQ Tryz.prog (λf=> !pu f) 1000 100 247=zt:=by kernel_rfl
theorem ADv(a:Ty.den aO)(l:List (Ty.den aO)):QS Tryz.prog (Ae pu qt) (Rn []) 3000 60 247 [(zf,(.sl zt aO))] zt aO (a::l)=VC (a::l):=by kernel_rfl
def qv:tL:=(247+Cu,⟨[(zf,(.sl zt aO))],[(zf,(.sl zt aO))],VC⟩)::qt
theorem qw:tO qv:=S8 (gg:=true) (c:=aO) qu ADW rfl (λa l y h=>Se h) ADv
def wE:Sg:=⟨[(zt,ZH),zI,zI],[(zt,ZH),zI,zI],ZL⟩
theorem AC1:tQ qv [] 231 wE:=fun _=>by kernel_rfl
def qx:tL:=(231,wE)::qv
theorem qy:tO qx:=S6 qw AC1
def ABm:tA:=[(94,5,30,.loop { keep:=[0,1,3,7,15,31,23,11,19,27,9,17,25,13,21,29,2,16,32,24,12,20,28,6,10,18,26,14,22,30],kb:=[0,1,12,10],pl:=[.slot 8 zf zJ],ex:=[(.exit 0,[])],pay:=.unit })]
def AA6:Sg:=⟨[(zt,T4),zI,(zf,(.sl zt T3))],[(zt,T4)],Wv⟩
theorem e94:tQ qx ABm 94 AA6:=fun _=>by kernel_rfl
def qz:tL:=(94,AA6)::qx
theorem rB:tO qz:=S6 qy e94
def wR:Sg:=⟨[(zt,T4),zI],[(zt,T4),(zf,(.sl zt T3)),zI],Wb⟩
theorem ADH:tQ qz [] 248 wR:=fun _=>by kernel_rfl
def rC:tL:=(248,wR)::qz
theorem rD:tO rC:=S6 rB ADH
def ABZ:tA:=[(132,1,31,.loop { keep:=[0,1,7,8,6],kb:=[0,1,25,21,26],pl:=[.slot 9 zf zJ,.box 2 [.lf zJ,.ow zt (.sl zt T3) zf],.box 3 [.lf zJ]],ex:=[(.exit 0,[(26,0,zn)]),(.ret,[(26,2,zo .ret)])],pay:=.unit }),(132,4,41,.loop { keep:=[0,1,7,15,11,9,13,4,8,16,12,6,10,14],kb:=[0,1,3,25,21,34,26],pl:=[.slot 5 zf zJ,.box 2 [.lf zJ,.ow zt (.sl zt T3) zf]],ex:=[(.exit 2,[(26,0,zn)])],pay:=.unit }),(132,4,42,.loop { keep:=[0,1,7,15,11,9,13,4,8,16,12,6,10,14],kb:=[0,1,35,25,21,26],pl:=[.slot 5 zf zJ,.box 2 [.lf zJ,.ow zt (.sl zt T3) zf],.box 3 [.lf zJ]],ex:=[(.exit 2,[(26,0,zn)]),(.ret,[(26,2,zo .ret)])],pay:=.unit })]
def AAi:Sg:=⟨[(zt,T4),zI,(zt,T3)],[(zt,T4),zI],U3⟩
theorem e57:tQ rC ABZ 57 AAi:=fun _=>by kernel_rfl
def rE:tL:=(57,AAi)::rC
theorem rF:tO rE:=S6 rD e57
def vi:Sg:=⟨[(zt,T4),zI],[(zt,aO),zI],Yj⟩
theorem ACl:tQ rE [] 206 vi:=fun _=>by kernel_rfl
def rG:tL:=(206,vi)::rE
theorem rH:tO rG:=S6 rF ACl
def yS:tA:=[(174,3,10,.loop { keep:=[0,1,3,19,5,9,21,2,4,8,20,10,22],kb:=[0,1,2],pl:=[.slot 23 zf zJ,.map 4 zJ zt aO],ex:=[(.exit 0,[])],pay:=.unit }),(174,10,22,.loop { keep:=[0,1,3,23,39,19,35,5,33,13,21,37,2,4,8,32,20,36,10,34,22,38],kb:=[0,1,4],pl:=[.slot 9 zf zJ,.slot 40 zf zJ,.box 2 [.lf zJ,.ow zt (.sl zt T3) zf,.ow zt aO zf,.lf zJ],.box 16 [.lf zJ,.lf (.sl zt (.sl zt T3)),.ow zt aO zf,.lf zJ]],ex:=[(.exit 2,[]),(.ret,[])],pay:=.unit })]
def vC:Sg:=⟨[(zt,ZH),(zt,T4),zI,zI],[(zt,ZH),zI],Uu⟩
theorem ACP:tQ rG yS 174 vC:=fun _=>by kernel_rfl
def rI:tL:=(174,vC)::rG
theorem rJ:tO rI:=S6 rH ACP
def wF:Sg:=⟨[(zt,ZH),zI],[(zt,ZH),zI],W5⟩
theorem AC2:tQ rI [] 232 wF:=fun _=>by kernel_rfl
def rK:tL:=(232,wF)::rI
theorem rL:tO rK:=S6 rJ AC2
def vX:Sg:=⟨[(zt,ZH),zI],[(zt,ZH),(zf,.bool),zI],Vh⟩
theorem ACg:tQ rK [] 199 vX:=fun _=>by kernel_rfl
def rM:tL:=(199,vX)::rK
theorem rN:tO rM:=S6 rL ACg
def ABb:tA:=[(159,3,25,.loop { keep:=[0,1,5,2,4,6],kb:=[0,3,19,9,18,14],pl:=[.box 13 [.lf zJ,.lf (.sl zt (.sl zt T3)),.lf (.sl zt aO),.lf zJ],.box 22 [.er 330 0 165 .i64],.box 20 [.lf zJ],.box 2 [.lf zJ,.lf (.sl zt (.sl zt T3)),.lf (.sl zt aO),.lf zJ],.box 1 [.lf zJ]],ex:=[(.ret,[(19,0,zn)]),(.ret,[(19,2,zo (.exit 0))])],pay:=.unit })]
def AAk:Sg:=⟨[(zt,ZH),zI],[(zt,ZH),zI,zI],Y7⟩
theorem e68:tQ rM ABb 68 AAk:=fun _=>by kernel_rfl
def rO:tL:=(68,AAk)::rM
theorem rQ:tO rO:=S6 rN e68
def AAQ:Sg:=⟨[(zt,ZH)],[(zt,ZH),zI,zI],Vs⟩
theorem e37:tQ rO [] 37 AAQ:=fun _=>by kernel_rfl
def rR:tL:=(37,AAQ)::rO
theorem rS:tO rR:=S6 rQ e37
def sg7:Sg:=⟨[(zt,aq)],[(zt,aq),zI,zI],YA⟩
theorem e7:tQ rR [] 7 sg7:=fun _=>by kernel_rfl
def rT:tL:=(7,sg7)::rR
theorem rU:tO rT:=S6 rS e7
def AAl:Sg:=⟨[(zt,T2)],[zI],WX⟩
theorem e69:tQ rT [] 69 AAl:=fun _=>by kernel_rfl
def rV:tL:=(69,AAl)::rT
theorem rZ:tO rV:=S6 rU e69
end Go.Proofs.YtfceigpbgndbgaaGreatDoor.Pt
