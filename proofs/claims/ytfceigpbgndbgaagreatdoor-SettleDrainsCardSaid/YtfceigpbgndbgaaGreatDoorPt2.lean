/- The evaluator comes to each of the plain functions. No condition. -/
import Derived.Test.YtfceigpbgndbgaaGreatDoorPt1
set_option linter.all false
open Bool renaming true->zt, false->zf
namespace Go.Proofs.YtfceigpbgndbgaaGreatDoor.Pt
open Go Sv Pl
set_option maxRecDepth 1000000
def yP:tA:=[(157,4,9,.loop { keep:=[0,1,7,11,9,8,12,6,10],kb:=[],pl:=[.slot 13 zf zJ,.slot 4 zf .bool],ex:=[(.ret,[]),(.exit 0,[])],pay:=.unit })]
def u3:Sg:=⟨[(zf,(.sl zf zJ)),(zf,(.sl zf zJ))],[(zf,.bool)],Un⟩
theorem ACH:tQ oe yP 157 u3:=fun _=>by kernel_rfl
def oh:tL:=(157,u3)::oe
theorem oi:tO oh:=S6 og ACH
def vq:Sg:=⟨[(zt,T7),(zt,T7)],[(zf,.bool)],XV⟩
theorem ACt:tQ oh [] 216 vq:=fun _=>by kernel_rfl
def om:tL:=(216,vq)::oh
theorem oq:tO om:=S6 oi ACt
def y0:tA:=[(252,8,25,.loop { keep:=[0,1,15,23,11,19,5,9,17,25,21,4,8,16,24,12,20,10,18,26,14,22],kb:=[0,19],pl:=[.slot 3 zf zJ,.slot 27 zf zJ,.slot 2 zf zJ],ex:=[(.ret,[]),(.exit 0,[])],pay:=.unit })]
def wV:Sg:=⟨[(zt,T7)],[zI,zI],YR⟩
theorem ADL:tQ om y0 252 wV:=fun _=>by kernel_rfl
def ot:tL:=(252,wV)::om
theorem ou:tO ot:=S6 oq ADL
def wJ:Sg:=⟨[(zt,T7)],[zI],Xt⟩
theorem AC7:tQ ot [] 237 wJ:=fun _=>by kernel_rfl
def ov:tL:=(237,wJ)::ot
theorem oz:tO ov:=S6 ou AC7
def vu:Sg:=⟨[(zt,T7)],[zI,(zf,.str),zI],WH⟩
theorem ACu:tQ ov [] 217 vu:=fun _=>by kernel_rfl
def o0:tL:=(217,vu)::ov
theorem o6:tO o0:=S6 oz ACu
def wK:Sg:=⟨[(zf,.str)],[(zf,.bool)],Wk⟩
theorem AC8:tQ o0 [] 238 wK:=fun _=>by kernel_rfl
def o7:tL:=(238,wK)::o0
theorem o8:tO o7:=S6 o6 AC8
def vw:Sg:=⟨[(zf,.str),(zf,.str)],[zI],WP⟩
theorem ACv:tQ o7 [] 218 vw:=fun _=>by kernel_rfl
def o9:tL:=(218,vw)::o7
theorem pA:tO o9:=S6 o8 ACv
def wL:Sg:=⟨[zI],[(zf,.bool)],Xc⟩
theorem AC9:tQ o9 [] 239 wL:=fun _=>by kernel_rfl
def pB:tL:=(239,wL)::o9
theorem pC:tO pB:=S6 pA AC9
def vz:Sg:=⟨[zI,zI],[zI],V0⟩
theorem ACw:tQ pB [] 219 vz:=fun _=>by kernel_rfl
def pD:tL:=(219,vz)::pB
theorem pE:tO pD:=S6 pC ACw
def yL:tA:=[(145,3,5,.loop { keep:=[0,3,7,6],kb:=[],pl:=[.slot 2 zf zJ,.slot 8 zf zJ],ex:=[(.ret,[]),(.exit 0,[])],pay:=.unit })]
def uv:Sg:=⟨[(zf,(.sl zf zJ))],[zI],Yi⟩
theorem ACC:tQ pD yL 145 uv:=fun _=>by kernel_rfl
def pF:tL:=(145,uv)::pD
theorem pG:tO pF:=S6 pE ACC
def yW:tA:=[(191,7,24,.loop { keep:=[0,1,15,31,23,19,27,5,17,25,13,29,4,16,24,12,28,18,26,14,22,30],kb:=[0],pl:=[.slot 3 zf zJ,.slot 2 zf zJ,.slot 32 zf zJ],ex:=[(.ret,[]),(.exit 0,[])],pay:=.unit }),(191,18,49,.loop { keep:=[0,1,15,31,63,23,71,55,19,67,51,27,59,5,9,17,65,25,57,13,69,53,29,61,4,8,16,32,64,24,56,12,68,52,28,60,18,66,26,58,14,22,70,54,30,62],kb:=[0],pl:=[.slot 3 zf zJ,.slot 2 zf zJ,.slot 72 zf zJ],ex:=[(.ret,[]),(.exit 2,[])],pay:=.unit })]
def vO:Sg:=⟨[(zt,T9)],[zI,zI],Wx⟩
theorem ACY:tQ pF yW 191 vO:=fun _=>by kernel_rfl
def pH:tL:=(191,vO)::pF
theorem pI:tO pH:=S6 pG ACY
theorem ADR:MW Tryz.prog (λf=> !pu f) 1000 100 241=zt:=by kernel_rfl
theorem ADA(a:Ty.den zJ)(l:List (Ty.den zJ)):Ou Tryz.prog (Ae pu pH) (Rn []) 3000 60 241 [(zf,(.sl zf zJ))] [(zf,(.sl zf zJ))] (a::l)=Us (a::l):=by kernel_rfl
def pJ:tL:=(241,⟨[(zf,(.sl zf zJ))],[(zf,(.sl zf zJ))],Us⟩)::pH
theorem pK:tO pJ:=S7 (gg:=false) (c:=zJ) pI ADR rfl ADA
theorem ADV:PQ Tryz.prog (λf=> !pu f) 1000 100 241=zt:=by kernel_rfl
theorem ADu(a:Ty.den zJ)(l:List (Ty.den zJ)):QS Tryz.prog (Ae pu pJ) (Rn []) 3000 60 241 [(zf,(.sl zf zJ))] zf zJ (a::l)=Us (a::l):=by kernel_rfl
def pL:tL:=(241+Cu,⟨[(zf,(.sl zf zJ))],[(zf,(.sl zf zJ))],Us⟩)::pJ
theorem pM:tO pL:=S8 (gg:=false) (c:=zJ) pK ADV rfl (λa l y h=>Se h) ADu
theorem ADO(x:AP [zI,zI,(zt,T18)]):QQ Tryz.prog (Ae pu pL) (Rn []) 3000 60 259 [zI,zI,(zt,T18)] [(zf,.bool)] x=VH x:=by kernel_rfl
def pN:tL:=(3145987,⟨[zI,zI,(zt,T18)],[(zf,.bool)],VH⟩)::pL
theorem pO:tO pN:=TQ (f:=259) pM ADO
end Go.Proofs.YtfceigpbgndbgaaGreatDoor.Pt
