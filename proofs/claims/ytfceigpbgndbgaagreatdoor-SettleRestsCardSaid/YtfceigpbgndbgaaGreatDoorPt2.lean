/- The evaluator comes to each of the plain functions. No condition. -/
import Derived.Test.YtfceigpbgndbgaaGreatDoorPt1
set_option linter.all false
open Bool renaming true->zt, false->zf
namespace Go.Proofs.YtfceigpbgndbgaaGreatDoor.Pt
open Go Sv Pl
set_option maxRecDepth 1000000
def wM:tA:=[(157,4,9,.loop { keep:=[0,1,7,11,9,8,12,6,10],kb:=[],pl:=[.slot 13 zf zJ,.slot 4 zf .bool],ex:=[(.ret,[]),(.exit 0,[])],pay:=.unit })]
def tH:Sg:=⟨[(zf,(.sl zf zJ)),(zf,(.sl zf zJ))],[(zf,.bool)],Um⟩
theorem AAn:tQ mr wM 157 tH:=fun _=>by kernel_rfl
def mv:tL:=(157,tH)::mr
theorem mw:tO mv:=S6 mu AAn
def t4:Sg:=⟨[(zt,T7),(zt,T7)],[(zf,.bool)],XR⟩
theorem ABE:tQ mv [] 216 t4:=fun _=>by kernel_rfl
def my:tL:=(216,t4)::mv
theorem mz:tO my:=S6 mw ABE
def wm:tA:=[(252,8,25,.loop { keep:=[0,1,15,23,11,19,5,9,17,25,21,4,8,16,24,12,20,10,18,26,14,22],kb:=[0,19],pl:=[.slot 3 zf zJ,.slot 27 zf zJ,.slot 2 zf zJ],ex:=[(.ret,[]),(.exit 0,[])],pay:=.unit })]
def uX:Sg:=⟨[(zt,T7)],[zI,zI],YK⟩
theorem ABg:tQ my wm 252 uX:=fun _=>by kernel_rfl
def m6:tL:=(252,uX)::my
theorem m7:tO m6:=S6 mz ABg
def uK:Sg:=⟨[(zt,T7)],[zI],Xq⟩
theorem ABS:tQ m6 [] 237 uK:=fun _=>by kernel_rfl
def m8:tL:=(237,uK)::m6
theorem m9:tO m8:=S6 m7 ABS
def t5:Sg:=⟨[(zt,T7)],[zI,(zf,.str),zI],WB⟩
theorem ABF:tQ m8 [] 217 t5:=fun _=>by kernel_rfl
def nA:tL:=(217,t5)::m8
theorem nB:tO nA:=S6 m9 ABF
def uL:Sg:=⟨[(zf,.str)],[(zf,.bool)],Wh⟩
theorem ABT:tQ nA [] 238 uL:=fun _=>by kernel_rfl
def nC:tL:=(238,uL)::nA
theorem nD:tO nC:=S6 nB ABT
def t6:Sg:=⟨[(zf,.str),(zf,.str)],[zI],WJ⟩
theorem ABG:tQ nC [] 218 t6:=fun _=>by kernel_rfl
def nF:tL:=(218,t6)::nC
theorem nG:tO nF:=S6 nD ABG
def uM:Sg:=⟨[zI],[(zf,.bool)],XW⟩
theorem ABU:tQ nF [] 239 uM:=fun _=>by kernel_rfl
def nH:tL:=(239,uM)::nF
theorem nI:tO nH:=S6 nG ABU
def t7:Sg:=⟨[zI,zI],[zI],Vu⟩
theorem ABH:tQ nH [] 219 t7:=fun _=>by kernel_rfl
def nJ:tL:=(219,t7)::nH
theorem nK:tO nJ:=S6 nI ABH
def wI:tA:=[(145,3,5,.loop { keep:=[0,3,7,6],kb:=[],pl:=[.slot 2 zf zJ,.slot 8 zf zJ],ex:=[(.ret,[]),(.exit 0,[])],pay:=.unit })]
def sy:Sg:=⟨[(zf,(.sl zf zJ))],[zI],Ya⟩
theorem AAi:tQ nJ wI 145 sy:=fun _=>by kernel_rfl
def nL:tL:=(145,sy)::nJ
theorem nM:tO nL:=S6 nK AAi
def wR:tA:=[(191,7,24,.loop { keep:=[0,1,15,31,23,19,27,5,17,25,13,29,4,16,24,12,28,18,26,14,22,30],kb:=[0],pl:=[.slot 3 zf zJ,.slot 2 zf zJ,.slot 32 zf zJ],ex:=[(.ret,[]),(.exit 0,[])],pay:=.unit }),(191,18,49,.loop { keep:=[0,1,15,31,63,23,71,55,19,67,51,27,59,5,9,17,65,25,57,13,69,53,29,61,4,8,16,32,64,24,56,12,68,52,28,60,18,66,26,58,14,22,70,54,30,62],kb:=[0],pl:=[.slot 3 zf zJ,.slot 2 zf zJ,.slot 72 zf zJ],ex:=[(.ret,[]),(.exit 2,[])],pay:=.unit })]
def tX:Sg:=⟨[(zt,T9)],[zI,zI],Wq⟩
theorem AAx:tQ nL wR 191 tX:=fun _=>by kernel_rfl
def nN:tL:=(191,tX)::nL
theorem nO:tO nN:=S6 nM AAx
theorem ABm:MW Tryz.prog (λf=> !pu f) 1000 100 241=zt:=by kernel_rfl
theorem ABV(a:Ty.den zJ)(l:List (Ty.den zJ)):Ou Tryz.prog (Ae pu nN) (Rn []) 3000 60 241 [(zf,(.sl zf zJ))] [(zf,(.sl zf zJ))] (a::l)=Us (a::l):=by kernel_rfl
def nQ:tL:=(241,⟨[(zf,(.sl zf zJ))],[(zf,(.sl zf zJ))],Us⟩)::nN
theorem nR:tO nQ:=S7 (gg:=false) (c:=zJ) nO ABm rfl ABV
theorem ABq:PQ Tryz.prog (λf=> !pu f) 1000 100 241=zt:=by kernel_rfl
theorem ACF(a:Ty.den zJ)(l:List (Ty.den zJ)):QS Tryz.prog (Ae pu nQ) (Rn []) 3000 60 241 [(zf,(.sl zf zJ))] zf zJ (a::l)=Us (a::l):=by kernel_rfl
def nS:tL:=(241+Cu,⟨[(zf,(.sl zf zJ))],[(zf,(.sl zf zJ))],Us⟩)::nQ
theorem nT:tO nS:=S8 (gg:=false) (c:=zJ) nR ABq rfl (λa l y h=>Se h) ACF
theorem ABj(x:AP [zI,zI,(zt,zR)]):QQ Tryz.prog (Ae pu nS) (Rn []) 3000 60 259 [zI,zI,(zt,zR)] [(zf,.bool)] x=VE x:=by kernel_rfl
def nU:tL:=(3145987,⟨[zI,zI,(zt,zR)],[(zf,.bool)],VE⟩)::nS
theorem nV:tO nU:=TQ (f:=259) nT ABj
end Go.Proofs.YtfceigpbgndbgaaGreatDoor.Pt
