/- The evaluator comes to each of the plain functions. No condition. -/
import Derived.Test.YtoefnfbpoabinabGreatDoorPt1
set_option linter.all false
open Bool renaming true->zt, false->zf
namespace Go.Proofs.YtoefnfbpoabinabGreatDoor.Pt
open Go Sv Pl
set_option maxRecDepth 1000000
def yq:tA:=[(149,4,9,.loop { keep:=[0,1,7,11,9,8,12,6,10],kb:=[],pl:=[.slot 13 zf zJ,.slot 4 zf .bool],ex:=[(.ret,[]),(.exit 0,[])],pay:=.unit })]
def vT:Sg:=⟨[(zf,(.sl zf zJ)),(zf,(.sl zf zJ))],[(zf,.bool)],VS⟩
theorem ACV:tQ pV yq 149 vT:=fun _=>by kernel_rfl
def pX:tL:=(149,vT)::pV
theorem pY:tO pX:=Tb pW ACV
def wA:Sg:=⟨[(zt,T7),(zt,T7)],[(zf,.bool)],YM⟩
theorem ACr:tQ pX [] 196 wA:=fun _=>by kernel_rfl
def pZ:tL:=(196,wA)::pX
theorem pf:tO pZ:=Tb pY ACr
def zQ:tA:=[(231,8,25,.loop { keep:=[0,1,15,23,11,19,5,9,17,25,21,4,8,16,24,12,20,10,18,26,14,22],kb:=[0,19],pl:=[.slot 3 zf zJ,.slot 27 zf zJ,.slot 2 zf zJ],ex:=[(.ret,[]),(.exit 0,[])],pay:=.unit })]
def wX:Sg:=⟨[(zt,T7)],[zI,zI],ZD⟩
theorem ADG:tQ pZ zQ 231 wX:=fun _=>by kernel_rfl
def pj:tL:=(231,wX)::pZ
theorem pk:tO pj:=Tb pf ADG
def wM:Sg:=⟨[(zt,T7)],[zI],Yi⟩
theorem AC3:tQ pj [] 216 wM:=fun _=>by kernel_rfl
def pn:tL:=(216,wM)::pj
theorem po:tO pn:=Tb pk AC3
def wB:Sg:=⟨[(zt,T7)],[zI,(zf,.str),zI],Wo⟩
theorem ACs:tQ pn [] 197 wB:=fun _=>by kernel_rfl
def pq:tL:=(197,wB)::pn
theorem pw:tO pq:=Tb po ACs
def wN:Sg:=⟨[(zf,.str)],[(zf,.bool)],XR⟩
theorem AC4:tQ pq [] 217 wN:=fun _=>by kernel_rfl
def px:tL:=(217,wN)::pq
theorem py:tO px:=Tb pw AC4
def wC:Sg:=⟨[(zf,.str),(zf,.str)],[zI],W0⟩
theorem ACt:tQ px [] 198 wC:=fun _=>by kernel_rfl
def pz:tL:=(198,wC)::px
theorem p8:tO pz:=Tb py ACt
def wO:Sg:=⟨[zI],[(zf,.bool)],YU⟩
theorem AC5:tQ pz [] 218 wO:=fun _=>by kernel_rfl
def p9:tL:=(218,wO)::pz
theorem qA:tO p9:=Tb p8 AC5
def wD:Sg:=⟨[zI,zI],[zI],WY⟩
theorem ACu:tQ p9 [] 199 wD:=fun _=>by kernel_rfl
def qB:tL:=(199,wD)::p9
theorem qC:tO qB:=Tb qA ACu
def nC:tA:=[(117,3,5,.loop { keep:=[0,3,7,6],kb:=[],pl:=[.slot 2 zf zJ,.slot 8 zf zJ],ex:=[(.ret,[]),(.exit 0,[])],pay:=.unit })]
def vD:Sg:=⟨[(zf,(.sl zf zJ))],[zI],We⟩
theorem w6:tQ qB nC 117 vD:=fun _=>by kernel_rfl
def qD:tL:=(117,vD)::qB
theorem qE:tO qD:=Tb qC w6
def yz:tA:=[(175,7,24,.loop { keep:=[0,1,15,31,23,19,27,5,17,25,13,29,4,16,24,12,28,18,26,14,22,30],kb:=[0],pl:=[.slot 3 zf zJ,.slot 2 zf zJ,.slot 32 zf zJ],ex:=[(.ret,[]),(.exit 0,[])],pay:=.unit }),(175,18,49,.loop { keep:=[0,1,15,31,63,23,71,55,19,67,51,27,59,5,9,17,65,25,57,13,69,53,29,61,4,8,16,32,64,24,56,12,68,52,28,60,18,66,26,58,14,22,70,54,30,62],kb:=[0],pl:=[.slot 3 zf zJ,.slot 2 zf zJ,.slot 72 zf zJ],ex:=[(.ret,[]),(.exit 2,[])],pay:=.unit })]
def vd:Sg:=⟨[(zt,T9)],[zI,zI],Xc⟩
theorem ACd:tQ qD yz 175 vd:=fun _=>by kernel_rfl
def qG:tL:=(175,vd)::qD
theorem qH:tO qG:=Tb qE ACd
theorem ADM:Mb Tryz.prog (λf=> !pu f) 1000 100 220=zt:=by kernel_rfl
theorem AC6(a:Ty.den zJ)(l:List (Ty.den zJ)):ND Tryz.prog (Af pu qG) (R3 []) 3000 60 220 [(zf,(.sl zf zJ))] [(zf,(.sl zf zJ))] (a::l)=VZ (a::l):=by kernel_rfl
def qI:tL:=(220,⟨[(zf,(.sl zf zJ))],[(zf,(.sl zf zJ))],VZ⟩)::qG
theorem qK:tO qI:=Tc (gg:=false) (c:=zJ) qH ADM rfl AC6
theorem ADQ:Pa Tryz.prog (λf=> !pu f) 1000 100 220=zt:=by kernel_rfl
theorem AEA(a:Ty.den zJ)(l:List (Ty.den zJ)):Qe Tryz.prog (Af pu qI) (R3 []) 3000 60 220 [(zf,(.sl zf zJ))] zf zJ (a::l)=VZ (a::l):=by kernel_rfl
def qN:tL:=(220+Cy,⟨[(zf,(.sl zf zJ))],[(zf,(.sl zf zJ))],VZ⟩)::qI
theorem qO:tO qN:=Td (gg:=false) (c:=zJ) qK ADQ rfl (λa l y h=>TB h) AEA
theorem ADJ(x:AO [zI,zI,(zt,T18)]):Qc Tryz.prog (Af pu qN) (R3 []) 3000 60 238 [zI,zI,(zt,T18)] [(zf,.bool)] x=Vy x:=by kernel_rfl
def qP:tL:=(3145966,⟨[zI,zI,(zt,T18)],[(zf,.bool)],Vy⟩)::qN
theorem qQ:tO qP:=UC (f:=238) qO ADJ
end Go.Proofs.YtoefnfbpoabinabGreatDoor.Pt
