/- The evaluator comes to each of the plain functions. No condition. -/
import Derived.Test.YtfceigpbgndbgaaGreatDoorPt0
set_option linter.all false
open Bool renaming true->zt, false->zf
namespace Go.Proofs.YtfceigpbgndbgaaGreatDoor.Pt
open Go Sv Pl
set_option maxRecDepth 1000000
def vN:Sg:=⟨[(zf,.bool)],[(zt,ss)],WI⟩
theorem ACX:tQ nz [] 190 vN:=fun _=>by kernel_rfl
def oB:tL:=(190,vN)::nz
theorem oC:tO oB:=S6 oA ACX
theorem ADQ:MW Tryz.prog (λf=> !pu f) 1000 100 214=zt:=by kernel_rfl
theorem ACr(a:Ty.den (.sl zt T2))(l:List (Ty.den (.sl zt T2))):Ou Tryz.prog (Ae pu oB) (Rn []) 3000 60 214 [(zf,(.sl zf (.sl zt T2)))] [(zf,(.sl zf (.sl zt T2)))] (a::l)=Ul (a::l):=by kernel_rfl
def oD:tL:=(214,⟨[(zf,(.sl zf (.sl zt T2)))],[(zf,(.sl zf (.sl zt T2)))],Ul⟩)::oB
theorem oE:tO oD:=S7 (gg:=false) (c:=(.sl zt T2)) oC ADQ rfl ACr
theorem ADU:PQ Tryz.prog (λf=> !pu f) 1000 100 214=zt:=by kernel_rfl
theorem ADt(a:Ty.den (.sl zt T2))(l:List (Ty.den (.sl zt T2))):QS Tryz.prog (Ae pu oD) (Rn []) 3000 60 214 [(zf,(.sl zf (.sl zt T2)))] zf (.sl zt T2) (a::l)=Ul (a::l):=by kernel_rfl
def oF:tL:=(214+Cu,⟨[(zf,(.sl zf (.sl zt T2)))],[(zf,(.sl zf (.sl zt T2)))],Ul⟩)::oD
theorem oH:tO oF:=S8 (gg:=false) (c:=(.sl zt T2)) oE ADU rfl (λa l y h=>Se h) ADt
def wH:Sg:=⟨[(zf,(.sl zt T2)),zI],[(zt,T5)],U8⟩
theorem AC5:tQ oF [] 235 wH:=fun _=>by kernel_rfl
def oI:tL:=(235,wH)::oF
theorem oJ:tO oI:=S6 oH AC5
def wW:Sg:=⟨[(zt,T5)],[(zf,.bool)],Wp⟩
theorem ADN:tQ oI [] 258 wW:=fun _=>by kernel_rfl
def oK:tL:=(258,wW)::oI
theorem oL:tO oK:=S6 oJ ADN
def yy:tA:=[(261,2,22,.loop { keep:=[0,1,7,6],kb:=[],pl:=[.slot 4 zf zJ,.slot 8 zf zJ],ex:=[(.ret,[]),(.exit 0,[])],pay:=.unit })]
def wT:Sg:=⟨[(zf,(.sl zt T5))],[zI],Ww⟩
theorem ADJ:tQ oK yy 250 wT:=fun _=>by kernel_rfl
def oM:tL:=(250,wT)::oK
theorem oN:tO oM:=S6 oL ADJ
theorem ADT:MW Tryz.prog (λf=> !pu f) 1000 100 253=zt:=by kernel_rfl
theorem ADM(a:Ty.den T5)(l:List (Ty.den T5)):Ou Tryz.prog (Ae pu oM) (Rn []) 3000 60 253 [(zf,(.sl zt T5))] [(zf,(.sl zt T5))] (a::l)=Um (a::l):=by kernel_rfl
def oO:tL:=(253,⟨[(zf,(.sl zt T5))],[(zf,(.sl zt T5))],Um⟩)::oM
theorem oQ:tO oO:=S7 (gg:=true) (c:=T5) oN ADT rfl ADM
theorem ADX:PQ Tryz.prog (λf=> !pu f) 1000 100 253=zt:=by kernel_rfl
theorem ADw(a:Ty.den T5)(l:List (Ty.den T5)):QS Tryz.prog (Ae pu oO) (Rn []) 3000 60 253 [(zf,(.sl zt T5))] zt T5 (a::l)=Um (a::l):=by kernel_rfl
def oR:tL:=(253+Cu,⟨[(zf,(.sl zt T5))],[(zf,(.sl zt T5))],Um⟩)::oO
theorem oS:tO oR:=S8 (gg:=true) (c:=T5) oQ ADX rfl (λa l y h=>Se h) ADw
def yz:tA:=[(251,6,26,.loop { keep:=[0,3,15,23,11,19,17,13,2,4,24,12,6,10,14,22],kb:=[0,7],pl:=[.slot 7 zf zJ,.srow 5 zf zJ zt,.box 20 [.ow zt T5 zf,.ow zf zJ zt,.lf zJ]],ex:=[(.exit 0,[])],pay:=.unit })]
def wU:Sg:=⟨[(zf,(.sl zt T5))],[(zt,T7)],Xu⟩
theorem ADK:tQ oR yz 251 wU:=fun _=>by kernel_rfl
def oT:tL:=(251,wU)::oR
theorem oU:tO oT:=S6 oS ADK
def wI:Sg:=⟨[(zf,(.sl zt T5))],[(zt,T7),zI],WC⟩
theorem AC6:tQ oT [] 236 wI:=fun _=>by kernel_rfl
def oV:tL:=(236,wI)::oT
theorem oW:tO oV:=S6 oU AC6
def yM:tA:=[(215,3,47,.loop { keep:=[0,1,11,13,4,10,14],kb:=[0,39,27,13,30],pl:=[.slot 15 zf zJ,.srow 5 zt T5 zt],ex:=[(.exit 0,[])],pay:=.unit })]
def uw:Sg:=⟨[(zf,(.sl zf (.sl zt T2))),(zf,.bool)],[(zt,gC),zI,zI],YC⟩
theorem ACD:tQ oV yM 150 uw:=fun _=>by kernel_rfl
def oX:tL:=(150,uw)::oV
theorem oY:tO oX:=S6 oW ACD
def uW:Sg:=⟨[(zt,T4),zI,(zf,.bool)],[(zt,aO)],V9⟩
theorem ABq:tQ oX [] 106 uW:=fun _=>by kernel_rfl
def oZ:tL:=(106,uW)::oX
theorem oa:tO oZ:=S6 oY ABq
def yi:tA:=[(215,3,8,.loop { keep:=[0,1,11,13,4,10,14],kb:=[0],pl:=[.slot 15 zf zJ,.srow 5 zt T5 zt],ex:=[(.exit 0,[])],pay:=.unit })]
theorem ACs(x:AP [(zf,(.sl zf (.sl zt T2))),(zf,(.sl zf zJ))]):Ou Tryz.prog (Ae pu oZ) (Rn yi) 3000 60 215 [(zf,(.sl zf (.sl zt T2))),(zf,(.sl zf zJ))] [(zt,T7)] x=Xv x:=by kernel_rfl
def oc:tL:=(1048791,⟨[(zf,(.sl zf (.sl zt T2))),(zf,(.sl zf zJ))],[(zt,T7)],Xv⟩)::oZ
theorem od:tO oc:=S6 oa ACs
def yQ:tA:=[(158,4,9,.loop { keep:=[0,1,7,11,9,8,12,6,10],kb:=[],pl:=[.slot 13 zf zJ,.slot 4 zf .bool],ex:=[(.ret,[]),(.exit 0,[])],pay:=.unit })]
def u4:Sg:=⟨[(zf,(.sl zt T5)),(zf,(.sl zt T5))],[(zf,.bool)],Uv⟩
theorem ACI:tQ oc yQ 158 u4:=fun _=>by kernel_rfl
def oe:tL:=(158,u4)::oc
theorem og:tO oe:=S6 od ACI
end Go.Proofs.YtfceigpbgndbgaaGreatDoor.Pt
