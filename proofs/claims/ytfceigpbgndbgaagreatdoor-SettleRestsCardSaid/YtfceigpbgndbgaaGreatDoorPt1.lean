/- The evaluator comes to each of the plain functions. No condition. -/
import Derived.Test.YtfceigpbgndbgaaGreatDoorPt0
set_option linter.all false
open Bool renaming true->zt, false->zf
namespace Go.Proofs.YtfceigpbgndbgaaGreatDoor.Pt
open Go Sv Pl
set_option maxRecDepth 1000000
def tW:Sg:=⟨[(zf,.bool)],[(zt,qk)],WC⟩
theorem AAw:tQ mF [] 190 tW:=fun _=>by kernel_rfl
def mH:tL:=(190,tW)::mF
theorem mL:tO mH:=S6 mG AAw
theorem ABl:MW Tryz.prog (λf=> !pu f) 1000 100 214=zt:=by kernel_rfl
theorem ABC(a:Ty.den (.sl zt T2))(l:List (Ty.den (.sl zt T2))):Ou Tryz.prog (Ae pu mH) (Rn []) 3000 60 214 [(zf,(.sl zf (.sl zt T2)))] [(zf,(.sl zf (.sl zt T2)))] (a::l)=Uk (a::l):=by kernel_rfl
def mM:tL:=(214,⟨[(zf,(.sl zf (.sl zt T2)))],[(zf,(.sl zf (.sl zt T2)))],Uk⟩)::mH
theorem mN:tO mM:=S7 (gg:=false) (c:=(.sl zt T2)) mL ABl rfl ABC
theorem ABp:PQ Tryz.prog (λf=> !pu f) 1000 100 214=zt:=by kernel_rfl
theorem ACE(a:Ty.den (.sl zt T2))(l:List (Ty.den (.sl zt T2))):QS Tryz.prog (Ae pu mM) (Rn []) 3000 60 214 [(zf,(.sl zf (.sl zt T2)))] zf (.sl zt T2) (a::l)=Uk (a::l):=by kernel_rfl
def mO:tL:=(214+Cu,⟨[(zf,(.sl zf (.sl zt T2)))],[(zf,(.sl zf (.sl zt T2)))],Uk⟩)::mM
theorem mQ:tO mO:=S8 (gg:=false) (c:=(.sl zt T2)) mN ABp rfl (λa l y h=>Se h) ACE
def uI:Sg:=⟨[(zf,(.sl zt T2)),zI],[(zt,T5)],U9⟩
theorem ABQ:tQ mO [] 235 uI:=fun _=>by kernel_rfl
def mS:tL:=(235,uI)::mO
theorem mT:tO mS:=S6 mQ ABQ
def uY:Sg:=⟨[(zt,T5)],[(zf,.bool)],Wk⟩
theorem ABi:tQ mS [] 258 uY:=fun _=>by kernel_rfl
def mU:tL:=(258,uY)::mS
theorem mV:tO mU:=S6 mT ABi
def wi:tA:=[(261,2,22,.loop { keep:=[0,1,7,6],kb:=[],pl:=[.slot 4 zf zJ,.slot 8 zf zJ],ex:=[(.ret,[]),(.exit 0,[])],pay:=.unit })]
def uV:Sg:=⟨[(zf,(.sl zt T5))],[zI],Wp⟩
theorem ABe:tQ mU wi 250 uV:=fun _=>by kernel_rfl
def mW:tL:=(250,uV)::mU
theorem mX:tO mW:=S6 mV ABe
theorem ABo:MW Tryz.prog (λf=> !pu f) 1000 100 253=zt:=by kernel_rfl
theorem ABh(a:Ty.den T5)(l:List (Ty.den T5)):Ou Tryz.prog (Ae pu mW) (Rn []) 3000 60 253 [(zf,(.sl zt T5))] [(zf,(.sl zt T5))] (a::l)=Ul (a::l):=by kernel_rfl
def mY:tL:=(253,⟨[(zf,(.sl zt T5))],[(zf,(.sl zt T5))],Ul⟩)::mW
theorem mZ:tO mY:=S7 (gg:=true) (c:=T5) mX ABo rfl ABh
theorem ABs:PQ Tryz.prog (λf=> !pu f) 1000 100 253=zt:=by kernel_rfl
theorem ACH(a:Ty.den T5)(l:List (Ty.den T5)):QS Tryz.prog (Ae pu mY) (Rn []) 3000 60 253 [(zf,(.sl zt T5))] zt T5 (a::l)=Ul (a::l):=by kernel_rfl
def ma:tL:=(253+Cu,⟨[(zf,(.sl zt T5))],[(zf,(.sl zt T5))],Ul⟩)::mY
theorem mb:tO ma:=S8 (gg:=true) (c:=T5) mZ ABs rfl (λa l y h=>Se h) ACH
def wj:tA:=[(251,6,26,.loop { keep:=[0,3,15,23,11,19,17,13,2,4,24,12,6,10,14,22],kb:=[0,7],pl:=[.slot 7 zf zJ,.srow 5 zf zJ zt,.box 20 [.ow zt T5 zf,.ow zf zJ zt,.lf zJ]],ex:=[(.exit 0,[])],pay:=.unit })]
def uW:Sg:=⟨[(zf,(.sl zt T5))],[(zt,T7)],Xr⟩
theorem ABf:tQ ma wj 251 uW:=fun _=>by kernel_rfl
def mc:tL:=(251,uW)::ma
theorem md:tO mc:=S6 mb ABf
def uJ:Sg:=⟨[(zf,(.sl zt T5))],[(zt,T7),zI],V6⟩
theorem ABR:tQ mc [] 236 uJ:=fun _=>by kernel_rfl
def me:tL:=(236,uJ)::mc
theorem mf:tO me:=S6 md ABR
def wJ:tA:=[(215,3,47,.loop { keep:=[0,1,11,13,4,10,14],kb:=[0,39,27,13,30],pl:=[.slot 15 zf zJ,.srow 5 zt T5 zt],ex:=[(.exit 0,[])],pay:=.unit })]
def tB:Sg:=⟨[(zf,(.sl zf (.sl zt T2))),(zf,.bool)],[(zt,fc),zI,zI],X4⟩
theorem AAj:tQ me wJ 150 tB:=fun _=>by kernel_rfl
def mg:tL:=(150,tB)::me
theorem mh:tO mg:=S6 mf AAj
def sQ:Sg:=⟨[(zt,T4),zI,(zf,.bool)],[(zt,bN)],V3⟩
theorem AAP:tQ mg [] 106 sQ:=fun _=>by kernel_rfl
def mi:tL:=(106,sQ)::mg
theorem mj:tO mi:=S6 mh AAP
def wa:tA:=[(215,3,8,.loop { keep:=[0,1,11,13,4,10,14],kb:=[0],pl:=[.slot 15 zf zJ,.srow 5 zt T5 zt],ex:=[(.exit 0,[])],pay:=.unit })]
theorem ABD(x:AP [(zf,(.sl zf (.sl zt T2))),(zf,(.sl zf zJ))]):Ou Tryz.prog (Ae pu mi) (Rn wa) 3000 60 215 [(zf,(.sl zf (.sl zt T2))),(zf,(.sl zf zJ))] [(zt,T7)] x=Xs x:=by kernel_rfl
def mo:tL:=(1048791,⟨[(zf,(.sl zf (.sl zt T2))),(zf,(.sl zf zJ))],[(zt,T7)],Xs⟩)::mi
theorem mq:tO mo:=S6 mj ABD
def wN:tA:=[(158,4,9,.loop { keep:=[0,1,7,11,9,8,12,6,10],kb:=[],pl:=[.slot 13 zf zJ,.slot 4 zf .bool],ex:=[(.ret,[]),(.exit 0,[])],pay:=.unit })]
def tI:Sg:=⟨[(zf,(.sl zt T5)),(zf,(.sl zt T5))],[(zf,.bool)],Uu⟩
theorem AAo:tQ mo wN 158 tI:=fun _=>by kernel_rfl
def mr:tL:=(158,tI)::mo
theorem mu:tO mr:=S6 mq AAo
end Go.Proofs.YtfceigpbgndbgaaGreatDoor.Pt
