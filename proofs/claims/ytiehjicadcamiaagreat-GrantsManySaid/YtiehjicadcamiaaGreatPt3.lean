/- The evaluator comes to each of the plain functions. No condition. -/
import Derived.Test.YtiehjicadcamiaaGreatPt2
set_option linter.all false
open Bool renaming true->zt, false->zf
namespace Go.Proofs.YtiehjicadcamiaaGreat.Pt
open Go Sv Pl
set_option maxRecDepth 1000000
def sK:Sg:=⟨[(zt,T5)],[(zf,.bool)],WH⟩
theorem yi:tQ mL [] 186 sK:=fun _=>by kernel_rfl
def mN:tL:=(186,sK)::mL
theorem mO:tO mN:=Sj mM yi
def uE:tA:=[(188,2,22,.loop { keep:=[0,1,7,6],kb:=[],pl:=[.slot 4 zf zJ,.slot 8 zf zJ],ex:=[(.ret,[]),(.exit 0,[])],pay:=.unit })]
def sG:Sg:=⟨[(zf,(.sl zt T5))],[zI],WN⟩
theorem yd:tQ mN uE 179 sG:=fun _=>by kernel_rfl
def mQ:tL:=(179,sG)::mN
theorem mR:tO mQ:=Sj mO yd
theorem yy:MG Tryz.prog (λf=> !pu f) 1000 100 182=zt:=by kernel_rfl
theorem yg(a:Ty.den T5)(l:List (Ty.den T5)):OZ Tryz.prog (Ae pu mQ) (RU []) 3000 60 182 [(zf,(.sl zt T5))] [(zf,(.sl zt T5))] (a::l)=UP (a::l):=by kernel_rfl
def mS:tL:=(182,⟨[(zf,(.sl zt T5))],[(zf,(.sl zt T5))],UP⟩)::mQ
theorem mT:tO mS:=Sk (gg:=true) (c:=T5) mR yy rfl yg
theorem y9:O2 Tryz.prog (λf=> !pu f) 1000 100 182=zt:=by kernel_rfl
theorem zG(a:Ty.den T5)(l:List (Ty.den T5)):QA Tryz.prog (Ae pu mS) (RU []) 3000 60 182 [(zf,(.sl zt T5))] zt T5 (a::l)=UP (a::l):=by kernel_rfl
def mU:tL:=(182+Ct,⟨[(zf,(.sl zt T5))],[(zf,(.sl zt T5))],UP⟩)::mS
theorem mV:tO mU:=Sl (gg:=true) (c:=T5) mT y9 rfl (λa l y h=>SN h) zG
def uF:tA:=[(180,6,26,.loop { keep:=[0,3,15,23,11,19,17,13,2,4,24,12,6,10,14,22],kb:=[0,7],pl:=[.slot 7 zf zJ,.srow 5 zf zJ zt,.box 20 [.ow zt T5 zf,.ow zf zJ zt,.lf zJ]],ex:=[(.exit 0,[])],pay:=.unit })]
def sH:Sg:=⟨[(zf,(.sl zt T5))],[(zt,T7)],XK⟩
theorem ye:tQ mU uF 180 sH:=fun _=>by kernel_rfl
def mW:tL:=(180,sH)::mU
theorem mX:tO mW:=Sj mV ye
def rt:Sg:=⟨[(zf,(.sl zt T5))],[(zt,T7),zI],Vg⟩
theorem yR:tQ mW [] 168 rt:=fun _=>by kernel_rfl
def mY:tL:=(168,rt)::mW
theorem mZ:tO mY:=Sj mX yR
def w7:tA:=[(147,3,47,.loop { keep:=[0,1,11,13,4,10,14],kb:=[0,39,27,13,30],pl:=[.slot 15 zf zJ,.srow 5 zt T5 zt],ex:=[(.exit 0,[])],pay:=.unit })]
def wA:Sg:=⟨[(zf,(.sl zf (.sl zt T2))),(zf,.bool)],[(zt,eC),zI,zI],XU⟩
theorem e95:tQ mY w7 95 wA:=fun _=>by kernel_rfl
def ma:tL:=(95,wA)::mY
theorem mb:tO ma:=Sj mZ e95
def vN:Sg:=⟨[(zt,T4),zI,(zf,.bool)],[(zt,Yh)],Vd⟩
theorem e60:tQ ma [] 60 vN:=fun _=>by kernel_rfl
def mc:tL:=(60,vN)::ma
theorem md:tO mc:=Sj mb e60
def t6:tA:=[(147,3,8,.loop { keep:=[0,1,11,13,4,10,14],kb:=[0],pl:=[.slot 15 zf zJ,.srow 5 zt T5 zt],ex:=[(.exit 0,[])],pay:=.unit })]
theorem yE(x:AO [(zf,(.sl zf (.sl zt T2))),(zf,(.sl zf zJ))]):OZ Tryz.prog (Ae pu mc) (RU t6) 3000 60 147 [(zf,(.sl zf (.sl zt T2))),(zf,(.sl zf zJ))] [(zt,T7)] x=XL x:=by kernel_rfl
def me:tL:=(1048723,⟨[(zf,(.sl zf (.sl zt T2))),(zf,(.sl zf zJ))],[(zt,T7)],XL⟩)::mc
theorem mf:tO me:=Sj md yE
def tV:tA:=[(103,4,9,.loop { keep:=[0,1,7,11,9,8,12,6,10],kb:=[],pl:=[.slot 13 zf zJ,.slot 4 zf .bool],ex:=[(.ret,[]),(.exit 0,[])],pay:=.unit })]
def qZ:Sg:=⟨[(zf,(.sl zt T5)),(zf,(.sl zt T5))],[(zf,.bool)],UV⟩
theorem xC:tQ me tV 103 qZ:=fun _=>by kernel_rfl
def mg:tL:=(103,qZ)::me
theorem mh:tO mg:=Sj mf xC
def tU:tA:=[(102,4,9,.loop { keep:=[0,1,7,11,9,8,12,6,10],kb:=[],pl:=[.slot 13 zf zJ,.slot 4 zf .bool],ex:=[(.ret,[]),(.exit 0,[])],pay:=.unit })]
def qY:Sg:=⟨[(zf,(.sl zf zJ)),(zf,(.sl zf zJ))],[(zf,.bool)],UQ⟩
theorem xB:tQ mg tU 102 qY:=fun _=>by kernel_rfl
def mi:tL:=(102,qY)::mg
theorem mj:tO mi:=Sj mh xB
def rS:Sg:=⟨[(zt,T7),(zt,T7)],[(zf,.bool)],Wv⟩
theorem yF:tQ mi [] 148 rS:=fun _=>by kernel_rfl
def ml:tL:=(148,rS)::mi
theorem mo:tO ml:=Sj mj yF
def uG:tA:=[(181,8,25,.loop { keep:=[0,1,15,23,11,19,5,9,17,25,21,4,8,16,24,12,20,10,18,26,14,22],kb:=[0,19],pl:=[.slot 3 zf zJ,.slot 27 zf zJ,.slot 2 zf zJ],ex:=[(.ret,[]),(.exit 0,[])],pay:=.unit })]
def sI:Sg:=⟨[(zt,T7)],[zI,zI],Xl⟩
theorem yf:tQ ml uG 181 sI:=fun _=>by kernel_rfl
def mq:tL:=(181,sI)::ml
theorem mr:tO mq:=Sj mo yf
def ru:Sg:=⟨[(zt,T7)],[zI],XJ⟩
theorem yS:tQ mq [] 169 ru:=fun _=>by kernel_rfl
def mu:tL:=(169,ru)::mq
theorem mv:tO mu:=Sj mr yS
end Go.Proofs.YtiehjicadcamiaaGreat.Pt
