/- The evaluator comes to each of the plain functions. No condition. -/
import Derived.Test.YtoefnfbpoabinaaGreatDoorPt0
set_option linter.all false
open Bool renaming true->zt, false->zf
namespace Go.Proofs.YtoefnfbpoabinaaGreatDoor.Pt
open Go Sv Pl
set_option maxRecDepth 1000000
def tf:Sg:=⟨[(zf,.bool)],[(zt,qu)],WU⟩
theorem AAt:tQ mQ [] 193 tf:=fun _=>by kernel_rfl
def mT:tL:=(193,tf)::mQ
theorem mU:tO mT:=Tb mS AAt
theorem ABU:Mb Tryz.prog (λf=> !pu f) 1000 100 213=zt:=by kernel_rfl
theorem AA4(a:Ty.den (.sl zt T2))(l:List (Ty.den (.sl zt T2))):ND Tryz.prog (Af pu mT) (R3 []) 3000 60 213 [(zf,(.sl zf (.sl zt T2)))] [(zf,(.sl zf (.sl zt T2)))] (a::l)=VK (a::l):=by kernel_rfl
def mV:tL:=(213,⟨[(zf,(.sl zf (.sl zt T2)))],[(zf,(.sl zf (.sl zt T2)))],VK⟩)::mT
theorem mW:tO mV:=Tc (gg:=false) (c:=(.sl zt T2)) mU ABU rfl AA4
theorem ABX:Pa Tryz.prog (λf=> !pu f) 1000 100 213=zt:=by kernel_rfl
theorem AB5(a:Ty.den (.sl zt T2))(l:List (Ty.den (.sl zt T2))):Qe Tryz.prog (Af pu mV) (R3 []) 3000 60 213 [(zf,(.sl zf (.sl zt T2)))] zf (.sl zt T2) (a::l)=VK (a::l):=by kernel_rfl
def mX:tL:=(213+Cy,⟨[(zf,(.sl zf (.sl zt T2)))],[(zf,(.sl zf (.sl zt T2)))],VK⟩)::mV
theorem mY:tO mX:=Td (gg:=false) (c:=(.sl zt T2)) mW ABX rfl (λa l y h=>TB h) AB5
def uF:Sg:=⟨[(zf,(.sl zt T2)),zI],[(zt,T5)],Ve⟩
theorem ABD:tQ mX [] 240 uF:=fun _=>by kernel_rfl
def mZ:tL:=(240,uF)::mX
theorem ma:tO mZ:=Tb mY ABD
def uR:Sg:=⟨[(zt,T5)],[(zf,.bool)],W5⟩
theorem ABR:tQ mZ [] 269 uR:=fun _=>by kernel_rfl
def mb:tL:=(269,uR)::mZ
theorem mc:tO mb:=Tb ma ABR
def wo:tA:=[(272,2,22,.loop { keep:=[0,1,7,6],kb:=[],pl:=[.slot 4 zf zJ,.slot 8 zf zJ],ex:=[(.ret,[]),(.exit 0,[])],pay:=.unit })]
def uM:Sg:=⟨[(zf,(.sl zt T5))],[zI],W7⟩
theorem ABM:tQ mb wo 259 uM:=fun _=>by kernel_rfl
def md:tL:=(259,uM)::mb
theorem me:tO md:=Tb mc ABM
theorem ABW:Mb Tryz.prog (λf=> !pu f) 1000 100 262=zt:=by kernel_rfl
theorem ABP(a:Ty.den T5)(l:List (Ty.den T5)):ND Tryz.prog (Af pu md) (R3 []) 3000 60 262 [(zf,(.sl zt T5))] [(zf,(.sl zt T5))] (a::l)=VM (a::l):=by kernel_rfl
def mf:tL:=(262,⟨[(zf,(.sl zt T5))],[(zf,(.sl zt T5))],VM⟩)::md
theorem mg:tO mf:=Tc (gg:=true) (c:=T5) me ABW rfl ABP
theorem ABZ:Pa Tryz.prog (λf=> !pu f) 1000 100 262=zt:=by kernel_rfl
theorem AB7(a:Ty.den T5)(l:List (Ty.den T5)):Qe Tryz.prog (Af pu mf) (R3 []) 3000 60 262 [(zf,(.sl zt T5))] zt T5 (a::l)=VM (a::l):=by kernel_rfl
def mh:tL:=(262+Cy,⟨[(zf,(.sl zt T5))],[(zf,(.sl zt T5))],VM⟩)::mf
theorem mi:tO mh:=Td (gg:=true) (c:=T5) mg ABZ rfl (λa l y h=>TB h) AB7
def wq:tA:=[(260,6,26,.loop { keep:=[0,3,15,23,11,19,17,13,2,4,24,12,6,10,14,22],kb:=[0,7],pl:=[.slot 7 zf zJ,.srow 5 zf zJ zt,.box 20 [.ow zt T5 zf,.ow zf zJ zt,.lf zJ]],ex:=[(.exit 0,[])],pay:=.unit })]
def uN:Sg:=⟨[(zf,(.sl zt T5))],[(zt,T7)],X8⟩
theorem ABN:tQ mh wq 260 uN:=fun _=>by kernel_rfl
def mj:tL:=(260,uN)::mh
theorem mo:tO mj:=Tb mi ABN
def uG:Sg:=⟨[(zf,(.sl zt T5))],[(zt,T7),zI],WO⟩
theorem ABE:tQ mj [] 241 uG:=fun _=>by kernel_rfl
def mq:tL:=(241,uG)::mj
theorem mr:tO mq:=Tb mo ABE
def wL:tA:=[(214,3,47,.loop { keep:=[0,1,11,13,4,10,14],kb:=[0,39,27,13,30],pl:=[.slot 15 zf zJ,.srow 5 zt T5 zt],ex:=[(.exit 0,[])],pay:=.unit })]
def tH:Sg:=⟨[(zf,(.sl zf (.sl zt T2))),(zf,.bool)],[(zt,gL),zI,zI],YH⟩
theorem AAd:tQ mq wL 154 tH:=fun _=>by kernel_rfl
def mu:tL:=(154,tH)::mq
theorem mv:tO mu:=Tb mr AAd
def sW:Sg:=⟨[(zt,T4),zI,(zf,.bool)],[(zt,zB)],WM⟩
theorem AAL:tQ mu [] 114 sW:=fun _=>by kernel_rfl
def mw:tL:=(114,sW)::mu
theorem my:tO mw:=Tb mv AAL
def wh:tA:=[(214,3,8,.loop { keep:=[0,1,11,13,4,10,14],kb:=[0],pl:=[.slot 15 zf zJ,.srow 5 zt T5 zt],ex:=[(.exit 0,[])],pay:=.unit })]
theorem AA5(x:AO [(zf,(.sl zf (.sl zt T2))),(zf,(.sl zf zJ))]):ND Tryz.prog (Af pu mw) (R3 wh) 3000 60 214 [(zf,(.sl zf (.sl zt T2))),(zf,(.sl zf zJ))] [(zt,T7)] x=X9 x:=by kernel_rfl
def mz:tL:=(1048790,⟨[(zf,(.sl zf (.sl zt T2))),(zf,(.sl zf zJ))],[(zt,T7)],X9⟩)::mw
theorem m6:tO mz:=Tb my AA5
def wP:tA:=[(162,4,9,.loop { keep:=[0,1,7,11,9,8,12,6,10],kb:=[],pl:=[.slot 13 zf zJ,.slot 4 zf .bool],ex:=[(.ret,[]),(.exit 0,[])],pay:=.unit })]
def tN:Sg:=⟨[(zf,(.sl zt T5)),(zf,(.sl zt T5))],[(zf,.bool)],VT⟩
theorem AAi:tQ mz wP 162 tN:=fun _=>by kernel_rfl
def m7:tL:=(162,tN)::mz
theorem m8:tO m7:=Tb m6 AAi
end Go.Proofs.YtoefnfbpoabinaaGreatDoor.Pt
