/- The evaluator comes to each of the plain functions. No condition. -/
import Derived.Test.YtoefnfbpoabinaaGreatDoorPt0
set_option linter.all false
open Bool renaming true->zt, false->zf
namespace Go.Proofs.YtoefnfbpoabinaaGreatDoor.Pt
open Go Sv Pl
set_option maxRecDepth 1000000
def tj:Sg:=⟨[(zf,.bool)],[(zt,rB)],Wt⟩
theorem AAu:tQ mZ [] 193 tj:=fun _=>by kernel_rfl
def mb:tL:=(193,tj)::mZ
theorem mc:tO mb:=UE ma AAu
theorem ABV:Mx Tryz.prog (λf=> !pu f) 1000 100 213=zt:=by kernel_rfl
theorem AA5(a:Ty.den (.sl zt T2))(l:List (Ty.den (.sl zt T2))):NV Tryz.prog (Af pu mb) (SO []) 3000 60 213 [(zf,(.sl zf (.sl zt T2)))] [(zf,(.sl zf (.sl zt T2)))] (a::l)=Vl (a::l):=by kernel_rfl
def md:tL:=(213,⟨[(zf,(.sl zf (.sl zt T2)))],[(zf,(.sl zf (.sl zt T2)))],Vl⟩)::mb
theorem me:tO md:=UF (gg:=false) (c:=(.sl zt T2)) mc ABV rfl AA5
theorem ABY:Ps Tryz.prog (λf=> !pu f) 1000 100 213=zt:=by kernel_rfl
theorem AB6(a:Ty.den (.sl zt T2))(l:List (Ty.den (.sl zt T2))):Qu Tryz.prog (Af pu md) (SO []) 3000 60 213 [(zf,(.sl zf (.sl zt T2)))] zf (.sl zt T2) (a::l)=Vl (a::l):=by kernel_rfl
def mf:tL:=(213+C2,⟨[(zf,(.sl zf (.sl zt T2)))],[(zf,(.sl zf (.sl zt T2)))],Vl⟩)::md
theorem mg:tO mf:=UG (gg:=false) (c:=(.sl zt T2)) me ABY rfl (λa l y h=>Tb h) AB6
def uH:Sg:=⟨[(zf,(.sl zt T2)),zI],[(zt,T5)],V3⟩
theorem ABE:tQ mf [] 240 uH:=fun _=>by kernel_rfl
def mh:tL:=(240,uH)::mf
theorem mi:tO mh:=UE mg ABE
def uT:Sg:=⟨[(zt,T5)],[(zf,.bool)],XT⟩
theorem ABS:tQ mh [] 269 uT:=fun _=>by kernel_rfl
def mj:tL:=(269,uT)::mh
theorem mo:tO mj:=UE mi ABS
def wt:tA:=[(272,2,22,.loop { keep:=[0,1,7,6],kb:=[],pl:=[.slot 4 zf zJ,.slot 8 zf zJ],ex:=[(.ret,[]),(.exit 0,[])],pay:=.unit })]
def uO:Sg:=⟨[(zf,(.sl zt T5))],[zI],XV⟩
theorem ABN:tQ mj wt 259 uO:=fun _=>by kernel_rfl
def mq:tL:=(259,uO)::mj
theorem mr:tO mq:=UE mo ABN
theorem ABX:Mx Tryz.prog (λf=> !pu f) 1000 100 262=zt:=by kernel_rfl
theorem ABQ(a:Ty.den T5)(l:List (Ty.den T5)):NV Tryz.prog (Af pu mq) (SO []) 3000 60 262 [(zf,(.sl zt T5))] [(zf,(.sl zt T5))] (a::l)=Vm (a::l):=by kernel_rfl
def mu:tL:=(262,⟨[(zf,(.sl zt T5))],[(zf,(.sl zt T5))],Vm⟩)::mq
theorem mv:tO mu:=UF (gg:=true) (c:=T5) mr ABX rfl ABQ
theorem ABa:Ps Tryz.prog (λf=> !pu f) 1000 100 262=zt:=by kernel_rfl
theorem AB8(a:Ty.den T5)(l:List (Ty.den T5)):Qu Tryz.prog (Af pu mu) (SO []) 3000 60 262 [(zf,(.sl zt T5))] zt T5 (a::l)=Vm (a::l):=by kernel_rfl
def mw:tL:=(262+C2,⟨[(zf,(.sl zt T5))],[(zf,(.sl zt T5))],Vm⟩)::mu
theorem my:tO mw:=UG (gg:=true) (c:=T5) mv ABa rfl (λa l y h=>Tb h) AB8
def wu:tA:=[(260,6,26,.loop { keep:=[0,3,15,23,11,19,17,13,2,4,24,12,6,10,14,22],kb:=[0,7],pl:=[.slot 7 zf zJ,.srow 5 zf zJ zt,.box 20 [.ow zt T5 zf,.ow zf zJ zt,.lf zJ]],ex:=[(.exit 0,[])],pay:=.unit })]
def uQ:Sg:=⟨[(zf,(.sl zt T5))],[(zt,T7)],YU⟩
theorem ABO:tQ mw wu 260 uQ:=fun _=>by kernel_rfl
def mz:tL:=(260,uQ)::mw
theorem m6:tO mz:=UE my ABO
def uI:Sg:=⟨[(zf,(.sl zt T5))],[(zt,T7),zI],Wn⟩
theorem ABF:tQ mz [] 241 uI:=fun _=>by kernel_rfl
def m7:tL:=(241,uI)::mz
theorem m8:tO m7:=UE m6 ABF
def wN:tA:=[(214,3,47,.loop { keep:=[0,1,11,13,4,10,14],kb:=[0,39,27,13,30],pl:=[.slot 15 zf zJ,.srow 5 zt T5 zt],ex:=[(.exit 0,[])],pay:=.unit })]
def tJ:Sg:=⟨[(zf,(.sl zf (.sl zt T2))),(zf,.bool)],[(zt,gf),zI,zI],Yd⟩
theorem AAe:tQ m7 wN 154 tJ:=fun _=>by kernel_rfl
def m9:tL:=(154,tJ)::m7
theorem nA:tO m9:=UE m8 AAe
def sY:Sg:=⟨[(zt,T4),zI,(zf,.bool)],[(zt,zC)],Wl⟩
theorem AAM:tQ m9 [] 114 sY:=fun _=>by kernel_rfl
def nB:tL:=(114,sY)::m9
theorem nC:tO nB:=UE nA AAM
def wj:tA:=[(214,3,8,.loop { keep:=[0,1,11,13,4,10,14],kb:=[0],pl:=[.slot 15 zf zJ,.srow 5 zt T5 zt],ex:=[(.exit 0,[])],pay:=.unit })]
theorem AA6(x:AO [(zf,(.sl zf (.sl zt T2))),(zf,(.sl zf zJ))]):NV Tryz.prog (Af pu nB) (SO wj) 3000 60 214 [(zf,(.sl zf (.sl zt T2))),(zf,(.sl zf zJ))] [(zt,T7)] x=YV x:=by kernel_rfl
def nD:tL:=(1048790,⟨[(zf,(.sl zf (.sl zt T2))),(zf,(.sl zf zJ))],[(zt,T7)],YV⟩)::nB
theorem nF:tO nD:=UE nC AA6
def wR:tA:=[(162,4,9,.loop { keep:=[0,1,7,11,9,8,12,6,10],kb:=[],pl:=[.slot 13 zf zJ,.slot 4 zf .bool],ex:=[(.ret,[]),(.exit 0,[])],pay:=.unit })]
def tU:Sg:=⟨[(zf,(.sl zt T5)),(zf,(.sl zt T5))],[(zf,.bool)],Vs⟩
theorem AAj:tQ nD wR 162 tU:=fun _=>by kernel_rfl
def nG:tL:=(162,tU)::nD
theorem nH:tO nG:=UE nF AAj
end Go.Proofs.YtoefnfbpoabinaaGreatDoor.Pt
