/- The evaluator comes to each of the plain functions. No condition. -/
import Derived.Test.YtggceepiljjadaaGreatPl4
import Derived.Test.YtggceepiljjadaaGreatProg
set_option linter.all false
namespace Go.Proofs.YtggceepiljjadaaGreat.Pt
open Go Sv Pl
set_option maxRecDepth 1000000
instance glN:Pi.Gl:=⟨λ_=>none,λ_=>none⟩
def pu(g:Nat):Bool:=[2,3,4,5,6,7,8,9,10,11,12,13,14,15,16,17,18,19,20,21,22,28,30,31,32,33,34,35,36,37,38,39,40,41,42,43,44,45,46,47,48,49,51,52,53,54,55,56,57,58,59,62,63,64,65,66,67,68,69,70,71,72,73,74,76,77,78,79,80,81,82,83,84,85,86,87,88,89,90,91,92,93,94,99,100,101,104,106,107,109,110,111,112,113,114,115,116,117,118,119,120,121,123,124,125,126,130,131,132,133,134,135,136,138,139,140,142,143,144,146,147,148,149,157,158,159,160,161,162,163,164,165,166,168,169,170,171,172,173,174,175,176,178,180,198,199,200].any (Nat.beq g)||Nat.ble 1048576 g
@[reducible] def zJ:Ty:=.int .i64
@[reducible] def zI:Bool×Ty:=(false,zJ)
@[reducible] def T0:Ty:=.pair .bool zJ
@[reducible] def T1:Ty:=.pair .str T0
@[reducible] def T2:Ty:=.pair .str T1
@[reducible] def T3:Ty:=.pair zJ (.sl true T2)
@[reducible] def T4:Ty:=.pair zJ (.sl true (.sl true T3))
@[reducible] def T5:Ty:=.pair .str .bool
@[reducible] def T6:Ty:=.pair (.sl false zJ) zJ
@[reducible] def T7:Ty:=.pair (.sl true T5) T6
@[reducible] def T8:Ty:=.pair (.sl false zJ) T7
@[reducible] def T9:Ty:=.pair (.sl false (.sl true T2)) T8
@[reducible] def pQ:Ty:=.pair .bool T5
@[reducible] def yy:Ty:=.pair (.sl true T2) zJ
@[reducible] def yz:Ty:=.pair pQ yy
@[reducible] def d9:Ty:=.pair T9 yz
@[reducible] def ah:Ty:=.pair zJ d9
@[reducible] def y0:Ty:=.pair (.sl true ah) zJ
@[reducible] def bn:Ty:=.pair T4 y0
@[reducible] def eA:Ty:=.pair T3 bn
@[reducible] def wB:Ty:=.pair (.sl true T5) .unit
@[reducible] def y8:Ty:=.pair ah zJ
@[reducible] def tV:Ty:=.pair bn y8
abbrev tL:=List (FuncId×Sg)
abbrev tA:=List (Nat×Nat×Nat×An)
abbrev tO(L:tL):Prop:=TabOK Tryz.prog (Ah pu L)
abbrev tE(L:tL)(a:tA)(f:Nat)(s:Sg):Prop:=∀ x,OQ Tryz.prog (Ah pu L) (RK a) 3000 60 f s.dom s.cod x=s.fn x
def tB:tL:=[]
theorem qG:tO tB:=Sh _ _
def zA:tA:=[(5,2,2,.loop { keep:=[0],kb:=[],pl:=[.slot 3 false zJ,.slot 2 false .bool],ex:=[(.ret,[]),(.exit 0,[])],pay:=.unit })]
def yh:Sg:=⟨[(false,(.sl true T2))],[(false,.bool)],V4⟩
theorem e5:tE tB zA 5 yh:=fun _=>by kernel_rfl
def tC:tL:=(5,yh)::tB
theorem qH:tO tC:=SR qG e5
def wO:tA:=[(37,2,2,.loop { keep:=[0],kb:=[],pl:=[.slot 3 false zJ,.slot 2 false .bool],ex:=[(.ret,[]),(.exit 0,[])],pay:=.unit })]
def us:Sg:=⟨[(false,(.sl true T2))],[(false,.bool)],VX⟩
theorem zh:tE tC wO 37 us:=fun _=>by kernel_rfl
def tD:tL:=(37,us)::tC
theorem qI:tO tD:=SR qH zh
def wg:tA:=[(71,2,2,.loop { keep:=[0],kb:=[],pl:=[.slot 3 false zJ,.slot 2 false .bool],ex:=[(.ret,[]),(.exit 0,[])],pay:=.unit })]
def vT:Sg:=⟨[(false,(.sl true T3))],[(false,.bool)],Vr⟩
theorem e71:tE tD wg 71 vT:=fun _=>by kernel_rfl
def tG:tL:=(71,vT)::tD
theorem qK:tO tG:=SR qI e71
def wP:tA:=[(38,2,3,.loop { keep:=[0,1],kb:=[0],pl:=[.slot 3 false zJ,.slot 2 false .bool],ex:=[(.ret,[]),(.exit 0,[])],pay:=.unit })]
def ut:Sg:=⟨[(true,T4)],[(false,.bool)],Xp⟩
theorem zi:tE tG wP 38 ut:=fun _=>by kernel_rfl
def tH:tL:=(38,ut)::tG
theorem qN:tO tH:=SR qK zi
def wG:tA:=[(14,2,3,.loop { keep:=[0,1],kb:=[0],pl:=[.slot 3 false zJ,.slot 2 false .bool],ex:=[(.exit 0,[]),(.ret,[])],pay:=.unit }),(14,6,21,.loop { keep:=[0,1,3,7,11,19,9,17,13,21,4,8,12,20,6,10,18,14,22],kb:=[0,18],pl:=[.slot 5 false zJ,.slot 2 false .bool],ex:=[(.ret,[]),(.exit 2,[])],pay:=.unit })]
def uY:Sg:=⟨[(true,bn)],[(false,.bool)],Xq⟩
theorem zM:tE tH wG 14 uY:=fun _=>by kernel_rfl
def tI:tL:=(14,uY)::tH
theorem qO:tO tI:=SR qN zM
def yg:Sg:=⟨[(true,eA)],[(false,.bool)],Xr⟩
theorem e4:tE tI [] 4 yg:=fun _=>by kernel_rfl
def tJ:tL:=(4,yg)::tI
theorem qP:tO tJ:=SR qO e4
def u6:Sg:=⟨[zI],[(true,T3),zI],Z4⟩
theorem zt:tE tJ [] 48 u6:=fun _=>by kernel_rfl
def tK:tL:=(48,u6)::tJ
theorem qQ:tO tK:=SR qP zt
def vo:Sg:=⟨[zI],[(true,T4),zI],Z5⟩
theorem e85:tE tK [] 85 vo:=fun _=>by kernel_rfl
def tM:tL:=(85,vo)::tK
theorem qR:tO tM:=SR qQ e85
def u7:Sg:=⟨[zI],[(true,bn),zI],ay⟩
theorem zu:tE tM [] 49 u7:=fun _=>by kernel_rfl
def tN:tL:=(49,u7)::tM
theorem qT:tO tN:=SR qR zu
def uc:Sg:=⟨[zI],[(true,eA),zI],ZJ⟩
theorem zQ:tE tN [] 17 uc:=fun _=>by kernel_rfl
def kq:tL:=(17,uc)::tN
theorem kr:tO kq:=SR qT zQ
def v6:Sg:=⟨[(false,.str)],[zI],W6⟩
theorem e92:tE kq [] 92 v6:=fun _=>by kernel_rfl
def ks:tL:=(92,v6)::kq
theorem ku:tO ks:=SR kr e92
def vD:Sg:=⟨[(true,T2)],[zI],UH⟩
theorem z8:tE ks [] 55 vD:=fun _=>by kernel_rfl
def kw:tL:=(55,vD)::ks
theorem ky:tO kw:=SR ku z8
def wW:tA:=[(53,6,23,.loop { keep:=[0,1,7,15,23,11,19,9,17,25,13,21,8,16,24,12,20,10,18,14,22],kb:=[0],pl:=[.slot 3 false zJ,.slot 2 false zJ,.slot 26 false zJ],ex:=[(.ret,[]),(.exit 1,[])],pay:=.unit })]
def vB:Sg:=⟨[(true,T3)],[zI,zI],Um⟩
theorem zy:tE kw wW 53 vB:=fun _=>by kernel_rfl
def kz:tL:=(53,vB)::kw
theorem lA:tO kz:=SR ky zy
end Go.Proofs.YtggceepiljjadaaGreat.Pt
