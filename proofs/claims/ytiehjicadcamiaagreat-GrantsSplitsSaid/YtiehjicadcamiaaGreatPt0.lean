/- The evaluator comes to each of the plain functions. No condition. -/
import Derived.Test.YtiehjicadcamiaaGreatPl4
import Derived.Test.YtiehjicadcamiaaGreatProg
set_option linter.all false
open Option renaming none->zn
open Bool renaming true->zt, false->zf
namespace Go.Proofs.YtiehjicadcamiaaGreat.Pt
open Go Sv Pl
set_option maxRecDepth 1000000
instance glN:Pi.Gl:=⟨λ_=>zn,λ_=>zn⟩
def pu(g:Nat):Bool:=[2,3,4,5,6,7,8,9,10,11,12,13,14,15,16,17,20,22,23,24,25,26,27,28,29,30,32,34,35,36,37,38,39,40,41,42,43,44,45,46,47,48,49,53,54,55,56,59,60,61,62,63,64,65,66,67,69,70,71,72,73,74,75,76,77,78,79,80,81,82,84,86,87,88,89,90,91,92,95,96,97,101,102,103,104,105,106,107,108,109,110,111,112,113,114,115,116,117,118,119,120,121,122,123,124,126,127,128,129,130,131,132,133,134,135,136,137,138,139,141,143,144,145,146,148,149,150,151,152,160,161,162,163,164,166,167,168,169,170,171,173,174,175,176,177,178,179,180,181,182,184,186,204,205,206].any (Nat.beq g)||Nat.ble 1048576 g
@[reducible] def zJ:Ty:=.int .i64
@[reducible] def zI:Bool×Ty:=(zf,zJ)
@[reducible] def T0:Ty:=.pair .bool zJ
@[reducible] def T1:Ty:=.pair .str T0
@[reducible] def T2:Ty:=.pair .str T1
@[reducible] def T3:Ty:=.pair zJ (.sl zt T2)
@[reducible] def T4:Ty:=.pair zJ (.sl zt (.sl zt T3))
@[reducible] def T5:Ty:=.pair .str .bool
@[reducible] def T6:Ty:=.pair (.sl zf zJ) zJ
@[reducible] def T7:Ty:=.pair (.sl zt T5) T6
@[reducible] def T8:Ty:=.pair (.sl zf zJ) T7
@[reducible] def T9:Ty:=.pair (.sl zf (.sl zt T2)) T8
@[reducible] def oJ:Ty:=.pair .bool T5
@[reducible] def yM:Ty:=.pair (.sl zt T2) zJ
@[reducible] def yN:Ty:=.pair oJ yM
@[reducible] def da:Ty:=.pair T9 yN
@[reducible] def ZI:Ty:=.pair zJ da
@[reducible] def yO:Ty:=.pair (.sl zt ZI) zJ
@[reducible] def YM:Ty:=.pair T4 yO
@[reducible] def vD:Ty:=.pair (.sl zt T5) .unit
@[reducible] def yP:Ty:=.pair ZI zJ
@[reducible] def sG:Ty:=.pair YM yP
@[reducible] def yQ:Ty:=.pair zJ .bool
@[reducible] def yR:Ty:=.pair zJ zJ
@[reducible] def yS:Ty:=.pair zJ yR
@[reducible] def yT:Ty:=.pair zJ yS
@[reducible] def yU:Ty:=.pair zJ yT
@[reducible] def yV:Ty:=.pair zJ yU
@[reducible] def yW:Ty:=.pair zJ yV
@[reducible] def yX:Ty:=.pair zJ yW
@[reducible] def yY:Ty:=.pair zJ yX
@[reducible] def yZ:Ty:=.pair zJ yY
@[reducible] def yc:Ty:=.pair zJ yZ
@[reducible] def yd:Ty:=.pair zJ yc
@[reducible] def ye:Ty:=.pair zJ yd
@[reducible] def yf:Ty:=.pair zJ ye
@[reducible] def vE:Ty:=.pair zJ yf
abbrev tL:=List (FuncId×Sg)
abbrev tA:=List (Nat×Nat×Nat×An)
abbrev tO(L:tL):Prop:=TabOK Tryz.prog (Ae pu L)
abbrev tQ(L:tL)(a:tA)(f:Nat)(s:Sg):Prop:=∀ x,OZ Tryz.prog (Ae pu L) (RU a) 3000 60 f s.dom s.cod x=s.fn x
def rf:tL:=[]
theorem o8:tO rf:=S3 _ _
def yg:tA:=[(5,3,4,.loop { keep:=[0,1],kb:=[0],pl:=[.slot 3 zf zJ,.slot 2 zf .bool,.slot 4 zf zJ],ex:=[(.exit 0,[]),(.ret,[])],pay:=.unit }),(5,6,15,.loop { keep:=[0,1,15,19,17,13,21,4,16,12,20,18,14],kb:=[0],pl:=[.slot 3 zf zJ,.slot 5 zf zJ,.slot 2 zf .bool],ex:=[(.exit 2,[]),(.ret,[])],pay:=.unit }),(5,11,47,.loop { keep:=[0,1,3,15,31,47,19,35,51,27,43,5,17,33,49,25,41,13,21,37,53,29,45,4,16,32,48,24,40,12,20,36,52,28,44,6,18,34,50,26,42,14,54,30,46],kb:=[0],pl:=[.slot 7 zf zJ,.slot 2 zf .bool],ex:=[(.ret,[]),(.exit 4,[])],pay:=.unit }),(5,18,5,.loop { keep:=[0,1,3,4],kb:=[0],pl:=[.slot 2 zf .bool,.slot 8 zf zJ],ex:=[(.ret,[]),(.exit 6,[])],pay:=.unit }),(5,25,55,.loop { keep:=[0,1,3,127,95,111,135,103,119,131,115,107,91,123,9,129,97,113,137,105,121,133,101,117,109,93,125,2,4,8,128,96,112,136,104,120,132,116,108,92,124,130,98,114,106,90,122,134,102,118,110,94,126],kb:=[0,20],pl:=[.slot 11 zf zJ,.slot 10 zf zJ],ex:=[(.exit 8,[])],pay:=.unit })]
def yE:Sg:=⟨[(zt,YM)],[(zf,.bool)],Xq⟩
theorem e5:tQ rf yg 5 yE:=fun _=>by kernel_rfl
def ri:tL:=(5,yE)::rf
theorem o9:tO ri:=Sj o8 e5
def vi:tA:=[(65,2,2,.loop { keep:=[1,4],kb:=[],pl:=[.slot 0 zf zJ,.slot 5 zf zJ],ex:=[(.exit 0,[])],pay:=.unit })]
def uW:Sg:=⟨[zI,zI],[zI],V9⟩
theorem zm:tQ ri vi 65 uW:=fun _=>by kernel_rfl
def rm:tL:=(65,uW)::ri
theorem pA:tO rm:=Sj o9 zm
def qi:Sg:=⟨[(zt,T2)],[zI],WM⟩
theorem xC:tQ rm [] 160 qi:=fun _=>by kernel_rfl
def rn:tL:=(160,qi)::rm
theorem pB:tO rn:=Sj pA xC
def sy:tA:=[(176,2,2,.loop { keep:=[0,1,4],kb:=[],pl:=[.slot 5 zf zJ],ex:=[(.exit 0,[])],pay:=.unit })]
def qx:Sg:=⟨[(zf,.str),(zf,.str)],[zI],XH⟩
theorem xQ:tQ rn sy 176 qx:=fun _=>by kernel_rfl
def rp:tL:=(176,qx)::rn
theorem pC:tO rp:=Sj pB xQ
def qj:Sg:=⟨[(zf,.str),(zf,.str)],[zI],Wr⟩
theorem xD:tQ rp [] 161 qj:=fun _=>by kernel_rfl
def rq:tL:=(161,qj)::rp
theorem pD:tO rq:=Sj pC xD
def sc:tA:=[(134,4,6,.loop { keep:=[0,7,8,6],kb:=[],pl:=[.slot 3 zf zJ,.slot 2 zf zJ,.slot 4 zf zJ],ex:=[(.ret,[]),(.exit 0,[])],pay:=.unit })]
def qO:Sg:=⟨[(zf,(.sl zt T2))],[zI,zI],Vr⟩
theorem wj:tQ rq sc 134 qO:=fun _=>by kernel_rfl
def rt:tL:=(134,qO)::rq
theorem pE:tO rt:=Sj pD wj
def pU:Sg:=⟨[(zt,T3)],[zI,zI],Xg⟩
theorem wE:tQ rt [] 104 pU:=fun _=>by kernel_rfl
def ru:tL:=(104,pU)::rt
theorem pF:tO ru:=Sj pE wE
def vg:tA:=[(64,9,21,.loop { keep:=[0,1,3,7,15,23,11,19,25,13,21,2,8,16,24,12,20,10,18,26,14,22],kb:=[0],pl:=[.slot 9 zf zJ,.slot 6 zf zJ],ex:=[(.ret,[]),(.exit 0,[])],pay:=.unit })]
def uV:Sg:=⟨[(zt,T3),zI,(zf,(.sl zf zJ))],[zI],Wj⟩
theorem zl:tQ ru vg 64 uV:=fun _=>by kernel_rfl
def rx:tL:=(64,uV)::ru
theorem pG:tO rx:=Sj pF zl
def vR:tA:=[(35,7,18,.loop { keep:=[0,1,15,11,19,17,13,21,16,12,20,10,18,14],kb:=[0],pl:=[.slot 3 zf zJ,.srow 5 zf zJ zf,.slot 2 zf zJ,.slot 4 zf zJ,.slot 6 zf zJ],ex:=[(.ret,[]),(.exit 0,[])],pay:=.unit }),(35,13,35,.loop { keep:=[0,1,7,15,31,23,11,19,35,17,33,25,13,21,37,29,16,32,24,12,20,36,6,10,18,34,26,14,22,30],kb:=[0],pl:=[.slot 3 zf zJ,.srow 5 zf zJ zf,.slot 2 zf zJ,.slot 4 zf zJ,.slot 8 zf zJ],ex:=[(.ret,[]),(.exit 2,[])],pay:=.unit })]
def t5:Sg:=⟨[(zt,T4)],[zI,zI,zI],VH⟩
theorem zE:tQ rx vR 35 t5:=fun _=>by kernel_rfl
def ry:tL:=(35,t5)::rx
theorem pH:tO ry:=Sj pG zE
def vj:tA:=[(66,6,16,.loop { keep:=[0,1,3,15,11,5,17,13,2,4,16,12,6,10,14],kb:=[0],pl:=[.srow 7 zt T3 zf,.slot 8 zf zJ],ex:=[(.exit 0,[])],pay:=.unit }),(66,9,31,.loop { keep:=[0,1,3,15,31,23,11,19,27,5,17,33,13,21,29,2,4,8,16,32,12,20,28,6,10,26,14,22,30],kb:=[0],pl:=[.srow 7 zt T3 zf,.slot 9 zf zJ],ex:=[(.exit 2,[])],pay:=.unit })]
def uX:Sg:=⟨[(zt,T4)],[(zf,(.sl zt T3)),zI],XL⟩
theorem zp:tQ ry vj 66 uX:=fun _=>by kernel_rfl
def jq:tL:=(66,uX)::ry
theorem jr:tO jq:=Sj pH zp
def vS:tA:=[(36,4,11,.loop { keep:=[0,1,3,7,11,9,2,4,8,10],kb:=[0],pl:=[.slot 5 zf zJ,.slot 6 zf zJ],ex:=[(.exit 0,[])],pay:=.unit })]
def t6:Sg:=⟨[(zt,T4)],[zI],Vf⟩
theorem zG:tQ jq vS 36 t6:=fun _=>by kernel_rfl
def jt:tL:=(36,t6)::jq
theorem ju:tO jt:=Sj jr zG
def vT:tA:=[(37,3,4,.loop { keep:=[0,1,2],kb:=[0],pl:=[.srow 3 zf zJ zf,.slot 4 zf zJ],ex:=[(.exit 0,[])],pay:=.unit })]
def t7:Sg:=⟨[(zt,T4)],[(zf,(.sl zf zJ))],Uy⟩
theorem zH:tQ jt vT 37 t7:=fun _=>by kernel_rfl
def jv:tL:=(37,t7)::jt
theorem jw:tO jv:=Sj ju zH
def pV:Sg:=⟨[(zt,T4),zI],[zI],Yp⟩
theorem wF:tQ jv [] 105 pV:=fun _=>by kernel_rfl
def jx:tL:=(105,pV)::jv
theorem jy:tO jx:=Sj jw wF
end Go.Proofs.YtiehjicadcamiaaGreat.Pt
