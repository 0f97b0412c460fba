/- The evaluator comes to each of the plain functions. No condition. -/
import Derived.Test.YtiehjicadcamiaaGreatPl4
import Derived.Test.YtiehjicadcamiaaGreatProg
set_option linter.all false
open Option renaming none->zn
open Bool renaming true->zt, false->zf
namespace Go.Proofs.YtiehjicadcamiaaGreat.Pt
open Go Sv Pl
set_option maxRecDepth 1000000
instance glN:Pi.Gl:=⟨λ_=>zn,λ_=>zn⟩
def pu(g:Nat):Bool:=[2,3,4,5,6,7,8,9,10,11,12,13,14,15,16,17,20,22,23,24,25,26,27,28,29,30,32,34,35,36,37,38,39,40,41,42,43,44,45,46,47,48,49,53,54,55,56,59,60,61,62,63,64,65,66,67,69,70,71,72,73,74,75,76,77,78,79,80,81,82,84,86,87,88,89,90,91,92,95,96,97,101,102,103,104,105,106,107,108,109,110,111,112,113,114,115,116,117,118,119,120,121,122,123,124,126,127,128,129,130,131,132,133,134,135,136,137,138,139,141,143,144,145,146,148,149,150,151,152,160,161,162,163,164,166,167,168,169,170,171,173,174,175,176,177,178,179,180,181,182,184,186,204,205,206].any (Nat.beq g)||Nat.ble 1048576 g
@[reducible] def zJ:Ty:=.int .i64
@[reducible] def zI:Bool×Ty:=(zf,zJ)
@[reducible] def T0:Ty:=.pair .bool zJ
@[reducible] def T1:Ty:=.pair .str T0
@[reducible] def T2:Ty:=.pair .str T1
@[reducible] def T3:Ty:=.pair zJ (.sl zt T2)
@[reducible] def T4:Ty:=.pair zJ (.sl zt (.sl zt T3))
@[reducible] def T5:Ty:=.pair .str .bool
@[reducible] def T6:Ty:=.pair (.sl zf zJ) zJ
@[reducible] def T7:Ty:=.pair (.sl zt T5) T6
@[reducible] def T8:Ty:=.pair (.sl zf zJ) T7
@[reducible] def T9:Ty:=.pair (.sl zf (.sl zt T2)) T8
@[reducible] def pI:Ty:=.pair .bool T5
@[reducible] def za:Ty:=.pair (.sl zt T2) zJ
@[reducible] def zd:Ty:=.pair pI za
@[reducible] def eC:Ty:=.pair T9 zd
@[reducible] def Yh:Ty:=.pair zJ eC
@[reducible] def ze:Ty:=.pair (.sl zt Yh) zJ
@[reducible] def Xx:Ty:=.pair T4 ze
@[reducible] def wH:Ty:=.pair (.sl zt T5) .unit
@[reducible] def zg:Ty:=.pair Yh zJ
@[reducible] def tR:Ty:=.pair Xx zg
@[reducible] def zh:Ty:=.pair zJ .bool
@[reducible] def zi:Ty:=.pair zJ zJ
@[reducible] def zk:Ty:=.pair zJ zi
@[reducible] def zl:Ty:=.pair zJ zk
@[reducible] def zm:Ty:=.pair zJ zl
@[reducible] def zp:Ty:=.pair zJ zm
@[reducible] def zq:Ty:=.pair zJ zp
@[reducible] def zs:Ty:=.pair zJ zq
@[reducible] def zu:Ty:=.pair zJ zs
@[reducible] def zw:Ty:=.pair zJ zu
@[reducible] def zz:Ty:=.pair zJ zw
@[reducible] def z8:Ty:=.pair zJ zz
@[reducible] def z9:Ty:=.pair zJ z8
@[reducible] def T33:Ty:=.pair zJ z9
@[reducible] def bV:Ty:=.pair zJ T33
abbrev tL:=List (FuncId×Sg)
abbrev tA:=List (Nat×Nat×Nat×An)
abbrev tO(L:tL):Prop:=TabOK Tryz.prog (Ae pu L)
abbrev tQ(L:tL)(a:tA)(f:Nat)(s:Sg):Prop:=∀ x,OZ Tryz.prog (Ae pu L) (RU a) 3000 60 f s.dom s.cod x=s.fn x
def si:tL:=[]
theorem p9:tO si:=S3 _ _
def an5:tA:=[(5,3,4,.loop { keep:=[0,1],kb:=[0],pl:=[.slot 3 zf zJ,.slot 2 zf .bool,.slot 4 zf zJ],ex:=[(.exit 0,[]),(.ret,[])],pay:=.unit }),(5,6,15,.loop { keep:=[0,1,15,19,17,13,21,4,16,12,20,18,14],kb:=[0],pl:=[.slot 3 zf zJ,.slot 5 zf zJ,.slot 2 zf .bool],ex:=[(.exit 2,[]),(.ret,[])],pay:=.unit }),(5,11,47,.loop { keep:=[0,1,3,15,31,47,19,35,51,27,43,5,17,33,49,25,41,13,21,37,53,29,45,4,16,32,48,24,40,12,20,36,52,28,44,6,18,34,50,26,42,14,54,30,46],kb:=[0],pl:=[.slot 7 zf zJ,.slot 2 zf .bool],ex:=[(.ret,[]),(.exit 4,[])],pay:=.unit }),(5,18,5,.loop { keep:=[0,1,3,4],kb:=[0],pl:=[.slot 2 zf .bool,.slot 8 zf zJ],ex:=[(.ret,[]),(.exit 6,[])],pay:=.unit }),(5,25,55,.loop { keep:=[0,1,3,127,95,111,135,103,119,131,115,107,91,123,9,129,97,113,137,105,121,133,101,117,109,93,125,2,4,8,128,96,112,136,104,120,132,116,108,92,124,130,98,114,106,90,122,134,102,118,110,94,126],kb:=[0,20],pl:=[.slot 11 zf zJ,.slot 10 zf zJ],ex:=[(.exit 8,[])],pay:=.unit })]
def zQ:Sg:=⟨[(zt,Xx)],[(zf,.bool)],YX⟩
theorem e5:tQ si an5 5 zQ:=fun _=>by kernel_rfl
def sj:tL:=(5,zQ)::si
theorem qA:tO sj:=Sj p9 e5
def wm:tA:=[(65,2,2,.loop { keep:=[1,4],kb:=[],pl:=[.slot 0 zf zJ,.slot 5 zf zJ],ex:=[(.exit 0,[])],pay:=.unit })]
def vT:Sg:=⟨[zI,zI],[zI],WC⟩
theorem e65:tQ sj wm 65 vT:=fun _=>by kernel_rfl
def sq:tL:=(65,vT)::sj
theorem qB:tO sq:=Sj qA e65
def ra:Sg:=⟨[(zt,T2)],[zI],WQ⟩
theorem yK:tQ sq [] 160 ra:=fun _=>by kernel_rfl
def ss:tL:=(160,ra)::sq
theorem qC:tO ss:=Sj qB yK
def uD:tA:=[(176,2,2,.loop { keep:=[0,1,4],kb:=[],pl:=[.slot 5 zf zJ],ex:=[(.exit 0,[])],pay:=.unit })]
def sE:Sg:=⟨[(zf,.str),(zf,.str)],[zI],XM⟩
theorem yY:tQ ss uD 176 sE:=fun _=>by kernel_rfl
def su:tL:=(176,sE)::ss
theorem qD:tO su:=Sj qC yY
def rf:Sg:=⟨[(zf,.str),(zf,.str)],[zI],Ww⟩
theorem yL:tQ su [] 161 rf:=fun _=>by kernel_rfl
def sv:tL:=(161,rf)::su
theorem qE:tO sv:=Sj qD yL
def tx:tA:=[(134,4,6,.loop { keep:=[0,7,8,6],kb:=[],pl:=[.slot 3 zf zJ,.slot 2 zf zJ,.slot 4 zf zJ],ex:=[(.ret,[]),(.exit 0,[])],pay:=.unit })]
def rH:Sg:=⟨[(zf,(.sl zt T2))],[zI,zI],Vt⟩
theorem xj:tQ sv tx 134 rH:=fun _=>by kernel_rfl
def sy:tL:=(134,rH)::sv
theorem qG:tO sy:=Sj qE xj
def qc:Sg:=⟨[(zt,T3)],[zI,zI],Xm⟩
theorem xD:tQ sy [] 104 qc:=fun _=>by kernel_rfl
def tB:tL:=(104,qc)::sy
theorem qH:tO tB:=Sj qG xD
def wj:tA:=[(64,9,21,.loop { keep:=[0,1,3,7,15,23,11,19,25,13,21,2,8,16,24,12,20,10,18,26,14,22],kb:=[0],pl:=[.slot 9 zf zJ,.slot 6 zf zJ],ex:=[(.ret,[]),(.exit 0,[])],pay:=.unit })]
def vS:Sg:=⟨[(zt,T3),zI,(zf,(.sl zf zJ))],[zI],Wo⟩
theorem e64:tQ tB wj 64 vS:=fun _=>by kernel_rfl
def tC:tL:=(64,vS)::tB
theorem qI:tO tC:=Sj qH e64
def wW:tA:=[(35,7,18,.loop { keep:=[0,1,15,11,19,17,13,21,16,12,20,10,18,14],kb:=[0],pl:=[.slot 3 zf zJ,.srow 5 zf zJ zf,.slot 2 zf zJ,.slot 4 zf zJ,.slot 6 zf zJ],ex:=[(.ret,[]),(.exit 0,[])],pay:=.unit }),(35,13,35,.loop { keep:=[0,1,7,15,31,23,11,19,35,17,33,25,13,21,37,29,16,32,24,12,20,36,6,10,18,34,26,14,22,30],kb:=[0],pl:=[.slot 3 zf zJ,.srow 5 zf zJ zf,.slot 2 zf zJ,.slot 4 zf zJ,.slot 8 zf zJ],ex:=[(.ret,[]),(.exit 2,[])],pay:=.unit })]
def uw:Sg:=⟨[(zt,T4)],[zI,zI,zI],VM⟩
theorem e35:tQ tC wW 35 uw:=fun _=>by kernel_rfl
def tD:tL:=(35,uw)::tC
theorem qK:tO tD:=Sj qI e35
def wo:tA:=[(66,6,16,.loop { keep:=[0,1,3,15,11,5,17,13,2,4,16,12,6,10,14],kb:=[0],pl:=[.srow 7 zt T3 zf,.slot 8 zf zJ],ex:=[(.exit 0,[])],pay:=.unit }),(66,9,31,.loop { keep:=[0,1,3,15,31,23,11,19,27,5,17,33,13,21,29,2,4,8,16,32,12,20,28,6,10,26,14,22,30],kb:=[0],pl:=[.srow 7 zt T3 zf,.slot 9 zf zJ],ex:=[(.exit 2,[])],pay:=.unit })]
def vU:Sg:=⟨[(zt,T4)],[(zf,(.sl zt T3)),zI],XQ⟩
theorem e66:tQ tD wo 66 vU:=fun _=>by kernel_rfl
def kh:tL:=(66,vU)::tD
theorem ki:tO kh:=Sj qK e66
def wX:tA:=[(36,4,11,.loop { keep:=[0,1,3,7,11,9,2,4,8,10],kb:=[0],pl:=[.slot 5 zf zJ,.slot 6 zf zJ],ex:=[(.exit 0,[])],pay:=.unit })]
def ux:Sg:=⟨[(zt,T4)],[zI],Vh⟩
theorem e36:tQ kh wX 36 ux:=fun _=>by kernel_rfl
def kj:tL:=(36,ux)::kh
theorem kl:tO kj:=Sj ki e36
def wY:tA:=[(37,3,4,.loop { keep:=[0,1,2],kb:=[0],pl:=[.srow 3 zf zJ zf,.slot 4 zf zJ],ex:=[(.exit 0,[])],pay:=.unit })]
def uy:Sg:=⟨[(zt,T4)],[(zf,(.sl zf zJ))],U0⟩
theorem e37:tQ kj wY 37 uy:=fun _=>by kernel_rfl
def km:tL:=(37,uy)::kj
theorem ko:tO km:=Sj kl e37
def qd:Sg:=⟨[(zt,T4),zI],[zI],Yx⟩
theorem xE:tQ km [] 105 qd:=fun _=>by kernel_rfl
def kq:tL:=(105,qd)::km
theorem kr:tO kq:=Sj ko xE
end Go.Proofs.YtiehjicadcamiaaGreat.Pt
