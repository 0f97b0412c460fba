/- The evaluator comes to each of the plain functions. No condition. -/
import Derived.Test.YtfilfloanndddaaGreatPl3
import Derived.Test.YtfilfloanndddaaGreatProg
set_option linter.all false
namespace Go.Proofs.YtfilfloanndddaaGreat.Pt
open Go Go.Proofs.YtfilfloanndddaaGreat.Sv Go.Proofs.YtfilfloanndddaaGreat.Pl
set_option maxRecDepth 1000000
set_option linter.unusedVariables false
instance glN:Pi.Gl:=⟨λ_=>none,λ_=>none⟩
def pu (g:Nat):Bool:=[2,3,4,5,6,7,8,9,10,11,12,13,14,15,16,17,18,19,20,21,22,23,24,25,26,27,28,29,30,31,32,33,34,35,36,37,38,39,40,41,42,43,44,47,48,49,50,51,53,55,56,57,58,59,60,61,62,63,64,65,66,67,68,69,70,71,73,74,75,76,77,78,79,80,81,87,89,90,91,92,93,94,95,96,97,98,102,103,105,106,108,109,110,111,112,113,114,115,116,117,118,119,120,121,122,123,124,126,127,128,129,130,131,134,135,136,137,138,139,140,141,142,143,144,145,146,147,149,150,151,152,153,154,155,156,157,158,159,160,161,162,163,164,165,166,169,170,171,174,176,177,179,180,182,183,184,185,186,187,188,191,192,193,194,195,196,197,200,201,202,203,204,205,206,208,209,210,211,219,220,221,222,223,224,225,226,228,229,230,231,232,233,234,235,238,256,257,258].any (Nat.beq g)||Nat.ble 1048576 g
@[reducible] def zJ:Ty:=.int .i64
@[reducible] def zI:Bool×Ty:=(false,zJ)
@[reducible] def T0:Ty:=.pair .bool zJ
@[reducible] def T1:Ty:=.pair .str T0
@[reducible] def T2:Ty:=.pair .str T1
@[reducible] def T3:Ty:=.pair zJ (.sl true T2)
@[reducible] def T4:Ty:=.pair zJ (.sl true (.sl true T3))
@[reducible] def T5:Ty:=.pair .str .bool
@[reducible] def T6:Ty:=.pair (.sl false zJ) zJ
@[reducible] def T7:Ty:=.pair (.sl true T5) T6
@[reducible] def T8:Ty:=.pair (.sl false zJ) T7
@[reducible] def T9:Ty:=.pair (.sl false (.sl true T2)) T8
@[reducible] def dR:Ty:=.pair .bool T5
@[reducible] def pn:Ty:=.pair (.sl true T2) zJ
@[reducible] def po:Ty:=.pair dR pn
@[reducible] def Z1:Ty:=.pair T9 po
@[reducible] def Yh:Ty:=.pair zJ Z1
@[reducible] def pq:Ty:=.pair (.sl true Yh) zJ
@[reducible] def WR:Ty:=.pair T4 pq
@[reducible] def m7:Ty:=.pair (.sl true T5) .unit
@[reducible] def pw:Ty:=.pair Yh zJ
@[reducible] def ck:Ty:=.pair WR pw
@[reducible] def m8:Ty:=.pair zJ .bool
@[reducible] def px:Ty:=.pair zJ zJ
@[reducible] def py:Ty:=.pair zJ px
@[reducible] def pz:Ty:=.pair zJ py
@[reducible] def p8:Ty:=.pair zJ pz
@[reducible] def p9:Ty:=.pair zJ p8
@[reducible] def qA:Ty:=.pair zJ p9
@[reducible] def qB:Ty:=.pair zJ qA
@[reducible] def qC:Ty:=.pair zJ qB
@[reducible] def qD:Ty:=.pair zJ qC
@[reducible] def qE:Ty:=.pair zJ qD
@[reducible] def qF:Ty:=.pair zJ qE
@[reducible] def qG:Ty:=.pair zJ qF
@[reducible] def qH:Ty:=.pair zJ qG
@[reducible] def pZ:Ty:=.pair zJ qH
def ld:List (FuncId×Sg):=[]
theorem ks:TabOK Tryz.prog (Ad pu ld):=SG _ _
def m9:List (Nat×Nat×Nat×An):=[(12,3,4,.loop { keep:=[0,1],kb:=[0],pl:=[.slot 3 false zJ,.slot 2 false .bool,.slot 4 false zJ],ex:=[(.exit 0,[]),(.ret,[])],pay:=.unit }),(12,6,15,.loop { keep:=[0,1,15,19,17,13,21,4,16,12,20,18,14],kb:=[0],pl:=[.slot 3 false zJ,.slot 5 false zJ,.slot 2 false .bool],ex:=[(.exit 2,[]),(.ret,[])],pay:=.unit }),(12,11,47,.loop { keep:=[0,1,3,15,31,47,19,35,51,27,43,5,17,33,49,25,41,13,21,37,53,29,45,4,16,32,48,24,40,12,20,36,52,28,44,6,18,34,50,26,42,14,54,30,46],kb:=[0],pl:=[.slot 7 false zJ,.slot 2 false .bool],ex:=[(.ret,[]),(.exit 4,[])],pay:=.unit }),(12,18,5,.loop { keep:=[0,1,3,4],kb:=[0],pl:=[.slot 2 false .bool,.slot 8 false zJ],ex:=[(.ret,[]),(.exit 6,[])],pay:=.unit }),(12,25,55,.loop { keep:=[0,1,3,127,95,111,135,103,119,131,115,107,91,123,9,129,97,113,137,105,121,133,101,117,109,93,125,2,4,8,128,96,112,136,104,120,132,116,108,92,124,130,98,114,106,90,122,134,102,118,110,94,126],kb:=[0,20],pl:=[.slot 11 false zJ,.slot 10 false zJ],ex:=[(.exit 8,[])],pay:=.unit })]
theorem qI (x:AP [(true,WR)]):OE Tryz.prog (Ad pu ld) (Qq m9) 3000 60 12 [(true,WR)] [(false,.bool)] x=WO x:=by kernel_rfl
def lg:List (FuncId×Sg):=(12,⟨[(true,WR)],[(false,.bool)],WO⟩)::ld
theorem ku:TabOK Tryz.prog (Ad pu lg):=R1 ks qI
def mB:List (Nat×Nat×Nat×An):=[(109,2,2,.loop { keep:=[1,4],kb:=[],pl:=[.slot 0 false zJ,.slot 5 false zJ],ex:=[(.exit 0,[])],pay:=.unit })]
theorem nQ (x:AP [zI,zI]):OE Tryz.prog (Ad pu lg) (Qq mB) 3000 60 109 [zI,zI] [zI] x=VB x:=by kernel_rfl
def lh:List (FuncId×Sg):=(109,⟨[zI,zI],[zI],VB⟩)::lg
theorem kw:TabOK Tryz.prog (Ad pu lh):=R1 ku nQ
theorem nT (x:AP [(true,T2)]):OE Tryz.prog (Ad pu lh) (Qq []) 3000 60 122 [(true,T2)] [zI] x=VI x:=by kernel_rfl
def lj:List (FuncId×Sg):=(122,⟨[(true,T2)],[zI],VI⟩)::lh
theorem ky:TabOK Tryz.prog (Ad pu lj):=R1 kw nT
def md:List (Nat×Nat×Nat×An):=[(220,2,2,.loop { keep:=[0,1,4],kb:=[],pl:=[.slot 5 false zJ],ex:=[(.exit 0,[])],pay:=.unit })]
theorem oz (x:AP [(false,.str),(false,.str)]):OE Tryz.prog (Ad pu lj) (Qq md) 3000 60 220 [(false,.str),(false,.str)] [zI] x=Vq x:=by kernel_rfl
def lm:List (FuncId×Sg):=(220,⟨[(false,.str),(false,.str)],[zI],Vq⟩)::lj
theorem kz:TabOK Tryz.prog (Ad pu lm):=R1 ky oz
theorem oc (x:AP [(false,.str),(false,.str)]):OE Tryz.prog (Ad pu lm) (Qq []) 3000 60 201 [(false,.str),(false,.str)] [zI] x=Ve x:=by kernel_rfl
def lq:List (FuncId×Sg):=(201,⟨[(false,.str),(false,.str)],[zI],Ve⟩)::lm
theorem lA:TabOK Tryz.prog (Ad pu lq):=R1 kz oc
def mR:List (Nat×Nat×Nat×An):=[(185,4,6,.loop { keep:=[0,7,8,6],kb:=[],pl:=[.slot 3 false zJ,.slot 2 false zJ,.slot 4 false zJ],ex:=[(.ret,[]),(.exit 0,[])],pay:=.unit })]
theorem oQ (x:AP [(false,(.sl true T2))]):OE Tryz.prog (Ad pu lq) (Qq mR) 3000 60 185 [(false,(.sl true T2))] [zI,zI] x=Uq x:=by kernel_rfl
def lr:List (FuncId×Sg):=(185,⟨[(false,(.sl true T2))],[zI,zI],Uq⟩)::lq
theorem lB:TabOK Tryz.prog (Ad pu lr):=R1 lA oQ
theorem nr (x:AP [(true,T3)]):OE Tryz.prog (Ad pu lr) (Qq []) 3000 60 150 [(true,T3)] [zI,zI] x=WA x:=by kernel_rfl
def lu:List (FuncId×Sg):=(150,⟨[(true,T3)],[zI,zI],WA⟩)::lr
theorem lC:TabOK Tryz.prog (Ad pu lu):=R1 lB nr
def mA:List (Nat×Nat×Nat×An):=[(108,9,21,.loop { keep:=[0,1,3,7,15,23,11,19,25,13,21,2,8,16,24,12,20,10,18,26,14,22],kb:=[0],pl:=[.slot 9 false zJ,.slot 6 false zJ],ex:=[(.ret,[]),(.exit 0,[])],pay:=.unit })]
theorem nO (x:AP [(true,T3),zI,(false,(.sl false zJ))]):OE Tryz.prog (Ad pu lu) (Qq mA) 3000 60 108 [(true,T3),zI,(false,(.sl false zJ))] [zI] x=VW x:=by kernel_rfl
def lw:List (FuncId×Sg):=(108,⟨[(true,T3),zI,(false,(.sl false zJ))],[zI],VW⟩)::lu
theorem lD:TabOK Tryz.prog (Ad pu lw):=R1 lC nO
def nH:List (Nat×Nat×Nat×An):=[(64,7,18,.loop { keep:=[0,1,15,11,19,17,13,21,16,12,20,10,18,14],kb:=[0],pl:=[.slot 3 false zJ,.srow 5 false zJ false,.slot 2 false zJ,.slot 4 false zJ,.slot 6 false zJ],ex:=[(.ret,[]),(.exit 0,[])],pay:=.unit }),(64,13,35,.loop { keep:=[0,1,7,15,31,23,11,19,35,17,33,25,13,21,37,29,16,32,24,12,20,36,6,10,18,34,26,14,22,30],kb:=[0],pl:=[.slot 3 false zJ,.srow 5 false zJ false,.slot 2 false zJ,.slot 4 false zJ,.slot 8 false zJ],ex:=[(.ret,[]),(.exit 2,[])],pay:=.unit })]
theorem qU (x:AP [(true,T4)]):OE Tryz.prog (Ad pu lw) (Qq nH) 3000 60 64 [(true,T4)] [zI,zI,zI] x=Uf x:=by kernel_rfl
def lx:List (FuncId×Sg):=(64,⟨[(true,T4)],[zI,zI,zI],Uf⟩)::lw
theorem lE:TabOK Tryz.prog (Ad pu lx):=R1 lD qU
def nG:List (Nat×Nat×Nat×An):=[(62,6,16,.loop { keep:=[0,1,3,15,11,5,17,13,2,4,16,12,6,10,14],kb:=[0],pl:=[.srow 7 true T3 false,.slot 8 false zJ],ex:=[(.exit 0,[])],pay:=.unit }),(62,9,31,.loop { keep:=[0,1,3,15,31,23,11,19,27,5,17,33,13,21,29,2,4,8,16,32,12,20,28,6,10,26,14,22,30],kb:=[0],pl:=[.srow 7 true T3 false,.slot 9 false zJ],ex:=[(.exit 2,[])],pay:=.unit })]
theorem qT (x:AP [(true,T4)]):OE Tryz.prog (Ad pu lx) (Qq nG) 3000 60 62 [(true,T4)] [(false,(.sl true T3)),zI] x=Vs x:=by kernel_rfl
def fY:List (FuncId×Sg):=(62,⟨[(true,T4)],[(false,(.sl true T3)),zI],Vs⟩)::lx
theorem fa:TabOK Tryz.prog (Ad pu fY):=R1 lE qT
def nI:List (Nat×Nat×Nat×An):=[(65,4,11,.loop { keep:=[0,1,3,7,11,9,2,4,8,10],kb:=[0],pl:=[.slot 5 false zJ,.slot 6 false zJ],ex:=[(.exit 0,[])],pay:=.unit })]
theorem qV (x:AP [(true,T4)]):OE Tryz.prog (Ad pu fY) (Qq nI) 3000 60 65 [(true,T4)] [zI] x=UZ x:=by kernel_rfl
def fb:List (FuncId×Sg):=(65,⟨[(true,T4)],[zI],UZ⟩)::fY
theorem fc:TabOK Tryz.prog (Ad pu fb):=R1 fa qV
def nJ:List (Nat×Nat×Nat×An):=[(66,3,4,.loop { keep:=[0,1,2],kb:=[0],pl:=[.srow 3 false zJ false,.slot 4 false zJ],ex:=[(.exit 0,[])],pay:=.unit })]
theorem qW (x:AP [(true,T4)]):OE Tryz.prog (Ad pu fb) (Qq nJ) 3000 60 66 [(true,T4)] [(false,(.sl false zJ))] x=UD x:=by kernel_rfl
def fe:List (FuncId×Sg):=(66,⟨[(true,T4)],[(false,(.sl false zJ))],UD⟩)::fb
theorem ff:TabOK Tryz.prog (Ad pu fe):=R1 fc qW
theorem nu (x:AP [(true,T4),zI]):OE Tryz.prog (Ad pu fe) (Qq []) 3000 60 151 [(true,T4),zI] [zI] x=XF x:=by kernel_rfl
def fh:List (FuncId×Sg):=(151,⟨[(true,T4),zI],[zI],XF⟩)::fe
theorem fi:TabOK Tryz.prog (Ad pu fh):=R1 ff nu
end Go.Proofs.YtfilfloanndddaaGreat.Pt
