/- What the package-level variables hold that the law reads, and errors.As, errors.Is answered as a whole, by contracts. Conditions: the premises of each theorem. -/
import Derived.Test.YtoefnfbpoabinabGreatDoorPg0
import Derived.Test.YtoefnfbpoabinabGreatDoorPm0
set_option linter.all false
open Option renaming none->zn
open Bool renaming true->zt, false->zf
namespace Go.Proofs.YtoefnfbpoabinabGreatDoor.Pu
open Go Sv Pl
open Pi (PV)
set_option maxRecDepth 1000000
instance glC:Pi.Gl:=Pi.Og Pi.zY 118 .cmp
def pu(g:Nat):Bool:=[2,3,4,5,6,7,8,9,10,11,12,13,14,15,16,17,18,19,20,21,22,23,28,29,30,31,33,34,35,36,37,38,39,40,42,43,46,48,49,50,51,52,53,54,55,56,57,58,59,60,61,62,64,66,67,68,69,70,71,72,74,75,76,77,79,80,81,83,84,85,86,87,88,89,90,91,92,93,94,96,97,98,99,102,103,104,105,106,115,116,117,118,119,124,125,126,127,128,129,130,131,132,133,134,135,136,137,138,139,142,143,144,148,149,150,152,156,157,167,168,169,170,171,172,174,175,176,177,178,179,180,181,184,185,188,189,190,191,192,193,194,196,197,198,199,207,208,209,210,211,212,213,214,215,216,217,218,220,221,222,223,224,225,226,227,228,229,230,231,232,237,273,274,275,283].any (Nat.beq g)||Nat.ble 1048576 g
@[reducible] def T0:Ty:=.pair .bool (.int .i64)
@[reducible] def T1:Ty:=.pair .str T0
@[reducible] def T2:Ty:=.pair .str T1
def j0:List (FuncId×Sg):=[]
theorem gW:TabOK Tryz.prog (Af pu j0):=UB _ _
theorem w7(x:AO [(zf,.str)]):ND Tryz.prog (Af pu j0) (R3 []) 3000 60 139 [(zf,.str)] [(zf,(.int .i64))] x=XT x:=by kernel_rfl
def j7:List (FuncId×Sg):=(139,⟨[(zf,.str)],[(zf,(.int .i64))],XT⟩)::j0
theorem gX:TabOK Tryz.prog (Af pu j7):=Tb gW w7
theorem e98(x:AO [(zt,T2)]):ND Tryz.prog (Af pu j7) (R3 []) 3000 60 98 [(zt,T2)] [(zf,(.int .i64))] x=Vx x:=by kernel_rfl
def kS:List (FuncId×Sg):=(98,⟨[(zt,T2)],[(zf,(.int .i64))],Vx⟩)::j7
theorem gY:TabOK Tryz.prog (Af pu kS):=Tb gX e98
def AB7:List (Nat×Nat×Nat×An):=[(75,2,4,.loop { keep:=[0,7,6],kb:=[],pl:=[.slot 2 zf (.int .i64),.slot 8 zf (.int .i64)],ex:=[(.ret,[]),(.exit 0,[])],pay:=.unit })]
theorem e75(x:AO [(zf,(.sl zt T2))]):ND Tryz.prog (Af pu kS) (R3 AB7) 3000 60 75 [(zf,(.sl zt T2))] [(zf,(.int .i64))] x=YK x:=by kernel_rfl
def kT:List (FuncId×Sg):=(75,⟨[(zf,(.sl zt T2))],[(zf,(.int .i64))],YK⟩)::kS
theorem gZ:TabOK Tryz.prog (Af pu kT):=Tb gY e75
theorem ACJ(x:AO [(zf,.str),(zf,.str)]):ND Tryz.prog (Af pu kT) (R3 []) 3000 60 118 [(zf,.str),(zf,.str)] [(zf,(.int .i64))] x=Xl x:=by kernel_rfl
def kU:List (FuncId×Sg):=(118,⟨[(zf,.str),(zf,.str)],[(zf,(.int .i64))],Xl⟩)::kT
theorem ga:TabOK Tryz.prog (Af pu kU):=Tb gZ ACJ
theorem ACX(x:AO [(zf,(.int .i64))]):ND Tryz.prog (Af pu kU) (R3 []) 3000 60 157 [(zf,(.int .i64))] [(zf,.bool)] x=W1 x:=by kernel_rfl
def kV:List (FuncId×Sg):=(157,⟨[(zf,(.int .i64))],[(zf,.bool)],W1⟩)::kU
theorem gb:TabOK Tryz.prog (Af pu kV):=Tb ga ACX
theorem ACK(x:AO [(zf,(.int .i64)),(zf,(.int .i64))]):ND Tryz.prog (Af pu kV) (R3 []) 3000 60 119 [(zf,(.int .i64)),(zf,(.int .i64))] [(zf,(.int .i64))] x=Wc x:=by kernel_rfl
def kW:List (FuncId×Sg):=(119,⟨[(zf,(.int .i64)),(zf,(.int .i64))],[(zf,(.int .i64))],Wc⟩)::kV
theorem gf:TabOK Tryz.prog (Af pu kW):=Tb gb ACK
def nC:List (Nat×Nat×Nat×An):=[(117,3,5,.loop { keep:=[0,3,7,6],kb:=[],pl:=[.slot 2 zf (.int .i64),.slot 8 zf (.int .i64)],ex:=[(.ret,[]),(.exit 0,[])],pay:=.unit })]
theorem w6(x:AO [(zf,(.sl zf (.int .i64)))]):ND Tryz.prog (Af pu kW) (R3 nC) 3000 60 117 [(zf,(.sl zf (.int .i64)))] [(zf,(.int .i64))] x=We x:=by kernel_rfl
def kX:List (FuncId×Sg):=(117,⟨[(zf,(.sl zf (.int .i64)))],[(zf,(.int .i64))],We⟩)::kW
theorem gh:TabOK Tryz.prog (Af pu kX):=Tb gf w6
theorem e76(x:AO [(zt,.unit),(zt,T2),(zt,T2)]):ND Tryz.prog (Af pu kX) (R3 []) 3000 60 76 [(zt,.unit),(zt,T2),(zt,T2)] [(zf,(.int .i64))] x=XS x:=by kernel_rfl
def kY:List (FuncId×Sg):=(76,⟨[(zt,.unit),(zt,T2),(zt,T2)],[(zf,(.int .i64))],XS⟩)::kX
theorem gi:TabOK Tryz.prog (Af pu kY):=Tb gh e76
theorem e49(x:AO [(zt,T2),(zt,T2)]):ND Tryz.prog (Af pu kY) (R3 []) 3000 60 49 [(zt,T2),(zt,T2)] [(zf,(.int .i64)),(zf,(.int .i64))] x=Xj x:=by kernel_rfl
def mz:List (FuncId×Sg):=(49,⟨[(zt,T2),(zt,T2)],[(zf,(.int .i64)),(zf,(.int .i64))],Xj⟩)::kY
theorem gj:TabOK Tryz.prog (Af pu mz):=Tb gi e49
theorem e48(x:AO [(zt,T2),(zt,T2)]):ND Tryz.prog (Af pu mz) (R3 []) 3000 60 48 [(zt,T2),(zt,T2)] [(zf,(.int .i64))] x=Y6 x:=by kernel_rfl
theorem calls3{x y:IB}(f:Ur x=zt)(g:Ur y=zt)(w:World):Calls Tryz.prog 48 #[.agg (Pi.XX (.pair .str (.pair .str (.pair .bool (.int .i64)))) x).toArray,.agg (Pi.XX (.pair .str (.pair .str (.pair .bool (.int .i64)))) y).toArray] w λe w'=>e=.returned (.int .i64 (uL x y))/\Pi.WStays w w':=by
 have h:=Pk (Pi.nL Gv.cmp_ok) gj ((e48 (x,y)).trans (m6 f g)) (j:=[.agg (Pi.NV (.pair .str (.pair .str (.pair .bool (.int .i64)))) x),.agg (Pi.NV (.pair .str (.pair .str (.pair .bool (.int .i64)))) y)]) ⟨_,_,rfl,⟨_,rfl,_,_,rfl,rfl,_,_,rfl,rfl,_,_,rfl,rfl,rfl⟩,⟨_,rfl,⟨_,rfl,_,_,rfl,rfl,_,_,rfl,rfl,_,_,rfl,rfl,rfl⟩⟩⟩ (M:=λ_=>zn) (Su (λ_=>rfl) _) (w:=w) (λa v e=>by cases e) (.cons (Pi.kj _ _) (.cons (Pi.kj _ _) (.nil _ _)));refine h.mono λe w' ⟨⟨v,r,i,μ',j,b,c,k⟩,d⟩=>⟨?_,d⟩
 have:r=.int .i64 (uL x y):=by
  have:[r]=[PV.int .i64 (uL x y)]:=k;simpa using this
 subst this;cases c;exact b
end Go.Proofs.YtoefnfbpoabinabGreatDoor.Pu
