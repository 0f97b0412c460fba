/- What the package-level variables hold that the law reads, and errors.As, errors.Is answered as a whole, by contracts. Conditions: the premises of each theorem. -/
import Derived.Test.YtoefnfbpoabinaaGreatDoorPg0
import Derived.Test.YtoefnfbpoabinaaGreatDoorPm0
set_option linter.all false
open Option renaming none->zn
open Bool renaming true->zt, false->zf
namespace Go.Proofs.YtoefnfbpoabinaaGreatDoor.Pu
open Go Sv Pl
open Pi (PV)
set_option maxRecDepth 1000000
instance glC:Pi.Gl:=Pi.Og Pi.wy 129 .cmp
def pu(g:Nat):Bool:=[2,3,4,5,6,7,8,9,10,11,12,13,14,15,16,17,18,19,20,21,22,23,24,25,26,27,28,29,30,32,33,38,39,40,41,42,43,44,45,46,47,49,50,53,55,56,57,58,59,60,62,64,65,66,67,68,69,70,71,72,73,74,75,76,77,78,79,80,81,82,83,85,86,87,88,89,90,91,92,93,95,97,98,100,101,102,103,104,105,106,107,108,109,110,113,114,115,116,117,126,127,128,129,130,131,132,133,134,135,136,137,138,139,144,145,146,147,148,149,150,151,154,155,156,160,161,162,164,168,169,170,171,172,173,174,175,176,177,187,188,189,190,191,193,194,195,196,197,198,199,200,203,204,205,206,209,210,211,212,213,215,216,217,218,226,227,228,229,230,231,232,233,234,235,236,237,238,239,240,241,242,243,244,246,247,248,249,250,251,252,253,254,255,256,257,258,259,260,261,262,264,267,269,305,306,307,315].any (Nat.beq g)||Nat.ble 1048576 g
@[reducible] def T0:Ty:=.pair .bool (.int .i64)
@[reducible] def T1:Ty:=.pair .str T0
@[reducible] def T2:Ty:=.pair .str T1
def iF:List (FuncId×Sg):=[]
theorem eU:TabOK Tryz.prog (Af pu iF):=UB _ _
theorem ur(x:AO [(zf,.str)]):ND Tryz.prog (Af pu iF) (R3 []) 3000 60 151 [(zf,.str)] [(zf,(.int .i64))] x=W0 x:=by kernel_rfl
def iG:List (FuncId×Sg):=(151,⟨[(zf,.str)],[(zf,(.int .i64))],W0⟩)::iF
theorem eV:TabOK Tryz.prog (Af pu iG):=Tb eU ur
theorem uo(x:AO [(zt,T2)]):ND Tryz.prog (Af pu iG) (R3 []) 3000 60 109 [(zt,T2)] [(zf,(.int .i64))] x=Vl x:=by kernel_rfl
def ig:List (FuncId×Sg):=(109,⟨[(zt,T2)],[(zf,(.int .i64))],Vl⟩)::iG
theorem eW:TabOK Tryz.prog (Af pu ig):=Tb eV uo
def AAB:List (Nat×Nat×Nat×An):=[(86,2,4,.loop { keep:=[0,7,6],kb:=[],pl:=[.slot 2 zf (.int .i64),.slot 8 zf (.int .i64)],ex:=[(.ret,[]),(.exit 0,[])],pay:=.unit })]
theorem e86(x:AO [(zf,(.sl zt T2))]):ND Tryz.prog (Af pu ig) (R3 AAB) 3000 60 86 [(zf,(.sl zt T2))] [(zf,(.int .i64))] x=Xj x:=by kernel_rfl
def ii:List (FuncId×Sg):=(86,⟨[(zf,(.sl zt T2))],[(zf,(.int .i64))],Xj⟩)::ig
theorem eX:TabOK Tryz.prog (Af pu ii):=Tb eW e86
theorem AAP(x:AO [(zf,.str),(zf,.str)]):ND Tryz.prog (Af pu ii) (R3 []) 3000 60 129 [(zf,.str),(zf,.str)] [(zf,(.int .i64))] x=XJ x:=by kernel_rfl
def ij:List (FuncId×Sg):=(129,⟨[(zf,.str),(zf,.str)],[(zf,(.int .i64))],XJ⟩)::ii
theorem eY:TabOK Tryz.prog (Af pu ij):=Tb eX AAP
theorem AAj(x:AO [(zf,(.int .i64))]):ND Tryz.prog (Af pu ij) (R3 []) 3000 60 169 [(zf,(.int .i64))] [(zf,.bool)] x=Wc x:=by kernel_rfl
def ik:List (FuncId×Sg):=(169,⟨[(zf,(.int .i64))],[(zf,.bool)],Wc⟩)::ij
theorem eZ:TabOK Tryz.prog (Af pu ik):=Tb eY AAj
theorem AAQ(x:AO [(zf,(.int .i64)),(zf,(.int .i64))]):ND Tryz.prog (Af pu ik) (R3 []) 3000 60 130 [(zf,(.int .i64)),(zf,(.int .i64))] [(zf,(.int .i64))] x=WJ x:=by kernel_rfl
def il:List (FuncId×Sg):=(130,⟨[(zf,(.int .i64)),(zf,(.int .i64))],[(zf,(.int .i64))],WJ⟩)::ik
theorem ec:TabOK Tryz.prog (Af pu il):=Tb eZ AAQ
def kj:List (Nat×Nat×Nat×An):=[(128,3,5,.loop { keep:=[0,3,7,6],kb:=[],pl:=[.slot 2 zf (.int .i64),.slot 8 zf (.int .i64)],ex:=[(.ret,[]),(.exit 0,[])],pay:=.unit })]
theorem uq(x:AO [(zf,(.sl zf (.int .i64)))]):ND Tryz.prog (Af pu il) (R3 kj) 3000 60 128 [(zf,(.sl zf (.int .i64)))] [(zf,(.int .i64))] x=WL x:=by kernel_rfl
def im:List (FuncId×Sg):=(128,⟨[(zf,(.sl zf (.int .i64)))],[(zf,(.int .i64))],WL⟩)::il
theorem eh:TabOK Tryz.prog (Af pu im):=Tb ec uq
theorem e87(x:AO [(zt,.unit),(zt,T2),(zt,T2)]):ND Tryz.prog (Af pu im) (R3 []) 3000 60 87 [(zt,.unit),(zt,T2),(zt,T2)] [(zf,(.int .i64))] x=Wy x:=by kernel_rfl
def io:List (FuncId×Sg):=(87,⟨[(zt,.unit),(zt,T2),(zt,T2)],[(zf,(.int .i64))],Wy⟩)::im
theorem ei:TabOK Tryz.prog (Af pu io):=Tb eh e87
theorem e56(x:AO [(zt,T2),(zt,T2)]):ND Tryz.prog (Af pu io) (R3 []) 3000 60 56 [(zt,T2),(zt,T2)] [(zf,(.int .i64)),(zf,(.int .i64))] x=XH x:=by kernel_rfl
def kZ:List (FuncId×Sg):=(56,⟨[(zt,T2),(zt,T2)],[(zf,(.int .i64)),(zf,(.int .i64))],XH⟩)::io
theorem ej:TabOK Tryz.prog (Af pu kZ):=Tb ei e56
theorem e55(x:AO [(zt,T2),(zt,T2)]):ND Tryz.prog (Af pu kZ) (R3 []) 3000 60 55 [(zt,T2),(zt,T2)] [(zf,(.int .i64))] x=YO x:=by kernel_rfl
theorem calls3{x y:IB}(f:Ur x=zt)(g:Ur y=zt)(w:World):Calls Tryz.prog 55 #[.agg (Pi.W4 (.pair .str (.pair .str (.pair .bool (.int .i64)))) x).toArray,.agg (Pi.W4 (.pair .str (.pair .str (.pair .bool (.int .i64)))) y).toArray] w λe w'=>e=.returned (.int .i64 (rC x y))/\Pi.WStays w w':=by
 have h:=Pk (Pi.ky Gv.cmp_ok) ej ((e55 (x,y)).trans (ka f g)) (j:=[.agg (Pi.NV (.pair .str (.pair .str (.pair .bool (.int .i64)))) x),.agg (Pi.NV (.pair .str (.pair .str (.pair .bool (.int .i64)))) y)]) ⟨_,_,rfl,⟨_,rfl,_,_,rfl,rfl,_,_,rfl,rfl,_,_,rfl,rfl,rfl⟩,⟨_,rfl,⟨_,rfl,_,_,rfl,rfl,_,_,rfl,rfl,_,_,rfl,rfl,rfl⟩⟩⟩ (M:=λ_=>zn) (Su (λ_=>rfl) _) (w:=w) (λa v e=>by cases e) (.cons (Pi.i4 _ _) (.cons (Pi.i4 _ _) (.nil _ _)));refine h.mono λe w' ⟨⟨v,r,i,μ',j,b,c,k⟩,d⟩=>⟨?_,d⟩
 have:r=.int .i64 (rC x y):=by
  have:[r]=[PV.int .i64 (rC x y)]:=k;simpa using this
 subst this;cases c;exact b
end Go.Proofs.YtoefnfbpoabinaaGreatDoor.Pu
