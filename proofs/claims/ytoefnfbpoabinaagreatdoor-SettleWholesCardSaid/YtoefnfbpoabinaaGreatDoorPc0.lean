/- What the package-level variables hold that the law reads, and errors.As, errors.Is answered as a whole, by contracts. Conditions: the premises of each theorem. -/
import Derived.Test.YtoefnfbpoabinaaGreatDoorPg0
import Derived.Test.YtoefnfbpoabinaaGreatDoorPl5
set_option linter.all false
open Option renaming none->zn
open Bool renaming true->zt, false->zf
namespace Go.Proofs.YtoefnfbpoabinaaGreatDoor.Pu
open Go Sv Pl
open Pi (PV)
set_option maxRecDepth 1000000
instance glC:Pi.Gl:=Pi.Lm Pi.UR 129 .cmp
def pu(g:Nat):Bool:=[2,3,4,5,6,7,8,9,10,11,12,13,14,15,16,17,18,19,20,21,22,23,24,25,26,27,28,29,30,32,33,38,39,40,41,42,43,44,45,46,47,49,50,53,55,56,57,58,59,60,62,64,65,66,67,68,69,70,71,72,73,74,75,76,77,78,79,80,81,82,83,85,86,87,88,89,90,91,92,93,95,97,98,100,101,102,103,104,105,106,107,108,109,110,113,114,115,116,117,126,127,128,129,130,131,132,133,134,135,136,137,138,139,144,145,146,147,148,149,150,151,154,155,156,160,161,162,164,168,169,170,171,172,173,174,175,176,177,187,188,189,190,191,193,194,195,196,197,198,199,200,203,204,205,206,209,210,211,212,213,215,216,217,218,226,227,228,229,230,231,232,233,234,235,236,237,238,239,240,241,242,243,244,246,247,248,249,250,251,252,253,254,255,256,257,258,259,260,261,262,264,267,269,305,306,307,315].any (Nat.beq g)||Nat.ble 1048576 g
@[reducible] def T0:Ty:=.pair .bool (.int .i64)
@[reducible] def T1:Ty:=.pair .str T0
@[reducible] def T2:Ty:=.pair .str T1
def iU:List (FuncId×Sg):=[]
theorem fE:TabOK Tryz.prog (Af pu iU):=Uc _ _
theorem ut(x:AO [(zf,.str)]):NV Tryz.prog (Af pu iU) (SO []) 3000 60 151 [(zf,.str)] [(zf,(.int .i64))] x=XP x:=by kernel_rfl
def iV:List (FuncId×Sg):=(151,⟨[(zf,.str)],[(zf,(.int .i64))],XP⟩)::iU
theorem fF:TabOK Tryz.prog (Af pu iV):=UE fE ut
theorem ur(x:AO [(zt,T2)]):NV Tryz.prog (Af pu iV) (SO []) 3000 60 109 [(zt,T2)] [(zf,(.int .i64))] x=WA x:=by kernel_rfl
def i4:List (FuncId×Sg):=(109,⟨[(zt,T2)],[(zf,(.int .i64))],WA⟩)::iV
theorem fG:TabOK Tryz.prog (Af pu i4):=UE fF ur
def AAC:List (Nat×Nat×Nat×An):=[(86,2,4,.loop { keep:=[0,7,6],kb:=[],pl:=[.slot 2 zf (.int .i64),.slot 8 zf (.int .i64)],ex:=[(.ret,[]),(.exit 0,[])],pay:=.unit })]
theorem e86(x:AO [(zf,(.sl zt T2))]):NV Tryz.prog (Af pu i4) (SO AAC) 3000 60 86 [(zf,(.sl zt T2))] [(zf,(.int .i64))] x=X8 x:=by kernel_rfl
def i5:List (FuncId×Sg):=(86,⟨[(zf,(.sl zt T2))],[(zf,(.int .i64))],X8⟩)::i4
theorem fH:TabOK Tryz.prog (Af pu i5):=UE fG e86
theorem AAQ(x:AO [(zf,.str),(zf,.str)]):NV Tryz.prog (Af pu i5) (SO []) 3000 60 129 [(zf,.str),(zf,.str)] [(zf,(.int .i64))] x=Xg x:=by kernel_rfl
def i6:List (FuncId×Sg):=(129,⟨[(zf,.str),(zf,.str)],[(zf,(.int .i64))],Xg⟩)::i5
theorem fI:TabOK Tryz.prog (Af pu i6):=UE fH AAQ
theorem AAk(x:AO [(zf,(.int .i64))]):NV Tryz.prog (Af pu i6) (SO []) 3000 60 169 [(zf,(.int .i64))] [(zf,.bool)] x=W1 x:=by kernel_rfl
def i7:List (FuncId×Sg):=(169,⟨[(zf,(.int .i64))],[(zf,.bool)],W1⟩)::i6
theorem fJ:TabOK Tryz.prog (Af pu i7):=UE fI AAk
theorem AAR(x:AO [(zf,(.int .i64)),(zf,(.int .i64))]):NV Tryz.prog (Af pu i7) (SO []) 3000 60 130 [(zf,(.int .i64)),(zf,(.int .i64))] [(zf,(.int .i64))] x=Wi x:=by kernel_rfl
def i8:List (FuncId×Sg):=(130,⟨[(zf,(.int .i64)),(zf,(.int .i64))],[(zf,(.int .i64))],Wi⟩)::i7
theorem fK:TabOK Tryz.prog (Af pu i8):=UE fJ AAR
def kz:List (Nat×Nat×Nat×An):=[(128,3,5,.loop { keep:=[0,3,7,6],kb:=[],pl:=[.slot 2 zf (.int .i64),.slot 8 zf (.int .i64)],ex:=[(.ret,[]),(.exit 0,[])],pay:=.unit })]
theorem us(x:AO [(zf,(.sl zf (.int .i64)))]):NV Tryz.prog (Af pu i8) (SO kz) 3000 60 128 [(zf,(.sl zf (.int .i64)))] [(zf,(.int .i64))] x=Wk x:=by kernel_rfl
def i9:List (FuncId×Sg):=(128,⟨[(zf,(.sl zf (.int .i64)))],[(zf,(.int .i64))],Wk⟩)::i8
theorem fL:TabOK Tryz.prog (Af pu i9):=UE fK us
theorem e87(x:AO [(zt,.unit),(zt,T2),(zt,T2)]):NV Tryz.prog (Af pu i9) (SO []) 3000 60 87 [(zt,.unit),(zt,T2),(zt,T2)] [(zf,(.int .i64))] x=XN x:=by kernel_rfl
def jA:List (FuncId×Sg):=(87,⟨[(zt,.unit),(zt,T2),(zt,T2)],[(zf,(.int .i64))],XN⟩)::i9
theorem fM:TabOK Tryz.prog (Af pu jA):=UE fL e87
theorem e56(x:AO [(zt,T2),(zt,T2)]):NV Tryz.prog (Af pu jA) (SO []) 3000 60 56 [(zt,T2),(zt,T2)] [(zf,(.int .i64)),(zf,(.int .i64))] x=Xe x:=by kernel_rfl
def ko:List (FuncId×Sg):=(56,⟨[(zt,T2),(zt,T2)],[(zf,(.int .i64)),(zf,(.int .i64))],Xe⟩)::jA
theorem fN:TabOK Tryz.prog (Af pu ko):=UE fM e56
theorem e55(x:AO [(zt,T2),(zt,T2)]):NV Tryz.prog (Af pu ko) (SO []) 3000 60 55 [(zt,T2),(zt,T2)] [(zf,(.int .i64))] x=Yk x:=by kernel_rfl
theorem calls3{x y:IL}(f:VG x=zt)(g:VG y=zt)(w:World):Calls Tryz.prog 55 #[.agg (Pi.Bs (.pair .str (.pair .str (.pair .bool (.int .i64)))) x).toArray,.agg (Pi.Bs (.pair .str (.pair .str (.pair .bool (.int .i64)))) y).toArray] w λe w'=>e=.returned (.int .i64 (rJ x y))/\Pi.WStays w w':=by
 have h:=P1 (Pi.Tc Gv.cmp_ok) fN ((e55 (x,y)).trans (kq f g)) («as»:=[.agg (Pi.DN (.pair .str (.pair .str (.pair .bool (.int .i64)))) x),.agg (Pi.DN (.pair .str (.pair .str (.pair .bool (.int .i64)))) y)]) ⟨_,_,rfl,⟨_,rfl,_,_,rfl,rfl,_,_,rfl,rfl,_,_,rfl,rfl,rfl⟩,⟨_,rfl,⟨_,rfl,_,_,rfl,rfl,_,_,rfl,rfl,_,_,rfl,rfl,rfl⟩⟩⟩ (M:=λ_=>zn) (TL (λ_=>rfl) _) (w:=w) (λa v e=>by cases e) (.cons (Pi.UK _ _) (.cons (Pi.UK _ _) (.nil _ _)));refine h.mono λe w' ⟨⟨v,r,i,μ',j,b,c,k⟩,d⟩=>⟨?_,d⟩
 have:r=.int .i64 (rJ x y):=by
  have:[r]=[PV.int .i64 (rJ x y)]:=k;simpa using this
 subst this;cases c;exact b
end Go.Proofs.YtoefnfbpoabinaaGreatDoor.Pu
