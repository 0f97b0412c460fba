/- The evaluator comes to each of the plain functions. No condition. -/
import Derived.Test.YthpkjfabdccpdaaGreatPl4
import Derived.Test.YthpkjfabdccpdaaGreatProg
set_option linter.all false
namespace Go.Proofs.YthpkjfabdccpdaaGreat.Pt
open Go Go.Proofs.YthpkjfabdccpdaaGreat.Sv Go.Proofs.YthpkjfabdccpdaaGreat.Pl
set_option maxRecDepth 1000000
set_option linter.unusedVariables false
def pu (g:Nat):Bool:=[2,3,4,5,6,7,8,9,10,11,12,13,14,15,16,17,18,19,20,21,22,23,24,25,26,27,28,29,30,31,32,33,34,35,36,37,38,39,40,41,43,44,45,46,47,48,49,50,51,52,53,54,55,56,57,58,59,60,61,62,63,64,65,66,67,68,69,70,71,72,73,74,75,78,79,81,82,83,84,85,86,87,88,89,90,91,92,93,94,95,96,98,99,100,101,102,103,104,105,106,107,108,109,110,111,112,113,114,115,116,117,118,119,120,121,122,124,125,126,127,128,129,132,135,136,138,140,142,143,144,147,148,149,151,153,154,155,156,157,158,164,165,166,167,168,169,171,172,173,174,175,176,177,180,181,182,183,184,185,186,187,188,189,190,191,192,193,194,195,196,197,198,200,201,202,203,204,205,206,207,208,209,213,214,215,220,222,223,224,225,226,227,228,229,230,231,232,233,234,235,236,237,239,240,241,242,243,244,245,246,248,249,250,251,254,255,257,258,259,260,268,269,270,271,272,273,274,275,276,278,279,280,281,282,283,284,285,287,289,307,308,309].any (Nat.beq g)||Nat.ble 1048576 g
@[reducible] def zJ:Ty:=.int .i64
@[reducible] def zI:Bool×Ty:=(false,zJ)
@[reducible] def T0:Ty:=.pair .bool zJ
@[reducible] def T1:Ty:=.pair .str T0
@[reducible] def T2:Ty:=.pair .str T1
@[reducible] def T3:Ty:=.pair zJ (.sl true T2)
@[reducible] def T4:Ty:=.pair zJ (.sl true (.sl true T3))
@[reducible] def T5:Ty:=.pair .str .bool
@[reducible] def T6:Ty:=.pair (.sl false zJ) zJ
@[reducible] def T7:Ty:=.pair (.sl true T5) T6
@[reducible] def T8:Ty:=.pair (.sl false zJ) T7
@[reducible] def T9:Ty:=.pair (.sl false (.sl true T2)) T8
@[reducible] def Ps:Ty:=.pair .bool T5
@[reducible] def rT:Ty:=.pair (.sl true T2) zJ
@[reducible] def rU:Ty:=.pair Ps rT
@[reducible] def Ii:Ty:=.pair T9 rU
@[reducible] def Pv:Ty:=.pair zJ Ii
@[reducible] def rV:Ty:=.pair (.sl true Pv) zJ
@[reducible] def K7:Ty:=.pair T4 rV
@[reducible] def GC:Ty:=.pair T3 K7
@[reducible] def nr:Ty:=.pair (.sl true T5) .unit
def kz:List (FuncId×Sg):=[]
theorem ja:TabOK Tryz.prog (AD pu kz):=i8 _ _
def ns:List (Nat×Nat×Nat×An):=[(35,2,2,.loop { keep:=[0],kb:=[],pl:=[.slot 3 false zJ,.slot 2 false .bool],ex:=[(.ret,[]),(.exit 0,[])],pay:=.unit })]
theorem rZ (x:AG [(false,(.sl true T2))]):Ab Tryz.prog (AD pu kz) (AJ ns) 3000 60 35 [(false,(.sl true T2))] [(false,.bool)] x=Db x:=by kernel_rfl
def lA:List (FuncId×Sg):=(35,⟨[(false,(.sl true T2))],[(false,.bool)],Db⟩)::kz
theorem jc:TabOK Tryz.prog (AD pu lA):=AF ja rZ
def nu:List (Nat×Nat×Nat×An):=[(84,2,2,.loop { keep:=[0],kb:=[],pl:=[.slot 3 false zJ,.slot 2 false .bool],ex:=[(.ret,[]),(.exit 0,[])],pay:=.unit })]
theorem ra (x:AG [(false,(.sl true T2))]):Ab Tryz.prog (AD pu lA) (AJ nu) 3000 60 84 [(false,(.sl true T2))] [(false,.bool)] x=Cr x:=by kernel_rfl
def lB:List (FuncId×Sg):=(84,⟨[(false,(.sl true T2))],[(false,.bool)],Cr⟩)::lA
theorem jd:TabOK Tryz.prog (AD pu lB):=AF jc ra
def mA:List (Nat×Nat×Nat×An):=[(165,2,2,.loop { keep:=[0],kb:=[],pl:=[.slot 3 false zJ,.slot 2 false .bool],ex:=[(.ret,[]),(.exit 0,[])],pay:=.unit })]
theorem nv (x:AG [(false,(.sl true T3))]):Ab Tryz.prog (AD pu lB) (AJ mA) 3000 60 165 [(false,(.sl true T3))] [(false,.bool)] x=C4 x:=by kernel_rfl
def lC:List (FuncId×Sg):=(165,⟨[(false,(.sl true T3))],[(false,.bool)],C4⟩)::lB
theorem je:TabOK Tryz.prog (AD pu lC):=AF jd nv
def ny:List (Nat×Nat×Nat×An):=[(85,2,3,.loop { keep:=[0,1],kb:=[0],pl:=[.slot 3 false zJ,.slot 2 false .bool],ex:=[(.ret,[]),(.exit 0,[])],pay:=.unit })]
theorem rf (x:AG [(true,T4)]):Ab Tryz.prog (AD pu lC) (AJ ny) 3000 60 85 [(true,T4)] [(false,.bool)] x=Gj x:=by kernel_rfl
def lD:List (FuncId×Sg):=(85,⟨[(true,T4)],[(false,.bool)],Gj⟩)::lC
theorem jf:TabOK Tryz.prog (AD pu lD):=AF je rf
def nz:List (Nat×Nat×Nat×An):=[(22,2,3,.loop { keep:=[0,1],kb:=[0],pl:=[.slot 3 false zJ,.slot 2 false .bool],ex:=[(.exit 0,[]),(.ret,[])],pay:=.unit }),(22,6,21,.loop { keep:=[0,1,3,7,11,19,9,17,13,21,4,8,12,20,6,10,18,14,22],kb:=[0,18],pl:=[.slot 5 false zJ,.slot 2 false .bool],ex:=[(.ret,[]),(.exit 2,[])],pay:=.unit })]
theorem ri (x:AG [(true,K7)]):Ab Tryz.prog (AD pu lD) (AJ nz) 3000 60 22 [(true,K7)] [(false,.bool)] x=Gk x:=by kernel_rfl
def lE:List (FuncId×Sg):=(22,⟨[(true,K7)],[(false,.bool)],Gk⟩)::lD
theorem jg:TabOK Tryz.prog (AD pu lE):=AF jf ri
theorem rm (x:AG [(true,GC)]):Ab Tryz.prog (AD pu lE) (AJ []) 3000 60 45 [(true,GC)] [(false,.bool)] x=Gp x:=by kernel_rfl
def lF:List (FuncId×Sg):=(45,⟨[(true,GC)],[(false,.bool)],Gp⟩)::lE
theorem jh:TabOK Tryz.prog (AD pu lF):=AF jg rm
theorem oA (x:AG [zI]):Ab Tryz.prog (AD pu lF) (AJ []) 3000 60 125 [zI] [(true,T3),zI] x=Jd x:=by kernel_rfl
def lG:List (FuncId×Sg):=(125,⟨[zI],[(true,T3),zI],Jd⟩)::lF
theorem ji:TabOK Tryz.prog (AD pu lG):=AF jh oA
theorem oB (x:AG [zI]):Ab Tryz.prog (AD pu lG) (AJ []) 3000 60 200 [zI] [(true,T4),zI] x=Je x:=by kernel_rfl
def lH:List (FuncId×Sg):=(200,⟨[zI],[(true,T4),zI],Je⟩)::lG
theorem jj:TabOK Tryz.prog (AD pu lH):=AF ji oB
theorem oC (x:AG [zI]):Ab Tryz.prog (AD pu lH) (AJ []) 3000 60 126 [zI] [(true,K7),zI] x=Lx x:=by kernel_rfl
def lI:List (FuncId×Sg):=(126,⟨[zI],[(true,K7),zI],Lx⟩)::lH
theorem jk:TabOK Tryz.prog (AD pu lI):=AF jj oC
theorem rn (x:AG [zI]):Ab Tryz.prog (AD pu lI) (AJ []) 3000 60 47 [zI] [(true,GC),zI] x=H8 x:=by kernel_rfl
def cj:List (FuncId×Sg):=(47,⟨[zI],[(true,GC),zI],H8⟩)::lI
theorem ck:TabOK Tryz.prog (AD pu cj):=AF jk rn
theorem oD (x:AG [(false,.str)]):Ab Tryz.prog (AD pu cj) (AJ []) 3000 60 235 [(false,.str)] [zI] x=FJ x:=by kernel_rfl
def cm:List (FuncId×Sg):=(235,⟨[(false,.str)],[zI],FJ⟩)::cj
theorem cp:TabOK Tryz.prog (AD pu cm):=AF ck oD
theorem oE (x:AG [(true,T2)]):Ab Tryz.prog (AD pu cm) (AJ []) 3000 60 204 [(true,T2)] [zI] x=Aw x:=by kernel_rfl
def cq:List (FuncId×Sg):=(204,⟨[(true,T2)],[zI],Aw⟩)::cm
theorem cr:TabOK Tryz.prog (AD pu cq):=AF cp oE
def mB:List (Nat×Nat×Nat×An):=[(202,6,23,.loop { keep:=[0,1,7,15,23,11,19,9,17,25,13,21,8,16,24,12,20,10,18,14,22],kb:=[0],pl:=[.slot 3 false zJ,.slot 2 false zJ,.slot 26 false zJ],ex:=[(.ret,[]),(.exit 1,[])],pay:=.unit })]
theorem oF (x:AG [(true,T3)]):Ab Tryz.prog (AD pu cq) (AJ mB) 3000 60 202 [(true,T3)] [zI,zI] x=BU x:=by kernel_rfl
def cu:List (FuncId×Sg):=(202,⟨[(true,T3)],[zI,zI],BU⟩)::cq
theorem cv:TabOK Tryz.prog (AD pu cu):=AF cr oF
end Go.Proofs.YthpkjfabdccpdaaGreat.Pt
