/- The evaluator comes to each of the plain functions. No condition. -/
import Derived.Test.YthpkjfabdccpdaaGreatPt8
set_option linter.all false
namespace Go.Proofs.YthpkjfabdccpdaaGreat.Pt
open Go Go.Proofs.YthpkjfabdccpdaaGreat.Sv Go.Proofs.YthpkjfabdccpdaaGreat.Pl
set_option maxRecDepth 1000000
set_option linter.unusedVariables false
theorem mS (x:AE [(true,Hu),(false,(.int .i64))]):Ab Tryz.prog (AB pu Ul) (AI []) 3000 60 158 [(true,Hu),(false,(.int .i64))] [(false,(.int .i64)),(false,(.int .i64))] x=Ge x:=by kernel_rfl
def Um:List (FuncId×Sg):=(158,⟨[(true,Hu),(false,(.int .i64))],[(false,(.int .i64)),(false,(.int .i64))],Ge⟩)::Ul
theorem XM:TabOK Tryz.prog (AB pu Um):=AD XL mS
def mT:List (Nat×Nat×Nat×An):=[(78,4,12,.loop { keep:=[0,1,3,11,5,13,2,4,12,10,14],kb:=[0],pl:=[.slot 7 false (.int .i64),.slot 6 false (.int .i64)],ex:=[(.exit 0,[])],pay:=.unit })]
theorem nH (x:AE [(true,Hu)]):Ab Tryz.prog (AB pu Um) (AI mT) 3000 60 78 [(true,Hu)] [(false,(.int .i64)),(false,(.int .i64))] x=Gf x:=by kernel_rfl
def Un:List (FuncId×Sg):=(78,⟨[(true,Hu)],[(false,(.int .i64)),(false,(.int .i64))],Gf⟩)::Um
theorem XN:TabOK Tryz.prog (AB pu Un):=AD XM nH
def mU:List (Nat×Nat×Nat×An):=[(79,6,15,.loop { keep:=[0,1,3,15,11,5,9,13,2,4,12,6,10,14],kb:=[0],pl:=[.slot 7 false (.int .i64),.slot 8 false (.int .i64)],ex:=[(.exit 0,[])],pay:=.unit })]
theorem nI (x:AE [(true,T4)]):Ab Tryz.prog (AB pu Un) (AI mU) 3000 60 79 [(true,T4)] [(false,(.int .i64)),(false,(.int .i64)),(false,(.int .i64))] x=DK x:=by kernel_rfl
def Uo:List (FuncId×Sg):=(79,⟨[(true,T4)],[(false,(.int .i64)),(false,(.int .i64)),(false,(.int .i64))],DK⟩)::Un
theorem XO:TabOK Tryz.prog (AB pu Uo):=AD XN nI
theorem nJ (x:AE [(true,Lz)]):Ab Tryz.prog (AB pu Uo) (AI []) 3000 60 18 [(true,Lz)] [(false,(.int .i64)),(false,(.int .i64)),(false,(.int .i64))] x=En x:=by kernel_rfl
def Uq:List (FuncId×Sg):=(18,⟨[(true,Lz)],[(false,(.int .i64)),(false,(.int .i64)),(false,(.int .i64))],En⟩)::Uo
theorem XP:TabOK Tryz.prog (AB pu Uq):=AD XO nJ
theorem nK (x:AE [(false,(.int .i64))]):Ab Tryz.prog (AB pu Uq) (AI []) 3000 60 81 [(false,(.int .i64))] [(false,.bool)] x=FB x:=by kernel_rfl
def Ur:List (FuncId×Sg):=(81,⟨[(false,(.int .i64))],[(false,.bool)],FB⟩)::Uq
theorem XQ:TabOK Tryz.prog (AB pu Ur):=AD XP nK
def jD:List (Nat×Nat×Nat×An):=[(164,2,2,.loop { keep:=[1,4],kb:=[],pl:=[.slot 0 false (.int .i64),.slot 5 false (.int .i64)],ex:=[(.exit 0,[])],pay:=.unit })]
theorem mV (x:AE [(false,(.int .i64)),(false,(.int .i64))]):Ab Tryz.prog (AB pu Ur) (AI jD) 3000 60 164 [(false,(.int .i64)),(false,(.int .i64))] [(false,(.int .i64))] x=CH x:=by kernel_rfl
def Us:List (FuncId×Sg):=(164,⟨[(false,(.int .i64)),(false,(.int .i64))],[(false,(.int .i64))],CH⟩)::Ur
theorem XR:TabOK Tryz.prog (AB pu Us):=AD XQ mV
def mW:List (Nat×Nat×Nat×An):=[(82,5,5,.loop { keep:=[0,1,7,4,8],kb:=[],pl:=[.slot 5 false (.int .i64),.slot 6 false (.int .i64)],ex:=[(.exit 0,[])],pay:=.unit })]
theorem nL (x:AE [(false,(.int .i64)),(false,(.int .i64))]):Ab Tryz.prog (AB pu Us) (AI mW) 3000 60 82 [(false,(.int .i64)),(false,(.int .i64))] [(false,(.int .i64))] x=Df x:=by kernel_rfl
def Ut:List (FuncId×Sg):=(82,⟨[(false,(.int .i64)),(false,(.int .i64))],[(false,(.int .i64))],Df⟩)::Us
theorem XS:TabOK Tryz.prog (AB pu Ut):=AD XR nL
def mX:List (Nat×Nat×Nat×An):=[(83,2,3,.loop { keep:=[0,1],kb:=[0],pl:=[.slot 3 false (.int .i64),.slot 2 false .bool],ex:=[(.exit 0,[]),(.ret,[])],pay:=.unit }),(83,6,10,.loop { keep:=[0,1,3,7,9,2,8,6,10],kb:=[0],pl:=[.slot 5 false (.int .i64),.slot 4 false (.int .i64)],ex:=[(.exit 2,[])],pay:=.unit })]
theorem nM (x:AE [(true,T4)]):Ab Tryz.prog (AB pu Ut) (AI mX) 3000 60 83 [(true,T4)] [(false,.bool)] x=D8 x:=by kernel_rfl
def Uu:List (FuncId×Sg):=(83,⟨[(true,T4)],[(false,.bool)],D8⟩)::Ut
theorem XT:TabOK Tryz.prog (AB pu Uu):=AD XS nM
def mY:List (Nat×Nat×Nat×An):=[(20,11,67,.loop { keep:=[0,1,7,63,47,23,39,55,11,19,35,67,51,27,43,59,5,9,17,33,65,49,25,41,57,13,21,37,53,29,45,61,2,4,8,16,32,64,48,24,40,56,12,20,36,68,52,28,44,60,6,10,18,34,66,50,26,42,58,22,38,54,30,46,62],kb:=[0,63,24],pl:=[.slot 15 false (.int .i64),.srow 14 false (.int .i64) false],ex:=[(.exit 0,[])],pay:=.unit })]
theorem nN (x:AE [(true,Lz),(false,(.int .i64))]):Ab Tryz.prog (AB pu Uu) (AI mY) 3000 60 20 [(true,Lz),(false,(.int .i64))] [(false,(.sl false (.int .i64))),(false,(.int .i64))] x=FC x:=by kernel_rfl
def dF:List (FuncId×Sg):=(20,⟨[(true,Lz),(false,(.int .i64))],[(false,(.sl false (.int .i64))),(false,(.int .i64))],FC⟩)::Uu
theorem XU:TabOK Tryz.prog (AB pu dF):=AD XT nN
theorem e3 (x:AE [(true,Lz),(false,(.int .i64))]):Ab Tryz.prog (AB pu dF) (AI []) 3000 60 3 [(true,Lz),(false,(.int .i64))] [(false,.bool)] x=C7 x:=by kernel_rfl
theorem Hr {x:AE [(true,Lz),(false,(.int .i64))]} (h:C7 x=some true) {ps:List Pi.PV} (ha:Hm [(true,Lz),(false,(.int .i64))] x ps) {M:Pi.Bu} {w:World} (hM : ∀ a v,M a=some v->a.spot=none/\w.cell? a=some v) {vs:List Value} (hr:Pi.RepL M Pi.mu0 ps vs) :
  Calls Tryz.prog 3 vs.toArray w λe w'=>e = .returned (.bool true)/\RowKit.Grown w w':=WR XU ((e3 x).trans h) ha hM hr
end Go.Proofs.YthpkjfabdccpdaaGreat.Pt
