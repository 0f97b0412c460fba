/- The evaluator comes to each of the plain functions. No condition. -/
import Derived.Test.YthpkjfabdccpdaaGreatPt8
set_option linter.all false
namespace Go.Proofs.YthpkjfabdccpdaaGreat.Pt
open Go Go.Proofs.YthpkjfabdccpdaaGreat.Sv Go.Proofs.YthpkjfabdccpdaaGreat.Pl
set_option maxRecDepth 1000000
set_option linter.unusedVariables false
theorem pI (x:AG [(false,(.sl false (.sl true T2))),(false,.bool)]):Ab Tryz.prog (AC pu VW) (AI []) 3000 60 190 [(false,(.sl false (.sl true T2))),(false,.bool)] [(true,IR),(false,(.int .i64)),(false,(.int .i64))] x=FM x:=by kernel_rfl
def VX:List (FuncId×Sg):=(190,⟨[(false,(.sl false (.sl true T2))),(false,.bool)],[(true,IR),(false,(.int .i64)),(false,(.int .i64))],FM⟩)::VW
theorem YZ:TabOK Tryz.prog (AC pu VX):=AE YY pI
theorem pJ (x:AG [(true,T4),(false,(.int .i64)),(false,.bool)]):Ab Tryz.prog (AC pu VX) (AI []) 3000 60 116 [(true,T4),(false,(.int .i64)),(false,.bool)] [(true,Rp)] x=BH x:=by kernel_rfl
def VY:List (FuncId×Sg):=(116,⟨[(true,T4),(false,(.int .i64)),(false,.bool)],[(true,Rp)],BH⟩)::VX
theorem Ya:TabOK Tryz.prog (AC pu VY):=AE YZ pJ
def lW:List (Nat×Nat×Nat×An):=[(229,3,3,.loop { keep:=[0,1,4],kb:=[],pl:=[.slot 5 false (.int .i64),.slot 6 false (.int .i64)],ex:=[(.exit 0,[])],pay:=.unit })]
theorem pK (x:AG [(false,(.sl false (.sl true T2))),(false,(.sl false (.int .i64)))]):Ab Tryz.prog (AC pu VY) (AI lW) 3000 60 229 [(false,(.sl false (.sl true T2))),(false,(.sl false (.int .i64)))] [(false,(.int .i64))] x=DT x:=by kernel_rfl
def VZ:List (FuncId×Sg):=(229,⟨[(false,(.sl false (.sl true T2))),(false,(.sl false (.int .i64)))],[(false,(.int .i64))],DT⟩)::VY
theorem Yb:TabOK Tryz.prog (AC pu VZ):=AE Ya pK
def lX:List (Nat×Nat×Nat×An):=[(228,7,21,.loop { keep:=[0,1,15,23,11,27,5,17,25,13,21,4,16,24,12,18,26,14,22],kb:=[0],pl:=[.slot 3 false (.int .i64),.slot 2 false (.int .i64),.slot 6 false (.int .i64)],ex:=[(.ret,[]),(.exit 0,[])],pay:=.unit }),(228,15,38,.loop { keep:=[0,1,7,15,63,23,11,67,27,59,5,17,65,25,57,13,21,69,61,4,16,64,24,56,12,68,60,6,18,66,26,58,14,22,70,62],kb:=[0],pl:=[.slot 3 false (.int .i64),.slot 2 false (.int .i64),.slot 8 false (.int .i64)],ex:=[(.ret,[]),(.exit 2,[])],pay:=.unit })]
theorem pL (x:AG [(true,T9)]):Ab Tryz.prog (AC pu VZ) (AI lX) 3000 60 228 [(true,T9)] [(false,(.int .i64)),(false,(.int .i64))] x=DU x:=by kernel_rfl
def Va:List (FuncId×Sg):=(228,⟨[(true,T9)],[(false,(.int .i64)),(false,(.int .i64))],DU⟩)::VZ
theorem Yc:TabOK Tryz.prog (AC pu Va):=AE Yb pL
def lY:List (Nat×Nat×Nat×An):=[(193,3,4,.loop { keep:=[0,1,2],kb:=[0],pl:=[.slot 3 false (.int .i64),.slot 4 false (.int .i64)],ex:=[(.exit 0,[])],pay:=.unit })]
theorem pM (x:AG [(true,IR)]):Ab Tryz.prog (AC pu Va) (AI lY) 3000 60 193 [(true,IR)] [(false,(.int .i64))] x=D4 x:=by kernel_rfl
def Vb:List (FuncId×Sg):=(193,⟨[(true,IR)],[(false,(.int .i64))],D4⟩)::Va
theorem Yd:TabOK Tryz.prog (AC pu Vb):=AE Yc pM
def lZ:List (Nat×Nat×Nat×An):=[(195,7,18,.loop { keep:=[0,15,11,19,5,17,13,16,12,20,6,14],kb:=[],pl:=[.srow 3 false (.int .i64) false,.srow 7 true T2 false,.srow 2 true T2 false,.slot 4 false (.int .i64),.srow 8 false (.int .i64) false,.srow 9 false (.int .i64) true],ex:=[(.ret,[])],pay:=.unit,plx:=[.srow 3 false (.int .i64) false,.srow 2 true T2 false,.slot 4 false (.int .i64)] })]
theorem pN (x:AG [(false,(.sl false (.sl true T2)))]):Ab Tryz.prog (AC pu Vb) (AI lZ) 3000 60 195 [(false,(.sl false (.sl true T2)))] [(false,(.sl true T2)),(false,(.sl false (.int .i64))),(false,(.int .i64))] x=Eo x:=by kernel_rfl
def Vc:List (FuncId×Sg):=(195,⟨[(false,(.sl false (.sl true T2)))],[(false,(.sl true T2)),(false,(.sl false (.int .i64))),(false,(.int .i64))],Eo⟩)::Vb
theorem Ye:TabOK Tryz.prog (AC pu Vc):=AE Yd pN
theorem pO (x:AG [(true,PJ)]):Ab Tryz.prog (AC pu Vc) (AI []) 3000 60 271 [(true,PJ)] [(false,(.int .i64))] x=FN x:=by kernel_rfl
def Vd:List (FuncId×Sg):=(271,⟨[(true,PJ)],[(false,(.int .i64))],FN⟩)::Vc
theorem Yf:TabOK Tryz.prog (AC pu Vd):=AE Ye pO
theorem pP (x:AG [(true,PJ),(true,T2)]):Ab Tryz.prog (AC pu Vd) (AI []) 3000 60 251 [(true,PJ),(true,T2)] [(false,.bool),(true,PJ),(false,(.int .i64))] x=GH x:=by kernel_rfl
def Ve:List (FuncId×Sg):=(251,⟨[(true,PJ),(true,T2)],[(false,.bool),(true,PJ),(false,(.int .i64))],GH⟩)::Vd
theorem Yg:TabOK Tryz.prog (AC pu Ve):=AE Yf pP
def ld:List (Nat×Nat×Nat×An):=[(232,6,12,.loop { keep:=[0,1,7,15,17,13,16,14],kb:=[],pl:=[.slot 5 false (.int .i64),.slot 9 false (.int .i64),.srow 4 true T2 false,.srow 8 true T2 false,.slot 6 false (.int .i64),.box 8 [.lf .bool,.lf .str,.lf .bool]],ex:=[(.ret,[]),(.exit 0,[])],pay:=.unit })]
theorem pQ (x:AG [(false,(.sl true T2)),(false,.bool)]):Ab Tryz.prog (AC pu Ve) (AI ld) 3000 60 232 [(false,(.sl true T2)),(false,.bool)] [(false,(.sl true T2)),(false,(.int .i64)),(false,(.int .i64))] x=Ep x:=by kernel_rfl
def Vf:List (FuncId×Sg):=(232,⟨[(false,(.sl true T2)),(false,.bool)],[(false,(.sl true T2)),(false,(.int .i64)),(false,(.int .i64))],Ep⟩)::Ve
theorem Yh:TabOK Tryz.prog (AC pu Vf):=AE Yg pQ
theorem pR (x:AG [(false,(.sl true T2)),(false,.bool)]):Ab Tryz.prog (AC pu Vf) (AI []) 3000 60 196 [(false,(.sl true T2)),(false,.bool)] [(false,(.sl true T2)),(true,PJ)] x=C4 x:=by kernel_rfl
def Vg:List (FuncId×Sg):=(196,⟨[(false,(.sl true T2)),(false,.bool)],[(false,(.sl true T2)),(true,PJ)],C4⟩)::Vf
theorem Yi:TabOK Tryz.prog (AC pu Vg):=AE Yh pR
theorem pT (x:AG [(true,IR)]):Ab Tryz.prog (AC pu Vg) (AI []) 3000 60 191 [(true,IR)] [(false,(.int .i64))] x=FO x:=by kernel_rfl
def Vh:List (FuncId×Sg):=(191,⟨[(true,IR)],[(false,(.int .i64))],FO⟩)::Vg
theorem Yj:TabOK Tryz.prog (AC pu Vh):=AE Yi pT
def lg:List (Nat×Nat×Nat×An):=[(192,6,14,.loop { keep:=[0,1,3,11,5,9,13,2,4,8,12,10,14],kb:=[0],pl:=[.slot 7 false (.int .i64),.slot 6 false (.int .i64)],ex:=[(.exit 0,[])],pay:=.unit })]
theorem pU (x:AG [(true,T9)]):Ab Tryz.prog (AC pu Vh) (AI lg) 3000 60 192 [(true,T9)] [(false,(.int .i64)),(false,(.int .i64))] x=GI x:=by kernel_rfl
def Vi:List (FuncId×Sg):=(192,⟨[(true,T9)],[(false,(.int .i64)),(false,(.int .i64))],GI⟩)::Vh
theorem Yk:TabOK Tryz.prog (AC pu Vi):=AE Yj pU
theorem pV (x:AG [(true,IR)]):Ab Tryz.prog (AC pu Vi) (AI []) 3000 60 117 [(true,IR)] [(false,(.int .i64)),(false,(.int .i64))] x=BE x:=by kernel_rfl
def Vj:List (FuncId×Sg):=(117,⟨[(true,IR)],[(false,(.int .i64)),(false,(.int .i64))],BE⟩)::Vi
theorem Yl:TabOK Tryz.prog (AC pu Vj):=AE Yk pV
theorem pW (x:AG [(true,T9)]):Ab Tryz.prog (AC pu Vj) (AI []) 3000 60 194 [(true,T9)] [(true,T2),(false,(.int .i64)),(true,T9),(false,(.int .i64))] x=D5 x:=by kernel_rfl
def Vk:List (FuncId×Sg):=(194,⟨[(true,T9)],[(true,T2),(false,(.int .i64)),(true,T9),(false,(.int .i64))],D5⟩)::Vj
theorem Ym:TabOK Tryz.prog (AC pu Vk):=AE Yl pW
end Go.Proofs.YthpkjfabdccpdaaGreat.Pt
