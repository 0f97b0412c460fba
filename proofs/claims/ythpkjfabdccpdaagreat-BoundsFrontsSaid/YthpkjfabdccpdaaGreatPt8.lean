/- The evaluator comes to each of the plain functions. No condition. -/
import Derived.Test.YthpkjfabdccpdaaGreatPt7
set_option linter.all false
namespace Go.Proofs.YthpkjfabdccpdaaGreat.Pt
open Go Go.Proofs.YthpkjfabdccpdaaGreat.Sv Go.Proofs.YthpkjfabdccpdaaGreat.Pl
set_option maxRecDepth 1000000
set_option linter.unusedVariables false
theorem mE (x:AE [(false,(.sl true T2)),(false,.bool)]):Ab Tryz.prog (AB pu UX) (AI []) 3000 60 196 [(false,(.sl true T2)),(false,.bool)] [(false,(.sl true T2)),(true,Og)] x=Cn x:=by kernel_rfl
def UY:List (FuncId×Sg):=(196,⟨[(false,(.sl true T2)),(false,.bool)],[(false,(.sl true T2)),(true,Og)],Cn⟩)::UX
theorem W8:TabOK Tryz.prog (AB pu UY):=AD W7 mE
def i9:List (Nat×Nat×Nat×An):=[(198,4,7,.loop { keep:=[0,1,7,9,8,6,10],kb:=[],pl:=[.slot 5 false (.int .i64),.slot 4 false .bool],ex:=[(.ret,[]),(.exit 0,[])],pay:=.unit })]
theorem mF (x:AE [(false,(.sl true T2)),(false,(.sl true T2))]):Ab Tryz.prog (AB pu UY) (AI i9) 3000 60 198 [(false,(.sl true T2)),(false,(.sl true T2))] [(false,.bool)] x=Bh x:=by kernel_rfl
def UZ:List (FuncId×Sg):=(198,⟨[(false,(.sl true T2)),(false,(.sl true T2))],[(false,.bool)],Bh⟩)::UY
theorem W9:TabOK Tryz.prog (AB pu UZ):=AD W8 mF
theorem mG (x:AE [(true,Ht)]):Ab Tryz.prog (AB pu UZ) (AI []) 3000 60 191 [(true,Ht)] [(false,(.int .i64))] x=E6 x:=by kernel_rfl
def Ua:List (FuncId×Sg):=(191,⟨[(true,Ht)],[(false,(.int .i64))],E6⟩)::UZ
theorem XA:TabOK Tryz.prog (AB pu Ua):=AD W9 mG
def jA:List (Nat×Nat×Nat×An):=[(192,6,14,.loop { keep:=[0,1,3,11,5,9,13,2,4,8,12,10,14],kb:=[0],pl:=[.slot 7 false (.int .i64),.slot 6 false (.int .i64)],ex:=[(.exit 0,[])],pay:=.unit })]
theorem mH (x:AE [(true,T9)]):Ab Tryz.prog (AB pu Ua) (AI jA) 3000 60 192 [(true,T9)] [(false,(.int .i64)),(false,(.int .i64))] x=Fv x:=by kernel_rfl
def Ub:List (FuncId×Sg):=(192,⟨[(true,T9)],[(false,(.int .i64)),(false,(.int .i64))],Fv⟩)::Ua
theorem XB:TabOK Tryz.prog (AB pu Ub):=AD XA mH
theorem mI (x:AE [(true,Ht)]):Ab Tryz.prog (AB pu Ub) (AI []) 3000 60 117 [(true,Ht)] [(false,(.int .i64)),(false,(.int .i64))] x=A6 x:=by kernel_rfl
def Uc:List (FuncId×Sg):=(117,⟨[(true,Ht)],[(false,(.int .i64)),(false,(.int .i64))],A6⟩)::Ub
theorem XC:TabOK Tryz.prog (AB pu Uc):=AD XB mI
theorem mJ (x:AE [(true,T9)]):Ab Tryz.prog (AB pu Uc) (AI []) 3000 60 194 [(true,T9)] [(true,T2),(false,(.int .i64)),(true,T9),(false,(.int .i64))] x=Dr x:=by kernel_rfl
def Ud:List (FuncId×Sg):=(194,⟨[(true,T9)],[(true,T2),(false,(.int .i64)),(true,T9),(false,(.int .i64))],Dr⟩)::Uc
theorem XD:TabOK Tryz.prog (AB pu Ud):=AD XC mJ
def jB:List (Nat×Nat×Nat×An):=[(118,11,32,.loop { keep:=[0,1,7,15,31,23,39,19,35,27,5,9,17,33,25,21,37,2,4,8,16,32,24,20,36,6,10,18,34,26,22,30],kb:=[0,1],pl:=[.slot 11 false (.int .i64),.box 29 [.lf (.sl false (.sl true T2)),.lf (.sl false (.int .i64)),.lf (.sl true T5),.lf (.sl false (.int .i64)),.lf (.int .i64),.lf .bool,.lf .str,.lf .bool,.lf (.sl true T2),.lf (.int .i64)]],ex:=[(.exit 0,[])],pay:=.unit })]
theorem mK (x:AE [(true,Ht),(false,(.int .i64))]):Ab Tryz.prog (AB pu Ud) (AI jB) 3000 60 118 [(true,Ht),(false,(.int .i64))] [(true,Ht),(false,(.int .i64)),(false,(.int .i64))] x=BK x:=by kernel_rfl
def Ue:List (FuncId×Sg):=(118,⟨[(true,Ht),(false,(.int .i64))],[(true,Ht),(false,(.int .i64)),(false,(.int .i64))],BK⟩)::Ud
theorem XE:TabOK Tryz.prog (AB pu Ue):=AD XD mK
def jC:List (Nat×Nat×Nat×An):=[(197,4,27,.loop { keep:=[0,1,3,7,15,23,11,19,27,9,17,25,13,21,2,8,16,24,12,20,28,6,10,18,26,14,22],kb:=[0,1],pl:=[.slot 5 false (.int .i64),.slot 4 false .bool],ex:=[(.ret,[]),(.exit 0,[])],pay:=.unit })]
theorem mL (x:AE [(true,T9),(true,T9)]):Ab Tryz.prog (AB pu Ue) (AI jC) 3000 60 197 [(true,T9),(true,T9)] [(false,.bool)] x=Fw x:=by kernel_rfl
def Uf:List (FuncId×Sg):=(197,⟨[(true,T9),(true,T9)],[(false,.bool)],Fw⟩)::Ue
theorem XF:TabOK Tryz.prog (AB pu Uf):=AD XE mL
theorem mM (x:AE [(true,Ht),(true,Ht)]):Ab Tryz.prog (AB pu Uf) (AI []) 3000 60 119 [(true,Ht),(true,Ht)] [(false,.bool)] x=BL x:=by kernel_rfl
def Ug:List (FuncId×Sg):=(119,⟨[(true,Ht),(true,Ht)],[(false,.bool)],BL⟩)::Uf
theorem XG:TabOK Tryz.prog (AB pu Ug):=AD XF mM
def mN:List (Nat×Nat×Nat×An):=[(38,10,42,.loop { keep:=[0,1,7,31,23,39,19,35,27,43,5,17,33,49,25,41,21,37,29,45,4,16,32,48,24,40,20,36,28,44,6,18,34,50,26,42,22,38,30,46],kb:=[0],pl:=[.slot 3 false (.int .i64),.slot 2 false (.int .i64),.slot 8 false (.int .i64)],ex:=[(.ret,[]),(.exit 0,[])],pay:=.unit })]
theorem nE (x:AE [(true,Hu)]):Ab Tryz.prog (AB pu Ug) (AI mN) 3000 60 38 [(true,Hu)] [(false,(.int .i64)),(false,(.int .i64))] x=DH x:=by kernel_rfl
def Uh:List (FuncId×Sg):=(38,⟨[(true,Hu)],[(false,(.int .i64)),(false,(.int .i64))],DH⟩)::Ug
theorem XH:TabOK Tryz.prog (AB pu Uh):=AD XG nE
theorem nF (x:AE [(true,Lz)]):Ab Tryz.prog (AB pu Uh) (AI []) 3000 60 51 [(true,Lz)] [(false,(.int .i64))] x=FA x:=by kernel_rfl
def Ui:List (FuncId×Sg):=(51,⟨[(true,Lz)],[(false,(.int .i64))],FA⟩)::Uh
theorem XI:TabOK Tryz.prog (AB pu Ui):=AD XH nF
theorem mO (x:AE [(true,Hu)]):Ab Tryz.prog (AB pu Ui) (AI []) 3000 60 106 [(true,Hu)] [(false,(.sl false (.int .i64))),(false,(.int .i64))] x=Cy x:=by kernel_rfl
def Uj:List (FuncId×Sg):=(106,⟨[(true,Hu)],[(false,(.sl false (.int .i64))),(false,(.int .i64))],Cy⟩)::Ui
theorem XJ:TabOK Tryz.prog (AB pu Uj):=AD XI mO
def mQ:List (Nat×Nat×Nat×An):=[(95,5,13,.loop { keep:=[0,1,7,15,11,9,13,2,12,6,10,14],kb:=[0],pl:=[.slot 5 false (.int .i64),.slot 4 false (.int .i64),.slot 8 false (.int .i64)],ex:=[(.ret,[]),(.exit 0,[])],pay:=.unit })]
theorem nG (x:AE [(true,Hu),(false,(.int .i64))]):Ab Tryz.prog (AB pu Uj) (AI mQ) 3000 60 95 [(true,Hu),(false,(.int .i64))] [(false,(.int .i64)),(false,(.int .i64))] x=Fx x:=by kernel_rfl
def Uk:List (FuncId×Sg):=(95,⟨[(true,Hu),(false,(.int .i64))],[(false,(.int .i64)),(false,(.int .i64))],Fx⟩)::Uj
theorem XK:TabOK Tryz.prog (AB pu Uk):=AD XJ nG
theorem mR (x:AE [(true,Hu),(false,(.int .i64))]):Ab Tryz.prog (AB pu Uk) (AI []) 3000 60 101 [(true,Hu),(false,(.int .i64))] [(false,(.int .i64)),(false,(.int .i64))] x=Fy x:=by kernel_rfl
def Ul:List (FuncId×Sg):=(101,⟨[(true,Hu),(false,(.int .i64))],[(false,(.int .i64)),(false,(.int .i64))],Fy⟩)::Uk
theorem XL:TabOK Tryz.prog (AB pu Ul):=AD XK mR
end Go.Proofs.YthpkjfabdccpdaaGreat.Pt
