/- The evaluator comes to each of the plain functions. No condition. -/
import Derived.Test.YthpkjfabdccpdaaGreatPt6
set_option linter.all false
namespace Go.Proofs.YthpkjfabdccpdaaGreat.Pt
open Go Go.Proofs.YthpkjfabdccpdaaGreat.Sv Go.Proofs.YthpkjfabdccpdaaGreat.Pl
set_option maxRecDepth 1000000
set_option linter.unusedVariables false
theorem nA (x:AE [(true,Lz)]):Ab Tryz.prog (AB pu c0) (AI []) 3000 60 17 [(true,Lz)] [(false,(.int .i64)),(false,(.int .i64)),(false,(.int .i64))] x=D7 x:=by kernel_rfl
def dB:List (FuncId×Sg):=(17,⟨[(true,Lz)],[(false,(.int .i64)),(false,(.int .i64)),(false,(.int .i64))],D7⟩)::c0
theorem dC:TabOK Tryz.prog (AB pu dB):=AD dA nA
def lu:List (Nat×Nat×Nat×An):=[(19,8,54,.loop { keep:=[0,1,7,15,23,11,19,27,5,17,25,13,21,29,2,4,16,24,12,28,6,18,26,14,22],kb:=[0,11,36],pl:=[.srow 8 false (.int .i64) false,.slot 30 false (.int .i64)],ex:=[(.exit 1,[])],pay:=.unit }),(19,8,72,.loop { keep:=[0,1,7,15,23,11,19,27,5,17,25,13,21,29,2,4,16,24,12,28,6,18,26,14,22],kb:=[0,11,22,54],pl:=[.srow 8 false (.int .i64) false,.slot 30 false (.int .i64)],ex:=[(.exit 1,[])],pay:=.unit }),(19,8,90,.loop { keep:=[0,1,7,15,23,11,19,27,5,17,25,13,21,29,2,4,16,24,12,28,6,18,26,14,22],kb:=[0,11,72,22],pl:=[.srow 8 false (.int .i64) false,.slot 30 false (.int .i64)],ex:=[(.exit 1,[])],pay:=.unit }),(163,3,112,.loop { keep:=[0,15,11,9,13,2,8,12,10,14],kb:=[0,11,72,90,22,94],pl:=[.slot 3 false .bool,.slot 16 false (.int .i64)],ex:=[(.exit 0,[])],pay:=.unit }),(163,7,131,.loop { keep:=[0,3,15,31,23,11,19,27,5,9,17,25,13,21,29,2,4,8,16,24,12,20,28,10,18,26,14,22,30],kb:=[0,11,72,116,90,22,94],pl:=[.slot 32 false (.int .i64)],ex:=[(.exit 1,[]),(.exit 2,[])],pay:=.unit })]
theorem nB (x:AE [(true,Lz),(false,(.int .i64))]):Ab Tryz.prog (AB pu dB) (AI lu) 3000 60 19 [(true,Lz),(false,(.int .i64))] [(false,(.sl false (.int .i64))),(false,(.int .i64))] x=De x:=by kernel_rfl
def dD:List (FuncId×Sg):=(19,⟨[(true,Lz),(false,(.int .i64))],[(false,(.sl false (.int .i64))),(false,(.int .i64))],De⟩)::dB
theorem dE:TabOK Tryz.prog (AB pu dD):=AD dC nB
def lw:List (Nat×Nat×Nat×An):=[(21,4,7,.loop { keep:=[0,1,7,9,8,6,10],kb:=[],pl:=[.slot 5 false (.int .i64),.slot 4 false .bool],ex:=[(.ret,[]),(.exit 0,[])],pay:=.unit })]
theorem nC (x:AE [(false,(.sl false (.int .i64))),(false,(.sl false (.int .i64)))]):Ab Tryz.prog (AB pu dD) (AI lw) 3000 60 21 [(false,(.sl false (.int .i64))),(false,(.sl false (.int .i64)))] [(false,.bool)] x=Em x:=by kernel_rfl
def UL:List (FuncId×Sg):=(21,⟨[(false,(.sl false (.int .i64))),(false,(.sl false (.int .i64)))],[(false,.bool)],Em⟩)::dD
theorem Ww:TabOK Tryz.prog (AB pu UL):=AD dE nC
theorem nD (x:AE []):Ab Tryz.prog (AB pu UL) (AI []) 3000 60 16 [] [(false,.bool)] x=E8 x:=by kernel_rfl
def UN:List (FuncId×Sg):=(16,⟨[],[(false,.bool)],E8⟩)::UL
theorem Wx:TabOK Tryz.prog (AB pu UN):=AD Ww nD
def iy:List (Nat×Nat×Nat×An):=[(132,6,18,.loop { keep:=[0,1,7,15,11,19,9,17,13,8,16,12,6,10,18,14],kb:=[0],pl:=[.slot 3 false (.int .i64),.slot 2 false (.int .i64),.slot 4 false (.int .i64)],ex:=[(.ret,[]),(.exit 0,[])],pay:=.unit })]
theorem lx (x:AE [(true,T3)]):Ab Tryz.prog (AB pu UN) (AI iy) 3000 60 132 [(true,T3)] [(false,(.int .i64)),(false,(.int .i64))] x=E9 x:=by kernel_rfl
def UO:List (FuncId×Sg):=(132,⟨[(true,T3)],[(false,(.int .i64)),(false,(.int .i64))],E9⟩)::UN
theorem Wy:TabOK Tryz.prog (AB pu UO):=AD Wx lx
def i0:List (Nat×Nat×Nat×An):=[(233,4,7,.loop { keep:=[0,1,7,9,8,6,10],kb:=[],pl:=[.slot 5 false (.int .i64),.slot 4 false .bool],ex:=[(.ret,[]),(.exit 0,[])],pay:=.unit })]
theorem ly (x:AE [(false,(.sl false (.int .i64))),(false,(.sl false (.int .i64)))]):Ab Tryz.prog (AB pu UO) (AI i0) 3000 60 233 [(false,(.sl false (.int .i64))),(false,(.sl false (.int .i64)))] [(false,.bool)] x=Ft x:=by kernel_rfl
def UP:List (FuncId×Sg):=(233,⟨[(false,(.sl false (.int .i64))),(false,(.sl false (.int .i64)))],[(false,.bool)],Ft⟩)::UO
theorem Wz:TabOK Tryz.prog (AB pu UP):=AD Wy ly
def i3:List (Nat×Nat×Nat×An):=[(234,4,26,.loop { keep:=[0,1,3,7,15,23,11,19,27,9,17,25,13,21,2,8,16,24,12,20,6,10,18,26,14,22],kb:=[0,1],pl:=[.slot 5 false (.int .i64),.slot 4 false .bool],ex:=[(.ret,[]),(.exit 0,[])],pay:=.unit })]
theorem lz (x:AE [(true,T7),(true,T7)]):Ab Tryz.prog (AB pu UP) (AI i3) 3000 60 234 [(true,T7),(true,T7)] [(false,.bool)] x=El x:=by kernel_rfl
def UQ:List (FuncId×Sg):=(234,⟨[(true,T7),(true,T7)],[(false,.bool)],El⟩)::UP
theorem W0:TabOK Tryz.prog (AB pu UQ):=AD Wz lz
def i4:List (Nat×Nat×Nat×An):=[(229,3,3,.loop { keep:=[0,1,4],kb:=[],pl:=[.slot 5 false (.int .i64),.slot 6 false (.int .i64)],ex:=[(.exit 0,[])],pay:=.unit })]
theorem l7 (x:AE [(false,(.sl false (.sl true T2))),(false,(.sl false (.int .i64)))]):Ab Tryz.prog (AB pu UQ) (AI i4) 3000 60 229 [(false,(.sl false (.sl true T2))),(false,(.sl false (.int .i64)))] [(false,(.int .i64))] x=DE x:=by kernel_rfl
def UR:List (FuncId×Sg):=(229,⟨[(false,(.sl false (.sl true T2))),(false,(.sl false (.int .i64)))],[(false,(.int .i64))],DE⟩)::UQ
theorem W1:TabOK Tryz.prog (AB pu UR):=AD W0 l7
def i5:List (Nat×Nat×Nat×An):=[(228,7,21,.loop { keep:=[0,1,15,23,11,27,5,17,25,13,21,4,16,24,12,18,26,14,22],kb:=[0],pl:=[.slot 3 false (.int .i64),.slot 2 false (.int .i64),.slot 6 false (.int .i64)],ex:=[(.ret,[]),(.exit 0,[])],pay:=.unit }),(228,15,38,.loop { keep:=[0,1,7,15,63,23,11,67,27,59,5,17,65,25,57,13,21,69,61,4,16,64,24,56,12,68,60,6,18,66,26,58,14,22,70,62],kb:=[0],pl:=[.slot 3 false (.int .i64),.slot 2 false (.int .i64),.slot 8 false (.int .i64)],ex:=[(.ret,[]),(.exit 2,[])],pay:=.unit })]
theorem l8 (x:AE [(true,T9)]):Ab Tryz.prog (AB pu UR) (AI i5) 3000 60 228 [(true,T9)] [(false,(.int .i64)),(false,(.int .i64))] x=DG x:=by kernel_rfl
def US:List (FuncId×Sg):=(228,⟨[(true,T9)],[(false,(.int .i64)),(false,(.int .i64))],DG⟩)::UR
theorem W2:TabOK Tryz.prog (AB pu US):=AD W1 l8
def i6:List (Nat×Nat×Nat×An):=[(193,3,4,.loop { keep:=[0,1,2],kb:=[0],pl:=[.slot 3 false (.int .i64),.slot 4 false (.int .i64)],ex:=[(.exit 0,[])],pay:=.unit })]
theorem l9 (x:AE [(true,Ht)]):Ab Tryz.prog (AB pu US) (AI i6) 3000 60 193 [(true,Ht)] [(false,(.int .i64))] x=Dq x:=by kernel_rfl
def UT:List (FuncId×Sg):=(193,⟨[(true,Ht)],[(false,(.int .i64))],Dq⟩)::US
theorem W3:TabOK Tryz.prog (AB pu UT):=AD W2 l9
def i7:List (Nat×Nat×Nat×An):=[(195,7,18,.loop { keep:=[0,15,11,19,5,17,13,16,12,20,6,14],kb:=[],pl:=[.srow 3 false (.int .i64) false,.srow 7 true T2 false,.srow 2 true T2 false,.slot 4 false (.int .i64),.srow 8 false (.int .i64) false,.srow 9 false (.int .i64) true],ex:=[(.ret,[])],pay:=.unit,plx:=[.srow 3 false (.int .i64) false,.srow 2 true T2 false,.slot 4 false (.int .i64)] })]
theorem mA (x:AE [(false,(.sl false (.sl true T2)))]):Ab Tryz.prog (AB pu UT) (AI i7) 3000 60 195 [(false,(.sl false (.sl true T2)))] [(false,(.sl true T2)),(false,(.sl false (.int .i64))),(false,(.int .i64))] x=EV x:=by kernel_rfl
def UU:List (FuncId×Sg):=(195,⟨[(false,(.sl false (.sl true T2)))],[(false,(.sl true T2)),(false,(.sl false (.int .i64))),(false,(.int .i64))],EV⟩)::UT
theorem W4:TabOK Tryz.prog (AB pu UU):=AD W3 mA
theorem mB (x:AE [(true,Og)]):Ab Tryz.prog (AB pu UU) (AI []) 3000 60 271 [(true,Og)] [(false,(.int .i64))] x=E5 x:=by kernel_rfl
def UV:List (FuncId×Sg):=(271,⟨[(true,Og)],[(false,(.int .i64))],E5⟩)::UU
theorem W5:TabOK Tryz.prog (AB pu UV):=AD W4 mB
theorem mC (x:AE [(true,Og),(true,T2)]):Ab Tryz.prog (AB pu UV) (AI []) 3000 60 251 [(true,Og),(true,T2)] [(false,.bool),(true,Og),(false,(.int .i64))] x=Fu x:=by kernel_rfl
def UW:List (FuncId×Sg):=(251,⟨[(true,Og),(true,T2)],[(false,.bool),(true,Og),(false,(.int .i64))],Fu⟩)::UV
theorem W6:TabOK Tryz.prog (AB pu UW):=AD W5 mC
def i8:List (Nat×Nat×Nat×An):=[(232,6,12,.loop { keep:=[0,1,7,15,17,13,16,14],kb:=[],pl:=[.slot 5 false (.int .i64),.slot 9 false (.int .i64),.srow 4 true T2 false,.srow 8 true T2 false,.slot 6 false (.int .i64),.box 8 [.lf .bool,.lf .str,.lf .bool]],ex:=[(.ret,[]),(.exit 0,[])],pay:=.unit })]
theorem mD (x:AE [(false,(.sl true T2)),(false,.bool)]):Ab Tryz.prog (AB pu UW) (AI i8) 3000 60 232 [(false,(.sl true T2)),(false,.bool)] [(false,(.sl true T2)),(false,(.int .i64)),(false,(.int .i64))] x=EW x:=by kernel_rfl
def UX:List (FuncId×Sg):=(232,⟨[(false,(.sl true T2)),(false,.bool)],[(false,(.sl true T2)),(false,(.int .i64)),(false,(.int .i64))],EW⟩)::UW
theorem W7:TabOK Tryz.prog (AB pu UX):=AD W6 mD
end Go.Proofs.YthpkjfabdccpdaaGreat.Pt
