/- The evaluator comes to each of the plain functions. No condition. -/
import Derived.Test.YthpkjfabdccpdaaGreatPt6
set_option linter.all false
namespace Go.Proofs.YthpkjfabdccpdaaGreat.Pt
open Go Go.Proofs.YthpkjfabdccpdaaGreat.Sv Go.Proofs.YthpkjfabdccpdaaGreat.Pl
set_option maxRecDepth 1000000
set_option linter.unusedVariables false
theorem qW (x:AG [(true,Rp),(true,Rp)]):Ab Tryz.prog (AC pu fM) (AI []) 3000 60 99 [(true,Rp),(true,Rp)] [(false,.bool)] x=EG x:=by kernel_rfl
def fO:List (FuncId×Sg):=(99,⟨[(true,Rp),(true,Rp)],[(false,.bool)],EG⟩)::fM
theorem fQ:TabOK Tryz.prog (AC pu fO):=AE fN qW
def oe:List (Nat×Nat×Nat×An):=[(26,4,26,.loop { keep:=[0,1,3,7,15,23,11,19,27,9,17,25,13,21,2,8,16,24,12,20,6,10,18,26,14,22],kb:=[0,1],pl:=[.slot 5 false (.int .i64),.slot 4 false .bool],ex:=[(.ret,[]),(.exit 0,[])],pay:=.unit })]
theorem qX (x:AG [(true,Lg),(true,Lg)]):Ab Tryz.prog (AC pu fO) (AI oe) 3000 60 26 [(true,Lg),(true,Lg)] [(false,.bool)] x=D6 x:=by kernel_rfl
def fR:List (FuncId×Sg):=(26,⟨[(true,Lg),(true,Lg)],[(false,.bool)],D6⟩)::fO
theorem fS:TabOK Tryz.prog (AC pu fR):=AE fQ qX
theorem qY (x:AG [(true,GV),(true,GV)]):Ab Tryz.prog (AC pu fR) (AI []) 3000 60 49 [(true,GV),(true,GV)] [(false,.bool)] x=GP x:=by kernel_rfl
def U5:List (FuncId×Sg):=(49,⟨[(true,GV),(true,GV)],[(false,.bool)],GP⟩)::fR
theorem X9:TabOK Tryz.prog (AC pu U5):=AE fS qY
theorem qZ (x:AG [(true,GV)]):Ab Tryz.prog (AC pu U5) (AI []) 3000 60 50 [(true,GV)] [(false,(.int .i64))] x=Dm x:=by kernel_rfl
def U6:List (FuncId×Sg):=(50,⟨[(true,GV)],[(false,(.int .i64))],Dm⟩)::U5
theorem YA:TabOK Tryz.prog (AC pu U6):=AE X9 qZ
theorem og (x:AG [(true,T2)]):Ab Tryz.prog (AC pu U6) (AI []) 3000 60 203 [(true,T2)] [(false,(.int .i64))] x=Ax x:=by kernel_rfl
def U7:List (FuncId×Sg):=(203,⟨[(true,T2)],[(false,(.int .i64))],Ax⟩)::U6
theorem YB:TabOK Tryz.prog (AC pu U7):=AE YA og
def lI:List (Nat×Nat×Nat×An):=[(132,6,18,.loop { keep:=[0,1,7,15,11,19,9,17,13,8,16,12,6,10,18,14],kb:=[0],pl:=[.slot 3 false (.int .i64),.slot 2 false (.int .i64),.slot 4 false (.int .i64)],ex:=[(.ret,[]),(.exit 0,[])],pay:=.unit })]
theorem oh (x:AG [(true,T3)]):Ab Tryz.prog (AC pu U7) (AI lI) 3000 60 132 [(true,T3)] [(false,(.int .i64)),(false,(.int .i64))] x=EO x:=by kernel_rfl
def U8:List (FuncId×Sg):=(132,⟨[(true,T3)],[(false,(.int .i64)),(false,(.int .i64))],EO⟩)::U7
theorem YC:TabOK Tryz.prog (AC pu U8):=AE YB oh
def lJ:List (Nat×Nat×Nat×An):=[(188,2,2,.loop { keep:=[1,4],kb:=[],pl:=[.slot 0 false (.int .i64),.slot 5 false (.int .i64)],ex:=[(.exit 0,[])],pay:=.unit })]
theorem oi (x:AG [(false,(.int .i64)),(false,(.int .i64))]):Ab Tryz.prog (AC pu U8) (AI lJ) 3000 60 188 [(false,(.int .i64)),(false,(.int .i64))] [(false,(.int .i64))] x=D2 x:=by kernel_rfl
def U9:List (FuncId×Sg):=(188,⟨[(false,(.int .i64)),(false,(.int .i64))],[(false,(.int .i64))],D2⟩)::U8
theorem YD:TabOK Tryz.prog (AC pu U9):=AE YC oi
def lK:List (Nat×Nat×Nat×An):=[(249,2,2,.loop { keep:=[0,1,4],kb:=[],pl:=[.slot 5 false (.int .i64)],ex:=[(.exit 0,[])],pay:=.unit })]
theorem om (x:AG [(false,.str),(false,.str)]):Ab Tryz.prog (AC pu U9) (AI lK) 3000 60 249 [(false,.str),(false,.str)] [(false,(.int .i64))] x=Em x:=by kernel_rfl
def VA:List (FuncId×Sg):=(249,⟨[(false,.str),(false,.str)],[(false,(.int .i64))],Em⟩)::U9
theorem YE:TabOK Tryz.prog (AC pu VA):=AE YD om
theorem oq (x:AG [(false,.str),(false,.str)]):Ab Tryz.prog (AC pu VA) (AI []) 3000 60 225 [(false,.str),(false,.str)] [(false,(.int .i64))] x=EL x:=by kernel_rfl
def VB:List (FuncId×Sg):=(225,⟨[(false,.str),(false,.str)],[(false,(.int .i64))],EL⟩)::VA
theorem YF:TabOK Tryz.prog (AC pu VB):=AE YE oq
def lL:List (Nat×Nat×Nat×An):=[(185,4,6,.loop { keep:=[0,7,8,6],kb:=[],pl:=[.slot 3 false (.int .i64),.slot 2 false (.int .i64),.slot 4 false (.int .i64)],ex:=[(.ret,[]),(.exit 0,[])],pay:=.unit })]
theorem ot (x:AG [(false,(.sl true T2))]):Ab Tryz.prog (AC pu VB) (AI lL) 3000 60 185 [(false,(.sl true T2))] [(false,(.int .i64)),(false,(.int .i64))] x=Cc x:=by kernel_rfl
def VC:List (FuncId×Sg):=(185,⟨[(false,(.sl true T2))],[(false,(.int .i64)),(false,(.int .i64))],Cc⟩)::VB
theorem YG:TabOK Tryz.prog (AC pu VC):=AE YF ot
theorem ou (x:AG [(true,T3)]):Ab Tryz.prog (AC pu VC) (AI []) 3000 60 110 [(true,T3)] [(false,(.int .i64)),(false,(.int .i64))] x=FK x:=by kernel_rfl
def VD:List (FuncId×Sg):=(110,⟨[(true,T3)],[(false,(.int .i64)),(false,(.int .i64))],FK⟩)::VC
theorem YH:TabOK Tryz.prog (AC pu VD):=AE YG ou
def lM:List (Nat×Nat×Nat×An):=[(187,9,21,.loop { keep:=[0,1,3,7,15,23,11,19,25,13,21,2,8,16,24,12,20,10,18,26,14,22],kb:=[0],pl:=[.slot 9 false (.int .i64),.slot 6 false (.int .i64)],ex:=[(.ret,[]),(.exit 0,[])],pay:=.unit })]
theorem ov (x:AG [(true,T3),(false,(.int .i64)),(false,(.sl false (.int .i64)))]):Ab Tryz.prog (AC pu VD) (AI lM) 3000 60 187 [(true,T3),(false,(.int .i64)),(false,(.sl false (.int .i64)))] [(false,(.int .i64))] x=D3 x:=by kernel_rfl
def VE:List (FuncId×Sg):=(187,⟨[(true,T3),(false,(.int .i64)),(false,(.sl false (.int .i64)))],[(false,(.int .i64))],D3⟩)::VD
theorem YI:TabOK Tryz.prog (AC pu VE):=AE YH ov
def lN:List (Nat×Nat×Nat×An):=[(112,7,18,.loop { keep:=[0,1,15,11,19,17,13,21,16,12,20,10,18,14],kb:=[0],pl:=[.slot 3 false (.int .i64),.srow 5 false (.int .i64) false,.slot 2 false (.int .i64),.slot 4 false (.int .i64),.slot 6 false (.int .i64)],ex:=[(.ret,[]),(.exit 0,[])],pay:=.unit }),(112,13,35,.loop { keep:=[0,1,7,15,31,23,11,19,35,17,33,25,13,21,37,29,16,32,24,12,20,36,6,10,18,34,26,14,22,30],kb:=[0],pl:=[.slot 3 false (.int .i64),.srow 5 false (.int .i64) false,.slot 2 false (.int .i64),.slot 4 false (.int .i64),.slot 8 false (.int .i64)],ex:=[(.ret,[]),(.exit 2,[])],pay:=.unit })]
theorem oz (x:AG [(true,T4)]):Ab Tryz.prog (AC pu VE) (AI lN) 3000 60 112 [(true,T4)] [(false,(.int .i64)),(false,(.int .i64)),(false,(.int .i64))] x=DQ x:=by kernel_rfl
def VF:List (FuncId×Sg):=(112,⟨[(true,T4)],[(false,(.int .i64)),(false,(.int .i64)),(false,(.int .i64))],DQ⟩)::VE
theorem YJ:TabOK Tryz.prog (AC pu VF):=AE YI oz
def lO:List (Nat×Nat×Nat×An):=[(120,6,16,.loop { keep:=[0,1,3,15,11,5,17,13,2,4,16,12,6,10,14],kb:=[0],pl:=[.srow 7 true T3 false,.slot 8 false (.int .i64)],ex:=[(.exit 0,[])],pay:=.unit }),(120,9,31,.loop { keep:=[0,1,3,15,31,23,11,19,27,5,17,33,13,21,29,2,4,8,16,32,12,20,28,6,10,26,14,22,30],kb:=[0],pl:=[.srow 7 true T3 false,.slot 9 false (.int .i64)],ex:=[(.exit 2,[])],pay:=.unit })]
theorem o0 (x:AG [(true,T4)]):Ab Tryz.prog (AC pu VF) (AI lO) 3000 60 120 [(true,T4)] [(false,(.sl true T3)),(false,(.int .i64))] x=En x:=by kernel_rfl
def VG:List (FuncId×Sg):=(120,⟨[(true,T4)],[(false,(.sl true T3)),(false,(.int .i64))],En⟩)::VF
theorem YK:TabOK Tryz.prog (AC pu VG):=AE YJ o0
end Go.Proofs.YthpkjfabdccpdaaGreat.Pt
