/- The evaluator comes to each of the plain functions. No condition. -/
import Derived.Test.YthpkjfabdccpdaaGreatPt4
set_option linter.all false
namespace Go.Proofs.YthpkjfabdccpdaaGreat.Pt
open Go Go.Proofs.YthpkjfabdccpdaaGreat.Sv Go.Proofs.YthpkjfabdccpdaaGreat.Pl
set_option maxRecDepth 1000000
set_option linter.unusedVariables false
theorem oC (x:AG [(true,T3),(false,(.sl true T2))]):Ab Tryz.prog (AC pu dm) (AI []) 3000 60 205 [(true,T3),(false,(.sl true T2))] [(false,.bool),(false,(.int .i64))] x=DZ x:=by kernel_rfl
def dt:List (FuncId×Sg):=(205,⟨[(true,T3),(false,(.sl true T2))],[(false,.bool),(false,(.int .i64))],DZ⟩)::dm
theorem du:TabOK Tryz.prog (AC pu dt):=AE dq oC
theorem oD (x:AG [(true,T3),(false,(.sl true T2))]):Ab Tryz.prog (AC pu dt) (AI []) 3000 60 140 [(true,T3),(false,(.sl true T2))] [(true,T3),(false,(.int .i64)),(false,(.int .i64))] x=Er x:=by kernel_rfl
def dv:List (FuncId×Sg):=(140,⟨[(true,T3),(false,(.sl true T2))],[(true,T3),(false,(.int .i64)),(false,(.int .i64))],Er⟩)::dt
theorem dw:TabOK Tryz.prog (AC pu dv):=AE du oD
theorem oE (x:AG [(true,GV)]):Ab Tryz.prog (AC pu dv) (AI []) 3000 60 142 [(true,GV)] [(true,GV)] x=CA x:=by kernel_rfl
def dx:List (FuncId×Sg):=(142,⟨[(true,GV)],[(true,GV)],CA⟩)::dv
theorem dy:TabOK Tryz.prog (AC pu dx):=AE dw oE
theorem oF (x:AG [(true,T4),(false,(.int .i64))]):Ab Tryz.prog (AC pu dx) (AI []) 3000 60 169 [(true,T4),(false,(.int .i64))] [(false,(.int .i64))] x=Fl x:=by kernel_rfl
def dz:List (FuncId×Sg):=(169,⟨[(true,T4),(false,(.int .i64))],[(false,(.int .i64))],Fl⟩)::dx
theorem d6:TabOK Tryz.prog (AC pu dz):=AE dy oF
theorem oG (x:AG [(true,T4),(false,(.int .i64))]):Ab Tryz.prog (AC pu dz) (AI []) 3000 60 108 [(true,T4),(false,(.int .i64))] [(false,.bool),(false,(.int .i64))] x=Cr x:=by kernel_rfl
def d7:List (FuncId×Sg):=(108,⟨[(true,T4),(false,(.int .i64))],[(false,.bool),(false,(.int .i64))],Cr⟩)::dz
theorem d8:TabOK Tryz.prog (AC pu d7):=AE d6 oG
def lD:List (Nat×Nat×Nat×An):=[(171,5,30,.loop { keep:=[0,1,3,7,15,31,23,11,19,27,9,17,25,13,21,29,2,16,32,24,12,20,28,6,10,18,26,14,22,30],kb:=[0,1,12,10],pl:=[.slot 8 false (.int .i64)],ex:=[(.exit 0,[])],pay:=.unit })]
theorem oH (x:AG [(true,T4),(false,(.int .i64)),(false,(.sl true T3))]):Ab Tryz.prog (AC pu d7) (AI lD) 3000 60 171 [(true,T4),(false,(.int .i64)),(false,(.sl true T3))] [(true,T4)] x=Gx x:=by kernel_rfl
def d9:List (FuncId×Sg):=(171,⟨[(true,T4),(false,(.int .i64)),(false,(.sl true T3))],[(true,T4)],Gx⟩)::d7
theorem eA:TabOK Tryz.prog (AC pu d9):=AE d8 oH
def oI:List (Nat×Nat×Nat×An):=[(199,1,31,.loop { keep:=[0,1,7,8,6],kb:=[0,1,25,21,26],pl:=[.slot 9 false (.int .i64),.box 2 [.lf (.int .i64),.ow true (.sl true T3) false],.box 3 [.lf (.int .i64)]],ex:=[(.exit 0,[(26,0,none)]),(.ret,[(26,2,some .ret)])],pay:=.unit }),(199,4,41,.loop { keep:=[0,1,7,15,11,9,13,4,8,16,12,6,10,14],kb:=[0,1,3,25,21,34,26],pl:=[.slot 5 false (.int .i64),.box 2 [.lf (.int .i64),.ow true (.sl true T3) false]],ex:=[(.exit 2,[(26,0,none)])],pay:=.unit }),(199,4,42,.loop { keep:=[0,1,7,15,11,9,13,4,8,16,12,6,10,14],kb:=[0,1,35,25,21,26],pl:=[.slot 5 false (.int .i64),.box 2 [.lf (.int .i64),.ow true (.sl true T3) false],.box 3 [.lf (.int .i64)]],ex:=[(.exit 2,[(26,0,none)]),(.ret,[(26,2,some .ret)])],pay:=.unit })]
theorem qL (x:AG [(true,T4),(false,(.int .i64)),(true,T3)]):Ab Tryz.prog (AC pu d9) (AI oI) 3000 60 93 [(true,T4),(false,(.int .i64)),(true,T3)] [(true,T4),(false,(.int .i64))] x=HE x:=by kernel_rfl
def eB:List (FuncId×Sg):=(93,⟨[(true,T4),(false,(.int .i64)),(true,T3)],[(true,T4),(false,(.int .i64))],HE⟩)::d9
theorem eC:TabOK Tryz.prog (AC pu eB):=AE eA qL
theorem oJ (x:AG [(true,T4),(false,(.int .i64))]):Ab Tryz.prog (AC pu eB) (AI []) 3000 60 173 [(true,T4),(false,(.int .i64))] [(true,Rp),(false,(.int .i64))] x=JO x:=by kernel_rfl
def eE:List (FuncId×Sg):=(173,⟨[(true,T4),(false,(.int .i64))],[(true,Rp),(false,(.int .i64))],JO⟩)::eB
theorem eF:TabOK Tryz.prog (AC pu eE):=AE eC oJ
def oK:List (Nat×Nat×Nat×An):=[(94,3,10,.loop { keep:=[0,1,3,19,5,9,21,2,4,8,20,10,22],kb:=[0,1,2],pl:=[.slot 23 false (.int .i64),.map 4 (.int .i64) true Rp],ex:=[(.exit 0,[])],pay:=.unit }),(94,10,22,.loop { keep:=[0,1,3,23,39,19,35,5,33,13,21,37,2,4,8,32,20,36,10,34,22,38],kb:=[0,1,4],pl:=[.slot 9 false (.int .i64),.slot 40 false (.int .i64),.box 2 [.lf (.int .i64),.ow true (.sl true T3) false,.ow true Rp false,.lf (.int .i64)],.box 16 [.lf (.int .i64),.lf (.sl true (.sl true T3)),.ow true Rp false,.lf (.int .i64)]],ex:=[(.exit 2,[]),(.ret,[])],pay:=.unit })]
theorem qM (x:AG [(true,Lg),(true,T4),(false,(.int .i64)),(false,(.int .i64))]):Ab Tryz.prog (AC pu eE) (AI oK) 3000 60 94 [(true,Lg),(true,T4),(false,(.int .i64)),(false,(.int .i64))] [(true,Lg),(false,(.int .i64))] x=Hm x:=by kernel_rfl
def eG:List (FuncId×Sg):=(94,⟨[(true,Lg),(true,T4),(false,(.int .i64)),(false,(.int .i64))],[(true,Lg),(false,(.int .i64))],Hm⟩)::eE
theorem eI:TabOK Tryz.prog (AC pu eG):=AE eF qM
theorem qN (x:AG [(true,Lg),(false,(.sl true T2))]):Ab Tryz.prog (AC pu eG) (AI []) 3000 60 36 [(true,Lg),(false,(.sl true T2))] [(true,Lg),(false,(.int .i64))] x=Gl x:=by kernel_rfl
def eJ:List (FuncId×Sg):=(36,⟨[(true,Lg),(false,(.sl true T2))],[(true,Lg),(false,(.int .i64))],Gl⟩)::eG
theorem eK:TabOK Tryz.prog (AC pu eJ):=AE eI qN
def oL:List (Nat×Nat×Nat×An):=[(133,4,72,.loop { keep:=[0,1,7,15,11,19,9,17,25,13,21,2,8,16,24,12,20,10,18,14,22],kb:=[0,1,3,7,9,52,10],pl:=[.slot 26 false (.int .i64)],ex:=[(.pan 230 true (.int .i64),[]),(.exit 0,[])],pay:=(.int .i64) }),(133,9,76,.loop { keep:=[0,1,7,15,11,19,35,9,17,25,13,21,2,8,16,24,12,20,36,10,18,34,26,14,22],kb:=[0,1,3,7,9,52,10],pl:=[.slot 37 false (.int .i64)],ex:=[(.pan 230 true (.int .i64),[]),(.exit 2,[])],pay:=(.int .i64) })]
theorem qO (x:AG [(true,GV),(false,(.sl true T2))]):Ab Tryz.prog (AC pu eJ) (AI oL) 3000 60 58 [(true,GV),(false,(.sl true T2))] [(true,GV),(false,(.int .i64)),(false,(.int .i64))] x=Bx x:=by kernel_rfl
def eL:List (FuncId×Sg):=(58,⟨[(true,GV),(false,(.sl true T2))],[(true,GV),(false,(.int .i64)),(false,(.int .i64))],Bx⟩)::eJ
theorem eM:TabOK Tryz.prog (AC pu eL):=AE eK qO
def oM:List (Nat×Nat×Nat×An):=[(133,4,71,.loop { keep:=[0,1,7,15,11,19,9,17,25,13,21,2,8,16,24,12,20,10,18,14,22],kb:=[0,51,9,2,8,6],pl:=[.slot 26 false (.int .i64)],ex:=[(.pan 230 true (.int .i64),[]),(.exit 0,[])],pay:=(.int .i64) }),(133,9,75,.loop { keep:=[0,1,7,15,11,19,35,9,17,25,13,21,2,8,16,24,12,20,36,10,18,34,26,14,22],kb:=[0,51,9,2,8,6],pl:=[.slot 37 false (.int .i64)],ex:=[(.pan 230 true (.int .i64),[]),(.exit 2,[])],pay:=(.int .i64) })]
theorem qP (x:AG [(true,GV),(false,(.sl true T2))]):Ab Tryz.prog (AC pu eL) (AI oM) 3000 60 52 [(true,GV),(false,(.sl true T2))] [(false,.bool),(false,(.int .i64))] x=Cy x:=by kernel_rfl
def eN:List (FuncId×Sg):=(52,⟨[(true,GV),(false,(.sl true T2))],[(false,.bool),(false,(.int .i64))],Cy⟩)::eL
theorem eO:TabOK Tryz.prog (AC pu eN):=AE eM qP
def oN:List (Nat×Nat×Nat×An):=[(133,4,71,.loop { keep:=[0,1,7,15,11,19,9,17,25,13,21,2,8,16,24,12,20,10,18,14,22],kb:=[0,51,9,2,8,6],pl:=[.slot 26 false (.int .i64)],ex:=[(.pan 230 true (.int .i64),[]),(.exit 0,[])],pay:=(.int .i64) }),(133,9,75,.loop { keep:=[0,1,7,15,11,19,35,9,17,25,13,21,2,8,16,24,12,20,36,10,18,34,26,14,22],kb:=[0,51,9,2,8,6],pl:=[.slot 37 false (.int .i64)],ex:=[(.pan 230 true (.int .i64),[]),(.exit 2,[])],pay:=(.int .i64) })]
theorem qQ (x:AG [(true,GV),(false,(.sl true T2))]):Ab Tryz.prog (AC pu eN) (AI oN) 3000 60 54 [(true,GV),(false,(.sl true T2))] [(false,.bool),(false,(.int .i64))] x=DE x:=by kernel_rfl
def eP:List (FuncId×Sg):=(54,⟨[(true,GV),(false,(.sl true T2))],[(false,.bool),(false,(.int .i64))],DE⟩)::eN
theorem eQ:TabOK Tryz.prog (AC pu eP):=AE eO qQ
def oO:List (Nat×Nat×Nat×An):=[(46,1003003,15,.join { keep:=[0,1,3,23,27,25,21,2,4,24,20,28,26,22],kb:=[5],pl0:=[],pl1:=[.slot 38 false .bool],ex:=[],pay:=.unit }),(46,8,22,.loop { keep:=[1,3,23,39,27,5,25,21,2,4,24,40,20,28,6,26,22,38],kb:=[19,16],pl:=[.slot 0 false .bool,.slot 7 false (.int .i64),.box 5 [.lf (.int .i64),.lf (.sl true T2),.lf (.int .i64),.lf (.sl true (.sl true T3)),.lf (.sl true Rp),.lf (.int .i64)]],ex:=[(.exit 0,[]),(.ret,[])],pay:=.unit }),(46,1010013,24,.join { keep:=[1,3,7,23,39,27,5,25,41,21,2,4,24,40,20,28,6,26,42,22,38],kb:=[19,16],pl0:=[.slot 0 false .bool,.box 5 [.lf (.int .i64),.lf (.sl true T2),.lf (.int .i64),.lf (.sl true (.sl true T3)),.lf (.sl true Rp),.lf (.int .i64)]],pl1:=[.slot 0 false .bool,.box 5 [.lf (.int .i64),.lf (.sl true T2),.lf (.int .i64),.lf (.sl true (.sl true T3)),.lf (.sl true Rp),.lf (.int .i64)]],ex:=[(.ret,[])],pay:=.unit }),(46,1011011,41,.join { keep:=[0,1,3,7,47,23,39,55,51,27,5,9,49,25,41,57,21,53,45,2,4,8,48,24,40,56,20,52,28,6,10,50,26,42,22,38,54,46],kb:=[19,5,37,16],pl0:=[],pl1:=[.slot 66 false .bool],ex:=[],pay:=.unit })]
theorem qR (x:AG []):Ab Tryz.prog (AC pu eP) (AI oO) 3000 60 46 [] [(false,.bool)] x=EQ x:=by kernel_rfl
def eR:List (FuncId×Sg):=(46,⟨[],[(false,.bool)],EQ⟩)::eP
theorem eU:TabOK Tryz.prog (AC pu eR):=AE eQ qR
end Go.Proofs.YthpkjfabdccpdaaGreat.Pt
