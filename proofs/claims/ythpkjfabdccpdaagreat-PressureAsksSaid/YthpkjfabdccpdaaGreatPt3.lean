/- The evaluator comes to each of the plain functions. No condition. -/
import Derived.Test.YthpkjfabdccpdaaGreatPt2
set_option linter.all false
namespace Go.Proofs.YthpkjfabdccpdaaGreat.Pt
open Go Go.Proofs.YthpkjfabdccpdaaGreat.Sv Go.Proofs.YthpkjfabdccpdaaGreat.Pl
set_option maxRecDepth 1000000
set_option linter.unusedVariables false
theorem nN (x:AG [(false,(.int .i64))]):Ab Tryz.prog (AC pu cX) (AI []) 3000 60 276 [(false,(.int .i64))] [(false,.bool)] x=EC x:=by kernel_rfl
def cZ:List (FuncId×Sg):=(276,⟨[(false,(.int .i64))],[(false,.bool)],EC⟩)::cX
theorem ca:TabOK Tryz.prog (AC pu cZ):=AE cY nN
theorem nO (x:AG [(false,(.int .i64)),(false,(.int .i64))]):Ab Tryz.prog (AC pu cZ) (AI []) 3000 60 260 [(false,(.int .i64)),(false,(.int .i64))] [(false,(.int .i64))] x=B8 x:=by kernel_rfl
def cb:List (FuncId×Sg):=(260,⟨[(false,(.int .i64)),(false,(.int .i64))],[(false,(.int .i64))],B8⟩)::cZ
theorem cc:TabOK Tryz.prog (AC pu cb):=AE ca nO
def kj:List (Nat×Nat×Nat×An):=[(258,3,5,.loop { keep:=[0,3,7,6],kb:=[],pl:=[.slot 2 false (.int .i64),.slot 8 false (.int .i64)],ex:=[(.ret,[]),(.exit 0,[])],pay:=.unit })]
theorem nQ (x:AG [(false,(.sl false (.int .i64)))]):Ab Tryz.prog (AC pu cb) (AI kj) 3000 60 258 [(false,(.sl false (.int .i64)))] [(false,(.int .i64))] x=F7 x:=by kernel_rfl
def cd:List (FuncId×Sg):=(258,⟨[(false,(.sl false (.int .i64)))],[(false,(.int .i64))],F7⟩)::cb
theorem cf:TabOK Tryz.prog (AC pu cd):=AE cc nQ
def kl:List (Nat×Nat×Nat×An):=[(240,7,24,.loop { keep:=[0,1,15,31,23,19,27,5,17,25,13,29,4,16,24,12,28,18,26,14,22,30],kb:=[0],pl:=[.slot 3 false (.int .i64),.slot 2 false (.int .i64),.slot 32 false (.int .i64)],ex:=[(.ret,[]),(.exit 0,[])],pay:=.unit }),(240,18,49,.loop { keep:=[0,1,15,31,63,23,71,55,19,67,51,27,59,5,9,17,65,25,57,13,69,53,29,61,4,8,16,32,64,24,56,12,68,52,28,60,18,66,26,58,14,22,70,54,30,62],kb:=[0],pl:=[.slot 3 false (.int .i64),.slot 2 false (.int .i64),.slot 72 false (.int .i64)],ex:=[(.ret,[]),(.exit 2,[])],pay:=.unit })]
theorem nR (x:AG [(true,T9)]):Ab Tryz.prog (AC pu cd) (AI kl) 3000 60 240 [(true,T9)] [(false,(.int .i64)),(false,(.int .i64))] x=DO x:=by kernel_rfl
def cg:List (FuncId×Sg):=(240,⟨[(true,T9)],[(false,(.int .i64)),(false,(.int .i64))],DO⟩)::cd
theorem cj:TabOK Tryz.prog (AC pu cg):=AE cf nR
theorem nS:M6 Tryz.prog (λf => !pu f) 1000 100 278=true:=by kernel_rfl
theorem nT (a:Ty.den (.int .i64)) (l:List (Ty.den (.int .i64))):Ab Tryz.prog (AC pu cg) (AI []) 3000 60 278 [(false,(.sl false (.int .i64)))] [(false,(.sl false (.int .i64)))] (a::l)=Aw (a::l):=by kernel_rfl
def ck:List (FuncId×Sg):=(278,⟨[(false,(.sl false (.int .i64)))],[(false,(.sl false (.int .i64)))],Aw⟩)::cg
theorem cm:TabOK Tryz.prog (AC pu ck):=Oo (gg:=false) (c:=(.int .i64)) cj nS rfl nT
theorem nU:Oq Tryz.prog (λf => !pu f) 1000 100 278=true:=by kernel_rfl
theorem nV (a:Ty.den (.int .i64)) (l:List (Ty.den (.int .i64))):P4 Tryz.prog (AC pu ck) (AI []) 3000 60 278 [(false,(.sl false (.int .i64)))] false (.int .i64) (a::l)=Aw (a::l):=by kernel_rfl
def cp:List (FuncId×Sg):=(278+HI,⟨[(false,(.sl false (.int .i64)))],[(false,(.sl false (.int .i64)))],Aw⟩)::ck
theorem cq:TabOK Tryz.prog (AC pu cp):=Ot (gg:=false) (c:=(.int .i64)) cm nU rfl (λa l y h=>Ou h) nV
theorem nX (x:AG [(false,(.int .i64)),(false,(.int .i64)),(true,mT)]):WE Tryz.prog (AC pu cp) (AI []) 3000 60 290 [(false,(.int .i64)),(false,(.int .i64)),(true,mT)] [(false,.bool)] x=BU x:=by kernel_rfl
def cr:List (FuncId×Sg):=(3146018,⟨[(false,(.int .i64)),(false,(.int .i64)),(true,mT)],[(false,.bool)],BU⟩)::cp
theorem cu:TabOK Tryz.prog (AC pu cr):=gf (f:=290) cq nX
def km:List (Nat×Nat×Nat×An):=[(279,13,63,.loop { keep:=[0,1,3,7,31,63,47,55,11,19,35,51,27,43,59,9,17,33,49,25,41,57,13,21,37,53,29,45,61,2,4,8,32,48,24,40,56,12,20,36,52,28,44,60,6,18,34,50,26,42,58,14,38,54,30,46,62],kb:=[0,1,33,52],pl:=[.slot 5 false (.int .i64),.slot 10 false (.int .i64),.box 2 [.kp 33,.ow false (.int .i64) false,.lf (.int .i64)]],ex:=[(.exit 0,[])],pay:=.unit })]
theorem nY (x:AG [(true,T7),(true,T5)]):Ab Tryz.prog (AC pu cr) (AI km) 3000 60 279 [(true,T7),(true,T5)] [(true,T7),(false,(.int .i64)),(false,(.int .i64))] x=CE x:=by kernel_rfl
def cv:List (FuncId×Sg):=(279,⟨[(true,T7),(true,T5)],[(true,T7),(false,(.int .i64)),(false,(.int .i64))],CE⟩)::cr
theorem cw:TabOK Tryz.prog (AC pu cv):=AE cu nY
def kn:List (Nat×Nat×Nat×An):=[(277,0,45,.loop { keep:=[0,1],kb:=[39,35,43,9,13,44],pl:=[.box 0 [.ow true T2 false],.box 1 [.ow false (.int .i64) false]],ex:=[(.ret,[(44,0,none)])],pay:=.unit }),(256,3,47,.loop { keep:=[0,1,11,13,4,12,10,14],kb:=[0,1,39,27,13,30],pl:=[.slot 15 false (.int .i64),.srow 5 true T5 true],ex:=[(.exit 0,[])],pay:=.unit }),(277,0,72,.loop { keep:=[0,1],kb:=[47,39,71,9,13,53,66,70,30],pl:=[.box 0 [.ow true T2 false],.box 1 [.ow false (.int .i64) false],.box 62 [.kp 30,.ow false (.int .i64) true,.lf (.sl true T5),.lf (.sl false (.int .i64)),.lf (.int .i64)]],ex:=[(.ret,[(71,0,none)])],pay:=.unit })]
theorem nZ (x:AG [(false,(.sl false (.sl true T2)))]):Ab Tryz.prog (AC pu cv) (AI kn) 3000 60 241 [(false,(.sl false (.sl true T2)))] [(false,(.sl true T2)),(false,(.sl false (.int .i64))),(false,(.int .i64))] x=G4 x:=by kernel_rfl
def cx:List (FuncId×Sg):=(241,⟨[(false,(.sl false (.sl true T2)))],[(false,(.sl true T2)),(false,(.sl false (.int .i64))),(false,(.int .i64))],G4⟩)::cv
theorem cy:TabOK Tryz.prog (AC pu cx):=AE cw nZ
theorem na (x:AG [(true,PJ)]):Ab Tryz.prog (AC pu cx) (AI []) 3000 60 280 [(true,PJ)] [(false,(.int .i64))] x=Dk x:=by kernel_rfl
def cz:List (FuncId×Sg):=(280,⟨[(true,PJ)],[(false,(.int .i64))],Dk⟩)::cx
theorem c0:TabOK Tryz.prog (AC pu cz):=AE cy na
theorem ng (x:AG [(true,T2)]):Ab Tryz.prog (AC pu cz) (AI []) 3000 60 307 [(true,T2)] [(true,T2)] x=A5 x:=by kernel_rfl
def dA:List (FuncId×Sg):=(307,⟨[(true,T2)],[(true,T2)],A5⟩)::cz
theorem dB:TabOK Tryz.prog (AC pu dA):=AE c0 ng
def ko:List (Nat×Nat×Nat×An):=[(262,5,24,.loop { keep:=[0,1,15,19,17,2,8,16,20,18,14],kb:=[],pl:=[.slot 7 false (.int .i64),.slot 21 false (.int .i64),.slot 6 false (.int .i64),.box 19 [.lf .bool,.lf .str,.lf .bool],.box 0 [.ow true T2 false]],ex:=[(.ret,[]),(.exit 0,[])],pay:=.unit })]
theorem nh (x:AG [(false,(.sl true T2)),(false,.bool)]):Ab Tryz.prog (AC pu dA) (AI ko) 3000 60 242 [(false,(.sl true T2)),(false,.bool)] [(false,(.sl true T2)),(false,(.int .i64)),(false,(.int .i64))] x=ED x:=by kernel_rfl
def dC:List (FuncId×Sg):=(242,⟨[(false,(.sl true T2)),(false,.bool)],[(false,(.sl true T2)),(false,(.int .i64)),(false,(.int .i64))],ED⟩)::dA
theorem dD:TabOK Tryz.prog (AC pu dC):=AE dB nh
def kq:List (Nat×Nat×Nat×An):=[(244,4,9,.loop { keep:=[0,1,7,11,9,13,8,12,10],kb:=[],pl:=[.slot 4 false .bool,.slot 14 false (.int .i64)],ex:=[(.ret,[]),(.exit 0,[])],pay:=.unit })]
theorem ni (x:AG [(false,(.sl true T2)),(false,(.sl true T2))]):Ab Tryz.prog (AC pu dC) (AI kq) 3000 60 244 [(false,(.sl true T2)),(false,(.sl true T2))] [(false,.bool)] x=Dl x:=by kernel_rfl
def dE:List (FuncId×Sg):=(244,⟨[(false,(.sl true T2)),(false,(.sl true T2))],[(false,.bool)],Dl⟩)::dC
theorem dF:TabOK Tryz.prog (AC pu dE):=AE dD ni
def kr:List (Nat×Nat×Nat×An):=[(214,6,18,.loop { keep:=[0,1,3,15,23,19,17,25,21,2,4,16,24,20,18,26,14],kb:=[0],pl:=[.slot 27 false (.int .i64),.slot 5 false (.int .i64)],ex:=[(.exit 0,[])],pay:=.unit })]
theorem nj (x:AG [(true,IR)]):Ab Tryz.prog (AC pu dE) (AI kr) 3000 60 214 [(true,IR)] [(false,(.int .i64))] x=Eh x:=by kernel_rfl
def dG:List (FuncId×Sg):=(214,⟨[(true,IR)],[(false,(.int .i64))],Eh⟩)::dE
theorem dH:TabOK Tryz.prog (AC pu dG):=AE dF nj
end Go.Proofs.YthpkjfabdccpdaaGreat.Pt
