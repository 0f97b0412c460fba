/- The evaluator comes to each of the plain functions. No condition. -/
import Derived.Test.YtfilfloanndddaaGreatPt3
set_option linter.all false
namespace Go.Proofs.YtfilfloanndddaaGreat.Pt
open Go Go.Proofs.YtfilfloanndddaaGreat.Sv Go.Proofs.YtfilfloanndddaaGreat.Pl
set_option maxRecDepth 1000000
set_option linter.unusedVariables false
theorem qp (x:AP [(true,T7)]):OE Tryz.prog (Ad pu jV) (Qq []) 3000 60 208 [(true,T7)] [zI,(false,.str),zI] x=Um x:=by kernel_rfl
def jX:List (FuncId×Sg):=(208,⟨[(true,T7)],[zI,(false,.str),zI],Um⟩)::jV
theorem jY:TabOK Tryz.prog (Ad pu jX):=R1 jW qp
theorem rB (x:AP [(false,.str)]):OE Tryz.prog (Ad pu jX) (Qq []) 3000 60 225 [(false,.str)] [(false,.bool)] x=U4 x:=by kernel_rfl
def jZ:List (FuncId×Sg):=(225,⟨[(false,.str)],[(false,.bool)],U4⟩)::jX
theorem ja:TabOK Tryz.prog (Ad pu jZ):=R1 jY rB
theorem qt (x:AP [(false,.str),(false,.str)]):OE Tryz.prog (Ad pu jZ) (Qq []) 3000 60 210 [(false,.str),(false,.str)] [zI] x=Uj x:=by kernel_rfl
def jc:List (FuncId×Sg):=(210,⟨[(false,.str),(false,.str)],[zI],Uj⟩)::jZ
theorem jd:TabOK Tryz.prog (Ad pu jc):=R1 ja qt
theorem rC (x:AP [zI]):OE Tryz.prog (Ad pu jc) (Qq []) 3000 60 226 [zI] [(false,.bool)] x=Vh x:=by kernel_rfl
def je:List (FuncId×Sg):=(226,⟨[zI],[(false,.bool)],Vh⟩)::jc
theorem jf:TabOK Tryz.prog (Ad pu je):=R1 jd rC
theorem qu (x:AP [zI,zI]):OE Tryz.prog (Ad pu je) (Qq []) 3000 60 211 [zI,zI] [zI] x=UV x:=by kernel_rfl
def jg:List (FuncId×Sg):=(211,⟨[zI,zI],[zI],UV⟩)::je
theorem jh:TabOK Tryz.prog (Ad pu jg):=R1 jf qu
def oE:List (Nat×Nat×Nat×An):=[(209,3,5,.loop { keep:=[0,3,7,6],kb:=[],pl:=[.slot 2 false zJ,.slot 8 false zJ],ex:=[(.ret,[]),(.exit 0,[])],pay:=.unit })]
theorem qq (x:AP [(false,(.sl false zJ))]):OE Tryz.prog (Ad pu jg) (Qq oE) 3000 60 209 [(false,(.sl false zJ))] [zI] x=Wh x:=by kernel_rfl
def ji:List (FuncId×Sg):=(209,⟨[(false,(.sl false zJ))],[zI],Wh⟩)::jg
theorem jj:TabOK Tryz.prog (Ad pu ji):=R1 jh qq
def nr:List (Nat×Nat×Nat×An):=[(191,7,24,.loop { keep:=[0,1,15,31,23,19,27,5,17,25,13,29,4,16,24,12,28,18,26,14,22,30],kb:=[0],pl:=[.slot 3 false zJ,.slot 2 false zJ,.slot 32 false zJ],ex:=[(.ret,[]),(.exit 0,[])],pay:=.unit }),(191,18,49,.loop { keep:=[0,1,15,31,63,23,71,55,19,67,51,27,59,5,9,17,65,25,57,13,69,53,29,61,4,8,16,32,64,24,56,12,68,52,28,60,18,66,26,58,14,22,70,54,30,62],kb:=[0],pl:=[.slot 3 false zJ,.slot 2 false zJ,.slot 72 false zJ],ex:=[(.ret,[]),(.exit 2,[])],pay:=.unit })]
theorem qX (x:AP [(true,T9)]):OE Tryz.prog (Ad pu ji) (Qq nr) 3000 60 191 [(true,T9)] [zI,zI] x=VN x:=by kernel_rfl
def jk:List (FuncId×Sg):=(191,⟨[(true,T9)],[zI,zI],VN⟩)::ji
theorem jl:TabOK Tryz.prog (Ad pu jk):=R1 jj qX
theorem rR:L1 Tryz.prog (λf => !pu f) 1000 100 228=true:=by kernel_rfl
theorem rD (a:Ty.den zJ) (l:List (Ty.den zJ)):OE Tryz.prog (Ad pu jk) (Qq []) 3000 60 228 [(false,(.sl false zJ))] [(false,(.sl false zJ))] (a::l)=TW (a::l):=by kernel_rfl
def jm:List (FuncId×Sg):=(228,⟨[(false,(.sl false zJ))],[(false,(.sl false zJ))],TW⟩)::jk
theorem jo:TabOK Tryz.prog (Ad pu jm):=R2 (gg:=false) (c:=zJ) jl rR rfl rD
theorem rV:Oe Tryz.prog (λf => !pu f) 1000 100 228=true:=by kernel_rfl
theorem ri (a:Ty.den zJ) (l:List (Ty.den zJ)):PZ Tryz.prog (Ad pu jm) (Qq []) 3000 60 228 [(false,(.sl false zJ))] false zJ (a::l)=TW (a::l):=by kernel_rfl
def jp:List (FuncId×Sg):=(228+Cq,⟨[(false,(.sl false zJ))],[(false,(.sl false zJ))],TW⟩)::jm
theorem jq:TabOK Tryz.prog (Ad pu jp):=R3 (gg:=false) (c:=zJ) jo rV rfl (λa l y h=>Re h) ri
theorem rM (x:AP [zI,zI,(true,oa)]):PW Tryz.prog (Ad pu jp) (Qq []) 3000 60 239 [zI,zI,(true,oa)] [(false,.bool)] x=UB x:=by kernel_rfl
def jr:List (FuncId×Sg):=(3145967,⟨[zI,zI,(true,oa)],[(false,.bool)],UB⟩)::jp
theorem jt:TabOK Tryz.prog (Ad pu jr):=SH (f:=239) jq rM
def oG:List (Nat×Nat×Nat×An):=[(229,13,63,.loop { keep:=[0,1,3,7,31,63,47,55,11,19,35,51,27,43,59,9,17,33,49,25,41,57,13,21,37,53,29,61,2,4,8,32,24,40,56,12,20,36,52,28,44,60,6,18,34,50,26,42,58,14,38,54,30,46,62],kb:=[0,1,33,52],pl:=[.slot 5 false zJ,.slot 10 false zJ,.box 2 [.kp 33,.ow false zJ false,.lf zJ]],ex:=[(.exit 0,[])],pay:=.unit })]
theorem rE (x:AP [(true,T7),(true,T5)]):OE Tryz.prog (Ad pu jr) (Qq oG) 3000 60 229 [(true,T7),(true,T5)] [(true,T7),zI,zI] x=Ua x:=by kernel_rfl
def ju:List (FuncId×Sg):=(229,⟨[(true,T7),(true,T5)],[(true,T7),zI,zI],Ua⟩)::jr
theorem jv:TabOK Tryz.prog (Ad pu ju):=R1 jt rE
def nu:List (Nat×Nat×Nat×An):=[(227,0,45,.loop { keep:=[0,1],kb:=[39,35,43,9,13,44],pl:=[.box 0 [.ow true T2 false],.box 1 [.ow false zJ false]],ex:=[(.ret,[(44,0,none)])],pay:=.unit }),(207,3,47,.loop { keep:=[0,1,11,13,4,10,14],kb:=[0,1,39,27,13,30],pl:=[.slot 15 false zJ,.srow 5 true T5 true],ex:=[(.exit 0,[])],pay:=.unit }),(227,0,72,.loop { keep:=[0,1],kb:=[47,39,71,9,13,53,66,70,30],pl:=[.box 0 [.ow true T2 false],.box 1 [.ow false zJ false],.box 62 [.kp 30,.ow false zJ true,.lf (.sl true T5),.lf (.sl false zJ),.lf zJ]],ex:=[(.ret,[(71,0,none)])],pay:=.unit })]
theorem qY (x:AP [(false,(.sl false (.sl true T2)))]):OE Tryz.prog (Ad pu ju) (Qq nu) 3000 60 192 [(false,(.sl false (.sl true T2)))] [(false,(.sl true T2)),(false,(.sl false zJ)),zI] x=XD x:=by kernel_rfl
def jw:List (FuncId×Sg):=(192,⟨[(false,(.sl false (.sl true T2)))],[(false,(.sl true T2)),(false,(.sl false zJ)),zI],XD⟩)::ju
theorem jx:TabOK Tryz.prog (Ad pu jw):=R1 jv qY
theorem rF (x:AP [(true,Zb)]):OE Tryz.prog (Ad pu jw) (Qq []) 3000 60 230 [(true,Zb)] [zI] x=VX x:=by kernel_rfl
def jy:List (FuncId×Sg):=(230,⟨[(true,Zb)],[zI],VX⟩)::jw
theorem jz:TabOK Tryz.prog (Ad pu jy):=R1 jx rF
theorem rN (x:AP [(true,T2)]):OE Tryz.prog (Ad pu jy) (Qq []) 3000 60 256 [(true,T2)] [(true,T2)] x=Td x:=by kernel_rfl
def j0:List (FuncId×Sg):=(256,⟨[(true,T2)],[(true,T2)],Td⟩)::jy
theorem j7:TabOK Tryz.prog (Ad pu j0):=R1 jz rN
end Go.Proofs.YtfilfloanndddaaGreat.Pt
