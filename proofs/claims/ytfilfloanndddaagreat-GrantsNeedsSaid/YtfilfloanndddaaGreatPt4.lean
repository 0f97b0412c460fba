/- The evaluator comes to each of the plain functions. No condition. -/
import Derived.Test.YtfilfloanndddaaGreatPt3
set_option linter.all false
namespace Go.Proofs.YtfilfloanndddaaGreat.Pt
open Go Go.Proofs.YtfilfloanndddaaGreat.Sv Go.Proofs.YtfilfloanndddaaGreat.Pl
set_option maxRecDepth 1000000
set_option linter.unusedVariables false
theorem qn (x:AP [(true,T7)]):OE Tryz.prog (Ad pu jX) (Qq []) 3000 60 208 [(true,T7)] [zI,(false,.str),zI] x=Um x:=by kernel_rfl
def jZ:List (FuncId×Sg):=(208,⟨[(true,T7)],[zI,(false,.str),zI],Um⟩)::jX
theorem ja:TabOK Tryz.prog (Ad pu jZ):=R1 jY qn
theorem qz (x:AP [(false,.str)]):OE Tryz.prog (Ad pu jZ) (Qq []) 3000 60 225 [(false,.str)] [(false,.bool)] x=U1 x:=by kernel_rfl
def jc:List (FuncId×Sg):=(225,⟨[(false,.str)],[(false,.bool)],U1⟩)::jZ
theorem jd:TabOK Tryz.prog (Ad pu jc):=R1 ja qz
theorem qp (x:AP [(false,.str),(false,.str)]):OE Tryz.prog (Ad pu jc) (Qq []) 3000 60 210 [(false,.str),(false,.str)] [zI] x=Uk x:=by kernel_rfl
def je:List (FuncId×Sg):=(210,⟨[(false,.str),(false,.str)],[zI],Uk⟩)::jc
theorem jf:TabOK Tryz.prog (Ad pu je):=R1 jd qp
theorem q9 (x:AP [zI]):OE Tryz.prog (Ad pu je) (Qq []) 3000 60 226 [zI] [(false,.bool)] x=Vh x:=by kernel_rfl
def jg:List (FuncId×Sg):=(226,⟨[zI],[(false,.bool)],Vh⟩)::je
theorem jh:TabOK Tryz.prog (Ad pu jg):=R1 jf q9
theorem qq (x:AP [zI,zI]):OE Tryz.prog (Ad pu jg) (Qq []) 3000 60 211 [zI,zI] [zI] x=US x:=by kernel_rfl
def ji:List (FuncId×Sg):=(211,⟨[zI,zI],[zI],US⟩)::jg
theorem jj:TabOK Tryz.prog (Ad pu ji):=R1 jh qq
def nz:List (Nat×Nat×Nat×An):=[(209,3,5,.loop { keep:=[0,3,7,6],kb:=[],pl:=[.slot 2 false zJ,.slot 8 false zJ],ex:=[(.ret,[]),(.exit 0,[])],pay:=.unit })]
theorem qo (x:AP [(false,(.sl false zJ))]):OE Tryz.prog (Ad pu ji) (Qq nz) 3000 60 209 [(false,(.sl false zJ))] [zI] x=We x:=by kernel_rfl
def jk:List (FuncId×Sg):=(209,⟨[(false,(.sl false zJ))],[zI],We⟩)::ji
theorem jl:TabOK Tryz.prog (Ad pu jk):=R1 jj qo
def nj:List (Nat×Nat×Nat×An):=[(191,7,24,.loop { keep:=[0,1,15,31,23,19,27,5,17,25,13,29,4,16,24,12,28,18,26,14,22,30],kb:=[0],pl:=[.slot 3 false zJ,.slot 2 false zJ,.slot 32 false zJ],ex:=[(.ret,[]),(.exit 0,[])],pay:=.unit }),(191,18,49,.loop { keep:=[0,1,15,31,63,23,71,55,19,67,51,27,59,5,9,17,65,25,57,13,69,53,29,61,4,8,16,32,64,24,56,12,68,52,28,60,18,66,26,58,14,22,70,54,30,62],kb:=[0],pl:=[.slot 3 false zJ,.slot 2 false zJ,.slot 72 false zJ],ex:=[(.ret,[]),(.exit 2,[])],pay:=.unit })]
theorem qV (x:AP [(true,T9)]):OE Tryz.prog (Ad pu jk) (Qq nj) 3000 60 191 [(true,T9)] [zI,zI] x=VI x:=by kernel_rfl
def jm:List (FuncId×Sg):=(191,⟨[(true,T9)],[zI,zI],VI⟩)::jk
theorem jo:TabOK Tryz.prog (Ad pu jm):=R1 jl qV
theorem rO:L1 Tryz.prog (λf => !pu f) 1000 100 228=true:=by kernel_rfl
theorem rB (a:Ty.den zJ) (l:List (Ty.den zJ)):OE Tryz.prog (Ad pu jm) (Qq []) 3000 60 228 [(false,(.sl false zJ))] [(false,(.sl false zJ))] (a::l)=TW (a::l):=by kernel_rfl
def jp:List (FuncId×Sg):=(228,⟨[(false,(.sl false zJ))],[(false,(.sl false zJ))],TW⟩)::jm
theorem jq:TabOK Tryz.prog (Ad pu jp):=R2 (gg:=false) (c:=zJ) jo rO rfl rB
theorem rU:Oe Tryz.prog (λf => !pu f) 1000 100 228=true:=by kernel_rfl
theorem rf (a:Ty.den zJ) (l:List (Ty.den zJ)):PZ Tryz.prog (Ad pu jp) (Qq []) 3000 60 228 [(false,(.sl false zJ))] false zJ (a::l)=TW (a::l):=by kernel_rfl
def jr:List (FuncId×Sg):=(228+Cq,⟨[(false,(.sl false zJ))],[(false,(.sl false zJ))],TW⟩)::jp
theorem jt:TabOK Tryz.prog (Ad pu jr):=R3 (gg:=false) (c:=zJ) jq rU rfl (λa l y h=>Re h) rf
theorem rK (x:AP [zI,zI,(true,oS)]):PW Tryz.prog (Ad pu jr) (Qq []) 3000 60 239 [zI,zI,(true,oS)] [(false,.bool)] x=Tx x:=by kernel_rfl
def ju:List (FuncId×Sg):=(3145967,⟨[zI,zI,(true,oS)],[(false,.bool)],Tx⟩)::jr
theorem jv:TabOK Tryz.prog (Ad pu ju):=SH (f:=239) jt rK
def oB:List (Nat×Nat×Nat×An):=[(229,13,63,.loop { keep:=[0,1,3,7,31,63,47,55,11,19,35,51,27,43,59,9,17,33,49,25,41,57,13,21,37,53,29,61,2,4,8,32,24,40,56,12,20,36,52,28,44,60,6,18,34,50,26,42,58,14,38,54,30,46,62],kb:=[0,1,33,52],pl:=[.slot 5 false zJ,.slot 10 false zJ,.box 2 [.kp 33,.ow false zJ false,.lf zJ]],ex:=[(.exit 0,[])],pay:=.unit })]
theorem rC (x:AP [(true,T7),(true,T5)]):OE Tryz.prog (Ad pu ju) (Qq oB) 3000 60 229 [(true,T7),(true,T5)] [(true,T7),zI,zI] x=UX x:=by kernel_rfl
def jw:List (FuncId×Sg):=(229,⟨[(true,T7),(true,T5)],[(true,T7),zI,zI],UX⟩)::ju
theorem jx:TabOK Tryz.prog (Ad pu jw):=R1 jv rC
def nk:List (Nat×Nat×Nat×An):=[(227,0,45,.loop { keep:=[0,1],kb:=[39,35,43,9,13,44],pl:=[.box 0 [.ow true T2 false],.box 1 [.ow false zJ false]],ex:=[(.ret,[(44,0,none)])],pay:=.unit }),(207,3,47,.loop { keep:=[0,1,11,13,4,10,14],kb:=[0,1,39,27,13,30],pl:=[.slot 15 false zJ,.srow 5 true T5 true],ex:=[(.exit 0,[])],pay:=.unit }),(227,0,72,.loop { keep:=[0,1],kb:=[47,39,71,9,13,53,66,70,30],pl:=[.box 0 [.ow true T2 false],.box 1 [.ow false zJ false],.box 62 [.kp 30,.ow false zJ true,.lf (.sl true T5),.lf (.sl false zJ),.lf zJ]],ex:=[(.ret,[(71,0,none)])],pay:=.unit })]
theorem qW (x:AP [(false,(.sl false (.sl true T2)))]):OE Tryz.prog (Ad pu jw) (Qq nk) 3000 60 192 [(false,(.sl false (.sl true T2)))] [(false,(.sl true T2)),(false,(.sl false zJ)),zI] x=XF x:=by kernel_rfl
def jy:List (FuncId×Sg):=(192,⟨[(false,(.sl false (.sl true T2)))],[(false,(.sl true T2)),(false,(.sl false zJ)),zI],XF⟩)::jw
theorem jz:TabOK Tryz.prog (Ad pu jy):=R1 jx qW
theorem rD (x:AP [(true,ZQ)]):OE Tryz.prog (Ad pu jy) (Qq []) 3000 60 230 [(true,ZQ)] [zI] x=VV x:=by kernel_rfl
def j0:List (FuncId×Sg):=(230,⟨[(true,ZQ)],[zI],VV⟩)::jy
theorem j7:TabOK Tryz.prog (Ad pu j0):=R1 jz rD
theorem rL (x:AP [(true,T2)]):OE Tryz.prog (Ad pu j0) (Qq []) 3000 60 256 [(true,T2)] [(true,T2)] x=Tb x:=by kernel_rfl
def j8:List (FuncId×Sg):=(256,⟨[(true,T2)],[(true,T2)],Tb⟩)::j0
theorem j9:TabOK Tryz.prog (Ad pu j8):=R1 j7 rL
end Go.Proofs.YtfilfloanndddaaGreat.Pt
