/- The evaluator comes to each of the plain functions. No condition. -/
import Derived.Test.YtfilfloanndddaaGreatPt3
set_option linter.all false
namespace Go.Proofs.YtfilfloanndddaaGreat.Pt
open Go Go.Proofs.YtfilfloanndddaaGreat.Sv Go.Proofs.YtfilfloanndddaaGreat.Pl
set_option maxRecDepth 1000000
set_option linter.unusedVariables false
theorem sK (x:AP [(true,T7)]):OE Tryz.prog (Ad pu kQ) (Qq []) 3000 60 208 [(true,T7)] [zI,(false,.str),zI] x=Un x:=by kernel_rfl
def kT:List (FuncId×Sg):=(208,⟨[(true,T7)],[zI,(false,.str),zI],Un⟩)::kQ
theorem kU:TabOK Tryz.prog (Ad pu kT):=R1 kS sK
theorem sW (x:AP [(false,.str)]):OE Tryz.prog (Ad pu kT) (Qq []) 3000 60 225 [(false,.str)] [(false,.bool)] x=U4 x:=by kernel_rfl
def kV:List (FuncId×Sg):=(225,⟨[(false,.str)],[(false,.bool)],U4⟩)::kT
theorem kW:TabOK Tryz.prog (Ad pu kV):=R1 kU sW
theorem sN (x:AP [(false,.str),(false,.str)]):OE Tryz.prog (Ad pu kV) (Qq []) 3000 60 210 [(false,.str),(false,.str)] [zI] x=Uk x:=by kernel_rfl
def kX:List (FuncId×Sg):=(210,⟨[(false,.str),(false,.str)],[zI],Uk⟩)::kV
theorem kY:TabOK Tryz.prog (Ad pu kX):=R1 kW sN
theorem sX (x:AP [zI]):OE Tryz.prog (Ad pu kX) (Qq []) 3000 60 226 [zI] [(false,.bool)] x=Vs x:=by kernel_rfl
def kZ:List (FuncId×Sg):=(226,⟨[zI],[(false,.bool)],Vs⟩)::kX
theorem ka:TabOK Tryz.prog (Ad pu kZ):=R1 kY sX
theorem sO (x:AP [zI,zI]):OE Tryz.prog (Ad pu kZ) (Qq []) 3000 60 211 [zI,zI] [zI] x=UU x:=by kernel_rfl
def kc:List (FuncId×Sg):=(211,⟨[zI,zI],[zI],UU⟩)::kZ
theorem ke:TabOK Tryz.prog (Ad pu kc):=R1 ka sO
def pD:List (Nat×Nat×Nat×An):=[(209,3,5,.loop { keep:=[0,3,7,6],kb:=[],pl:=[.slot 2 false zJ,.slot 8 false zJ],ex:=[(.ret,[]),(.exit 0,[])],pay:=.unit })]
theorem sL (x:AP [(false,(.sl false zJ))]):OE Tryz.prog (Ad pu kc) (Qq pD) 3000 60 209 [(false,(.sl false zJ))] [zI] x=Wn x:=by kernel_rfl
def kg:List (FuncId×Sg):=(209,⟨[(false,(.sl false zJ))],[zI],Wn⟩)::kc
theorem kh:TabOK Tryz.prog (Ad pu kg):=R1 ke sL
def oz:List (Nat×Nat×Nat×An):=[(191,7,24,.loop { keep:=[0,1,15,31,23,19,27,5,17,25,13,29,4,16,24,12,28,18,26,14,22,30],kb:=[0],pl:=[.slot 3 false zJ,.slot 2 false zJ,.slot 32 false zJ],ex:=[(.ret,[]),(.exit 0,[])],pay:=.unit }),(191,18,49,.loop { keep:=[0,1,15,31,63,23,71,55,19,67,51,27,59,5,9,17,65,25,57,13,69,53,29,61,4,8,16,32,64,24,56,12,68,52,28,60,18,66,26,58,14,22,70,54,30,62],kb:=[0],pl:=[.slot 3 false zJ,.slot 2 false zJ,.slot 72 false zJ],ex:=[(.ret,[]),(.exit 2,[])],pay:=.unit })]
theorem rn (x:AP [(true,T9)]):OE Tryz.prog (Ad pu kg) (Qq oz) 3000 60 191 [(true,T9)] [zI,zI] x=VQ x:=by kernel_rfl
def ki:List (FuncId×Sg):=(191,⟨[(true,T9)],[zI,zI],VQ⟩)::kg
theorem kj:TabOK Tryz.prog (Ad pu ki):=R1 kh rn
theorem tA:L1 Tryz.prog (λf => !pu f) 1000 100 228=true:=by kernel_rfl
theorem sY (a:Ty.den zJ) (l:List (Ty.den zJ)):OE Tryz.prog (Ad pu ki) (Qq []) 3000 60 228 [(false,(.sl false zJ))] [(false,(.sl false zJ))] (a::l)=TW (a::l):=by kernel_rfl
def kl:List (FuncId×Sg):=(228,⟨[(false,(.sl false zJ))],[(false,(.sl false zJ))],TW⟩)::ki
theorem km:TabOK Tryz.prog (Ad pu kl):=R2 (gg:=false) (c:=zJ) kj tA rfl sY
theorem tF:Oe Tryz.prog (λf => !pu f) 1000 100 228=true:=by kernel_rfl
theorem tJ (a:Ty.den zJ) (l:List (Ty.den zJ)):PZ Tryz.prog (Ad pu kl) (Qq []) 3000 60 228 [(false,(.sl false zJ))] false zJ (a::l)=TW (a::l):=by kernel_rfl
def kn:List (FuncId×Sg):=(228+Cq,⟨[(false,(.sl false zJ))],[(false,(.sl false zJ))],TW⟩)::kl
theorem ko:TabOK Tryz.prog (Ad pu kn):=R3 (gg:=false) (c:=zJ) km tF rfl (λa l y h=>Re h) tJ
theorem su (x:AP [zI,zI,(true,pY)]):PW Tryz.prog (Ad pu kn) (Qq []) 3000 60 239 [zI,zI,(true,pY)] [(false,.bool)] x=UA x:=by kernel_rfl
def kq:List (FuncId×Sg):=(3145967,⟨[zI,zI,(true,pY)],[(false,.bool)],UA⟩)::kn
theorem kr:TabOK Tryz.prog (Ad pu kq):=SH (f:=239) ko su
def pF:List (Nat×Nat×Nat×An):=[(229,13,63,.loop { keep:=[0,1,3,7,31,63,47,55,11,19,35,51,27,43,59,9,17,33,49,25,41,57,13,21,37,53,29,61,2,4,8,32,24,40,56,12,20,36,52,28,44,60,6,18,34,50,26,42,58,14,38,54,30,46,62],kb:=[0,1,33,52],pl:=[.slot 5 false zJ,.slot 10 false zJ,.box 2 [.kp 33,.ow false zJ false,.lf zJ]],ex:=[(.exit 0,[])],pay:=.unit })]
theorem sZ (x:AP [(true,T7),(true,T5)]):OE Tryz.prog (Ad pu kq) (Qq pF) 3000 60 229 [(true,T7),(true,T5)] [(true,T7),zI,zI] x=UY x:=by kernel_rfl
def ks:List (FuncId×Sg):=(229,⟨[(true,T7),(true,T5)],[(true,T7),zI,zI],UY⟩)::kq
theorem ku:TabOK Tryz.prog (Ad pu ks):=R1 kr sZ
def o0:List (Nat×Nat×Nat×An):=[(227,0,45,.loop { keep:=[0,1],kb:=[39,35,43,9,13,44],pl:=[.box 0 [.ow true T2 false],.box 1 [.ow false zJ false]],ex:=[(.ret,[(44,0,none)])],pay:=.unit }),(207,3,47,.loop { keep:=[0,1,11,13,4,10,14],kb:=[0,1,39,27,13,30],pl:=[.slot 15 false zJ,.srow 5 true T5 true],ex:=[(.exit 0,[])],pay:=.unit }),(227,0,72,.loop { keep:=[0,1],kb:=[47,39,71,9,13,53,66,70,30],pl:=[.box 0 [.ow true T2 false],.box 1 [.ow false zJ false],.box 62 [.kp 30,.ow false zJ true,.lf (.sl true T5),.lf (.sl false zJ),.lf zJ]],ex:=[(.ret,[(71,0,none)])],pay:=.unit })]
theorem rp (x:AP [(false,(.sl false (.sl true T2)))]):OE Tryz.prog (Ad pu ks) (Qq o0) 3000 60 192 [(false,(.sl false (.sl true T2)))] [(false,(.sl true T2)),(false,(.sl false zJ)),zI] x=XO x:=by kernel_rfl
def kw:List (FuncId×Sg):=(192,⟨[(false,(.sl false (.sl true T2)))],[(false,(.sl true T2)),(false,(.sl false zJ)),zI],XO⟩)::ks
theorem ky:TabOK Tryz.prog (Ad pu kw):=R1 ku rp
theorem sc (x:AP [(true,Zm)]):OE Tryz.prog (Ad pu kw) (Qq []) 3000 60 230 [(true,Zm)] [zI] x=Vg x:=by kernel_rfl
def kz:List (FuncId×Sg):=(230,⟨[(true,Zm)],[zI],Vg⟩)::kw
theorem lA:TabOK Tryz.prog (Ad pu kz):=R1 ky sc
theorem sv (x:AP [(true,T2)]):OE Tryz.prog (Ad pu kz) (Qq []) 3000 60 256 [(true,T2)] [(true,T2)] x=Td x:=by kernel_rfl
def lB:List (FuncId×Sg):=(256,⟨[(true,T2)],[(true,T2)],Td⟩)::kz
theorem lC:TabOK Tryz.prog (Ad pu lB):=R1 lA sv
end Go.Proofs.YtfilfloanndddaaGreat.Pt
