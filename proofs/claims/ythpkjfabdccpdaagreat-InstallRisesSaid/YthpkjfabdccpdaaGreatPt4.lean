/- The evaluator comes to each of the plain functions. No condition. -/
import Derived.Test.YthpkjfabdccpdaaGreatPt3
set_option linter.all false
namespace Go.Proofs.YthpkjfabdccpdaaGreat.Pt
open Go Go.Proofs.YthpkjfabdccpdaaGreat.Sv Go.Proofs.YthpkjfabdccpdaaGreat.Pl
set_option maxRecDepth 1000000
set_option linter.unusedVariables false
def iM:List (Nat×Nat×Nat×An):=[(224,4,9,.loop { keep:=[0,1,7,11,9,8,12,6,10],kb:=[],pl:=[.slot 13 false (.int .i64),.slot 4 false .bool],ex:=[(.ret,[]),(.exit 0,[])],pay:=.unit })]
theorem kM (x:AF [(false,(.sl true T5)),(false,(.sl true T5))]):Aj Tryz.prog (AC pu aY) (AK iM) 3000 60 224 [(false,(.sl true T5)),(false,(.sl true T5))] [(false,.bool)] x=Ah x:=by kernel_rfl
def aa:List (FuncId×Sg):=(224,⟨[(false,(.sl true T5)),(false,(.sl true T5))],[(false,.bool)],Ah⟩)::aY
theorem ab:TabOK Tryz.prog (AC pu aa):=AG aZ kM
def iN:List (Nat×Nat×Nat×An):=[(223,4,9,.loop { keep:=[0,1,7,11,9,8,12,6,10],kb:=[],pl:=[.slot 13 false (.int .i64),.slot 4 false .bool],ex:=[(.ret,[]),(.exit 0,[])],pay:=.unit })]
theorem kN (x:AF [(false,(.sl false (.int .i64))),(false,(.sl false (.int .i64)))]):Aj Tryz.prog (AC pu aa) (AK iN) 3000 60 223 [(false,(.sl false (.int .i64))),(false,(.sl false (.int .i64)))] [(false,.bool)] x=Ac x:=by kernel_rfl
def ac:List (FuncId×Sg):=(223,⟨[(false,(.sl false (.int .i64))),(false,(.sl false (.int .i64)))],[(false,.bool)],Ac⟩)::aa
theorem ad:TabOK Tryz.prog (AC pu ac):=AG ab kN
theorem kO (x:AF [(true,T7),(true,T7)]):Aj Tryz.prog (AC pu ac) (AK []) 3000 60 255 [(true,T7),(true,T7)] [(false,.bool)] x=D8 x:=by kernel_rfl
def ae:List (FuncId×Sg):=(255,⟨[(true,T7),(true,T7)],[(false,.bool)],D8⟩)::ac
theorem af:TabOK Tryz.prog (AC pu ae):=AG ad kO
def iO:List (Nat×Nat×Nat×An):=[(284,8,25,.loop { keep:=[0,1,15,23,11,19,5,9,17,25,21,4,8,16,24,12,20,10,18,26,14,22],kb:=[0,19],pl:=[.slot 3 false (.int .i64),.slot 27 false (.int .i64),.slot 2 false (.int .i64)],ex:=[(.ret,[]),(.exit 0,[])],pay:=.unit })]
theorem kP (x:AF [(true,T7)]):Aj Tryz.prog (AC pu ae) (AK iO) 3000 60 284 [(true,T7)] [(false,(.int .i64)),(false,(.int .i64))] x=Ey x:=by kernel_rfl
def ah:List (FuncId×Sg):=(284,⟨[(true,T7)],[(false,(.int .i64)),(false,(.int .i64))],Ey⟩)::ae
theorem ai:TabOK Tryz.prog (AC pu ah):=AG af kP
theorem kQ (x:AF [(true,T7)]):Aj Tryz.prog (AC pu ah) (AK []) 3000 60 274 [(true,T7)] [(false,(.int .i64))] x=Ej x:=by kernel_rfl
def aj:List (FuncId×Sg):=(274,⟨[(true,T7)],[(false,(.int .i64))],Ej⟩)::ah
theorem ak:TabOK Tryz.prog (AC pu aj):=AG ai kQ
theorem kS (x:AF [(true,T7)]):Aj Tryz.prog (AC pu aj) (AK []) 3000 60 257 [(true,T7)] [(false,(.int .i64)),(false,.str),(false,(.int .i64))] x=CP x:=by kernel_rfl
def al:List (FuncId×Sg):=(257,⟨[(true,T7)],[(false,(.int .i64)),(false,.str),(false,(.int .i64))],CP⟩)::aj
theorem am:TabOK Tryz.prog (AC pu al):=AG ak kS
theorem kT (x:AF [(false,.str)]):Aj Tryz.prog (AC pu al) (AK []) 3000 60 275 [(false,.str)] [(false,.bool)] x=Cz x:=by kernel_rfl
def an:List (FuncId×Sg):=(275,⟨[(false,.str)],[(false,.bool)],Cz⟩)::al
theorem ao:TabOK Tryz.prog (AC pu an):=AG am kT
theorem kU (x:AF [(false,.str),(false,.str)]):Aj Tryz.prog (AC pu an) (AK []) 3000 60 259 [(false,.str),(false,.str)] [(false,(.int .i64))] x=CQ x:=by kernel_rfl
def ap:List (FuncId×Sg):=(259,⟨[(false,.str),(false,.str)],[(false,(.int .i64))],CQ⟩)::an
theorem aq:TabOK Tryz.prog (AC pu ap):=AG ao kU
theorem kV (x:AF [(false,(.int .i64))]):Aj Tryz.prog (AC pu ap) (AK []) 3000 60 276 [(false,(.int .i64))] [(false,.bool)] x=D2 x:=by kernel_rfl
def au:List (FuncId×Sg):=(276,⟨[(false,(.int .i64))],[(false,.bool)],D2⟩)::ap
theorem aw:TabOK Tryz.prog (AC pu au):=AG aq kV
theorem kW (x:AF [(false,(.int .i64)),(false,(.int .i64))]):Aj Tryz.prog (AC pu au) (AK []) 3000 60 260 [(false,(.int .i64)),(false,(.int .i64))] [(false,(.int .i64))] x=B8 x:=by kernel_rfl
def ax:List (FuncId×Sg):=(260,⟨[(false,(.int .i64)),(false,(.int .i64))],[(false,(.int .i64))],B8⟩)::au
theorem ay:TabOK Tryz.prog (AC pu ax):=AG aw kW
def iQ:List (Nat×Nat×Nat×An):=[(258,3,5,.loop { keep:=[0,3,7,6],kb:=[],pl:=[.slot 2 false (.int .i64),.slot 8 false (.int .i64)],ex:=[(.ret,[]),(.exit 0,[])],pay:=.unit })]
theorem kX (x:AF [(false,(.sl false (.int .i64)))]):Aj Tryz.prog (AC pu ax) (AK iQ) 3000 60 258 [(false,(.sl false (.int .i64)))] [(false,(.int .i64))] x=Fh x:=by kernel_rfl
def az:List (FuncId×Sg):=(258,⟨[(false,(.sl false (.int .i64)))],[(false,(.int .i64))],Fh⟩)::ax
theorem bA:TabOK Tryz.prog (AC pu az):=AG ay kX
def iR:List (Nat×Nat×Nat×An):=[(240,7,24,.loop { keep:=[0,1,15,31,23,19,27,5,17,25,13,29,4,16,24,12,28,18,26,14,22,30],kb:=[0],pl:=[.slot 3 false (.int .i64),.slot 2 false (.int .i64),.slot 32 false (.int .i64)],ex:=[(.ret,[]),(.exit 0,[])],pay:=.unit }),(240,18,49,.loop { keep:=[0,1,15,31,63,23,71,55,19,67,51,27,59,5,9,17,65,25,57,13,69,53,29,61,4,8,16,32,64,24,56,12,68,52,28,60,18,66,26,58,14,22,70,54,30,62],kb:=[0],pl:=[.slot 3 false (.int .i64),.slot 2 false (.int .i64),.slot 72 false (.int .i64)],ex:=[(.ret,[]),(.exit 2,[])],pay:=.unit })]
theorem kY (x:AF [(true,T9)]):Aj Tryz.prog (AC pu az) (AK iR) 3000 60 240 [(true,T9)] [(false,(.int .i64)),(false,(.int .i64))] x=DO x:=by kernel_rfl
def bB:List (FuncId×Sg):=(240,⟨[(true,T9)],[(false,(.int .i64)),(false,(.int .i64))],DO⟩)::az
theorem bC:TabOK Tryz.prog (AC pu bB):=AG bA kY
theorem kZ:K9 Tryz.prog (λf => !pu f) 1000 100 278=true:=by kernel_rfl
theorem ka (a:Ty.den (.int .i64)) (l:List (Ty.den (.int .i64))):Aj Tryz.prog (AC pu bB) (AK []) 3000 60 278 [(false,(.sl false (.int .i64)))] [(false,(.sl false (.int .i64)))] (a::l)=As (a::l):=by kernel_rfl
def bD:List (FuncId×Sg):=(278,⟨[(false,(.sl false (.int .i64)))],[(false,(.sl false (.int .i64)))],As⟩)::bB
theorem bE:TabOK Tryz.prog (AC pu bD):=L0 (gg:=false) (c:=(.int .i64)) bC kZ rfl ka
theorem kc:Mt Tryz.prog (λf => !pu f) 1000 100 278=true:=by kernel_rfl
theorem ke (a:Ty.den (.int .i64)) (l:List (Ty.den (.int .i64))):OF Tryz.prog (AC pu bD) (AK []) 3000 60 278 [(false,(.sl false (.int .i64)))] false (.int .i64) (a::l)=As (a::l):=by kernel_rfl
def bF:List (FuncId×Sg):=(278+FP,⟨[(false,(.sl false (.int .i64)))],[(false,(.sl false (.int .i64)))],As⟩)::bD
theorem bG:TabOK Tryz.prog (AC pu bF):=L1 (gg:=false) (c:=(.int .i64)) bE kc rfl (λa l y h=>L3 h) ke
end Go.Proofs.YthpkjfabdccpdaaGreat.Pt
