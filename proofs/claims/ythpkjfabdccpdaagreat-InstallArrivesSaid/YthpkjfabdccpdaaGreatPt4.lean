/- The evaluator comes to each of the plain functions. No condition. -/
import Derived.Test.YthpkjfabdccpdaaGreatPt3
set_option linter.all false
namespace Go.Proofs.YthpkjfabdccpdaaGreat.Pt
open Go Go.Proofs.YthpkjfabdccpdaaGreat.Sv Go.Proofs.YthpkjfabdccpdaaGreat.Pl
set_option maxRecDepth 1000000
set_option linter.unusedVariables false
def jB:List (Nat×Nat×Nat×An):=[(224,4,9,.loop { keep:=[0,1,7,11,9,8,12,6,10],kb:=[],pl:=[.slot 13 false (.int .i64),.slot 4 false .bool],ex:=[(.ret,[]),(.exit 0,[])],pay:=.unit })]
theorem lU (x:AG [(false,(.sl true T5)),(false,(.sl true T5))]):Aa Tryz.prog (AB pu bV) (AH jB) 3000 60 224 [(false,(.sl true T5)),(false,(.sl true T5))] [(false,.bool)] x=Ah x:=by kernel_rfl
def bX:List (FuncId×Sg):=(224,⟨[(false,(.sl true T5)),(false,(.sl true T5))],[(false,.bool)],Ah⟩)::bV
theorem bY:TabOK Tryz.prog (AB pu bX):=AE bW lU
def jC:List (Nat×Nat×Nat×An):=[(223,4,9,.loop { keep:=[0,1,7,11,9,8,12,6,10],kb:=[],pl:=[.slot 13 false (.int .i64),.slot 4 false .bool],ex:=[(.ret,[]),(.exit 0,[])],pay:=.unit })]
theorem lV (x:AG [(false,(.sl false (.int .i64))),(false,(.sl false (.int .i64)))]):Aa Tryz.prog (AB pu bX) (AH jC) 3000 60 223 [(false,(.sl false (.int .i64))),(false,(.sl false (.int .i64)))] [(false,.bool)] x=Ac x:=by kernel_rfl
def bZ:List (FuncId×Sg):=(223,⟨[(false,(.sl false (.int .i64))),(false,(.sl false (.int .i64)))],[(false,.bool)],Ac⟩)::bX
theorem ba:TabOK Tryz.prog (AB pu bZ):=AE bY lV
theorem lW (x:AG [(true,T7),(true,T7)]):Aa Tryz.prog (AB pu bZ) (AH []) 3000 60 255 [(true,T7),(true,T7)] [(false,.bool)] x=ED x:=by kernel_rfl
def bc:List (FuncId×Sg):=(255,⟨[(true,T7),(true,T7)],[(false,.bool)],ED⟩)::bZ
theorem bf:TabOK Tryz.prog (AB pu bc):=AE ba lW
def jD:List (Nat×Nat×Nat×An):=[(284,8,25,.loop { keep:=[0,1,15,23,11,19,5,9,17,25,21,4,8,16,24,12,20,10,18,26,14,22],kb:=[0,19],pl:=[.slot 3 false (.int .i64),.slot 27 false (.int .i64),.slot 2 false (.int .i64)],ex:=[(.ret,[]),(.exit 0,[])],pay:=.unit })]
theorem lX (x:AG [(true,T7)]):Aa Tryz.prog (AB pu bc) (AH jD) 3000 60 284 [(true,T7)] [(false,(.int .i64)),(false,(.int .i64))] x=FC x:=by kernel_rfl
def bg:List (FuncId×Sg):=(284,⟨[(true,T7)],[(false,(.int .i64)),(false,(.int .i64))],FC⟩)::bc
theorem bh:TabOK Tryz.prog (AB pu bg):=AE bf lX
theorem lY (x:AG [(true,T7)]):Aa Tryz.prog (AB pu bg) (AH []) 3000 60 274 [(true,T7)] [(false,(.int .i64))] x=Ew x:=by kernel_rfl
def bj:List (FuncId×Sg):=(274,⟨[(true,T7)],[(false,(.int .i64))],Ew⟩)::bg
theorem bm:TabOK Tryz.prog (AB pu bj):=AE bh lY
theorem lZ (x:AG [(true,T7)]):Aa Tryz.prog (AB pu bj) (AH []) 3000 60 257 [(true,T7)] [(false,(.int .i64)),(false,.str),(false,(.int .i64))] x=CO x:=by kernel_rfl
def bn:List (FuncId×Sg):=(257,⟨[(true,T7)],[(false,(.int .i64)),(false,.str),(false,(.int .i64))],CO⟩)::bj
theorem bo:TabOK Tryz.prog (AB pu bn):=AE bm lZ
theorem ld (x:AG [(false,.str)]):Aa Tryz.prog (AB pu bn) (AH []) 3000 60 275 [(false,.str)] [(false,.bool)] x=Cr x:=by kernel_rfl
def bp:List (FuncId×Sg):=(275,⟨[(false,.str)],[(false,.bool)],Cr⟩)::bn
theorem bq:TabOK Tryz.prog (AB pu bp):=AE bo ld
theorem lg (x:AG [(false,.str),(false,.str)]):Aa Tryz.prog (AB pu bp) (AH []) 3000 60 259 [(false,.str),(false,.str)] [(false,(.int .i64))] x=CP x:=by kernel_rfl
def bu:List (FuncId×Sg):=(259,⟨[(false,.str),(false,.str)],[(false,(.int .i64))],CP⟩)::bp
theorem bw:TabOK Tryz.prog (AB pu bu):=AE bq lg
theorem lh (x:AG [(false,(.int .i64))]):Aa Tryz.prog (AB pu bu) (AH []) 3000 60 276 [(false,(.int .i64))] [(false,.bool)] x=D6 x:=by kernel_rfl
def bx:List (FuncId×Sg):=(276,⟨[(false,(.int .i64))],[(false,.bool)],D6⟩)::bu
theorem bz:TabOK Tryz.prog (AB pu bx):=AE bw lh
theorem lj (x:AG [(false,(.int .i64)),(false,(.int .i64))]):Aa Tryz.prog (AB pu bx) (AH []) 3000 60 260 [(false,(.int .i64)),(false,(.int .i64))] [(false,(.int .i64))] x=B9 x:=by kernel_rfl
def cA:List (FuncId×Sg):=(260,⟨[(false,(.int .i64)),(false,(.int .i64))],[(false,(.int .i64))],B9⟩)::bx
theorem cB:TabOK Tryz.prog (AB pu cA):=AE bz lj
def jE:List (Nat×Nat×Nat×An):=[(258,3,5,.loop { keep:=[0,3,7,6],kb:=[],pl:=[.slot 2 false (.int .i64),.slot 8 false (.int .i64)],ex:=[(.ret,[]),(.exit 0,[])],pay:=.unit })]
theorem lm (x:AG [(false,(.sl false (.int .i64)))]):Aa Tryz.prog (AB pu cA) (AH jE) 3000 60 258 [(false,(.sl false (.int .i64)))] [(false,(.int .i64))] x=Fs x:=by kernel_rfl
def cC:List (FuncId×Sg):=(258,⟨[(false,(.sl false (.int .i64)))],[(false,(.int .i64))],Fs⟩)::cA
theorem cD:TabOK Tryz.prog (AB pu cC):=AE cB lm
def jF:List (Nat×Nat×Nat×An):=[(240,7,24,.loop { keep:=[0,1,15,31,23,19,27,5,17,25,13,29,4,16,24,12,28,18,26,14,22,30],kb:=[0],pl:=[.slot 3 false (.int .i64),.slot 2 false (.int .i64),.slot 32 false (.int .i64)],ex:=[(.ret,[]),(.exit 0,[])],pay:=.unit }),(240,18,49,.loop { keep:=[0,1,15,31,63,23,71,55,19,67,51,27,59,5,9,17,65,25,57,13,69,53,29,61,4,8,16,32,64,24,56,12,68,52,28,60,18,66,26,58,14,22,70,54,30,62],kb:=[0],pl:=[.slot 3 false (.int .i64),.slot 2 false (.int .i64),.slot 72 false (.int .i64)],ex:=[(.ret,[]),(.exit 2,[])],pay:=.unit })]
theorem lq (x:AG [(true,T9)]):Aa Tryz.prog (AB pu cC) (AH jF) 3000 60 240 [(true,T9)] [(false,(.int .i64)),(false,(.int .i64))] x=DH x:=by kernel_rfl
def cE:List (FuncId×Sg):=(240,⟨[(true,T9)],[(false,(.int .i64)),(false,(.int .i64))],DH⟩)::cC
theorem cF:TabOK Tryz.prog (AB pu cE):=AE cD lq
theorem lr:K4 Tryz.prog (λf => !pu f) 1000 100 278=true:=by kernel_rfl
theorem lu (a:Ty.den (.int .i64)) (l:List (Ty.den (.int .i64))):Aa Tryz.prog (AB pu cE) (AH []) 3000 60 278 [(false,(.sl false (.int .i64)))] [(false,(.sl false (.int .i64)))] (a::l)=Au (a::l):=by kernel_rfl
def cG:List (FuncId×Sg):=(278,⟨[(false,(.sl false (.int .i64)))],[(false,(.sl false (.int .i64)))],Au⟩)::cE
theorem cI:TabOK Tryz.prog (AB pu cG):=Lx (gg:=false) (c:=(.int .i64)) cF lr rfl lu
theorem lw:Mj Tryz.prog (λf => !pu f) 1000 100 278=true:=by kernel_rfl
theorem lx (a:Ty.den (.int .i64)) (l:List (Ty.den (.int .i64))):N5 Tryz.prog (AB pu cG) (AH []) 3000 60 278 [(false,(.sl false (.int .i64)))] false (.int .i64) (a::l)=Au (a::l):=by kernel_rfl
def cJ:List (FuncId×Sg):=(278+Fc,⟨[(false,(.sl false (.int .i64)))],[(false,(.sl false (.int .i64)))],Au⟩)::cG
theorem cK:TabOK Tryz.prog (AB pu cJ):=Ly (gg:=false) (c:=(.int .i64)) cI lw rfl (λa l y h=>Lz h) lx
end Go.Proofs.YthpkjfabdccpdaaGreat.Pt
