/- The evaluator comes to each of the plain functions. No condition. -/
import Derived.Test.YthpkjfabdccpdaaGreatPt4
set_option linter.all false
namespace Go.Proofs.YthpkjfabdccpdaaGreat.Pt
open Go Go.Proofs.YthpkjfabdccpdaaGreat.Sv Go.Proofs.YthpkjfabdccpdaaGreat.Pl
set_option maxRecDepth 1000000
set_option linter.unusedVariables false
def ie:List (Nat×Nat×Nat×An):=[(240,7,24,.loop { keep:=[0,1,15,31,23,19,27,5,17,25,13,29,4,16,24,12,28,18,26,14,22,30],kb:=[0],pl:=[.slot 3 false (.int .i64),.slot 2 false (.int .i64),.slot 32 false (.int .i64)],ex:=[(.ret,[]),(.exit 0,[])],pay:=.unit }),(240,18,49,.loop { keep:=[0,1,15,31,63,23,71,55,19,67,51,27,59,5,9,17,65,25,57,13,69,53,29,61,4,8,16,32,64,24,56,12,68,52,28,60,18,66,26,58,14,22,70,54,30,62],kb:=[0],pl:=[.slot 3 false (.int .i64),.slot 2 false (.int .i64),.slot 72 false (.int .i64)],ex:=[(.ret,[]),(.exit 2,[])],pay:=.unit })]
theorem lE (x:AE [(true,T9)]):Ab Tryz.prog (AB pu ba) (AI ie) 3000 60 240 [(true,T9)] [(false,(.int .i64)),(false,(.int .i64))] x=DC x:=by kernel_rfl
def bf:List (FuncId×Sg):=(240,⟨[(true,T9)],[(false,(.int .i64)),(false,(.int .i64))],DC⟩)::ba
theorem bg:TabOK Tryz.prog (AB pu bf):=AD bc lE
theorem lF:MY Tryz.prog (λf => !pu f) 1000 100 278=true:=by kernel_rfl
theorem lG (a:Ty.den (.int .i64)) (l:List (Ty.den (.int .i64))):Ab Tryz.prog (AB pu bf) (AI []) 3000 60 278 [(false,(.sl false (.int .i64)))] [(false,(.sl false (.int .i64)))] (a::l)=As (a::l):=by kernel_rfl
def bh:List (FuncId×Sg):=(278,⟨[(false,(.sl false (.int .i64)))],[(false,(.sl false (.int .i64)))],As⟩)::bf
theorem bj:TabOK Tryz.prog (AB pu bh):=OF (gg:=false) (c:=(.int .i64)) bg lF rfl lG
theorem lH:OG Tryz.prog (λf => !pu f) 1000 100 278=true:=by kernel_rfl
theorem lI (a:Ty.den (.int .i64)) (l:List (Ty.den (.int .i64))):PO Tryz.prog (AB pu bh) (AI []) 3000 60 278 [(false,(.sl false (.int .i64)))] false (.int .i64) (a::l)=As (a::l):=by kernel_rfl
def bm:List (FuncId×Sg):=(278+Gv,⟨[(false,(.sl false (.int .i64)))],[(false,(.sl false (.int .i64)))],As⟩)::bh
theorem bn:TabOK Tryz.prog (AB pu bm):=OH (gg:=false) (c:=(.int .i64)) bj lH rfl (λa l y h=>OI h) lI
theorem lJ (x:AE [(false,(.int .i64)),(false,(.int .i64)),(true,ja)]):Ru Tryz.prog (AB pu bm) (AI []) 3000 60 290 [(false,(.int .i64)),(false,(.int .i64)),(true,ja)] [(false,.bool)] x=BP x:=by kernel_rfl
def bo:List (FuncId×Sg):=(3146018,⟨[(false,(.int .i64)),(false,(.int .i64)),(true,ja)],[(false,.bool)],BP⟩)::bm
theorem bp:TabOK Tryz.prog (AB pu bo):=VS (f:=290) bn lJ
def ig:List (Nat×Nat×Nat×An):=[(279,13,63,.loop { keep:=[0,1,3,7,31,63,47,55,11,19,35,51,27,43,59,9,17,33,49,25,41,57,13,21,37,53,29,45,61,2,4,8,32,48,24,40,56,12,20,36,52,28,44,60,6,18,34,50,26,42,58,14,38,54,30,46,62],kb:=[0,1,33,52],pl:=[.slot 5 false (.int .i64),.slot 10 false (.int .i64),.box 2 [.kp 33,.ow false (.int .i64) false,.lf (.int .i64)]],ex:=[(.exit 0,[])],pay:=.unit })]
theorem lK (x:AE [(true,T7),(true,T5)]):Ab Tryz.prog (AB pu bo) (AI ig) 3000 60 279 [(true,T7),(true,T5)] [(true,T7),(false,(.int .i64)),(false,(.int .i64))] x=B5 x:=by kernel_rfl
def bq:List (FuncId×Sg):=(279,⟨[(true,T7),(true,T5)],[(true,T7),(false,(.int .i64)),(false,(.int .i64))],B5⟩)::bo
theorem bu:TabOK Tryz.prog (AB pu bq):=AD bp lK
def ii:List (Nat×Nat×Nat×An):=[(277,0,45,.loop { keep:=[0,1],kb:=[39,35,43,9,13,44],pl:=[.box 0 [.ow true T2 false],.box 1 [.ow false (.int .i64) false]],ex:=[(.ret,[(44,0,none)])],pay:=.unit }),(256,3,47,.loop { keep:=[0,1,11,13,4,12,10,14],kb:=[0,1,39,27,13,30],pl:=[.slot 15 false (.int .i64),.srow 5 true T5 true],ex:=[(.exit 0,[])],pay:=.unit }),(277,0,72,.loop { keep:=[0,1],kb:=[47,39,71,9,13,53,66,70,30],pl:=[.box 0 [.ow true T2 false],.box 1 [.ow false (.int .i64) false],.box 62 [.kp 30,.ow false (.int .i64) true,.lf (.sl true T5),.lf (.sl false (.int .i64)),.lf (.int .i64)]],ex:=[(.ret,[(71,0,none)])],pay:=.unit })]
theorem lL (x:AE [(false,(.sl false (.sl true T2)))]):Ab Tryz.prog (AB pu bq) (AI ii) 3000 60 241 [(false,(.sl false (.sl true T2)))] [(false,(.sl true T2)),(false,(.sl false (.int .i64))),(false,(.int .i64))] x=GY x:=by kernel_rfl
def bw:List (FuncId×Sg):=(241,⟨[(false,(.sl false (.sl true T2)))],[(false,(.sl true T2)),(false,(.sl false (.int .i64))),(false,(.int .i64))],GY⟩)::bq
theorem bx:TabOK Tryz.prog (AB pu bw):=AD bu lL
theorem lM (x:AE [(true,Og)]):Ab Tryz.prog (AB pu bw) (AI []) 3000 60 280 [(true,Og)] [(false,(.int .i64))] x=DW x:=by kernel_rfl
def bz:List (FuncId×Sg):=(280,⟨[(true,Og)],[(false,(.int .i64))],DW⟩)::bw
theorem cA:TabOK Tryz.prog (AB pu bz):=AD bx lM
theorem lN (x:AE [(true,T2)]):Ab Tryz.prog (AB pu bz) (AI []) 3000 60 307 [(true,T2)] [(true,T2)] x=A1 x:=by kernel_rfl
def cB:List (FuncId×Sg):=(307,⟨[(true,T2)],[(true,T2)],A1⟩)::bz
theorem cC:TabOK Tryz.prog (AB pu cB):=AD cA lN
def ij:List (Nat×Nat×Nat×An):=[(262,5,24,.loop { keep:=[0,1,15,19,17,2,8,16,20,18,14],kb:=[],pl:=[.slot 7 false (.int .i64),.slot 21 false (.int .i64),.slot 6 false (.int .i64),.box 19 [.lf .bool,.lf .str,.lf .bool],.box 0 [.ow true T2 false]],ex:=[(.ret,[]),(.exit 0,[])],pay:=.unit })]
theorem lO (x:AE [(false,(.sl true T2)),(false,.bool)]):Ab Tryz.prog (AB pu cB) (AI ij) 3000 60 242 [(false,(.sl true T2)),(false,.bool)] [(false,(.sl true T2)),(false,(.int .i64)),(false,(.int .i64))] x=Dz x:=by kernel_rfl
def cD:List (FuncId×Sg):=(242,⟨[(false,(.sl true T2)),(false,.bool)],[(false,(.sl true T2)),(false,(.int .i64)),(false,(.int .i64))],Dz⟩)::cB
theorem cE:TabOK Tryz.prog (AB pu cD):=AD cC lO
def ik:List (Nat×Nat×Nat×An):=[(244,4,9,.loop { keep:=[0,1,7,11,9,13,8,12,10],kb:=[],pl:=[.slot 4 false .bool,.slot 14 false (.int .i64)],ex:=[(.ret,[]),(.exit 0,[])],pay:=.unit })]
theorem lQ (x:AE [(false,(.sl true T2)),(false,(.sl true T2))]):Ab Tryz.prog (AB pu cD) (AI ik) 3000 60 244 [(false,(.sl true T2)),(false,(.sl true T2))] [(false,.bool)] x=DY x:=by kernel_rfl
def cF:List (FuncId×Sg):=(244,⟨[(false,(.sl true T2)),(false,(.sl true T2))],[(false,.bool)],DY⟩)::cD
theorem cG:TabOK Tryz.prog (AB pu cF):=AD cE lQ
def il:List (Nat×Nat×Nat×An):=[(214,6,18,.loop { keep:=[0,1,3,15,23,19,17,25,21,2,4,16,24,20,18,26,14],kb:=[0],pl:=[.slot 27 false (.int .i64),.slot 5 false (.int .i64)],ex:=[(.exit 0,[])],pay:=.unit })]
theorem lR (x:AE [(true,Ht)]):Ab Tryz.prog (AB pu cF) (AI il) 3000 60 214 [(true,Ht)] [(false,(.int .i64))] x=EO x:=by kernel_rfl
def cI:List (FuncId×Sg):=(214,⟨[(true,Ht)],[(false,(.int .i64))],EO⟩)::cF
theorem cJ:TabOK Tryz.prog (AB pu cI):=AD cG lR
def im:List (Nat×Nat×Nat×An):=[(215,6,17,.loop { keep:=[0,1,3,15,11,19,5,9,17,13,2,4,12,10,18,14],kb:=[0],pl:=[.slot 20 false (.int .i64),.slot 6 false (.int .i64)],ex:=[(.exit 0,[])],pay:=.unit })]
theorem lS (x:AE [(true,T9)]):Ab Tryz.prog (AB pu cI) (AI im) 3000 60 215 [(true,T9)] [(false,(.int .i64)),(false,(.int .i64))] x=Fl x:=by kernel_rfl
def cK:List (FuncId×Sg):=(215,⟨[(true,T9)],[(false,(.int .i64)),(false,(.int .i64))],Fl⟩)::cI
theorem cL:TabOK Tryz.prog (AB pu cK):=AD cJ lS
theorem lT (x:AE [(true,Ht)]):Ab Tryz.prog (AB pu cK) (AI []) 3000 60 167 [(true,Ht)] [(false,(.int .i64)),(false,(.int .i64))] x=Ba x:=by kernel_rfl
def cM:List (FuncId×Sg):=(167,⟨[(true,Ht)],[(false,(.int .i64)),(false,(.int .i64))],Ba⟩)::cK
theorem cN:TabOK Tryz.prog (AB pu cM):=AD cL lT
theorem lU (x:AE [(true,T9)]):Ab Tryz.prog (AB pu cM) (AI []) 3000 60 245 [(true,T9)] [(true,T2),(false,(.int .i64)),(true,T9),(false,(.int .i64))] x=Bn x:=by kernel_rfl
def cO:List (FuncId×Sg):=(245,⟨[(true,T9)],[(true,T2),(false,(.int .i64)),(true,T9),(false,(.int .i64))],Bn⟩)::cM
theorem cQ:TabOK Tryz.prog (AB pu cO):=AD cN lU
end Go.Proofs.YthpkjfabdccpdaaGreat.Pt
