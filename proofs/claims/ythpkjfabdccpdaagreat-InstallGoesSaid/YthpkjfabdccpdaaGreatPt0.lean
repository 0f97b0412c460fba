/- The evaluator comes to each of the plain functions. No condition. -/
import Derived.Test.YthpkjfabdccpdaaGreatPl3
import Derived.Test.YthpkjfabdccpdaaGreatProg
set_option linter.all false
namespace Go.Proofs.YthpkjfabdccpdaaGreat.Pt
open Go Go.Proofs.YthpkjfabdccpdaaGreat.Sv Go.Proofs.YthpkjfabdccpdaaGreat.Pl
set_option maxRecDepth 1000000
set_option linter.unusedVariables false
def pu (g:Nat):Bool:=[2,3,4,5,6,7,8,9,10,11,12,13,14,15,16,17,18,19,20,21,22,23,24,25,26,27,28,29,30,31,32,33,34,35,36,37,38,39,40,41,43,44,45,46,47,48,49,50,51,52,53,54,55,56,57,58,59,60,61,62,63,64,65,66,67,68,69,70,71,72,73,74,75,78,79,81,82,83,84,85,86,87,88,89,90,91,92,93,94,95,96,98,99,100,101,102,103,104,105,106,107,108,109,110,111,112,113,114,115,116,117,118,119,120,121,122,124,125,126,127,128,129,132,135,136,138,140,142,143,144,147,148,149,151,153,154,155,156,157,158,164,165,166,167,168,169,171,172,173,174,175,176,177,180,181,182,183,184,185,186,187,188,189,190,191,192,193,194,195,196,197,198,200,201,202,203,204,205,206,207,208,209,213,214,215,220,222,223,224,225,226,227,228,229,230,231,232,233,234,235,236,237,239,240,241,242,243,244,245,246,248,249,250,251,254,255,257,258,259,260,268,269,270,271,272,273,274,275,276,278,279,280,281,282,283,284,285,287,289,307,308,309].any (Nat.beq g)||Nat.ble 1048576 g
@[reducible] def T0:Ty:=.pair .bool (.int .i64)
@[reducible] def T1:Ty:=.pair .str T0
@[reducible] def T2:Ty:=.pair .str T1
@[reducible] def T3:Ty:=.pair (.int .i64) (.sl true T2)
@[reducible] def T4:Ty:=.pair (.int .i64) (.sl true (.sl true T3))
@[reducible] def T5:Ty:=.pair .str .bool
@[reducible] def T6:Ty:=.pair (.sl false (.int .i64)) (.int .i64)
@[reducible] def T7:Ty:=.pair (.sl true T5) T6
@[reducible] def T8:Ty:=.pair (.sl false (.int .i64)) T7
@[reducible] def T9:Ty:=.pair (.sl false (.sl true T2)) T8
@[reducible] def PN:Ty:=.pair .bool T5
@[reducible] def oH:Ty:=.pair (.sl true T2) (.int .i64)
@[reducible] def oI:Ty:=.pair PN oH
@[reducible] def IE:Ty:=.pair T9 oI
@[reducible] def Lb:Ty:=.pair (.int .i64) IE
@[reducible] def oJ:Ty:=.pair (.sl true Lb) (.int .i64)
@[reducible] def Ge:Ty:=.pair T4 oJ
@[reducible] def kw:Ty:=.pair (.sl true T5) .unit
@[reducible] def oK:Ty:=.pair Lb (.int .i64)
@[reducible] def Wj:Ty:=.pair Ge oK
def iq:List (FuncId×Sg):=[]
theorem gW:TabOK Tryz.prog (AC pu iq):=fx _ _
def jS:List (Nat×Nat×Nat×An):=[(188,2,2,.loop { keep:=[1,4],kb:=[],pl:=[.slot 0 false (.int .i64),.slot 5 false (.int .i64)],ex:=[(.exit 0,[])],pay:=.unit })]
theorem ky (x:AG [(false,(.int .i64)),(false,(.int .i64))]):Ac Tryz.prog (AC pu iq) (AI jS) 3000 60 188 [(false,(.int .i64)),(false,(.int .i64))] [(false,(.int .i64))] x=Ct x:=by kernel_rfl
def ir:List (FuncId×Sg):=(188,⟨[(false,(.int .i64)),(false,(.int .i64))],[(false,(.int .i64))],Ct⟩)::iq
theorem gX:TabOK Tryz.prog (AC pu ir):=AF gW ky
theorem kz (x:AG [(true,T2)]):Ac Tryz.prog (AC pu ir) (AI []) 3000 60 203 [(true,T2)] [(false,(.int .i64))] x=Dc x:=by kernel_rfl
def iu:List (FuncId×Sg):=(203,⟨[(true,T2)],[(false,(.int .i64))],Dc⟩)::ir
theorem gY:TabOK Tryz.prog (AC pu iu):=AF gX kz
def jT:List (Nat×Nat×Nat×An):=[(249,2,2,.loop { keep:=[0,1,4],kb:=[],pl:=[.slot 5 false (.int .i64)],ex:=[(.exit 0,[])],pay:=.unit })]
theorem lA (x:AG [(false,.str),(false,.str)]):Ac Tryz.prog (AC pu iu) (AI jT) 3000 60 249 [(false,.str),(false,.str)] [(false,(.int .i64))] x=Eh x:=by kernel_rfl
def iv:List (FuncId×Sg):=(249,⟨[(false,.str),(false,.str)],[(false,(.int .i64))],Eh⟩)::iu
theorem gZ:TabOK Tryz.prog (AC pu iv):=AF gY lA
theorem lB (x:AG [(false,.str),(false,.str)]):Ac Tryz.prog (AC pu iv) (AI []) 3000 60 225 [(false,.str),(false,.str)] [(false,(.int .i64))] x=EM x:=by kernel_rfl
def iw:List (FuncId×Sg):=(225,⟨[(false,.str),(false,.str)],[(false,(.int .i64))],EM⟩)::iv
theorem ga:TabOK Tryz.prog (AC pu iw):=AF gZ lB
def jU:List (Nat×Nat×Nat×An):=[(185,4,6,.loop { keep:=[0,7,8,6],kb:=[],pl:=[.slot 3 false (.int .i64),.slot 2 false (.int .i64),.slot 4 false (.int .i64)],ex:=[(.ret,[]),(.exit 0,[])],pay:=.unit })]
theorem lC (x:AG [(false,(.sl true T2))]):Ac Tryz.prog (AC pu iw) (AI jU) 3000 60 185 [(false,(.sl true T2))] [(false,(.int .i64)),(false,(.int .i64))] x=Cj x:=by kernel_rfl
def iy:List (FuncId×Sg):=(185,⟨[(false,(.sl true T2))],[(false,(.int .i64)),(false,(.int .i64))],Cj⟩)::iw
theorem gb:TabOK Tryz.prog (AC pu iy):=AF ga lC
theorem lD (x:AG [(true,T3)]):Ac Tryz.prog (AC pu iy) (AI []) 3000 60 110 [(true,T3)] [(false,(.int .i64)),(false,(.int .i64))] x=FH x:=by kernel_rfl
def i0:List (FuncId×Sg):=(110,⟨[(true,T3)],[(false,(.int .i64)),(false,(.int .i64))],FH⟩)::iy
theorem gf:TabOK Tryz.prog (AC pu i0):=AF gb lD
def jV:List (Nat×Nat×Nat×An):=[(187,9,21,.loop { keep:=[0,1,3,7,15,23,11,19,25,13,21,2,8,16,24,12,20,10,18,26,14,22],kb:=[0],pl:=[.slot 9 false (.int .i64),.slot 6 false (.int .i64)],ex:=[(.ret,[]),(.exit 0,[])],pay:=.unit })]
theorem lE (x:AG [(true,T3),(false,(.int .i64)),(false,(.sl false (.int .i64)))]):Ac Tryz.prog (AC pu i0) (AI jV) 3000 60 187 [(true,T3),(false,(.int .i64)),(false,(.sl false (.int .i64)))] [(false,(.int .i64))] x=Cu x:=by kernel_rfl
def i3:List (FuncId×Sg):=(187,⟨[(true,T3),(false,(.int .i64)),(false,(.sl false (.int .i64)))],[(false,(.int .i64))],Cu⟩)::i0
theorem gh:TabOK Tryz.prog (AC pu i3):=AF gf lE
def jW:List (Nat×Nat×Nat×An):=[(112,7,18,.loop { keep:=[0,1,15,11,19,17,13,21,16,12,20,10,18,14],kb:=[0],pl:=[.slot 3 false (.int .i64),.srow 5 false (.int .i64) false,.slot 2 false (.int .i64),.slot 4 false (.int .i64),.slot 6 false (.int .i64)],ex:=[(.ret,[]),(.exit 0,[])],pay:=.unit }),(112,13,35,.loop { keep:=[0,1,7,15,31,23,11,19,35,17,33,25,13,21,37,29,16,32,24,12,20,36,6,10,18,34,26,14,22,30],kb:=[0],pl:=[.slot 3 false (.int .i64),.srow 5 false (.int .i64) false,.slot 2 false (.int .i64),.slot 4 false (.int .i64),.slot 8 false (.int .i64)],ex:=[(.ret,[]),(.exit 2,[])],pay:=.unit })]
theorem lF (x:AG [(true,T4)]):Ac Tryz.prog (AC pu i3) (AI jW) 3000 60 112 [(true,T4)] [(false,(.int .i64)),(false,(.int .i64)),(false,(.int .i64))] x=CB x:=by kernel_rfl
def i4:List (FuncId×Sg):=(112,⟨[(true,T4)],[(false,(.int .i64)),(false,(.int .i64)),(false,(.int .i64))],CB⟩)::i3
theorem gi:TabOK Tryz.prog (AC pu i4):=AF gh lF
def jX:List (Nat×Nat×Nat×An):=[(120,6,16,.loop { keep:=[0,1,3,15,11,5,17,13,2,4,16,12,6,10,14],kb:=[0],pl:=[.srow 7 true T3 false,.slot 8 false (.int .i64)],ex:=[(.exit 0,[])],pay:=.unit }),(120,9,31,.loop { keep:=[0,1,3,15,31,23,11,19,27,5,17,33,13,21,29,2,4,8,16,32,12,20,28,6,10,26,14,22,30],kb:=[0],pl:=[.srow 7 true T3 false,.slot 9 false (.int .i64)],ex:=[(.exit 2,[])],pay:=.unit })]
theorem lG (x:AG [(true,T4)]):Ac Tryz.prog (AC pu i4) (AI jX) 3000 60 120 [(true,T4)] [(false,(.sl true T3)),(false,(.int .i64))] x=Dx x:=by kernel_rfl
def i5:List (FuncId×Sg):=(120,⟨[(true,T4)],[(false,(.sl true T3)),(false,(.int .i64))],Dx⟩)::i4
theorem gj:TabOK Tryz.prog (AC pu i5):=AF gi lG
def jY:List (Nat×Nat×Nat×An):=[(113,4,11,.loop { keep:=[0,1,3,7,11,9,2,4,8,10],kb:=[0],pl:=[.slot 5 false (.int .i64),.slot 6 false (.int .i64)],ex:=[(.exit 0,[])],pay:=.unit })]
theorem lH (x:AG [(true,T4)]):Ac Tryz.prog (AC pu i5) (AI jY) 3000 60 113 [(true,T4)] [(false,(.int .i64))] x=CP x:=by kernel_rfl
def aM:List (FuncId×Sg):=(113,⟨[(true,T4)],[(false,(.int .i64))],CP⟩)::i5
theorem aN:TabOK Tryz.prog (AC pu aM):=AF gj lH
def jZ:List (Nat×Nat×Nat×An):=[(114,3,4,.loop { keep:=[0,1,2],kb:=[0],pl:=[.srow 3 false (.int .i64) false,.slot 4 false (.int .i64)],ex:=[(.exit 0,[])],pay:=.unit })]
theorem lI (x:AG [(true,T4)]):Ac Tryz.prog (AC pu aM) (AI jZ) 3000 60 114 [(true,T4)] [(false,(.sl false (.int .i64)))] x=DU x:=by kernel_rfl
def aO:List (FuncId×Sg):=(114,⟨[(true,T4)],[(false,(.sl false (.int .i64)))],DU⟩)::aM
theorem aQ:TabOK Tryz.prog (AC pu aO):=AF aN lI
theorem lJ (x:AG [(true,T4),(false,(.int .i64))]):Ac Tryz.prog (AC pu aO) (AI []) 3000 60 186 [(true,T4),(false,(.int .i64))] [(false,(.int .i64))] x=Ha x:=by kernel_rfl
def aR:List (FuncId×Sg):=(186,⟨[(true,T4),(false,(.int .i64))],[(false,(.int .i64))],Ha⟩)::aO
theorem aS:TabOK Tryz.prog (AC pu aR):=AF aQ lJ
theorem lK (x:AG [(true,T4),(false,(.int .i64))]):Ac Tryz.prog (AC pu aR) (AI []) 3000 60 189 [(true,T4),(false,(.int .i64))] [(false,.bool),(false,(.int .i64))] x=Gl x:=by kernel_rfl
def aT:List (FuncId×Sg):=(189,⟨[(true,T4),(false,(.int .i64))],[(false,.bool),(false,(.int .i64))],Gl⟩)::aR
theorem aU:TabOK Tryz.prog (AC pu aT):=AF aS lK
end Go.Proofs.YthpkjfabdccpdaaGreat.Pt
