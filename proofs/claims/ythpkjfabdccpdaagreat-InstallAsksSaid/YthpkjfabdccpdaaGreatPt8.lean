/- The evaluator comes to each of the plain functions. No condition. -/
import Derived.Test.YthpkjfabdccpdaaGreatPt7
set_option linter.all false
namespace Go.Proofs.YthpkjfabdccpdaaGreat.Pt
open Go Go.Proofs.YthpkjfabdccpdaaGreat.Sv Go.Proofs.YthpkjfabdccpdaaGreat.Pl
set_option maxRecDepth 1000000
set_option linter.all false
def an234:List (Nat×Nat×Nat×An):=[(234,4,26,.loop { keep:=[0,1,3,7,15,23,11,19,27,9,17,25,13,21,2,8,16,24,12,20,6,10,18,26,14,22],kb:=[0,1],pl:=[.slot 5 false (.int .i64),.slot 4 false .bool],ex:=[(.ret,[]),(.exit 0,[])],pay:=.unit })]
theorem e234 (x:domDen [(true,T7),(true,T7)]):runA Tryz.prog (mkTab pu tab111) (annGet an234) 3000 60 234 [(true,T7),(true,T7)] [(false,.bool)] x=g_ref10_Same x:=by kernel_rfl
def tab112:List (FuncId×Sg):=(234,⟨[(true,T7),(true,T7)],[(false,.bool)],g_ref10_Same⟩)::tab111
theorem tab112_ok:TabOK Tryz.prog (mkTab pu tab112):=tab_cons tab111_ok e234
def an229:List (Nat×Nat×Nat×An):=[(229,3,3,.loop { keep:=[0,1,4],kb:=[],pl:=[.slot 5 false (.int .i64),.slot 6 false (.int .i64)],ex:=[(.exit 0,[])],pay:=.unit })]
theorem e229 (x:domDen [(false,(.sl false (.sl true T2))),(false,(.sl false (.int .i64)))]):runA Tryz.prog (mkTab pu tab112) (annGet an229) 3000 60 229 [(false,(.sl false (.sl true T2))),(false,(.sl false (.int .i64)))] [(false,(.int .i64))] x=g_ref11_first x:=by kernel_rfl
def tab113:List (FuncId×Sg):=(229,⟨[(false,(.sl false (.sl true T2))),(false,(.sl false (.int .i64)))],[(false,(.int .i64))],g_ref11_first⟩)::tab112
theorem tab113_ok:TabOK Tryz.prog (mkTab pu tab113):=tab_cons tab112_ok e229
def an228:List (Nat×Nat×Nat×An):=[(228,7,21,.loop { keep:=[0,1,15,23,11,27,5,17,25,13,21,4,16,24,12,18,26,14,22],kb:=[0],pl:=[.slot 3 false (.int .i64),.slot 2 false (.int .i64),.slot 6 false (.int .i64)],ex:=[(.ret,[]),(.exit 0,[])],pay:=.unit }),(228,15,38,.loop { keep:=[0,1,7,15,63,23,11,67,27,59,5,17,65,25,57,13,21,69,61,4,16,64,24,56,12,68,60,6,18,66,26,58,14,22,70,62],kb:=[0],pl:=[.slot 3 false (.int .i64),.slot 2 false (.int .i64),.slot 8 false (.int .i64)],ex:=[(.ret,[]),(.exit 2,[])],pay:=.unit })]
theorem e228 (x:domDen [(true,T9)]):runA Tryz.prog (mkTab pu tab113) (annGet an228) 3000 60 228 [(true,T9)] [(false,(.int .i64)),(false,(.int .i64))] x=g_ref11_Check x:=by kernel_rfl
def tab114:List (FuncId×Sg):=(228,⟨[(true,T9)],[(false,(.int .i64)),(false,(.int .i64))],g_ref11_Check⟩)::tab113
theorem tab114_ok:TabOK Tryz.prog (mkTab pu tab114):=tab_cons tab113_ok e228
def an193:List (Nat×Nat×Nat×An):=[(193,3,4,.loop { keep:=[0,1,2],kb:=[0],pl:=[.slot 3 false (.int .i64),.slot 4 false (.int .i64)],ex:=[(.exit 0,[])],pay:=.unit })]
theorem e193 (x:domDen [(true,T13)]):runA Tryz.prog (mkTab pu tab114) (annGet an193) 3000 60 193 [(true,T13)] [(false,(.int .i64))] x=g_ref13_read x:=by kernel_rfl
def tab115:List (FuncId×Sg):=(193,⟨[(true,T13)],[(false,(.int .i64))],g_ref13_read⟩)::tab114
theorem tab115_ok:TabOK Tryz.prog (mkTab pu tab115):=tab_cons tab114_ok e193
def an195:List (Nat×Nat×Nat×An):=[(195,7,18,.loop { keep:=[0,15,11,19,5,17,13,16,12,20,6,14],kb:=[],pl:=[.srow 3 false (.int .i64) false,.srow 7 true T2 false,.srow 2 true T2 false,.slot 4 false (.int .i64),.srow 8 false (.int .i64) false,.srow 9 false (.int .i64) true],ex:=[(.ret,[])],pay:=.unit,plx:=[.srow 3 false (.int .i64) false,.srow 2 true T2 false,.slot 4 false (.int .i64)] })]
theorem e195 (x:domDen [(false,(.sl false (.sl true T2)))]):runA Tryz.prog (mkTab pu tab115) (annGet an195) 3000 60 195 [(false,(.sl false (.sl true T2)))] [(false,(.sl true T2)),(false,(.sl false (.int .i64))),(false,(.int .i64))] x=g_ref11_All x:=by kernel_rfl
def tab116:List (FuncId×Sg):=(195,⟨[(false,(.sl false (.sl true T2)))],[(false,(.sl true T2)),(false,(.sl false (.int .i64))),(false,(.int .i64))],g_ref11_All⟩)::tab115
theorem tab116_ok:TabOK Tryz.prog (mkTab pu tab116):=tab_cons tab115_ok e195
theorem e271 (x:domDen [(true,T10)]):runA Tryz.prog (mkTab pu tab116) (annGet []) 3000 60 271 [(true,T10)] [(false,(.int .i64))] x=g_ref12_Check x:=by kernel_rfl
def tab117:List (FuncId×Sg):=(271,⟨[(true,T10)],[(false,(.int .i64))],g_ref12_Check⟩)::tab116
theorem tab117_ok:TabOK Tryz.prog (mkTab pu tab117):=tab_cons tab116_ok e271
theorem e251 (x:domDen [(true,T10),(true,T2)]):runA Tryz.prog (mkTab pu tab117) (annGet []) 3000 60 251 [(true,T10),(true,T2)] [(false,.bool),(true,T10),(false,(.int .i64))] x=g_ref12_Step x:=by kernel_rfl
def tab118:List (FuncId×Sg):=(251,⟨[(true,T10),(true,T2)],[(false,.bool),(true,T10),(false,(.int .i64))],g_ref12_Step⟩)::tab117
theorem tab118_ok:TabOK Tryz.prog (mkTab pu tab118):=tab_cons tab117_ok e251
def an232:List (Nat×Nat×Nat×An):=[(232,6,12,.loop { keep:=[0,1,7,15,17,13,16,14],kb:=[],pl:=[.slot 5 false (.int .i64),.slot 9 false (.int .i64),.srow 4 true T2 false,.srow 8 true T2 false,.slot 6 false (.int .i64),.box 8 [.lf .bool,.lf .str,.lf .bool]],ex:=[(.ret,[]),(.exit 0,[])],pay:=.unit })]
theorem e232 (x:domDen [(false,(.sl true T2)),(false,.bool)]):runA Tryz.prog (mkTab pu tab118) (annGet an232) 3000 60 232 [(false,(.sl true T2)),(false,.bool)] [(false,(.sl true T2)),(false,(.int .i64)),(false,(.int .i64))] x=g_ref12_Filter x:=by kernel_rfl
def tab119:List (FuncId×Sg):=(232,⟨[(false,(.sl true T2)),(false,.bool)],[(false,(.sl true T2)),(false,(.int .i64)),(false,(.int .i64))],g_ref12_Filter⟩)::tab118
theorem tab119_ok:TabOK Tryz.prog (mkTab pu tab119):=tab_cons tab118_ok e232
theorem e196 (x:domDen [(false,(.sl true T2)),(false,.bool)]):runA Tryz.prog (mkTab pu tab119) (annGet []) 3000 60 196 [(false,(.sl true T2)),(false,.bool)] [(false,(.sl true T2)),(true,T10)] x=g_ref13_behind x:=by kernel_rfl
def tab120:List (FuncId×Sg):=(196,⟨[(false,(.sl true T2)),(false,.bool)],[(false,(.sl true T2)),(true,T10)],g_ref13_behind⟩)::tab119
theorem tab120_ok:TabOK Tryz.prog (mkTab pu tab120):=tab_cons tab119_ok e196
def an198:List (Nat×Nat×Nat×An):=[(198,4,7,.loop { keep:=[0,1,7,9,8,6,10],kb:=[],pl:=[.slot 5 false (.int .i64),.slot 4 false .bool],ex:=[(.ret,[]),(.exit 0,[])],pay:=.unit })]
theorem e198 (x:domDen [(false,(.sl true T2)),(false,(.sl true T2))]):runA Tryz.prog (mkTab pu tab120) (annGet an198) 3000 60 198 [(false,(.sl true T2)),(false,(.sl true T2))] [(false,.bool)] x=g_ref11_SameEntries x:=by kernel_rfl
def tab121:List (FuncId×Sg):=(198,⟨[(false,(.sl true T2)),(false,(.sl true T2))],[(false,.bool)],g_ref11_SameEntries⟩)::tab120
theorem tab121_ok:TabOK Tryz.prog (mkTab pu tab121):=tab_cons tab120_ok e198
theorem e191 (x:domDen [(true,T13)]):runA Tryz.prog (mkTab pu tab121) (annGet []) 3000 60 191 [(true,T13)] [(false,(.int .i64))] x=g_ref13_Check x:=by kernel_rfl
def tab122:List (FuncId×Sg):=(191,⟨[(true,T13)],[(false,(.int .i64))],g_ref13_Check⟩)::tab121
theorem tab122_ok:TabOK Tryz.prog (mkTab pu tab122):=tab_cons tab121_ok e191
def an192:List (Nat×Nat×Nat×An):=[(192,6,14,.loop { keep:=[0,1,3,11,5,9,13,2,4,8,12,10,14],kb:=[0],pl:=[.slot 7 false (.int .i64),.slot 6 false (.int .i64)],ex:=[(.exit 0,[])],pay:=.unit })]
theorem e192 (x:domDen [(true,T9)]):runA Tryz.prog (mkTab pu tab122) (annGet an192) 3000 60 192 [(true,T9)] [(false,(.int .i64)),(false,(.int .i64))] x=g_ref11_Left x:=by kernel_rfl
def tab123:List (FuncId×Sg):=(192,⟨[(true,T9)],[(false,(.int .i64)),(false,(.int .i64))],g_ref11_Left⟩)::tab122
theorem tab123_ok:TabOK Tryz.prog (mkTab pu tab123):=tab_cons tab122_ok e192
theorem e117 (x:domDen [(true,T13)]):runA Tryz.prog (mkTab pu tab123) (annGet []) 3000 60 117 [(true,T13)] [(false,(.int .i64)),(false,(.int .i64))] x=g_ref13_Left x:=by kernel_rfl
def tab124:List (FuncId×Sg):=(117,⟨[(true,T13)],[(false,(.int .i64)),(false,(.int .i64))],g_ref13_Left⟩)::tab123
theorem tab124_ok:TabOK Tryz.prog (mkTab pu tab124):=tab_cons tab123_ok e117
theorem e194 (x:domDen [(true,T9)]):runA Tryz.prog (mkTab pu tab124) (annGet []) 3000 60 194 [(true,T9)] [(true,T2),(false,(.int .i64)),(true,T9),(false,(.int .i64))] x=g_ref11_Next x:=by kernel_rfl
def tab125:List (FuncId×Sg):=(194,⟨[(true,T9)],[(true,T2),(false,(.int .i64)),(true,T9),(false,(.int .i64))],g_ref11_Next⟩)::tab124
theorem tab125_ok:TabOK Tryz.prog (mkTab pu tab125):=tab_cons tab124_ok e194
end Go.Proofs.YthpkjfabdccpdaaGreat.Pt
