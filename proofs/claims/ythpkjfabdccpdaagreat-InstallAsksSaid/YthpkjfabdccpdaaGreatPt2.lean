/- The evaluator comes to each of the plain functions. No condition. -/
import Derived.Test.YthpkjfabdccpdaaGreatPt1
set_option linter.all false
namespace Go.Proofs.YthpkjfabdccpdaaGreat.Pt
open Go Go.Proofs.YthpkjfabdccpdaaGreat.Sv Go.Proofs.YthpkjfabdccpdaaGreat.Pl
set_option maxRecDepth 1000000
set_option linter.all false
def an230:List (Nat×Nat×Nat×An):=[(230,4,12,.loop { keep:=[0,1,15,11,5,9,13,4,12,10,14],kb:=[0,3,8,6],pl:=[.slot 7 false (.int .i64),.srow 6 true T5 false],ex:=[(.exit 0,[])],pay:=.unit })]
theorem e230 (x:domDen [(false,(.sl false (.sl true T2))),(false,(.sl false (.int .i64)))]):runA Tryz.prog (mkTab pu tab27) (annGet an230) 3000 60 230 [(false,(.sl false (.sl true T2))),(false,(.sl false (.int .i64)))] [(true,T9)] x=g_ref11_state x:=by kernel_rfl
def tab28:List (FuncId×Sg):=(230,⟨[(false,(.sl false (.sl true T2))),(false,(.sl false (.int .i64)))],[(true,T9)],g_ref11_state⟩)::tab27
theorem tab28_ok:TabOK Tryz.prog (mkTab pu tab28):=tab_cons tab27_ok e230
theorem e226 (x:domDen [(false,(.sl false (.sl true T2)))]):runA Tryz.prog (mkTab pu tab28) (annGet []) 3000 60 226 [(false,(.sl false (.sl true T2)))] [(true,T9),(false,(.int .i64)),(false,(.int .i64))] x=g_ref11_Begin x:=by kernel_rfl
def tab29:List (FuncId×Sg):=(226,⟨[(false,(.sl false (.sl true T2)))],[(true,T9),(false,(.int .i64)),(false,(.int .i64))],g_ref11_Begin⟩)::tab28
theorem tab29_ok:TabOK Tryz.prog (mkTab pu tab29):=tab_cons tab28_ok e226
theorem e227 (x:domDen [(false,.bool)]):runA Tryz.prog (mkTab pu tab29) (annGet []) 3000 60 227 [(false,.bool)] [(true,T10)] x=g_ref12_Begin x:=by kernel_rfl
def tab30:List (FuncId×Sg):=(227,⟨[(false,.bool)],[(true,T10)],g_ref12_Begin⟩)::tab29
theorem tab30_ok:TabOK Tryz.prog (mkTab pu tab30):=tab_cons tab29_ok e227
theorem e190 (x:domDen [(false,(.sl false (.sl true T2))),(false,.bool)]):runA Tryz.prog (mkTab pu tab30) (annGet []) 3000 60 190 [(false,(.sl false (.sl true T2))),(false,.bool)] [(true,T13),(false,(.int .i64)),(false,(.int .i64))] x=g_ref13_Begin x:=by kernel_rfl
def tab31:List (FuncId×Sg):=(190,⟨[(false,(.sl false (.sl true T2))),(false,.bool)],[(true,T13),(false,(.int .i64)),(false,(.int .i64))],g_ref13_Begin⟩)::tab30
theorem tab31_ok:TabOK Tryz.prog (mkTab pu tab31):=tab_cons tab30_ok e190
theorem e116 (x:domDen [(true,T4),(false,(.int .i64)),(false,.bool)]):runA Tryz.prog (mkTab pu tab31) (annGet []) 3000 60 116 [(true,T4),(false,(.int .i64)),(false,.bool)] [(true,T14)] x=g_ref16_begun x:=by kernel_rfl
def tab32:List (FuncId×Sg):=(116,⟨[(true,T4),(false,(.int .i64)),(false,.bool)],[(true,T14)],g_ref16_begun⟩)::tab31
theorem tab32_ok:TabOK Tryz.prog (mkTab pu tab32):=tab_cons tab31_ok e116
def an86:List (Nat×Nat×Nat×An):=[(86,7,25,.loop { keep:=[0,1,3,7,15,23,11,5,17,25,13,21,2,4,8,16,24,12,20,6,10,26,14,22],kb:=[0,1],pl:=[.slot 9 false (.int .i64),.box 19 [.lf (.int .i64),.lf (.sl true (.sl true T3)),.ow true T14 false,.lf (.int .i64)]],ex:=[(.exit 0,[])],pay:=.unit })]
theorem e86 (x:domDen [(true,T4)]):runA Tryz.prog (mkTab pu tab32) (annGet an86) 3000 60 86 [(true,T4)] [(true,T16),(false,(.int .i64))] x=g_ref16_Of x:=by kernel_rfl
def tab33:List (FuncId×Sg):=(86,⟨[(true,T4)],[(true,T16),(false,(.int .i64))],g_ref16_Of⟩)::tab32
theorem tab33_ok:TabOK Tryz.prog (mkTab pu tab33):=tab_cons tab32_ok e86
theorem e235 (x:domDen [(false,.str)]):runA Tryz.prog (mkTab pu tab33) (annGet []) 3000 60 235 [(false,.str)] [(false,(.int .i64))] x=g_keys_Check x:=by kernel_rfl
def tab34:List (FuncId×Sg):=(235,⟨[(false,.str)],[(false,(.int .i64))],g_keys_Check⟩)::tab33
theorem tab34_ok:TabOK Tryz.prog (mkTab pu tab34):=tab_cons tab33_ok e235
theorem e204 (x:domDen [(true,T2)]):runA Tryz.prog (mkTab pu tab34) (annGet []) 3000 60 204 [(true,T2)] [(false,(.int .i64))] x=g_entries_Check x:=by kernel_rfl
def tab35:List (FuncId×Sg):=(204,⟨[(true,T2)],[(false,(.int .i64))],g_entries_Check⟩)::tab34
theorem tab35_ok:TabOK Tryz.prog (mkTab pu tab35):=tab_cons tab34_ok e204
def an184:List (Nat×Nat×Nat×An):=[(184,4,8,.loop { keep:=[0,7,11,9,8,10],kb:=[],pl:=[.slot 3 false (.int .i64),.slot 2 false (.int .i64),.slot 12 false (.int .i64)],ex:=[(.ret,[]),(.exit 0,[])],pay:=.unit })]
theorem e184 (x:domDen [(false,(.sl true T2))]):runA Tryz.prog (mkTab pu tab35) (annGet an184) 3000 60 184 [(false,(.sl true T2))] [(false,(.int .i64)),(false,(.int .i64))] x=g_entries_CheckList x:=by kernel_rfl
def tab36:List (FuncId×Sg):=(184,⟨[(false,(.sl true T2))],[(false,(.int .i64)),(false,(.int .i64))],g_entries_CheckList⟩)::tab35
theorem tab36_ok:TabOK Tryz.prog (mkTab pu tab36):=tab_cons tab35_ok e184
theorem e109 (x:domDen [(true,T3)]):runA Tryz.prog (mkTab pu tab36) (annGet []) 3000 60 109 [(true,T3)] [(false,(.int .i64)),(false,(.int .i64))] x=g_runs_Check x:=by kernel_rfl
def tab37:List (FuncId×Sg):=(109,⟨[(true,T3)],[(false,(.int .i64)),(false,(.int .i64))],g_runs_Check⟩)::tab36
theorem tab37_ok:TabOK Tryz.prog (mkTab pu tab37):=tab_cons tab36_ok e109
theorem e172 (x:domDen [(true,T3),(false,(.int .i64))]):runA Tryz.prog (mkTab pu tab37) (annGet []) 3000 60 172 [(true,T3),(false,(.int .i64))] [(false,(.int .i64))] x=g_levels_fits x:=by kernel_rfl
def tab38:List (FuncId×Sg):=(172,⟨[(true,T3),(false,(.int .i64))],[(false,(.int .i64))],g_levels_fits⟩)::tab37
theorem tab38_ok:TabOK Tryz.prog (mkTab pu tab38):=tab_cons tab37_ok e172
def an122:List (Nat×Nat×Nat×An):=[(122,8,26,.loop { keep:=[0,1,15,23,11,19,27,5,17,25,13,21,29,16,24,12,20,28,18,26,14,22],kb:=[0],pl:=[.slot 3 false (.int .i64),.slot 2 false (.int .i64),.slot 4 false (.int .i64),.slot 30 false (.int .i64),.map 18 (.int .i64) false .bool],ex:=[(.exit 1,[])],pay:=.unit }),(122,14,44,.loop { keep:=[0,1,7,15,31,23,39,11,19,35,27,5,17,33,25,41,13,21,37,29,2,16,32,24,40,12,20,36,28,6,18,34,26,42,14,22,38,30],kb:=[0,30],pl:=[.slot 3 false (.int .i64),.slot 43 false (.int .i64),.slot 4 false (.int .i64),.map 18 (.int .i64) false .bool],ex:=[(.exit 1,[]),(.exit 3,[])],pay:=.unit })]
theorem e122 (x:domDen [(true,T4)]):runA Tryz.prog (mkTab pu tab38) (annGet an122) 3000 60 122 [(true,T4)] [(false,(.int .i64)),(false,(.int .i64)),(false,(.int .i64))] x=g_levels_Check x:=by kernel_rfl
def tab39:List (FuncId×Sg):=(122,⟨[(true,T4)],[(false,(.int .i64)),(false,(.int .i64)),(false,(.int .i64))],g_levels_Check⟩)::tab38
theorem tab39_ok:TabOK Tryz.prog (mkTab pu tab39):=tab_cons tab38_ok e122
def an180:List (Nat×Nat×Nat×An):=[(180,2,6,.loop { keep:=[0,1,7,9,8],kb:=[0],pl:=[.slot 2 false (.int .i64),.slot 10 false (.int .i64)],ex:=[(.exit 0,[])],pay:=.unit }),(180,5,15,.loop { keep:=[0,1,7,15,11,9,13,4,8,16,12,10,14],kb:=[0,9],pl:=[.slot 17 false (.int .i64),.slot 2 false (.int .i64)],ex:=[(.exit 2,[])],pay:=.unit })]
theorem e180 (x:domDen [(true,T4)]):runA Tryz.prog (mkTab pu tab39) (annGet an180) 3000 60 180 [(true,T4)] [(false,(.int .i64))] x=g_jobs_greatest x:=by kernel_rfl
def tab40:List (FuncId×Sg):=(180,⟨[(true,T4)],[(false,(.int .i64))],g_jobs_greatest⟩)::tab39
theorem tab40_ok:TabOK Tryz.prog (mkTab pu tab40):=tab_cons tab39_ok e180
theorem e181 (x:domDen [(true,T4),(false,(.int .i64))]):runA Tryz.prog (mkTab pu tab40) (annGet []) 3000 60 181 [(true,T4),(false,(.int .i64))] [(false,.bool)] x=g_jobs_lowest x:=by kernel_rfl
def tab41:List (FuncId×Sg):=(181,⟨[(true,T4),(false,(.int .i64))],[(false,.bool)],g_jobs_lowest⟩)::tab40
theorem tab41_ok:TabOK Tryz.prog (mkTab pu tab41):=tab_cons tab40_ok e181
end Go.Proofs.YthpkjfabdccpdaaGreat.Pt
