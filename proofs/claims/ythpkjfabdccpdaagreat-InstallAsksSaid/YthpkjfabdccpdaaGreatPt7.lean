/- The evaluator comes to each of the plain functions. No condition. -/
import Derived.Test.YthpkjfabdccpdaaGreatPt6
set_option linter.all false
namespace Go.Proofs.YthpkjfabdccpdaaGreat.Pt
open Go Go.Proofs.YthpkjfabdccpdaaGreat.Sv Go.Proofs.YthpkjfabdccpdaaGreat.Pl
set_option maxRecDepth 1000000
set_option linter.all false
theorem e100 (x:domDen [(true,T16),(false,(.int .i64)),(false,(.int .i64))]):runA Tryz.prog (mkTab pu tab97) (annGet []) 3000 60 100 [(true,T16),(false,(.int .i64)),(false,(.int .i64))] [(true,T16),(false,(.int .i64)),(false,(.int .i64))] x=g_jobs_Read x:=by kernel_rfl
def tab98:List (FuncId×Sg):=(100,⟨[(true,T16),(false,(.int .i64)),(false,(.int .i64))],[(true,T16),(false,(.int .i64)),(false,(.int .i64))],g_jobs_Read⟩)::tab97
theorem tab98_ok:TabOK Tryz.prog (mkTab pu tab98):=tab_cons tab97_ok e100
def an171:List (Nat×Nat×Nat×An):=[(171,5,30,.loop { keep:=[0,1,3,7,15,31,23,11,19,27,9,17,25,13,21,29,2,16,32,24,12,20,28,6,10,18,26,14,22,30],kb:=[0,1,12,10],pl:=[.slot 8 false (.int .i64)],ex:=[(.exit 0,[])],pay:=.unit })]
theorem e171 (x:domDen [(true,T4),(false,(.int .i64)),(false,(.sl true T3))]):runA Tryz.prog (mkTab pu tab98) (annGet an171) 3000 60 171 [(true,T4),(false,(.int .i64)),(false,(.sl true T3))] [(true,T4)] x=g_levels_with x:=by kernel_rfl
def tab99:List (FuncId×Sg):=(171,⟨[(true,T4),(false,(.int .i64)),(false,(.sl true T3))],[(true,T4)],g_levels_with⟩)::tab98
theorem tab99_ok:TabOK Tryz.prog (mkTab pu tab99):=tab_cons tab98_ok e171
theorem e91 (x:domDen [(true,T4),(false,(.int .i64))]):runA Tryz.prog (mkTab pu tab99) (annGet []) 3000 60 91 [(true,T4),(false,(.int .i64))] [(true,T4),(false,(.sl true T3)),(false,(.int .i64))] x=g_levels_Leave x:=by kernel_rfl
def tab100:List (FuncId×Sg):=(91,⟨[(true,T4),(false,(.int .i64))],[(true,T4),(false,(.sl true T3)),(false,(.int .i64))],g_levels_Leave⟩)::tab99
theorem tab100_ok:TabOK Tryz.prog (mkTab pu tab100):=tab_cons tab99_ok e91
def an93:List (Nat×Nat×Nat×An):=[(199,1,31,.loop { keep:=[0,1,7,8,6],kb:=[0,1,25,21,26],pl:=[.slot 9 false (.int .i64),.box 2 [.lf (.int .i64),.ow true (.sl true T3) false],.box 3 [.lf (.int .i64)]],ex:=[(.exit 0,[(26,0,none)]),(.ret,[(26,2,some .ret)])],pay:=.unit }),(199,4,41,.loop { keep:=[0,1,7,15,11,9,13,4,8,16,12,6,10,14],kb:=[0,1,3,25,21,34,26],pl:=[.slot 5 false (.int .i64),.box 2 [.lf (.int .i64),.ow true (.sl true T3) false]],ex:=[(.exit 2,[(26,0,none)])],pay:=.unit }),(199,4,42,.loop { keep:=[0,1,7,15,11,9,13,4,8,16,12,6,10,14],kb:=[0,1,35,25,21,26],pl:=[.slot 5 false (.int .i64),.box 2 [.lf (.int .i64),.ow true (.sl true T3) false],.box 3 [.lf (.int .i64)]],ex:=[(.exit 2,[(26,0,none)]),(.ret,[(26,2,some .ret)])],pay:=.unit })]
theorem e93 (x:domDen [(true,T4),(false,(.int .i64)),(true,T3)]):runA Tryz.prog (mkTab pu tab100) (annGet an93) 3000 60 93 [(true,T4),(false,(.int .i64)),(true,T3)] [(true,T4),(false,(.int .i64))] x=g_levels_Arrive x:=by kernel_rfl
def tab101:List (FuncId×Sg):=(93,⟨[(true,T4),(false,(.int .i64)),(true,T3)],[(true,T4),(false,(.int .i64))],g_levels_Arrive⟩)::tab100
theorem tab101_ok:TabOK Tryz.prog (mkTab pu tab101):=tab_cons tab100_ok e93
theorem e173 (x:domDen [(true,T4),(false,(.int .i64))]):runA Tryz.prog (mkTab pu tab101) (annGet []) 3000 60 173 [(true,T4),(false,(.int .i64))] [(true,T14),(false,(.int .i64))] x=g_jobs_Begin x:=by kernel_rfl
def tab102:List (FuncId×Sg):=(173,⟨[(true,T4),(false,(.int .i64))],[(true,T14),(false,(.int .i64))],g_jobs_Begin⟩)::tab101
theorem tab102_ok:TabOK Tryz.prog (mkTab pu tab102):=tab_cons tab101_ok e173
def an94:List (Nat×Nat×Nat×An):=[(94,3,10,.loop { keep:=[0,1,3,19,5,9,21,2,4,8,20,10,22],kb:=[0,1,2],pl:=[.slot 23 false (.int .i64),.map 4 (.int .i64) true T14],ex:=[(.exit 0,[])],pay:=.unit }),(94,10,22,.loop { keep:=[0,1,3,23,39,19,35,5,33,13,21,37,2,4,8,32,20,36,10,34,22,38],kb:=[0,1,4],pl:=[.slot 9 false (.int .i64),.slot 40 false (.int .i64),.box 2 [.lf (.int .i64),.ow true (.sl true T3) false,.ow true T14 false,.lf (.int .i64)],.box 16 [.lf (.int .i64),.lf (.sl true (.sl true T3)),.ow true T14 false,.lf (.int .i64)]],ex:=[(.exit 2,[]),(.ret,[])],pay:=.unit })]
theorem e94 (x:domDen [(true,T16),(true,T4),(false,(.int .i64)),(false,(.int .i64))]):runA Tryz.prog (mkTab pu tab102) (annGet an94) 3000 60 94 [(true,T16),(true,T4),(false,(.int .i64)),(false,(.int .i64))] [(true,T16),(false,(.int .i64))] x=g_install_with x:=by kernel_rfl
def tab103:List (FuncId×Sg):=(94,⟨[(true,T16),(true,T4),(false,(.int .i64)),(false,(.int .i64))],[(true,T16),(false,(.int .i64))],g_install_with⟩)::tab102
theorem tab103_ok:TabOK Tryz.prog (mkTab pu tab103):=tab_cons tab102_ok e94
theorem e24 (x:domDen [(true,T16),(false,(.int .i64))]):runA Tryz.prog (mkTab pu tab103) (annGet []) 3000 60 24 [(true,T16),(false,(.int .i64))] [(true,T16),(false,(.int .i64))] x=g_install_Install x:=by kernel_rfl
def tab104:List (FuncId×Sg):=(24,⟨[(true,T16),(false,(.int .i64))],[(true,T16),(false,(.int .i64))],g_install_Install⟩)::tab103
theorem tab104_ok:TabOK Tryz.prog (mkTab pu tab104):=tab_cons tab103_ok e24
theorem e27 (x:domDen [(true,T16),(false,(.int .i64))]):runA Tryz.prog (mkTab pu tab104) (annGet []) 3000 60 27 [(true,T16),(false,(.int .i64))] [(true,T16),(false,.bool),(false,(.int .i64))] x=g_install_Step x:=by kernel_rfl
def tab105:List (FuncId×Sg):=(27,⟨[(true,T16),(false,(.int .i64))],[(true,T16),(false,.bool),(false,(.int .i64))],g_install_Step⟩)::tab104
theorem tab105_ok:TabOK Tryz.prog (mkTab pu tab105):=tab_cons tab104_ok e27
theorem e31 (x:domDen [(true,T16),(false,(.int .i64))]):runA Tryz.prog (mkTab pu tab105) (annGet []) 3000 60 31 [(true,T16),(false,(.int .i64))] [(false,(.int .i64)),(false,(.int .i64))] x=g_install_Target x:=by kernel_rfl
def tab106:List (FuncId×Sg):=(31,⟨[(true,T16),(false,(.int .i64))],[(false,(.int .i64)),(false,(.int .i64))],g_install_Target⟩)::tab105
theorem tab106_ok:TabOK Tryz.prog (mkTab pu tab106):=tab_cons tab105_ok e31
def an105:List (Nat×Nat×Nat×An):=[(219,1,35,.loop { keep:=[0,1,7,5,6],kb:=[0,29,18,30],pl:=[.slot 8 false (.int .i64),.box 26 [.ow false (.int .i64) false]],ex:=[(.exit 0,[(30,0,none)])],pay:=.unit })]
theorem e105 (x:domDen [(true,T16)]):runA Tryz.prog (mkTab pu tab106) (annGet an105) 3000 60 105 [(true,T16)] [(false,(.sl false (.int .i64))),(false,(.int .i64))] x=g_jobs_Pending x:=by kernel_rfl
def tab107:List (FuncId×Sg):=(105,⟨[(true,T16)],[(false,(.sl false (.int .i64))),(false,(.int .i64))],g_jobs_Pending⟩)::tab106
theorem tab107_ok:TabOK Tryz.prog (mkTab pu tab107):=tab_cons tab106_ok e105
def an33:List (Nat×Nat×Nat×An):=[(33,8,21,.loop { keep:=[0,1,15,23,11,19,17,13,21,4,16,24,12,20,10,14,22],kb:=[0],pl:=[.slot 3 false (.int .i64),.slot 5 false .bool,.slot 25 false (.int .i64),.slot 2 false (.int .i64)],ex:=[(.ret,[]),(.exit 1,[])],pay:=.unit })]
theorem e33 (x:domDen [(true,T16)]):runA Tryz.prog (mkTab pu tab107) (annGet an33) 3000 60 33 [(true,T16)] [(false,(.int .i64)),(false,(.int .i64))] x=g_install_Next x:=by kernel_rfl
def tab108:List (FuncId×Sg):=(33,⟨[(true,T16)],[(false,(.int .i64)),(false,(.int .i64))],g_install_Next⟩)::tab107
theorem tab108_ok:TabOK Tryz.prog (mkTab pu tab108):=tab_cons tab107_ok e33
def an23:List (Nat×Nat×Nat×An):=[(23,3,10,.loop { keep:=[1,15,17,2,16,18,14],kb:=[],pl:=[.slot 0 false .bool,.slot 3 false (.int .i64),.box 6 [.lf (.int .i64),.lf (.sl true (.sl true T3)),.lf (.sl true T14),.lf (.int .i64)]],ex:=[(.exit 0,[]),(.ret,[])],pay:=.unit }),(23,1003003,10,.join { keep:=[0,1,3,15,17,2,16,18,14],kb:=[6],pl0:=[],pl1:=[.slot 24 false .bool],ex:=[(.exit 0,[])],pay:=.unit }),(23,1005008,10,.join { keep:=[1,3,15,17,2,16,18,14],kb:=[],pl0:=[.slot 0 false .bool,.box 6 [.lf (.int .i64),.lf (.sl true (.sl true T3)),.lf (.sl true T14),.lf (.int .i64)]],pl1:=[.slot 0 false .bool,.box 6 [.lf (.int .i64),.lf (.sl true (.sl true T3)),.lf (.sl true T14),.lf (.int .i64)]],ex:=[(.ret,[])],pay:=.unit }),(23,1006006,20,.join { keep:=[0,1,3,15,31,27,5,17,29,2,4,16,32,28,6,18,14,30],kb:=[16,6],pl0:=[],pl1:=[.slot 37 false .bool],ex:=[],pay:=.unit }),(23,1011011,27,.join { keep:=[0,1,3,7,15,47,39,11,43,9,17,49,41,45,2,8,16,48,40,44,10,18,42,14,46],kb:=[23,6],pl0:=[],pl1:=[.slot 67 false .bool],ex:=[],pay:=.unit })]
theorem e23 (x:domDen []):runA Tryz.prog (mkTab pu tab108) (annGet an23) 3000 60 23 [] [(false,.bool)] x=g_law17_shown x:=by kernel_rfl
def tab109:List (FuncId×Sg):=(23,⟨[],[(false,.bool)],g_law17_shown⟩)::tab108
theorem tab109_ok:TabOK Tryz.prog (mkTab pu tab109):=tab_cons tab108_ok e23
theorem e29 (x:domDen [(true,T16),(false,(.int .i64))]):runA Tryz.prog (mkTab pu tab109) (annGet []) 3000 60 29 [(true,T16),(false,(.int .i64))] [(false,.bool),(false,(.int .i64))] x=g_install_Can x:=by kernel_rfl
def tab110:List (FuncId×Sg):=(29,⟨[(true,T16),(false,(.int .i64))],[(false,.bool),(false,(.int .i64))],g_install_Can⟩)::tab109
theorem tab110_ok:TabOK Tryz.prog (mkTab pu tab110):=tab_cons tab109_ok e29
def an233:List (Nat×Nat×Nat×An):=[(233,4,7,.loop { keep:=[0,1,7,9,8,6,10],kb:=[],pl:=[.slot 5 false (.int .i64),.slot 4 false .bool],ex:=[(.ret,[]),(.exit 0,[])],pay:=.unit })]
theorem e233 (x:domDen [(false,(.sl false (.int .i64))),(false,(.sl false (.int .i64)))]):runA Tryz.prog (mkTab pu tab110) (annGet an233) 3000 60 233 [(false,(.sl false (.int .i64))),(false,(.sl false (.int .i64)))] [(false,.bool)] x=g_ref10_Ints x:=by kernel_rfl
def tab111:List (FuncId×Sg):=(233,⟨[(false,(.sl false (.int .i64))),(false,(.sl false (.int .i64)))],[(false,.bool)],g_ref10_Ints⟩)::tab110
theorem tab111_ok:TabOK Tryz.prog (mkTab pu tab111):=tab_cons tab110_ok e233
end Go.Proofs.YthpkjfabdccpdaaGreat.Pt
