/- The evaluator comes to each of the plain functions. No condition. -/
import Derived.Test.YthpkjfabdccpdaaGreatPt0
set_option linter.all false
namespace Go.Proofs.YthpkjfabdccpdaaGreat.Pt
open Go Go.Proofs.YthpkjfabdccpdaaGreat.Sv Go.Proofs.YthpkjfabdccpdaaGreat.Pl
set_option maxRecDepth 1000000
set_option linter.all false
def an187:List (Nat×Nat×Nat×An):=[(187,9,21,.loop { keep:=[0,1,3,7,15,23,11,19,25,13,21,2,8,16,24,12,20,10,18,26,14,22],kb:=[0],pl:=[.slot 9 false (.int .i64),.slot 6 false (.int .i64)],ex:=[(.ret,[]),(.exit 0,[])],pay:=.unit })]
theorem e187 (x:domDen [(true,T3),(false,(.int .i64)),(false,(.sl false (.int .i64)))]):runA Tryz.prog (mkTab pu tab13) (annGet an187) 3000 60 187 [(true,T3),(false,(.int .i64)),(false,(.sl false (.int .i64)))] [(false,(.int .i64))] x=g_ref15_fits x:=by kernel_rfl
def tab14:List (FuncId×Sg):=(187,⟨[(true,T3),(false,(.int .i64)),(false,(.sl false (.int .i64)))],[(false,(.int .i64))],g_ref15_fits⟩)::tab13
theorem tab14_ok:TabOK Tryz.prog (mkTab pu tab14):=tab_cons tab13_ok e187
def an112:List (Nat×Nat×Nat×An):=[(112,7,18,.loop { keep:=[0,1,15,11,19,17,13,21,16,12,20,10,18,14],kb:=[0],pl:=[.slot 3 false (.int .i64),.srow 5 false (.int .i64) false,.slot 2 false (.int .i64),.slot 4 false (.int .i64),.slot 6 false (.int .i64)],ex:=[(.ret,[]),(.exit 0,[])],pay:=.unit }),(112,13,35,.loop { keep:=[0,1,7,15,31,23,11,19,35,17,33,25,13,21,37,29,16,32,24,12,20,36,6,10,18,34,26,14,22,30],kb:=[0],pl:=[.slot 3 false (.int .i64),.srow 5 false (.int .i64) false,.slot 2 false (.int .i64),.slot 4 false (.int .i64),.slot 8 false (.int .i64)],ex:=[(.ret,[]),(.exit 2,[])],pay:=.unit })]
theorem e112 (x:domDen [(true,T4)]):runA Tryz.prog (mkTab pu tab14) (annGet an112) 3000 60 112 [(true,T4)] [(false,(.int .i64)),(false,(.int .i64)),(false,(.int .i64))] x=g_ref15_Check x:=by kernel_rfl
def tab15:List (FuncId×Sg):=(112,⟨[(true,T4)],[(false,(.int .i64)),(false,(.int .i64)),(false,(.int .i64))],g_ref15_Check⟩)::tab14
theorem tab15_ok:TabOK Tryz.prog (mkTab pu tab15):=tab_cons tab14_ok e112
def an120:List (Nat×Nat×Nat×An):=[(120,6,16,.loop { keep:=[0,1,3,15,11,5,17,13,2,4,16,12,6,10,14],kb:=[0],pl:=[.srow 7 true T3 false,.slot 8 false (.int .i64)],ex:=[(.exit 0,[])],pay:=.unit }),(120,9,31,.loop { keep:=[0,1,3,15,31,23,11,19,27,5,17,33,13,21,29,2,4,8,16,32,12,20,28,6,10,26,14,22,30],kb:=[0],pl:=[.srow 7 true T3 false,.slot 9 false (.int .i64)],ex:=[(.exit 2,[])],pay:=.unit })]
theorem e120 (x:domDen [(true,T4)]):runA Tryz.prog (mkTab pu tab15) (annGet an120) 3000 60 120 [(true,T4)] [(false,(.sl true T3)),(false,(.int .i64))] x=g_ref15_Newest x:=by kernel_rfl
def tab16:List (FuncId×Sg):=(120,⟨[(true,T4)],[(false,(.sl true T3)),(false,(.int .i64))],g_ref15_Newest⟩)::tab15
theorem tab16_ok:TabOK Tryz.prog (mkTab pu tab16):=tab_cons tab15_ok e120
def an113:List (Nat×Nat×Nat×An):=[(113,4,11,.loop { keep:=[0,1,3,7,11,9,2,4,8,10],kb:=[0],pl:=[.slot 5 false (.int .i64),.slot 6 false (.int .i64)],ex:=[(.exit 0,[])],pay:=.unit })]
theorem e113 (x:domDen [(true,T4)]):runA Tryz.prog (mkTab pu tab16) (annGet an113) 3000 60 113 [(true,T4)] [(false,(.int .i64))] x=g_ref16_greatest x:=by kernel_rfl
def tab17:List (FuncId×Sg):=(113,⟨[(true,T4)],[(false,(.int .i64))],g_ref16_greatest⟩)::tab16
theorem tab17_ok:TabOK Tryz.prog (mkTab pu tab17):=tab_cons tab16_ok e113
def an114:List (Nat×Nat×Nat×An):=[(114,3,4,.loop { keep:=[0,1,2],kb:=[0],pl:=[.srow 3 false (.int .i64) false,.slot 4 false (.int .i64)],ex:=[(.exit 0,[])],pay:=.unit })]
theorem e114 (x:domDen [(true,T4)]):runA Tryz.prog (mkTab pu tab17) (annGet an114) 3000 60 114 [(true,T4)] [(false,(.sl false (.int .i64)))] x=g_ref16_Due x:=by kernel_rfl
def tab18:List (FuncId×Sg):=(114,⟨[(true,T4)],[(false,(.sl false (.int .i64)))],g_ref16_Due⟩)::tab17
theorem tab18_ok:TabOK Tryz.prog (mkTab pu tab18):=tab_cons tab17_ok e114
theorem e186 (x:domDen [(true,T4),(false,(.int .i64))]):runA Tryz.prog (mkTab pu tab18) (annGet []) 3000 60 186 [(true,T4),(false,(.int .i64))] [(false,(.int .i64))] x=g_ref15_in x:=by kernel_rfl
def tab19:List (FuncId×Sg):=(186,⟨[(true,T4),(false,(.int .i64))],[(false,(.int .i64))],g_ref15_in⟩)::tab18
theorem tab19_ok:TabOK Tryz.prog (mkTab pu tab19):=tab_cons tab18_ok e186
theorem e189 (x:domDen [(true,T4),(false,(.int .i64))]):runA Tryz.prog (mkTab pu tab19) (annGet []) 3000 60 189 [(true,T4),(false,(.int .i64))] [(false,.bool),(false,(.int .i64))] x=g_ref15_Above x:=by kernel_rfl
def tab20:List (FuncId×Sg):=(189,⟨[(true,T4),(false,(.int .i64))],[(false,.bool),(false,(.int .i64))],g_ref15_Above⟩)::tab19
theorem tab20_ok:TabOK Tryz.prog (mkTab pu tab20):=tab_cons tab19_ok e189
theorem e115 (x:domDen [(true,T4),(false,(.int .i64))]):runA Tryz.prog (mkTab pu tab20) (annGet []) 3000 60 115 [(true,T4),(false,(.int .i64))] [(false,.bool)] x=g_ref16_lowest x:=by kernel_rfl
def tab21:List (FuncId×Sg):=(115,⟨[(true,T4),(false,(.int .i64))],[(false,.bool)],g_ref16_lowest⟩)::tab20
theorem tab21_ok:TabOK Tryz.prog (mkTab pu tab21):=tab_cons tab20_ok e115
def an231:List (Nat×Nat×Nat×An):=[(231,6,9,.loop { keep:=[0,7,11,9,8,12,10],kb:=[],pl:=[.slot 3 false (.int .i64),.slot 2 false (.int .i64),.slot 4 false (.int .i64)],ex:=[(.ret,[]),(.exit 0,[])],pay:=.unit })]
theorem e231 (x:domDen [(false,(.sl false (.sl true T2)))]):runA Tryz.prog (mkTab pu tab21) (annGet an231) 3000 60 231 [(false,(.sl false (.sl true T2)))] [(false,(.int .i64)),(false,(.int .i64))] x=g_ref11_right x:=by kernel_rfl
def tab22:List (FuncId×Sg):=(231,⟨[(false,(.sl false (.sl true T2)))],[(false,(.int .i64)),(false,(.int .i64))],g_ref11_right⟩)::tab21
theorem tab22_ok:TabOK Tryz.prog (mkTab pu tab22):=tab_cons tab21_ok e231
def an269:List (Nat×Nat×Nat×An):=[(269,6,8,.loop { keep:=[0,7,5,9,4,8,6],kb:=[],pl:=[.slot 3 false (.int .i64),.slot 2 false (.int .i64)],ex:=[(.ret,[]),(.exit 0,[])],pay:=.unit })]
theorem e269 (x:domDen [(false,(.sl true T5))]):runA Tryz.prog (mkTab pu tab22) (annGet an269) 3000 60 269 [(false,(.sl true T5))] [(false,(.int .i64))] x=g_ref10_right x:=by kernel_rfl
def tab23:List (FuncId×Sg):=(269,⟨[(false,(.sl true T5))],[(false,(.int .i64))],g_ref10_right⟩)::tab22
theorem tab23_ok:TabOK Tryz.prog (mkTab pu tab23):=tab_cons tab22_ok e269
theorem e287 (x:domDen [(false,(.sl true T5)),(false,(.int .i64)),(false,(.int .i64))]):runA Tryz.prog (mkTab pu tab23) (annGet []) 3000 60 287 [(false,(.sl true T5)),(false,(.int .i64)),(false,(.int .i64))] [(false,.bool)] x=g_ref10_wins x:=by kernel_rfl
def tab24:List (FuncId×Sg):=(287,⟨[(false,(.sl true T5)),(false,(.int .i64)),(false,(.int .i64))],[(false,.bool)],g_ref10_wins⟩)::tab23
theorem tab24_ok:TabOK Tryz.prog (mkTab pu tab24):=tab_cons tab23_ok e287
theorem e281 (r:domDen [(false,(.sl true T5)),(false,(.int .i64))]→Option (domDen [(false,(.int .i64)),(false,(.int .i64))])) (x:domDen [(false,(.sl true T5)),(false,(.int .i64))]):runA Tryz.prog (mkTab pu ((281,⟨[(false,(.sl true T5)),(false,(.int .i64))],[(false,(.int .i64)),(false,(.int .i64))],r⟩)::tab24)) (annGet []) 3000 60 281 [(false,(.sl true T5)),(false,(.int .i64))] [(false,(.int .i64)),(false,(.int .i64))] x=g_ref10_player_body r x:=by kernel_rfl
def tab25:List (FuncId×Sg):=(281,⟨[(false,(.sl true T5)),(false,(.int .i64))],[(false,(.int .i64)),(false,(.int .i64))],iterR (α:=domDen [(false,(.sl true T5)),(false,(.int .i64))]) (β:=domDen [(false,(.int .i64)),(false,(.int .i64))]) g_ref10_player_body 100⟩)::tab24
theorem tab25_ok:TabOK Tryz.prog (mkTab pu tab25):=tab_rec tab24_ok e281 (by rfl) (by rfl) 100
def an270:List (Nat×Nat×Nat×An):=[(270,3,11,.loop { keep:=[0,3,5,9,2,8,6],kb:=[0],pl:=[.slot 4 false (.int .i64),.box 8 [.ow true T5 false,.ow false (.int .i64) true,.lf (.int .i64)]],ex:=[(.exit 0,[])],pay:=.unit })]
theorem e270 (x:domDen [(false,(.sl true T5))]):runA Tryz.prog (mkTab pu tab25) (annGet an270) 3000 60 270 [(false,(.sl true T5))] [(true,T7)] x=g_ref10_tree x:=by kernel_rfl
def tab26:List (FuncId×Sg):=(270,⟨[(false,(.sl true T5))],[(true,T7)],g_ref10_tree⟩)::tab25
theorem tab26_ok:TabOK Tryz.prog (mkTab pu tab26):=tab_cons tab25_ok e270
theorem e250 (x:domDen [(false,(.sl true T5))]):runA Tryz.prog (mkTab pu tab26) (annGet []) 3000 60 250 [(false,(.sl true T5))] [(true,T7),(false,(.int .i64))] x=g_ref10_Build x:=by kernel_rfl
def tab27:List (FuncId×Sg):=(250,⟨[(false,(.sl true T5))],[(true,T7),(false,(.int .i64))],g_ref10_Build⟩)::tab26
theorem tab27_ok:TabOK Tryz.prog (mkTab pu tab27):=tab_cons tab26_ok e250
end Go.Proofs.YthpkjfabdccpdaaGreat.Pt
