/- The evaluator comes to each of the plain functions. No condition. -/
import Derived.Test.YthpkjfabdccpdaaGreatPt4
set_option linter.all false
namespace Go.Proofs.YthpkjfabdccpdaaGreat.Pt
open Go Go.Proofs.YthpkjfabdccpdaaGreat.Sv Go.Proofs.YthpkjfabdccpdaaGreat.Pl
set_option maxRecDepth 1000000
set_option linter.all false
theorem e290 (x:domDen [(false,(.int .i64)),(false,(.int .i64)),(true,T17)]):runAP Tryz.prog (mkTab pu tab69) (annGet []) 3000 60 290 [(false,(.int .i64)),(false,(.int .i64)),(true,T17)] [(false,.bool)] x=g_loser_judge_1 x:=by kernel_rfl
def tab70:List (FuncId×Sg):=(3146018,⟨[(false,(.int .i64)),(false,(.int .i64)),(true,T17)],[(false,.bool)],g_loser_judge_1⟩)::tab69
theorem tab70_ok:TabOK Tryz.prog (mkTab pu tab70):=tab_ptr (f:=290) tab69_ok e290
def an279:List (Nat×Nat×Nat×An):=[(279,13,63,.loop { keep:=[0,1,3,7,31,63,47,55,11,19,35,51,27,43,59,9,17,33,49,25,41,57,13,21,37,53,29,45,61,2,4,8,32,48,24,40,56,12,20,36,52,28,44,60,6,18,34,50,26,42,58,14,38,54,30,46,62],kb:=[0,1,33,52],pl:=[.slot 5 false (.int .i64),.slot 10 false (.int .i64),.box 2 [.kp 33,.ow false (.int .i64) false,.lf (.int .i64)]],ex:=[(.exit 0,[])],pay:=.unit })]
theorem e279 (x:domDen [(true,T7),(true,T5)]):runA Tryz.prog (mkTab pu tab70) (annGet an279) 3000 60 279 [(true,T7),(true,T5)] [(true,T7),(false,(.int .i64)),(false,(.int .i64))] x=g_loser_Replace x:=by kernel_rfl
def tab71:List (FuncId×Sg):=(279,⟨[(true,T7),(true,T5)],[(true,T7),(false,(.int .i64)),(false,(.int .i64))],g_loser_Replace⟩)::tab70
theorem tab71_ok:TabOK Tryz.prog (mkTab pu tab71):=tab_cons tab70_ok e279
def an241:List (Nat×Nat×Nat×An):=[(277,0,45,.loop { keep:=[0,1],kb:=[39,35,43,9,13,44],pl:=[.box 0 [.ow true T2 false],.box 1 [.ow false (.int .i64) false]],ex:=[(.ret,[(44,0,none)])],pay:=.unit }),(256,3,47,.loop { keep:=[0,1,11,13,4,12,10,14],kb:=[0,1,39,27,13,30],pl:=[.slot 15 false (.int .i64),.srow 5 true T5 true],ex:=[(.exit 0,[])],pay:=.unit }),(277,0,72,.loop { keep:=[0,1],kb:=[47,39,71,9,13,53,66,70,30],pl:=[.box 0 [.ow true T2 false],.box 1 [.ow false (.int .i64) false],.box 62 [.kp 30,.ow false (.int .i64) true,.lf (.sl true T5),.lf (.sl false (.int .i64)),.lf (.int .i64)]],ex:=[(.ret,[(71,0,none)])],pay:=.unit })]
theorem e241 (x:domDen [(false,(.sl false (.sl true T2)))]):runA Tryz.prog (mkTab pu tab71) (annGet an241) 3000 60 241 [(false,(.sl false (.sl true T2)))] [(false,(.sl true T2)),(false,(.sl false (.int .i64))),(false,(.int .i64))] x=g_merge_All x:=by kernel_rfl
def tab72:List (FuncId×Sg):=(241,⟨[(false,(.sl false (.sl true T2)))],[(false,(.sl true T2)),(false,(.sl false (.int .i64))),(false,(.int .i64))],g_merge_All⟩)::tab71
theorem tab72_ok:TabOK Tryz.prog (mkTab pu tab72):=tab_cons tab71_ok e241
theorem e280 (x:domDen [(true,T10)]):runA Tryz.prog (mkTab pu tab72) (annGet []) 3000 60 280 [(true,T10)] [(false,(.int .i64))] x=g_shadow_Check x:=by kernel_rfl
def tab73:List (FuncId×Sg):=(280,⟨[(true,T10)],[(false,(.int .i64))],g_shadow_Check⟩)::tab72
theorem tab73_ok:TabOK Tryz.prog (mkTab pu tab73):=tab_cons tab72_ok e280
theorem e307 (x:domDen [(true,T2)]):runA Tryz.prog (mkTab pu tab73) (annGet []) 3000 60 307 [(true,T2)] [(true,T2)] x=g_shadow_kept_entry x:=by kernel_rfl
def tab74:List (FuncId×Sg):=(307,⟨[(true,T2)],[(true,T2)],g_shadow_kept_entry⟩)::tab73
theorem tab74_ok:TabOK Tryz.prog (mkTab pu tab74):=tab_cons tab73_ok e307
def an242:List (Nat×Nat×Nat×An):=[(262,5,24,.loop { keep:=[0,1,15,19,17,2,8,16,20,18,14],kb:=[],pl:=[.slot 7 false (.int .i64),.slot 21 false (.int .i64),.slot 6 false (.int .i64),.box 19 [.lf .bool,.lf .str,.lf .bool],.box 0 [.ow true T2 false]],ex:=[(.ret,[]),(.exit 0,[])],pay:=.unit })]
theorem e242 (x:domDen [(false,(.sl true T2)),(false,.bool)]):runA Tryz.prog (mkTab pu tab74) (annGet an242) 3000 60 242 [(false,(.sl true T2)),(false,.bool)] [(false,(.sl true T2)),(false,(.int .i64)),(false,(.int .i64))] x=g_shadow_Filter x:=by kernel_rfl
def tab75:List (FuncId×Sg):=(242,⟨[(false,(.sl true T2)),(false,.bool)],[(false,(.sl true T2)),(false,(.int .i64)),(false,(.int .i64))],g_shadow_Filter⟩)::tab74
theorem tab75_ok:TabOK Tryz.prog (mkTab pu tab75):=tab_cons tab74_ok e242
def an244:List (Nat×Nat×Nat×An):=[(244,4,9,.loop { keep:=[0,1,7,11,9,13,8,12,10],kb:=[],pl:=[.slot 4 false .bool,.slot 14 false (.int .i64)],ex:=[(.ret,[]),(.exit 0,[])],pay:=.unit })]
theorem e244 (x:domDen [(false,(.sl true T2)),(false,(.sl true T2))]):runA Tryz.prog (mkTab pu tab75) (annGet an244) 3000 60 244 [(false,(.sl true T2)),(false,(.sl true T2))] [(false,.bool)] x=g_slices_alike x:=by kernel_rfl
def tab76:List (FuncId×Sg):=(244,⟨[(false,(.sl true T2)),(false,(.sl true T2))],[(false,.bool)],g_slices_alike⟩)::tab75
theorem tab76_ok:TabOK Tryz.prog (mkTab pu tab76):=tab_cons tab75_ok e244
def an214:List (Nat×Nat×Nat×An):=[(214,6,18,.loop { keep:=[0,1,3,15,23,19,17,25,21,2,4,16,24,20,18,26,14],kb:=[0],pl:=[.slot 27 false (.int .i64),.slot 5 false (.int .i64)],ex:=[(.exit 0,[])],pay:=.unit })]
theorem e214 (x:domDen [(true,T13)]):runA Tryz.prog (mkTab pu tab76) (annGet an214) 3000 60 214 [(true,T13)] [(false,(.int .i64))] x=g_slices_Check x:=by kernel_rfl
def tab77:List (FuncId×Sg):=(214,⟨[(true,T13)],[(false,(.int .i64))],g_slices_Check⟩)::tab76
theorem tab77_ok:TabOK Tryz.prog (mkTab pu tab77):=tab_cons tab76_ok e214
def an215:List (Nat×Nat×Nat×An):=[(215,6,17,.loop { keep:=[0,1,3,15,11,19,5,9,17,13,2,4,12,10,18,14],kb:=[0],pl:=[.slot 20 false (.int .i64),.slot 6 false (.int .i64)],ex:=[(.exit 0,[])],pay:=.unit })]
theorem e215 (x:domDen [(true,T9)]):runA Tryz.prog (mkTab pu tab77) (annGet an215) 3000 60 215 [(true,T9)] [(false,(.int .i64)),(false,(.int .i64))] x=g_merge_Left x:=by kernel_rfl
def tab78:List (FuncId×Sg):=(215,⟨[(true,T9)],[(false,(.int .i64)),(false,(.int .i64))],g_merge_Left⟩)::tab77
theorem tab78_ok:TabOK Tryz.prog (mkTab pu tab78):=tab_cons tab77_ok e215
theorem e167 (x:domDen [(true,T13)]):runA Tryz.prog (mkTab pu tab78) (annGet []) 3000 60 167 [(true,T13)] [(false,(.int .i64)),(false,(.int .i64))] x=g_slices_Left x:=by kernel_rfl
def tab79:List (FuncId×Sg):=(167,⟨[(true,T13)],[(false,(.int .i64)),(false,(.int .i64))],g_slices_Left⟩)::tab78
theorem tab79_ok:TabOK Tryz.prog (mkTab pu tab79):=tab_cons tab78_ok e167
theorem e245 (x:domDen [(true,T9)]):runA Tryz.prog (mkTab pu tab79) (annGet []) 3000 60 245 [(true,T9)] [(true,T2),(false,(.int .i64)),(true,T9),(false,(.int .i64))] x=g_merge_Next x:=by kernel_rfl
def tab80:List (FuncId×Sg):=(245,⟨[(true,T9)],[(true,T2),(false,(.int .i64)),(true,T9),(false,(.int .i64))],g_merge_Next⟩)::tab79
theorem tab80_ok:TabOK Tryz.prog (mkTab pu tab80):=tab_cons tab79_ok e245
theorem e246 (x:domDen [(true,T10),(true,T2)]):runA Tryz.prog (mkTab pu tab80) (annGet []) 3000 60 246 [(true,T10),(true,T2)] [(false,.bool),(true,T10),(false,(.int .i64))] x=g_shadow_Step x:=by kernel_rfl
def tab81:List (FuncId×Sg):=(246,⟨[(true,T10),(true,T2)],[(false,.bool),(true,T10),(false,(.int .i64))],g_shadow_Step⟩)::tab80
theorem tab81_ok:TabOK Tryz.prog (mkTab pu tab81):=tab_cons tab80_ok e246
def an175:List (Nat×Nat×Nat×An):=[(216,2,81,.loop { keep:=[0,1,6],kb:=[0,1,39,67,68],pl:=[.slot 7 false (.int .i64),.slot 4 false (.int .i64),.box 28 [.lf (.sl false (.sl true T2)),.lf (.sl false (.int .i64)),.lf (.sl true T5),.lf (.sl false (.int .i64)),.lf (.int .i64),.lf .bool,.lf .str,.lf .bool,.ow true T2 false,.lf (.int .i64)]],ex:=[(.ret,[]),(.exit 0,[])],pay:=.unit }),(216,2,98,.loop { keep:=[0,1,6],kb:=[0,1,39,67,68,86],pl:=[.slot 7 false (.int .i64),.slot 4 false (.int .i64),.box 28 [.lf (.sl false (.sl true T2)),.lf (.sl false (.int .i64)),.lf (.sl true T5),.lf (.sl false (.int .i64)),.lf (.int .i64),.lf .bool,.lf .str,.lf .bool,.ow true T2 false,.lf (.int .i64)]],ex:=[(.ret,[]),(.exit 0,[])],pay:=.unit }),(216,2,133,.loop { keep:=[0,1,6],kb:=[0,1,39,67,68,86],pl:=[.slot 7 false (.int .i64),.slot 4 false (.int .i64),.box 28 [.lf (.sl false (.sl true T2)),.lf (.sl false (.int .i64)),.lf (.sl true T5),.lf (.sl false (.int .i64)),.lf (.int .i64),.lf .bool,.lf .str,.lf .bool,.ow true T2 false,.lf (.int .i64)]],ex:=[(.ret,[]),(.exit 0,[])],pay:=.unit }),(216,2,120,.loop { keep:=[0,1,6],kb:=[0,1,39,67,68,86],pl:=[.slot 7 false (.int .i64),.slot 4 false (.int .i64),.box 28 [.lf (.sl false (.sl true T2)),.lf (.sl false (.int .i64)),.lf (.sl true T5),.lf (.sl false (.int .i64)),.lf (.int .i64),.lf .bool,.lf .str,.lf .bool,.ow true T2 false,.lf (.int .i64)]],ex:=[(.ret,[]),(.exit 0,[])],pay:=.unit })]
theorem e175 (x:domDen [(true,T13),(false,(.int .i64))]):runA Tryz.prog (mkTab pu tab81) (annGet an175) 3000 60 175 [(true,T13),(false,(.int .i64))] [(true,T13),(false,(.int .i64)),(false,(.int .i64))] x=g_slices_Step x:=by kernel_rfl
def tab82:List (FuncId×Sg):=(175,⟨[(true,T13),(false,(.int .i64))],[(true,T13),(false,(.int .i64)),(false,(.int .i64))],g_slices_Step⟩)::tab81
theorem tab82_ok:TabOK Tryz.prog (mkTab pu tab82):=tab_cons tab81_ok e175
def an248:List (Nat×Nat×Nat×An):=[(248,4,9,.loop { keep:=[0,1,7,11,9,8,12,6,10],kb:=[],pl:=[.slot 13 false (.int .i64),.slot 4 false .bool],ex:=[(.ret,[]),(.exit 0,[])],pay:=.unit })]
theorem e248 (x:domDen [(false,(.sl true T2)),(false,(.sl true T2))]):runA Tryz.prog (mkTab pu tab82) (annGet an248) 3000 60 248 [(false,(.sl true T2)),(false,(.sl true T2))] [(false,.bool)] x=g_slices_Equal_Entry_Entry x:=by kernel_rfl
def tab83:List (FuncId×Sg):=(248,⟨[(false,(.sl true T2)),(false,(.sl true T2))],[(false,.bool)],g_slices_Equal_Entry_Entry⟩)::tab82
theorem tab83_ok:TabOK Tryz.prog (mkTab pu tab83):=tab_cons tab82_ok e248
end Go.Proofs.YthpkjfabdccpdaaGreat.Pt
