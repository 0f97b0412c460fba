/- The evaluator comes to each of the plain functions. No condition. -/
import Derived.Test.YthpkjfabdccpdaaGreatPt5
set_option linter.all false
namespace Go.Proofs.YthpkjfabdccpdaaGreat.Pt
open Go Go.Proofs.YthpkjfabdccpdaaGreat.Sv Go.Proofs.YthpkjfabdccpdaaGreat.Pl
set_option maxRecDepth 1000000
set_option linter.all false
theorem e222 (x:domDen [(false,(.sl true T2)),(false,(.sl true T2))]):runA Tryz.prog (mkTab pu tab83) (annGet []) 3000 60 222 [(false,(.sl true T2)),(false,(.sl true T2))] [(false,.bool)] x=g_jobs_sameEntries x:=by kernel_rfl
def tab84:List (FuncId×Sg):=(222,⟨[(false,(.sl true T2)),(false,(.sl true T2))],[(false,.bool)],g_jobs_sameEntries⟩)::tab83
theorem tab84_ok:TabOK Tryz.prog (mkTab pu tab84):=tab_cons tab83_ok e222
def an183:List (Nat×Nat×Nat×An):=[(221,4,81,.loop { keep:=[0,1,15,11,13,2,16,12,10,14],kb:=[0,1,7,8],pl:=[.slot 17 false (.int .i64),.slot 6 false .bool],ex:=[(.ret,[]),(.exit 0,[])],pay:=.unit })]
theorem e183 (x:domDen [(true,T13),(true,T13)]):runA Tryz.prog (mkTab pu tab84) (annGet an183) 3000 60 183 [(true,T13),(true,T13)] [(false,.bool)] x=g_jobs_same x:=by kernel_rfl
def tab85:List (FuncId×Sg):=(183,⟨[(true,T13),(true,T13)],[(false,.bool)],g_jobs_same⟩)::tab84
theorem tab85_ok:TabOK Tryz.prog (mkTab pu tab85):=tab_cons tab84_ok e183
def an107:List (Nat×Nat×Nat×An):=[(219,1,52,.loop { keep:=[0,1,7,5,6],kb:=[0,47,35,46],pl:=[.slot 8 false (.int .i64),.box 43 [.ow false (.int .i64) false]],ex:=[(.exit 0,[(47,0,none)])],pay:=.unit }),(107,10,59,.loop { keep:=[0,1,15,31,47,23,39,19,35,27,43,17,33,25,41,21,37,29,45,4,16,32,40,20,36,28,44,18,34,26,42,14,22,38,30,46],kb:=[0,47,35,43,52],pl:=[.slot 3 false (.int .i64),.slot 2 false (.int .i64),.slot 48 false (.int .i64)],ex:=[(.ret,[(47,3,none)]),(.exit 1,[(47,3,none)])],pay:=.unit })]
theorem e107 (x:domDen [(true,T16)]):runA Tryz.prog (mkTab pu tab85) (annGet an107) 3000 60 107 [(true,T16)] [(false,(.int .i64)),(false,(.int .i64))] x=g_jobs_Check x:=by kernel_rfl
def tab86:List (FuncId×Sg):=(107,⟨[(true,T16)],[(false,(.int .i64)),(false,(.int .i64))],g_jobs_Check⟩)::tab85
theorem tab86_ok:TabOK Tryz.prog (mkTab pu tab86):=tab_cons tab85_ok e107
def an151:List (Nat×Nat×Nat×An):=[(238,2,31,.loop { keep:=[0,1,7,6],kb:=[0,1],pl:=[.slot 4 false (.int .i64),.slot 8 false (.int .i64)],ex:=[(.ret,[]),(.exit 0,[])],pay:=.unit })]
theorem e151 (x:domDen [(true,T16),(false,(.int .i64))]):runA Tryz.prog (mkTab pu tab86) (annGet an151) 3000 60 151 [(true,T16),(false,(.int .i64))] [(false,(.int .i64)),(false,(.int .i64))] x=g_jobs_Find x:=by kernel_rfl
def tab87:List (FuncId×Sg):=(151,⟨[(true,T16),(false,(.int .i64))],[(false,(.int .i64)),(false,(.int .i64))],g_jobs_Find⟩)::tab86
theorem tab87_ok:TabOK Tryz.prog (mkTab pu tab87):=tab_cons tab86_ok e151
theorem e88 (x:domDen [(true,T16),(false,(.int .i64))]):runA Tryz.prog (mkTab pu tab87) (annGet []) 3000 60 88 [(true,T16),(false,(.int .i64))] [(true,T19),(false,(.int .i64))] x=g_install_at x:=by kernel_rfl
def tab88:List (FuncId×Sg):=(88,⟨[(true,T16),(false,(.int .i64))],[(true,T19),(false,(.int .i64))],g_install_at⟩)::tab87
theorem tab88_ok:TabOK Tryz.prog (mkTab pu tab88):=tab_cons tab87_ok e88
theorem e89 (x:domDen [(true,T19)]):runA Tryz.prog (mkTab pu tab88) (annGet []) 3000 60 89 [(true,T19)] [(false,.bool)] x=g_install_look_reads x:=by kernel_rfl
def tab89:List (FuncId×Sg):=(89,⟨[(true,T19)],[(false,.bool)],g_install_look_reads⟩)::tab88
theorem tab89_ok:TabOK Tryz.prog (mkTab pu tab89):=tab_cons tab88_ok e89
theorem e44 (x:domDen [(false,(.int .i64)),(false,(.int .i64))]):runA Tryz.prog (mkTab pu tab89) (annGet []) 3000 60 44 [(false,(.int .i64)),(false,(.int .i64))] [(false,(.int .i64)),(false,(.int .i64))] x=g_levels_Size x:=by kernel_rfl
def tab90:List (FuncId×Sg):=(44,⟨[(false,(.int .i64)),(false,(.int .i64))],[(false,(.int .i64)),(false,(.int .i64))],g_levels_Size⟩)::tab89
theorem tab90_ok:TabOK Tryz.prog (mkTab pu tab90):=tab_cons tab89_ok e44
theorem e92 (x:domDen [(true,T19)]):runA Tryz.prog (mkTab pu tab90) (annGet []) 3000 60 92 [(true,T19)] [(false,.bool)] x=g_install_look_stays x:=by kernel_rfl
def tab91:List (FuncId×Sg):=(92,⟨[(true,T19)],[(false,.bool)],g_install_look_stays⟩)::tab90
theorem tab91_ok:TabOK Tryz.prog (mkTab pu tab91):=tab_cons tab90_ok e92
theorem e169 (x:domDen [(true,T4),(false,(.int .i64))]):runA Tryz.prog (mkTab pu tab91) (annGet []) 3000 60 169 [(true,T4),(false,(.int .i64))] [(false,(.int .i64))] x=g_levels_in x:=by kernel_rfl
def tab92:List (FuncId×Sg):=(169,⟨[(true,T4),(false,(.int .i64))],[(false,(.int .i64))],g_levels_in⟩)::tab91
theorem tab92_ok:TabOK Tryz.prog (mkTab pu tab92):=tab_cons tab91_ok e169
theorem e108 (x:domDen [(true,T4),(false,(.int .i64))]):runA Tryz.prog (mkTab pu tab92) (annGet []) 3000 60 108 [(true,T4),(false,(.int .i64))] [(false,.bool),(false,(.int .i64))] x=g_levels_Room x:=by kernel_rfl
def tab93:List (FuncId×Sg):=(108,⟨[(true,T4),(false,(.int .i64))],[(false,.bool),(false,(.int .i64))],g_levels_Room⟩)::tab92
theorem tab93_ok:TabOK Tryz.prog (mkTab pu tab93):=tab_cons tab92_ok e108
theorem e168 (x:domDen [(true,T19)]):runA Tryz.prog (mkTab pu tab93) (annGet []) 3000 60 168 [(true,T19)] [(false,.bool)] x=g_install_look_rises x:=by kernel_rfl
def tab94:List (FuncId×Sg):=(168,⟨[(true,T19)],[(false,.bool)],g_install_look_rises⟩)::tab93
theorem tab94_ok:TabOK Tryz.prog (mkTab pu tab94):=tab_cons tab93_ok e168
def an90:List (Nat×Nat×Nat×An):=[(90,2,11,.loop { keep:=[0,1,7,11,5,9,8,12,6,10],kb:=[0],pl:=[.slot 13 false (.int .i64),.slot 2 false .bool],ex:=[(.ret,[]),(.exit 0,[])],pay:=.unit })]
theorem e90 (x:domDen [(true,T19)]):runA Tryz.prog (mkTab pu tab94) (annGet an90) 3000 60 90 [(true,T19)] [(false,.bool)] x=g_install_look_can x:=by kernel_rfl
def tab95:List (FuncId×Sg):=(90,⟨[(true,T19)],[(false,.bool)],g_install_look_can⟩)::tab94
theorem tab95_ok:TabOK Tryz.prog (mkTab pu tab95):=tab_cons tab94_ok e90
theorem m176:emptyT Tryz.prog (λf => !pu f) 1000 100 176=true:=by kernel_rfl
theorem e176 (a:Ty.den T14) (l:List (Ty.den T14)):runA Tryz.prog (mkTab pu tab95) (annGet []) 3000 60 176 [(false,(.sl true T14))] [(false,(.sl true T14))] (a::l)=g_slices_Clone_JbJob_JbJob (a::l):=by kernel_rfl
def tab96:List (FuncId×Sg):=(176,⟨[(false,(.sl true T14))],[(false,(.sl true T14))],g_slices_Clone_JbJob_JbJob⟩)::tab95
theorem tab96_ok:TabOK Tryz.prog (mkTab pu tab96):=tab_list (gg:=true) (c:=T14) tab95_ok m176 rfl e176
theorem n176:emptyG Tryz.prog (λf => !pu f) 1000 100 176=true:=by kernel_rfl
theorem r176 (a:Ty.den T14) (l:List (Ty.den T14)):runAR Tryz.prog (mkTab pu tab96) (annGet []) 3000 60 176 [(false,(.sl true T14))] true T14 (a::l)=g_slices_Clone_JbJob_JbJob (a::l):=by kernel_rfl
def tab97:List (FuncId×Sg):=(176+offR,⟨[(false,(.sl true T14))],[(false,(.sl true T14))],g_slices_Clone_JbJob_JbJob⟩)::tab96
theorem tab97_ok:TabOK Tryz.prog (mkTab pu tab97):=tab_rowl (gg:=true) (c:=T14) tab96_ok n176 rfl (λa l y h=>clone_ne h) r176
end Go.Proofs.YthpkjfabdccpdaaGreat.Pt
