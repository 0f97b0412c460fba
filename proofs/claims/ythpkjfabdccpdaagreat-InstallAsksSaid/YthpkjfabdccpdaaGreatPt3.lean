/- The evaluator comes to each of the plain functions. No condition. -/
import Derived.Test.YthpkjfabdccpdaaGreatPt2
set_option linter.all false
namespace Go.Proofs.YthpkjfabdccpdaaGreat.Pt
open Go Go.Proofs.YthpkjfabdccpdaaGreat.Sv Go.Proofs.YthpkjfabdccpdaaGreat.Pl
set_option maxRecDepth 1000000
set_option linter.all false
def an254:List (Nat×Nat×Nat×An):=[(254,6,13,.loop { keep:=[0,15,11,9,17,13,8,16,12,10,14],kb:=[],pl:=[.slot 3 false (.int .i64),.slot 2 false (.int .i64),.slot 18 false (.int .i64)],ex:=[(.ret,[]),(.exit 1,[])],pay:=.unit })]
theorem e254 (x:domDen [(false,(.sl false (.sl true T2)))]):runA Tryz.prog (mkTab pu tab41) (annGet an254) 3000 60 254 [(false,(.sl false (.sl true T2)))] [(false,(.int .i64)),(false,(.int .i64))] x=g_merge_check x:=by kernel_rfl
def tab42:List (FuncId×Sg):=(254,⟨[(false,(.sl false (.sl true T2)))],[(false,(.int .i64)),(false,(.int .i64))],g_merge_check⟩)::tab41
theorem tab42_ok:TabOK Tryz.prog (mkTab pu tab42):=tab_cons tab41_ok e254
theorem e243 (x:domDen [(false,.bool)]):runA Tryz.prog (mkTab pu tab42) (annGet []) 3000 60 243 [(false,.bool)] [(true,T10)] x=g_shadow_Begin x:=by kernel_rfl
def tab43:List (FuncId×Sg):=(243,⟨[(false,.bool)],[(true,T10)],g_shadow_Begin⟩)::tab42
theorem tab43_ok:TabOK Tryz.prog (mkTab pu tab43):=tab_cons tab42_ok e243
theorem m268:emptyT Tryz.prog (λf => !pu f) 1000 100 268=true:=by kernel_rfl
theorem e268 (a:Ty.den (.sl true T2)) (l:List (Ty.den (.sl true T2))):runA Tryz.prog (mkTab pu tab43) (annGet []) 3000 60 268 [(false,(.sl false (.sl true T2)))] [(false,(.sl false (.sl true T2)))] (a::l)=g_slices_Clone_Entry_Entry (a::l):=by kernel_rfl
def tab44:List (FuncId×Sg):=(268,⟨[(false,(.sl false (.sl true T2)))],[(false,(.sl false (.sl true T2)))],g_slices_Clone_Entry_Entry⟩)::tab43
theorem tab44_ok:TabOK Tryz.prog (mkTab pu tab44):=tab_list (gg:=false) (c:=(.sl true T2)) tab43_ok m268 rfl e268
theorem n268:emptyG Tryz.prog (λf => !pu f) 1000 100 268=true:=by kernel_rfl
theorem r268 (a:Ty.den (.sl true T2)) (l:List (Ty.den (.sl true T2))):runAR Tryz.prog (mkTab pu tab44) (annGet []) 3000 60 268 [(false,(.sl false (.sl true T2)))] false (.sl true T2) (a::l)=g_slices_Clone_Entry_Entry (a::l):=by kernel_rfl
def tab45:List (FuncId×Sg):=(268+offR,⟨[(false,(.sl false (.sl true T2)))],[(false,(.sl false (.sl true T2)))],g_slices_Clone_Entry_Entry⟩)::tab44
theorem tab45_ok:TabOK Tryz.prog (mkTab pu tab45):=tab_rowl (gg:=false) (c:=(.sl true T2)) tab44_ok n268 rfl (λa l y h=>clone_ne h) r268
theorem e272 (x:domDen [(false,(.sl true T2)),(false,(.int .i64))]):runA Tryz.prog (mkTab pu tab45) (annGet []) 3000 60 272 [(false,(.sl true T2)),(false,(.int .i64))] [(true,T5)] x=g_merge_next x:=by kernel_rfl
def tab46:List (FuncId×Sg):=(272,⟨[(false,(.sl true T2)),(false,(.int .i64))],[(true,T5)],g_merge_next⟩)::tab45
theorem tab46_ok:TabOK Tryz.prog (mkTab pu tab46):=tab_cons tab45_ok e272
theorem e289 (x:domDen [(true,T5)]):runA Tryz.prog (mkTab pu tab46) (annGet []) 3000 60 289 [(true,T5)] [(false,.bool)] x=g_loser_check_1 x:=by kernel_rfl
def tab47:List (FuncId×Sg):=(289,⟨[(true,T5)],[(false,.bool)],g_loser_check_1⟩)::tab46
theorem tab47_ok:TabOK Tryz.prog (mkTab pu tab47):=tab_cons tab46_ok e289
def an282:List (Nat×Nat×Nat×An):=[(291,2,22,.loop { keep:=[0,1,7,6],kb:=[],pl:=[.slot 4 false (.int .i64),.slot 8 false (.int .i64)],ex:=[(.ret,[]),(.exit 0,[])],pay:=.unit })]
theorem e282 (x:domDen [(false,(.sl true T5))]):runA Tryz.prog (mkTab pu tab47) (annGet an282) 3000 60 282 [(false,(.sl true T5))] [(false,(.int .i64))] x=g_loser_check x:=by kernel_rfl
def tab48:List (FuncId×Sg):=(282,⟨[(false,(.sl true T5))],[(false,(.int .i64))],g_loser_check⟩)::tab47
theorem tab48_ok:TabOK Tryz.prog (mkTab pu tab48):=tab_cons tab47_ok e282
theorem m285:emptyT Tryz.prog (λf => !pu f) 1000 100 285=true:=by kernel_rfl
theorem e285 (a:Ty.den T5) (l:List (Ty.den T5)):runA Tryz.prog (mkTab pu tab48) (annGet []) 3000 60 285 [(false,(.sl true T5))] [(false,(.sl true T5))] (a::l)=g_slices_Clone_LsKey_LsKey (a::l):=by kernel_rfl
def tab49:List (FuncId×Sg):=(285,⟨[(false,(.sl true T5))],[(false,(.sl true T5))],g_slices_Clone_LsKey_LsKey⟩)::tab48
theorem tab49_ok:TabOK Tryz.prog (mkTab pu tab49):=tab_list (gg:=true) (c:=T5) tab48_ok m285 rfl e285
theorem n285:emptyG Tryz.prog (λf => !pu f) 1000 100 285=true:=by kernel_rfl
theorem r285 (a:Ty.den T5) (l:List (Ty.den T5)):runAR Tryz.prog (mkTab pu tab49) (annGet []) 3000 60 285 [(false,(.sl true T5))] true T5 (a::l)=g_slices_Clone_LsKey_LsKey (a::l):=by kernel_rfl
def tab50:List (FuncId×Sg):=(285+offR,⟨[(false,(.sl true T5))],[(false,(.sl true T5))],g_slices_Clone_LsKey_LsKey⟩)::tab49
theorem tab50_ok:TabOK Tryz.prog (mkTab pu tab50):=tab_rowl (gg:=true) (c:=T5) tab49_ok n285 rfl (λa l y h=>clone_ne h) r285
def an283:List (Nat×Nat×Nat×An):=[(283,6,26,.loop { keep:=[0,3,15,23,11,19,17,13,21,2,4,16,24,12,20,6,10,18,14,22],kb:=[0,7],pl:=[.slot 7 false (.int .i64),.srow 5 false (.int .i64) true,.box 20 [.ow true T5 false,.ow false (.int .i64) true,.lf (.int .i64)]],ex:=[(.exit 0,[])],pay:=.unit })]
theorem e283 (x:domDen [(false,(.sl true T5))]):runA Tryz.prog (mkTab pu tab50) (annGet an283) 3000 60 283 [(false,(.sl true T5))] [(true,T7)] x=g_loser_play x:=by kernel_rfl
def tab51:List (FuncId×Sg):=(283,⟨[(false,(.sl true T5))],[(true,T7)],g_loser_play⟩)::tab50
theorem tab51_ok:TabOK Tryz.prog (mkTab pu tab51):=tab_cons tab50_ok e283
theorem e273 (x:domDen [(false,(.sl true T5))]):runA Tryz.prog (mkTab pu tab51) (annGet []) 3000 60 273 [(false,(.sl true T5))] [(true,T7),(false,(.int .i64))] x=g_loser_Build x:=by kernel_rfl
def tab52:List (FuncId×Sg):=(273,⟨[(false,(.sl true T5))],[(true,T7),(false,(.int .i64))],g_loser_Build⟩)::tab51
theorem tab52_ok:TabOK Tryz.prog (mkTab pu tab52):=tab_cons tab51_ok e273
def an220:List (Nat×Nat×Nat×An):=[(256,3,47,.loop { keep:=[0,1,11,13,4,12,10,14],kb:=[0,39,27,13,30],pl:=[.slot 15 false (.int .i64),.srow 5 true T5 true],ex:=[(.exit 0,[])],pay:=.unit })]
theorem e220 (x:domDen [(false,(.sl false (.sl true T2))),(false,.bool)]):runA Tryz.prog (mkTab pu tab52) (annGet an220) 3000 60 220 [(false,(.sl false (.sl true T2))),(false,.bool)] [(true,T13),(false,(.int .i64)),(false,(.int .i64))] x=g_slices_Begin x:=by kernel_rfl
def tab53:List (FuncId×Sg):=(220,⟨[(false,(.sl false (.sl true T2))),(false,.bool)],[(true,T13),(false,(.int .i64)),(false,(.int .i64))],g_slices_Begin⟩)::tab52
theorem tab53_ok:TabOK Tryz.prog (mkTab pu tab53):=tab_cons tab52_ok e220
theorem e182 (x:domDen [(true,T4),(false,(.int .i64)),(false,.bool)]):runA Tryz.prog (mkTab pu tab53) (annGet []) 3000 60 182 [(true,T4),(false,(.int .i64)),(false,.bool)] [(true,T14)] x=g_jobs_begun x:=by kernel_rfl
def tab54:List (FuncId×Sg):=(182,⟨[(true,T4),(false,(.int .i64)),(false,.bool)],[(true,T14)],g_jobs_begun⟩)::tab53
theorem tab54_ok:TabOK Tryz.prog (mkTab pu tab54):=tab_cons tab53_ok e182
def an256:List (Nat×Nat×Nat×An):=[(256,3,8,.loop { keep:=[0,1,11,13,4,10,14],kb:=[0],pl:=[.slot 15 false (.int .i64),.srow 5 true T5 true],ex:=[(.exit 0,[])],pay:=.unit })]
theorem e256 (x:domDen [(false,(.sl false (.sl true T2))),(false,(.sl false (.int .i64)))]):runA Tryz.prog (mkTab pu tab54) (annGet an256) 3000 60 256 [(false,(.sl false (.sl true T2))),(false,(.sl false (.int .i64)))] [(true,T7)] x=g_merge_tree x:=by kernel_rfl
def tab55:List (FuncId×Sg):=(1048832,⟨[(false,(.sl false (.sl true T2))),(false,(.sl false (.int .i64)))],[(true,T7)],g_merge_tree⟩)::tab54
theorem tab55_ok:TabOK Tryz.prog (mkTab pu tab55):=tab_cons tab54_ok e256
end Go.Proofs.YthpkjfabdccpdaaGreat.Pt
