/- The evaluator comes to each of the plain functions. No condition. -/
import Derived.Test.YthpkjfabdccpdaaGreatPt3
set_option linter.all false
namespace Go.Proofs.YthpkjfabdccpdaaGreat.Pt
open Go Go.Proofs.YthpkjfabdccpdaaGreat.Sv Go.Proofs.YthpkjfabdccpdaaGreat.Pl
set_option maxRecDepth 1000000
set_option linter.all false
def an224:List (Nat×Nat×Nat×An):=[(224,4,9,.loop { keep:=[0,1,7,11,9,8,12,6,10],kb:=[],pl:=[.slot 13 false (.int .i64),.slot 4 false .bool],ex:=[(.ret,[]),(.exit 0,[])],pay:=.unit })]
theorem e224 (x:domDen [(false,(.sl true T5)),(false,(.sl true T5))]):runA Tryz.prog (mkTab pu tab55) (annGet an224) 3000 60 224 [(false,(.sl true T5)),(false,(.sl true T5))] [(false,.bool)] x=g_slices_Equal_LsKey_LsKey x:=by kernel_rfl
def tab56:List (FuncId×Sg):=(224,⟨[(false,(.sl true T5)),(false,(.sl true T5))],[(false,.bool)],g_slices_Equal_LsKey_LsKey⟩)::tab55
theorem tab56_ok:TabOK Tryz.prog (mkTab pu tab56):=tab_cons tab55_ok e224
def an223:List (Nat×Nat×Nat×An):=[(223,4,9,.loop { keep:=[0,1,7,11,9,8,12,6,10],kb:=[],pl:=[.slot 13 false (.int .i64),.slot 4 false .bool],ex:=[(.ret,[]),(.exit 0,[])],pay:=.unit })]
theorem e223 (x:domDen [(false,(.sl false (.int .i64))),(false,(.sl false (.int .i64)))]):runA Tryz.prog (mkTab pu tab56) (annGet an223) 3000 60 223 [(false,(.sl false (.int .i64))),(false,(.sl false (.int .i64)))] [(false,.bool)] x=g_slices_Equal_int_int x:=by kernel_rfl
def tab57:List (FuncId×Sg):=(223,⟨[(false,(.sl false (.int .i64))),(false,(.sl false (.int .i64)))],[(false,.bool)],g_slices_Equal_int_int⟩)::tab56
theorem tab57_ok:TabOK Tryz.prog (mkTab pu tab57):=tab_cons tab56_ok e223
theorem e255 (x:domDen [(true,T7),(true,T7)]):runA Tryz.prog (mkTab pu tab57) (annGet []) 3000 60 255 [(true,T7),(true,T7)] [(false,.bool)] x=g_merge_alike x:=by kernel_rfl
def tab58:List (FuncId×Sg):=(255,⟨[(true,T7),(true,T7)],[(false,.bool)],g_merge_alike⟩)::tab57
theorem tab58_ok:TabOK Tryz.prog (mkTab pu tab58):=tab_cons tab57_ok e255
def an284:List (Nat×Nat×Nat×An):=[(284,8,25,.loop { keep:=[0,1,15,23,11,19,5,9,17,25,21,4,8,16,24,12,20,10,18,26,14,22],kb:=[0,19],pl:=[.slot 3 false (.int .i64),.slot 27 false (.int .i64),.slot 2 false (.int .i64)],ex:=[(.ret,[]),(.exit 0,[])],pay:=.unit })]
theorem e284 (x:domDen [(true,T7)]):runA Tryz.prog (mkTab pu tab58) (annGet an284) 3000 60 284 [(true,T7)] [(false,(.int .i64)),(false,(.int .i64))] x=g_loser_Check x:=by kernel_rfl
def tab59:List (FuncId×Sg):=(284,⟨[(true,T7)],[(false,(.int .i64)),(false,(.int .i64))],g_loser_Check⟩)::tab58
theorem tab59_ok:TabOK Tryz.prog (mkTab pu tab59):=tab_cons tab58_ok e284
theorem e274 (x:domDen [(true,T7)]):runA Tryz.prog (mkTab pu tab59) (annGet []) 3000 60 274 [(true,T7)] [(false,(.int .i64))] x=g_loser_open x:=by kernel_rfl
def tab60:List (FuncId×Sg):=(274,⟨[(true,T7)],[(false,(.int .i64))],g_loser_open⟩)::tab59
theorem tab60_ok:TabOK Tryz.prog (mkTab pu tab60):=tab_cons tab59_ok e274
theorem e257 (x:domDen [(true,T7)]):runA Tryz.prog (mkTab pu tab60) (annGet []) 3000 60 257 [(true,T7)] [(false,(.int .i64)),(false,.str),(false,(.int .i64))] x=g_loser_Winner x:=by kernel_rfl
def tab61:List (FuncId×Sg):=(257,⟨[(true,T7)],[(false,(.int .i64)),(false,.str),(false,(.int .i64))],g_loser_Winner⟩)::tab60
theorem tab61_ok:TabOK Tryz.prog (mkTab pu tab61):=tab_cons tab60_ok e257
theorem e275 (x:domDen [(false,.str)]):runA Tryz.prog (mkTab pu tab61) (annGet []) 3000 60 275 [(false,.str)] [(false,.bool)] x=g_cmp_isNaN_string x:=by kernel_rfl
def tab62:List (FuncId×Sg):=(275,⟨[(false,.str)],[(false,.bool)],g_cmp_isNaN_string⟩)::tab61
theorem tab62_ok:TabOK Tryz.prog (mkTab pu tab62):=tab_cons tab61_ok e275
theorem e259 (x:domDen [(false,.str),(false,.str)]):runA Tryz.prog (mkTab pu tab62) (annGet []) 3000 60 259 [(false,.str),(false,.str)] [(false,(.int .i64))] x=g_cmp_Compare_string x:=by kernel_rfl
def tab63:List (FuncId×Sg):=(259,⟨[(false,.str),(false,.str)],[(false,(.int .i64))],g_cmp_Compare_string⟩)::tab62
theorem tab63_ok:TabOK Tryz.prog (mkTab pu tab63):=tab_cons tab62_ok e259
theorem e276 (x:domDen [(false,(.int .i64))]):runA Tryz.prog (mkTab pu tab63) (annGet []) 3000 60 276 [(false,(.int .i64))] [(false,.bool)] x=g_cmp_isNaN_int x:=by kernel_rfl
def tab64:List (FuncId×Sg):=(276,⟨[(false,(.int .i64))],[(false,.bool)],g_cmp_isNaN_int⟩)::tab63
theorem tab64_ok:TabOK Tryz.prog (mkTab pu tab64):=tab_cons tab63_ok e276
theorem e260 (x:domDen [(false,(.int .i64)),(false,(.int .i64))]):runA Tryz.prog (mkTab pu tab64) (annGet []) 3000 60 260 [(false,(.int .i64)),(false,(.int .i64))] [(false,(.int .i64))] x=g_cmp_Compare_int x:=by kernel_rfl
def tab65:List (FuncId×Sg):=(260,⟨[(false,(.int .i64)),(false,(.int .i64))],[(false,(.int .i64))],g_cmp_Compare_int⟩)::tab64
theorem tab65_ok:TabOK Tryz.prog (mkTab pu tab65):=tab_cons tab64_ok e260
def an258:List (Nat×Nat×Nat×An):=[(258,3,5,.loop { keep:=[0,3,7,6],kb:=[],pl:=[.slot 2 false (.int .i64),.slot 8 false (.int .i64)],ex:=[(.ret,[]),(.exit 0,[])],pay:=.unit })]
theorem e258 (x:domDen [(false,(.sl false (.int .i64)))]):runA Tryz.prog (mkTab pu tab65) (annGet an258) 3000 60 258 [(false,(.sl false (.int .i64)))] [(false,(.int .i64))] x=g_cmp_Or_int x:=by kernel_rfl
def tab66:List (FuncId×Sg):=(258,⟨[(false,(.sl false (.int .i64)))],[(false,(.int .i64))],g_cmp_Or_int⟩)::tab65
theorem tab66_ok:TabOK Tryz.prog (mkTab pu tab66):=tab_cons tab65_ok e258
def an240:List (Nat×Nat×Nat×An):=[(240,7,24,.loop { keep:=[0,1,15,31,23,19,27,5,17,25,13,29,4,16,24,12,28,18,26,14,22,30],kb:=[0],pl:=[.slot 3 false (.int .i64),.slot 2 false (.int .i64),.slot 32 false (.int .i64)],ex:=[(.ret,[]),(.exit 0,[])],pay:=.unit }),(240,18,49,.loop { keep:=[0,1,15,31,63,23,71,55,19,67,51,27,59,5,9,17,65,25,57,13,69,53,29,61,4,8,16,32,64,24,56,12,68,52,28,60,18,66,26,58,14,22,70,54,30,62],kb:=[0],pl:=[.slot 3 false (.int .i64),.slot 2 false (.int .i64),.slot 72 false (.int .i64)],ex:=[(.ret,[]),(.exit 2,[])],pay:=.unit })]
theorem e240 (x:domDen [(true,T9)]):runA Tryz.prog (mkTab pu tab66) (annGet an240) 3000 60 240 [(true,T9)] [(false,(.int .i64)),(false,(.int .i64))] x=g_merge_Check x:=by kernel_rfl
def tab67:List (FuncId×Sg):=(240,⟨[(true,T9)],[(false,(.int .i64)),(false,(.int .i64))],g_merge_Check⟩)::tab66
theorem tab67_ok:TabOK Tryz.prog (mkTab pu tab67):=tab_cons tab66_ok e240
theorem m278:emptyT Tryz.prog (λf => !pu f) 1000 100 278=true:=by kernel_rfl
theorem e278 (a:Ty.den (.int .i64)) (l:List (Ty.den (.int .i64))):runA Tryz.prog (mkTab pu tab67) (annGet []) 3000 60 278 [(false,(.sl false (.int .i64)))] [(false,(.sl false (.int .i64)))] (a::l)=g_slices_Clone_int_int (a::l):=by kernel_rfl
def tab68:List (FuncId×Sg):=(278,⟨[(false,(.sl false (.int .i64)))],[(false,(.sl false (.int .i64)))],g_slices_Clone_int_int⟩)::tab67
theorem tab68_ok:TabOK Tryz.prog (mkTab pu tab68):=tab_list (gg:=false) (c:=(.int .i64)) tab67_ok m278 rfl e278
theorem n278:emptyG Tryz.prog (λf => !pu f) 1000 100 278=true:=by kernel_rfl
theorem r278 (a:Ty.den (.int .i64)) (l:List (Ty.den (.int .i64))):runAR Tryz.prog (mkTab pu tab68) (annGet []) 3000 60 278 [(false,(.sl false (.int .i64)))] false (.int .i64) (a::l)=g_slices_Clone_int_int (a::l):=by kernel_rfl
def tab69:List (FuncId×Sg):=(278+offR,⟨[(false,(.sl false (.int .i64)))],[(false,(.sl false (.int .i64)))],g_slices_Clone_int_int⟩)::tab68
theorem tab69_ok:TabOK Tryz.prog (mkTab pu tab69):=tab_rowl (gg:=false) (c:=(.int .i64)) tab68_ok n278 rfl (λa l y h=>clone_ne h) r278
end Go.Proofs.YthpkjfabdccpdaaGreat.Pt
