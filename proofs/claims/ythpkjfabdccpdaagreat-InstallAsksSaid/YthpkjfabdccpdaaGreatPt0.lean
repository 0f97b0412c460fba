/- The evaluator comes to each of the plain functions. No condition. -/
import Derived.Test.YthpkjfabdccpdaaGreatPl2
import Derived.Test.YthpkjfabdccpdaaGreatProg
set_option linter.all false
namespace Go.Proofs.YthpkjfabdccpdaaGreat.Pt
open Go Go.Proofs.YthpkjfabdccpdaaGreat.Sv Go.Proofs.YthpkjfabdccpdaaGreat.Pl
set_option maxRecDepth 1000000
set_option linter.all false
def pu (g:Nat):Bool:=[2,3,4,5,6,7,8,9,10,11,12,13,14,15,16,17,18,19,20,21,22,23,24,25,26,27,28,29,30,31,32,33,34,35,36,37,38,39,40,41,43,44,45,46,47,48,49,50,51,52,53,54,55,56,57,58,59,60,61,62,63,64,65,66,67,68,69,70,71,72,73,74,75,78,79,81,82,83,84,85,86,87,88,89,90,91,92,93,94,95,96,98,99,100,101,102,103,104,105,106,107,108,109,110,111,112,113,114,115,116,117,118,119,120,121,122,124,125,126,127,128,129,132,135,136,138,140,142,143,144,147,148,149,151,153,154,155,156,157,158,164,165,166,167,168,169,171,172,173,174,175,176,177,180,181,182,183,184,185,186,187,188,189,190,191,192,193,194,195,196,197,198,200,201,202,203,204,205,206,207,208,209,213,214,215,220,222,223,224,225,226,227,228,229,230,231,232,233,234,235,236,237,239,240,241,242,243,244,245,246,248,249,250,251,254,255,257,258,259,260,268,269,270,271,272,273,274,275,276,278,279,280,281,282,283,284,285,287,289,307,308,309].any (Nat.beq g)||Nat.ble 1048576 g
@[reducible] def T0:Ty:=.pair .bool (.int .i64)
@[reducible] def T1:Ty:=.pair .str T0
@[reducible] def T2:Ty:=.pair .str T1
@[reducible] def T3:Ty:=.pair (.int .i64) (.sl true T2)
@[reducible] def T4:Ty:=.pair (.int .i64) (.sl true (.sl true T3))
@[reducible] def T5:Ty:=.pair .str .bool
@[reducible] def T6:Ty:=.pair (.sl false (.int .i64)) (.int .i64)
@[reducible] def T7:Ty:=.pair (.sl true T5) T6
@[reducible] def T8:Ty:=.pair (.sl false (.int .i64)) T7
@[reducible] def T9:Ty:=.pair (.sl false (.sl true T2)) T8
@[reducible] def T10:Ty:=.pair .bool T5
@[reducible] def T11:Ty:=.pair (.sl true T2) (.int .i64)
@[reducible] def T12:Ty:=.pair T10 T11
@[reducible] def T13:Ty:=.pair T9 T12
@[reducible] def T14:Ty:=.pair (.int .i64) T13
@[reducible] def T15:Ty:=.pair (.sl true T14) (.int .i64)
@[reducible] def T16:Ty:=.pair T4 T15
@[reducible] def T17:Ty:=.pair (.sl true T5) .unit
@[reducible] def T18:Ty:=.pair T14 (.int .i64)
@[reducible] def T19:Ty:=.pair T16 T18
def tab0:List (FuncId×Sg):=[]
theorem tab0_ok:TabOK Tryz.prog (mkTab pu tab0):=tab_nil _ _
def an84:List (Nat×Nat×Nat×An):=[(84,2,2,.loop { keep:=[0],kb:=[],pl:=[.slot 3 false (.int .i64),.slot 2 false .bool],ex:=[(.ret,[]),(.exit 0,[])],pay:=.unit })]
theorem e84 (x:domDen [(false,(.sl true T2))]):runA Tryz.prog (mkTab pu tab0) (annGet an84) 3000 60 84 [(false,(.sl true T2))] [(false,.bool)] x=g_law16_wide x:=by kernel_rfl
def tab1:List (FuncId×Sg):=(84,⟨[(false,(.sl true T2))],[(false,.bool)],g_law16_wide⟩)::tab0
theorem tab1_ok:TabOK Tryz.prog (mkTab pu tab1):=tab_cons tab0_ok e84
def an35:List (Nat×Nat×Nat×An):=[(35,2,2,.loop { keep:=[0],kb:=[],pl:=[.slot 3 false (.int .i64),.slot 2 false .bool],ex:=[(.ret,[]),(.exit 0,[])],pay:=.unit })]
theorem e35 (x:domDen [(false,(.sl true T2))]):runA Tryz.prog (mkTab pu tab1) (annGet an35) 3000 60 35 [(false,(.sl true T2))] [(false,.bool)] x=g_law14_Long x:=by kernel_rfl
def tab2:List (FuncId×Sg):=(35,⟨[(false,(.sl true T2))],[(false,.bool)],g_law14_Long⟩)::tab1
theorem tab2_ok:TabOK Tryz.prog (mkTab pu tab2):=tab_cons tab1_ok e35
def an165:List (Nat×Nat×Nat×An):=[(165,2,2,.loop { keep:=[0],kb:=[],pl:=[.slot 3 false (.int .i64),.slot 2 false .bool],ex:=[(.ret,[]),(.exit 0,[])],pay:=.unit })]
theorem e165 (x:domDen [(false,(.sl true T3))]):runA Tryz.prog (mkTab pu tab2) (annGet an165) 3000 60 165 [(false,(.sl true T3))] [(false,.bool)] x=g_law15_LongRuns x:=by kernel_rfl
def tab3:List (FuncId×Sg):=(165,⟨[(false,(.sl true T3))],[(false,.bool)],g_law15_LongRuns⟩)::tab2
theorem tab3_ok:TabOK Tryz.prog (mkTab pu tab3):=tab_cons tab2_ok e165
def an85:List (Nat×Nat×Nat×An):=[(85,2,3,.loop { keep:=[0,1],kb:=[0],pl:=[.slot 3 false (.int .i64),.slot 2 false .bool],ex:=[(.ret,[]),(.exit 0,[])],pay:=.unit })]
theorem e85 (x:domDen [(true,T4)]):runA Tryz.prog (mkTab pu tab3) (annGet an85) 3000 60 85 [(true,T4)] [(false,.bool)] x=g_law15_Long x:=by kernel_rfl
def tab4:List (FuncId×Sg):=(85,⟨[(true,T4)],[(false,.bool)],g_law15_Long⟩)::tab3
theorem tab4_ok:TabOK Tryz.prog (mkTab pu tab4):=tab_cons tab3_ok e85
def an22:List (Nat×Nat×Nat×An):=[(22,2,3,.loop { keep:=[0,1],kb:=[0],pl:=[.slot 3 false (.int .i64),.slot 2 false .bool],ex:=[(.exit 0,[]),(.ret,[])],pay:=.unit }),(22,6,21,.loop { keep:=[0,1,3,7,11,19,9,17,13,21,4,8,12,20,6,10,18,14,22],kb:=[0,18],pl:=[.slot 5 false (.int .i64),.slot 2 false .bool],ex:=[(.ret,[]),(.exit 2,[])],pay:=.unit })]
theorem e22 (x:domDen [(true,T16)]):runA Tryz.prog (mkTab pu tab4) (annGet an22) 3000 60 22 [(true,T16)] [(false,.bool)] x=g_law16_Long x:=by kernel_rfl
def tab5:List (FuncId×Sg):=(22,⟨[(true,T16)],[(false,.bool)],g_law16_Long⟩)::tab4
theorem tab5_ok:TabOK Tryz.prog (mkTab pu tab5):=tab_cons tab4_ok e22
def an166:List (Nat×Nat×Nat×An):=[(166,3,6,.loop { keep:=[0,1,7,9,2,6,10],kb:=[0],pl:=[.slot 8 false (.int .i64),.box 3 [.lf (.int .i64),.ow true T2 false]],ex:=[(.exit 0,[])],pay:=.unit })]
theorem e166 (x:domDen [(false,(.int .i64)),(false,.bool),(false,.str)]):runA Tryz.prog (mkTab pu tab5) (annGet an166) 3000 60 166 [(false,(.int .i64)),(false,.bool),(false,.str)] [(true,T3)] x=g_law16_of x:=by kernel_rfl
def tab6:List (FuncId×Sg):=(166,⟨[(false,(.int .i64)),(false,.bool),(false,.str)],[(true,T3)],g_law16_of⟩)::tab5
theorem tab6_ok:TabOK Tryz.prog (mkTab pu tab6):=tab_cons tab5_ok e166
theorem e87 (x:domDen []):runA Tryz.prog (mkTab pu tab6) (annGet []) 3000 60 87 [] [(true,T4)] x=g_law16_Example x:=by kernel_rfl
def tab7:List (FuncId×Sg):=(87,⟨[],[(true,T4)],g_law16_Example⟩)::tab6
theorem tab7_ok:TabOK Tryz.prog (mkTab pu tab7):=tab_cons tab6_ok e87
def an188:List (Nat×Nat×Nat×An):=[(188,2,2,.loop { keep:=[1,4],kb:=[],pl:=[.slot 0 false (.int .i64),.slot 5 false (.int .i64)],ex:=[(.exit 0,[])],pay:=.unit })]
theorem e188 (x:domDen [(false,(.int .i64)),(false,(.int .i64))]):runA Tryz.prog (mkTab pu tab7) (annGet an188) 3000 60 188 [(false,(.int .i64)),(false,(.int .i64))] [(false,(.int .i64))] x=g_ref15_size x:=by kernel_rfl
def tab8:List (FuncId×Sg):=(188,⟨[(false,(.int .i64)),(false,(.int .i64))],[(false,(.int .i64))],g_ref15_size⟩)::tab7
theorem tab8_ok:TabOK Tryz.prog (mkTab pu tab8):=tab_cons tab7_ok e188
theorem e203 (x:domDen [(true,T2)]):runA Tryz.prog (mkTab pu tab8) (annGet []) 3000 60 203 [(true,T2)] [(false,(.int .i64))] x=g_ref03_Check x:=by kernel_rfl
def tab9:List (FuncId×Sg):=(203,⟨[(true,T2)],[(false,(.int .i64))],g_ref03_Check⟩)::tab8
theorem tab9_ok:TabOK Tryz.prog (mkTab pu tab9):=tab_cons tab8_ok e203
def an249:List (Nat×Nat×Nat×An):=[(249,2,2,.loop { keep:=[0,1,4],kb:=[],pl:=[.slot 5 false (.int .i64)],ex:=[(.exit 0,[])],pay:=.unit })]
theorem e249 (x:domDen [(false,.str),(false,.str)]):runA Tryz.prog (mkTab pu tab9) (annGet an249) 3000 60 249 [(false,.str),(false,.str)] [(false,(.int .i64))] x=g_ref02_common x:=by kernel_rfl
def tab10:List (FuncId×Sg):=(249,⟨[(false,.str),(false,.str)],[(false,(.int .i64))],g_ref02_common⟩)::tab9
theorem tab10_ok:TabOK Tryz.prog (mkTab pu tab10):=tab_cons tab9_ok e249
theorem e225 (x:domDen [(false,.str),(false,.str)]):runA Tryz.prog (mkTab pu tab10) (annGet []) 3000 60 225 [(false,.str),(false,.str)] [(false,(.int .i64))] x=g_ref02_Order x:=by kernel_rfl
def tab11:List (FuncId×Sg):=(225,⟨[(false,.str),(false,.str)],[(false,(.int .i64))],g_ref02_Order⟩)::tab10
theorem tab11_ok:TabOK Tryz.prog (mkTab pu tab11):=tab_cons tab10_ok e225
def an185:List (Nat×Nat×Nat×An):=[(185,4,6,.loop { keep:=[0,7,8,6],kb:=[],pl:=[.slot 3 false (.int .i64),.slot 2 false (.int .i64),.slot 4 false (.int .i64)],ex:=[(.ret,[]),(.exit 0,[])],pay:=.unit })]
theorem e185 (x:domDen [(false,(.sl true T2))]):runA Tryz.prog (mkTab pu tab11) (annGet an185) 3000 60 185 [(false,(.sl true T2))] [(false,(.int .i64)),(false,(.int .i64))] x=g_ref03_CheckList x:=by kernel_rfl
def tab12:List (FuncId×Sg):=(185,⟨[(false,(.sl true T2))],[(false,(.int .i64)),(false,(.int .i64))],g_ref03_CheckList⟩)::tab11
theorem tab12_ok:TabOK Tryz.prog (mkTab pu tab12):=tab_cons tab11_ok e185
theorem e110 (x:domDen [(true,T3)]):runA Tryz.prog (mkTab pu tab12) (annGet []) 3000 60 110 [(true,T3)] [(false,(.int .i64)),(false,(.int .i64))] x=g_ref08_Check x:=by kernel_rfl
def tab13:List (FuncId×Sg):=(110,⟨[(true,T3)],[(false,(.int .i64)),(false,(.int .i64))],g_ref08_Check⟩)::tab12
theorem tab13_ok:TabOK Tryz.prog (mkTab pu tab13):=tab_cons tab12_ok e110
end Go.Proofs.YthpkjfabdccpdaaGreat.Pt
