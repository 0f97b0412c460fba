/- The evaluator comes to each of the plain functions. No condition. -/
import Derived.Test.YthpkjfabdccpdaaGreatPt8
set_option linter.all false
namespace Go.Proofs.YthpkjfabdccpdaaGreat.Pt
open Go Go.Proofs.YthpkjfabdccpdaaGreat.Sv Go.Proofs.YthpkjfabdccpdaaGreat.Pl
set_option maxRecDepth 1000000
set_option linter.all false
def an118:List (Nat×Nat×Nat×An):=[(118,11,32,.loop { keep:=[0,1,7,15,31,23,39,19,35,27,5,9,17,33,25,21,37,2,4,8,16,32,24,20,36,6,10,18,34,26,22,30],kb:=[0,1],pl:=[.slot 11 false (.int .i64),.box 29 [.lf (.sl false (.sl true T2)),.lf (.sl false (.int .i64)),.lf (.sl true T5),.lf (.sl false (.int .i64)),.lf (.int .i64),.lf .bool,.lf .str,.lf .bool,.lf (.sl true T2),.lf (.int .i64)]],ex:=[(.exit 0,[])],pay:=.unit })]
theorem e118 (x:domDen [(true,T13),(false,(.int .i64))]):runA Tryz.prog (mkTab pu tab125) (annGet an118) 3000 60 118 [(true,T13),(false,(.int .i64))] [(true,T13),(false,(.int .i64)),(false,(.int .i64))] x=g_ref13_Step x:=by kernel_rfl
def tab126:List (FuncId×Sg):=(118,⟨[(true,T13),(false,(.int .i64))],[(true,T13),(false,(.int .i64)),(false,(.int .i64))],g_ref13_Step⟩)::tab125
theorem tab126_ok:TabOK Tryz.prog (mkTab pu tab126):=tab_cons tab125_ok e118
def an197:List (Nat×Nat×Nat×An):=[(197,4,27,.loop { keep:=[0,1,3,7,15,23,11,19,27,9,17,25,13,21,2,8,16,24,12,20,28,6,10,18,26,14,22],kb:=[0,1],pl:=[.slot 5 false (.int .i64),.slot 4 false .bool],ex:=[(.ret,[]),(.exit 0,[])],pay:=.unit })]
theorem e197 (x:domDen [(true,T9),(true,T9)]):runA Tryz.prog (mkTab pu tab126) (annGet an197) 3000 60 197 [(true,T9),(true,T9)] [(false,.bool)] x=g_ref11_Same x:=by kernel_rfl
def tab127:List (FuncId×Sg):=(197,⟨[(true,T9),(true,T9)],[(false,.bool)],g_ref11_Same⟩)::tab126
theorem tab127_ok:TabOK Tryz.prog (mkTab pu tab127):=tab_cons tab126_ok e197
theorem e119 (x:domDen [(true,T13),(true,T13)]):runA Tryz.prog (mkTab pu tab127) (annGet []) 3000 60 119 [(true,T13),(true,T13)] [(false,.bool)] x=g_ref13_Same x:=by kernel_rfl
def tab128:List (FuncId×Sg):=(119,⟨[(true,T13),(true,T13)],[(false,.bool)],g_ref13_Same⟩)::tab127
theorem tab128_ok:TabOK Tryz.prog (mkTab pu tab128):=tab_cons tab127_ok e119
def an38:List (Nat×Nat×Nat×An):=[(38,10,42,.loop { keep:=[0,1,7,31,23,39,19,35,27,43,5,17,33,49,25,41,21,37,29,45,4,16,32,48,24,40,20,36,28,44,6,18,34,50,26,42,22,38,30,46],kb:=[0],pl:=[.slot 3 false (.int .i64),.slot 2 false (.int .i64),.slot 8 false (.int .i64)],ex:=[(.ret,[]),(.exit 0,[])],pay:=.unit })]
theorem e38 (x:domDen [(true,T16)]):runA Tryz.prog (mkTab pu tab128) (annGet an38) 3000 60 38 [(true,T16)] [(false,(.int .i64)),(false,(.int .i64))] x=g_ref16_Check x:=by kernel_rfl
def tab129:List (FuncId×Sg):=(38,⟨[(true,T16)],[(false,(.int .i64)),(false,(.int .i64))],g_ref16_Check⟩)::tab128
theorem tab129_ok:TabOK Tryz.prog (mkTab pu tab129):=tab_cons tab128_ok e38
theorem e106 (x:domDen [(true,T16)]):runA Tryz.prog (mkTab pu tab129) (annGet []) 3000 60 106 [(true,T16)] [(false,(.sl false (.int .i64))),(false,(.int .i64))] x=g_ref16_Pending x:=by kernel_rfl
def tab130:List (FuncId×Sg):=(106,⟨[(true,T16)],[(false,(.sl false (.int .i64))),(false,(.int .i64))],g_ref16_Pending⟩)::tab129
theorem tab130_ok:TabOK Tryz.prog (mkTab pu tab130):=tab_cons tab129_ok e106
def an95:List (Nat×Nat×Nat×An):=[(95,5,13,.loop { keep:=[0,1,7,15,11,9,13,2,12,6,10,14],kb:=[0],pl:=[.slot 5 false (.int .i64),.slot 4 false (.int .i64),.slot 8 false (.int .i64)],ex:=[(.ret,[]),(.exit 0,[])],pay:=.unit })]
theorem e95 (x:domDen [(true,T16),(false,(.int .i64))]):runA Tryz.prog (mkTab pu tab130) (annGet an95) 3000 60 95 [(true,T16),(false,(.int .i64))] [(false,(.int .i64)),(false,(.int .i64))] x=g_ref16_Find x:=by kernel_rfl
def tab131:List (FuncId×Sg):=(95,⟨[(true,T16),(false,(.int .i64))],[(false,(.int .i64)),(false,(.int .i64))],g_ref16_Find⟩)::tab130
theorem tab131_ok:TabOK Tryz.prog (mkTab pu tab131):=tab_cons tab130_ok e95
theorem e101 (x:domDen [(true,T16),(false,(.int .i64))]):runA Tryz.prog (mkTab pu tab131) (annGet []) 3000 60 101 [(true,T16),(false,(.int .i64))] [(false,(.int .i64)),(false,(.int .i64))] x=g_ref16_Left x:=by kernel_rfl
def tab132:List (FuncId×Sg):=(101,⟨[(true,T16),(false,(.int .i64))],[(false,(.int .i64)),(false,(.int .i64))],g_ref16_Left⟩)::tab131
theorem tab132_ok:TabOK Tryz.prog (mkTab pu tab132):=tab_cons tab131_ok e101
theorem e177 (x:domDen [(false,(.int .i64)),(false,(.int .i64))]):runA Tryz.prog (mkTab pu tab132) (annGet []) 3000 60 177 [(false,(.int .i64)),(false,(.int .i64))] [(false,(.int .i64)),(false,(.int .i64))] x=g_ref15_Size x:=by kernel_rfl
def tab133:List (FuncId×Sg):=(177,⟨[(false,(.int .i64)),(false,(.int .i64))],[(false,(.int .i64)),(false,(.int .i64))],g_ref15_Size⟩)::tab132
theorem tab133_ok:TabOK Tryz.prog (mkTab pu tab133):=tab_cons tab132_ok e177
theorem e103 (x:domDen [(true,T16),(true,T14)]):runA Tryz.prog (mkTab pu tab133) (annGet []) 3000 60 103 [(true,T16),(true,T14)] [(false,.bool)] x=g_ref17_small x:=by kernel_rfl
def tab134:List (FuncId×Sg):=(103,⟨[(true,T16),(true,T14)],[(false,.bool)],g_ref17_small⟩)::tab133
theorem tab134_ok:TabOK Tryz.prog (mkTab pu tab134):=tab_cons tab133_ok e103
theorem e104 (x:domDen [(true,T16),(false,(.int .i64))]):runA Tryz.prog (mkTab pu tab134) (annGet []) 3000 60 104 [(true,T16),(false,(.int .i64))] [(false,.bool)] x=g_ref17_room x:=by kernel_rfl
def tab135:List (FuncId×Sg):=(104,⟨[(true,T16),(false,(.int .i64))],[(false,.bool)],g_ref17_room⟩)::tab134
theorem tab135_ok:TabOK Tryz.prog (mkTab pu tab135):=tab_cons tab134_ok e104
theorem e30 (x:domDen [(true,T16),(false,(.int .i64))]):runA Tryz.prog (mkTab pu tab135) (annGet []) 3000 60 30 [(true,T16),(false,(.int .i64))] [(false,.bool),(false,(.int .i64))] x=g_ref17_Can x:=by kernel_rfl
def tab136:List (FuncId×Sg):=(30,⟨[(true,T16),(false,(.int .i64))],[(false,.bool),(false,(.int .i64))],g_ref17_Can⟩)::tab135
theorem tab136_ok:TabOK Tryz.prog (mkTab pu tab136):=tab_cons tab135_ok e30
theorem e32 (x:domDen [(true,T16),(false,(.int .i64))]):runA Tryz.prog (mkTab pu tab136) (annGet []) 3000 60 32 [(true,T16),(false,(.int .i64))] [(false,(.int .i64)),(false,(.int .i64))] x=g_ref17_Target x:=by kernel_rfl
def tab137:List (FuncId×Sg):=(32,⟨[(true,T16),(false,(.int .i64))],[(false,(.int .i64)),(false,(.int .i64))],g_ref17_Target⟩)::tab136
theorem tab137_ok:TabOK Tryz.prog (mkTab pu tab137):=tab_cons tab136_ok e32
def an34:List (Nat×Nat×Nat×An):=[(34,7,16,.loop { keep:=[0,1,15,11,19,5,9,17,13,4,12,10,18,14],kb:=[0],pl:=[.slot 3 false (.int .i64),.slot 2 false (.int .i64),.slot 6 false (.int .i64)],ex:=[(.ret,[]),(.exit 0,[])],pay:=.unit })]
theorem e34 (x:domDen [(true,T16)]):runA Tryz.prog (mkTab pu tab137) (annGet an34) 3000 60 34 [(true,T16)] [(false,(.int .i64)),(false,(.int .i64))] x=g_ref17_Next x:=by kernel_rfl
def tab138:List (FuncId×Sg):=(34,⟨[(true,T16)],[(false,(.int .i64)),(false,(.int .i64))],g_ref17_Next⟩)::tab137
theorem tab138_ok:TabOK Tryz.prog (mkTab pu tab138):=tab_cons tab137_ok e34
theorem e5 (x:domDen [(true,T16),(false,(.int .i64))]):runA Tryz.prog (mkTab pu tab138) (annGet []) 3000 60 5 [(true,T16),(false,(.int .i64))] [(false,.bool)] x=g_law17_InstallAsks x:=by kernel_rfl
theorem calls_law17_InstallAsks {x:domDen [(true,T16),(false,(.int .i64))]} (h:g_law17_InstallAsks x=some true) {ps:List Pi.PV} (ha:domP [(true,T16),(false,(.int .i64))] x ps) {M:Pi.Mem} {w:World} (hM : ∀ a v,M a=some v→a.spot=none∧w.cell? a=some v) {vs:List Value} (hr:Pi.RepL M Pi.mu0 ps vs) :
  Calls Tryz.prog 5 vs.toArray w λe w'=>e = .returned (.bool true)∧RowKit.Grown w w':=law_calls tab138_ok ((e5 x).trans h) ha hM hr
end Go.Proofs.YthpkjfabdccpdaaGreat.Pt
