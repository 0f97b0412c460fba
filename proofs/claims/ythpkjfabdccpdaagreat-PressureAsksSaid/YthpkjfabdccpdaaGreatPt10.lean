/- The evaluator comes to each of the plain functions. No condition. -/
import Derived.Test.YthpkjfabdccpdaaGreatPt9
set_option linter.all false
namespace Go.Proofs.YthpkjfabdccpdaaGreat.Pt
open Go Go.Proofs.YthpkjfabdccpdaaGreat.Sv Go.Proofs.YthpkjfabdccpdaaGreat.Pl
set_option maxRecDepth 1000000
set_option linter.unusedVariables false
def lh:List (Nat×Nat×Nat×An):=[(118,11,32,.loop { keep:=[0,1,7,15,31,23,39,19,35,27,5,9,17,33,25,21,37,2,4,8,16,32,24,20,36,6,10,18,34,26,22,30],kb:=[0,1],pl:=[.slot 11 false (.int .i64),.box 29 [.lf (.sl false (.sl true T2)),.lf (.sl false (.int .i64)),.lf (.sl true T5),.lf (.sl false (.int .i64)),.lf (.int .i64),.lf .bool,.lf .str,.lf .bool,.lf (.sl true T2),.lf (.int .i64)]],ex:=[(.exit 0,[])],pay:=.unit })]
theorem pX (x:AG [(true,IR),(false,(.int .i64))]):Ab Tryz.prog (AC pu Vk) (AI lh) 3000 60 118 [(true,IR),(false,(.int .i64))] [(true,IR),(false,(.int .i64)),(false,(.int .i64))] x=BQ x:=by kernel_rfl
def Vl:List (FuncId×Sg):=(118,⟨[(true,IR),(false,(.int .i64))],[(true,IR),(false,(.int .i64)),(false,(.int .i64))],BQ⟩)::Vk
theorem Yn:TabOK Tryz.prog (AC pu Vl):=AE Ym pX
def pY:List (Nat×Nat×Nat×An):=[(38,10,42,.loop { keep:=[0,1,7,31,23,39,19,35,27,43,5,17,33,49,25,41,21,37,29,45,4,16,32,48,24,40,20,36,28,44,6,18,34,50,26,42,22,38,30,46],kb:=[0],pl:=[.slot 3 false (.int .i64),.slot 2 false (.int .i64),.slot 8 false (.int .i64)],ex:=[(.ret,[]),(.exit 0,[])],pay:=.unit })]
theorem qc (x:AG [(true,Lg)]):Ab Tryz.prog (AC pu Vl) (AI pY) 3000 60 38 [(true,Lg)] [(false,(.int .i64)),(false,(.int .i64))] x=EN x:=by kernel_rfl
def Vm:List (FuncId×Sg):=(38,⟨[(true,Lg)],[(false,(.int .i64)),(false,(.int .i64))],EN⟩)::Vl
theorem Yo:TabOK Tryz.prog (AC pu Vm):=AE Yn qc
theorem qd (x:AG [(true,GV)]):Ab Tryz.prog (AC pu Vm) (AI []) 3000 60 51 [(true,GV)] [(false,(.int .i64))] x=DW x:=by kernel_rfl
def Vn:List (FuncId×Sg):=(51,⟨[(true,GV)],[(false,(.int .i64))],DW⟩)::Vm
theorem Yp:TabOK Tryz.prog (AC pu Vn):=AE Yo qd
def lj:List (Nat×Nat×Nat×An):=[(135,5,27,.loop { keep:=[0,1,15,23,11,19,27,9,17,25,13,21,29,2,4,8,16,24,12,20,28,10,18,26,14,22],kb:=[0],pl:=[.slot 5 false (.int .i64),.slot 6 false (.int .i64)],ex:=[(.exit 0,[])],pay:=.unit }),(135,5,26,.loop { keep:=[0,1,15,23,11,19,27,9,17,25,13,21,29,2,4,8,16,24,12,20,28,10,18,26,14,22],kb:=[0],pl:=[.slot 5 false (.int .i64),.slot 6 false (.int .i64)],ex:=[(.exit 0,[])],pay:=.unit }),(135,9,28,.loop { keep:=[0,1,15,23,11,19,27,9,17,25,13,21,29,2,4,8,16,24,12,20,28,6,10,18,26,14,22],kb:=[0],pl:=[.slot 7 false (.int .i64),.slot 5 false (.int .i64)],ex:=[(.exit 2,[])],pay:=.unit }),(135,9,27,.loop { keep:=[0,1,15,23,11,19,27,9,17,25,13,21,29,2,4,8,16,24,12,20,28,6,10,18,26,14,22],kb:=[0],pl:=[.slot 7 false (.int .i64),.slot 5 false (.int .i64)],ex:=[(.exit 2,[])],pay:=.unit })]
theorem pZ (x:AG [(true,GV),(false,(.sl true T2))]):Ab Tryz.prog (AC pu Vn) (AI lj) 3000 60 135 [(true,GV),(false,(.sl true T2))] [(false,(.int .i64))] x=FQ x:=by kernel_rfl
def Vo:List (FuncId×Sg):=(135,⟨[(true,GV),(false,(.sl true T2))],[(false,(.int .i64))],FQ⟩)::Vn
theorem Yq:TabOK Tryz.prog (AC pu Vo):=AE Yp pZ
def lm:List (Nat×Nat×Nat×An):=[(206,5,18,.loop { keep:=[0,1,15,11,19,5,9,17,13,2,4,8,16,12,10,18,14],kb:=[0],pl:=[.slot 7 false (.int .i64),.slot 6 false (.int .i64)],ex:=[(.exit 0,[])],pay:=.unit }),(206,5,17,.loop { keep:=[0,1,15,11,19,5,9,17,13,2,4,8,16,12,10,18,14],kb:=[0],pl:=[.slot 7 false (.int .i64),.slot 6 false (.int .i64)],ex:=[(.exit 0,[])],pay:=.unit })]
theorem pf (x:AG [(true,T3),(false,(.sl true T2))]):Ab Tryz.prog (AC pu Vo) (AI lm) 3000 60 206 [(true,T3),(false,(.sl true T2))] [(false,(.int .i64))] x=FS x:=by kernel_rfl
def Vp:List (FuncId×Sg):=(206,⟨[(true,T3),(false,(.sl true T2))],[(false,(.int .i64))],FS⟩)::Vo
theorem Yr:TabOK Tryz.prog (AC pu Vp):=AE Yq pf
def lq:List (Nat×Nat×Nat×An):=[(236,5,7,.loop { keep:=[0,1,3,5,4],kb:=[0],pl:=[.slot 7 false (.int .i64),.slot 9 false (.int .i64),.slot 8 false .bool,.srow 6 true T2 false],ex:=[(.exit 0,[])],pay:=.unit })]
theorem pj (x:AG [(false,(.sl true T2)),(true,T2)]):Ab Tryz.prog (AC pu Vp) (AI lq) 3000 60 236 [(false,(.sl true T2)),(true,T2)] [(false,(.sl true T2)),(false,(.int .i64))] x=Fm x:=by kernel_rfl
def Vq:List (FuncId×Sg):=(236,⟨[(false,(.sl true T2)),(true,T2)],[(false,(.sl true T2)),(false,(.int .i64))],Fm⟩)::Vp
theorem Ys:TabOK Tryz.prog (AC pu Vq):=AE Yr pj
def lr:List (Nat×Nat×Nat×An):=[(207,3,10,.loop { keep:=[0,1,11,5,13,2,4,12,14],kb:=[0,6],pl:=[.slot 7 false (.int .i64),.slot 8 false (.int .i64),.slot 6 false (.sl true T2)],ex:=[(.exit 0,[])],pay:=.unit,relS:=[6] })]
theorem pk (x:AG [(true,T3),(false,(.sl true T2))]):Ab Tryz.prog (AC pu Vq) (AI lr) 3000 60 207 [(true,T3),(false,(.sl true T2))] [(false,(.sl true T2)),(false,(.int .i64))] x=G6 x:=by kernel_rfl
def Vr:List (FuncId×Sg):=(207,⟨[(true,T3),(false,(.sl true T2))],[(false,(.sl true T2)),(false,(.int .i64))],G6⟩)::Vq
theorem Yt:TabOK Tryz.prog (AC pu Vr):=AE Ys pk
theorem pn (x:AG [(true,T3),(false,(.sl true T2))]):Ab Tryz.prog (AC pu Vr) (AI []) 3000 60 136 [(true,T3),(false,(.sl true T2))] [(false,.bool),(false,(.int .i64))] x=GQ x:=by kernel_rfl
def Vs:List (FuncId×Sg):=(136,⟨[(true,T3),(false,(.sl true T2))],[(false,.bool),(false,(.int .i64))],GQ⟩)::Vr
theorem Yu:TabOK Tryz.prog (AC pu Vs):=AE Yt pn
theorem qf (x:AG [(true,GV),(false,(.sl true T2))]):Ab Tryz.prog (AC pu Vs) (AI []) 3000 60 53 [(true,GV),(false,(.sl true T2))] [(false,.bool),(false,(.int .i64))] x=ER x:=by kernel_rfl
def Vt:List (FuncId×Sg):=(53,⟨[(true,GV),(false,(.sl true T2))],[(false,.bool),(false,(.int .i64))],ER⟩)::Vs
theorem Yv:TabOK Tryz.prog (AC pu Vt):=AE Yu qf
theorem po (x:AG [(true,GV)]):Ab Tryz.prog (AC pu Vt) (AI []) 3000 60 138 [(true,GV)] [(false,.bool)] x=GR x:=by kernel_rfl
def Vu:List (FuncId×Sg):=(138,⟨[(true,GV)],[(false,.bool)],GR⟩)::Vt
theorem Yw:TabOK Tryz.prog (AC pu Vu):=AE Yv po
theorem qg (x:AG [(true,GV),(false,(.sl true T2))]):Ab Tryz.prog (AC pu Vu) (AI []) 3000 60 55 [(true,GV),(false,(.sl true T2))] [(false,.bool),(false,(.int .i64))] x=GS x:=by kernel_rfl
def Vv:List (FuncId×Sg):=(55,⟨[(true,GV),(false,(.sl true T2))],[(false,.bool),(false,(.int .i64))],GS⟩)::Vu
theorem Yx:TabOK Tryz.prog (AC pu Vv):=AE Yw qg
theorem qh (x:AG [(true,GV)]):Ab Tryz.prog (AC pu Vv) (AI []) 3000 60 57 [(true,GV)] [(false,(.int .i64)),(false,(.int .i64))] x=GT x:=by kernel_rfl
def fT:List (FuncId×Sg):=(57,⟨[(true,GV)],[(false,(.int .i64)),(false,(.int .i64))],GT⟩)::Vv
theorem Yy:TabOK Tryz.prog (AC pu fT):=AE Yx qh
theorem e9 (x:AG [(true,GV),(false,(.sl true T2)),(false,(.int .i64))]):Ab Tryz.prog (AC pu fT) (AI []) 3000 60 9 [(true,GV),(false,(.sl true T2)),(false,(.int .i64))] [(false,.bool)] x=DL x:=by kernel_rfl
theorem IP {x:AG [(true,GV),(false,(.sl true T2)),(false,(.int .i64))]} (h:DL x=some true) {ps:List Pi.PV} (ha:IK [(true,GV),(false,(.sl true T2)),(false,(.int .i64))] x ps) {M:Pi.Bz} {w:World} (hM : ∀ a v,M a=some v->a.spot=none/\w.cell? a=some v) {vs:List Value} (hr:Pi.RepL M Pi.mu0 ps vs) :
  Calls Tryz.prog 9 vs.toArray w λe w'=>e = .returned (.bool true)/\RowKit.Grown w w':=XX Yy ((e9 x).trans h) ha hM hr
end Go.Proofs.YthpkjfabdccpdaaGreat.Pt
