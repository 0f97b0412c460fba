/- The evaluator comes to each of the plain functions. No condition. -/
import Derived.Test.YtggceepiljjadaaGreatPt9
set_option linter.all false
namespace Go.Proofs.YtggceepiljjadaaGreat.Pt
open Go Sv Pl
set_option maxRecDepth 1000000
def vN:Sg:=⟨[(true,tV)],[(false,.bool)],VW⟩
theorem e65:tE fw [] 65 vN:=fun _=>by kernel_rfl
def fx:tL:=(65,vN)::fw
theorem jT:tO fx:=SR jS e65
def wN:tA:=[(33,2,11,.loop { keep:=[0,1,7,11,5,9,8,12,6,10],kb:=[0],pl:=[.slot 13 false zJ,.slot 2 false .bool],ex:=[(.ret,[]),(.exit 0,[])],pay:=.unit })]
def un:Sg:=⟨[(true,tV)],[(false,.bool)],Ud⟩
theorem zd:tE fx wN 33 un:=fun _=>by kernel_rfl
def fy:tL:=(33,un)::fx
theorem jU:tO fy:=SR jT zd
def wE:tA:=[(11,8,21,.loop { keep:=[0,1,15,23,11,19,17,13,21,4,16,24,12,20,10,14,22],kb:=[0],pl:=[.slot 3 false zJ,.slot 5 false .bool,.slot 25 false zJ,.slot 2 false zJ],ex:=[(.ret,[]),(.exit 1,[])],pay:=.unit })]
def uV:Sg:=⟨[(true,bn)],[zI,zI],VP⟩
theorem zH:tE fy wE 11 uV:=fun _=>by kernel_rfl
def f6:tL:=(11,uV)::fy
theorem jV:tO f6:=SR jU zH
theorem m67:MB Tryz.prog (λf=> !pu f) 1000 100 67=true:=by kernel_rfl
theorem e67(a:Ty.den ah)(l:List (Ty.den ah)):OQ Tryz.prog (Ah pu f6) (RK []) 3000 60 67 [(false,(.sl true ah))] [(false,(.sl true ah))] (a::l)=UW (a::l):=by kernel_rfl
def f7:tL:=(67,⟨[(false,(.sl true ah))],[(false,(.sl true ah))],UW⟩)::f6
theorem jW:tO f7:=SS (gg:=true) (c:=ah) jV m67 rfl e67
theorem n67:Ou Tryz.prog (λf=> !pu f) 1000 100 67=true:=by kernel_rfl
theorem r67(a:Ty.den ah)(l:List (Ty.den ah)):Py Tryz.prog (Ah pu f7) (RK []) 3000 60 67 [(false,(.sl true ah))] true ah (a::l)=UW (a::l):=by kernel_rfl
def f8:tL:=(67+Di,⟨[(false,(.sl true ah))],[(false,(.sl true ah))],UW⟩)::f7
theorem jX:tO f8:=SU (gg:=true) (c:=ah) jW n67 rfl (λa l y h=>R6 h) r67
def uq:Sg:=⟨[(true,bn),zI,zI],[(true,bn),zI,zI],YH⟩
theorem zf:tE f8 [] 35 uq:=fun _=>by kernel_rfl
def f9:tL:=(35,uq)::f8
theorem jY:tO f9:=SR jX zf
def vQ:Sg:=⟨[(true,T4),zI],[(true,T4),(false,(.sl true T3)),zI],Vt⟩
theorem e68:tE f9 [] 68 vQ:=fun _=>by kernel_rfl
def gA:tL:=(68,vQ)::f9
theorem jZ:tO gA:=SR jY e68
def ur:Sg:=⟨[(true,bn),zI],[(true,bn),zI],WL⟩
theorem zg:tE gA [] 36 ur:=fun _=>by kernel_rfl
def gB:tL:=(36,ur)::gA
theorem ja:tO gB:=SR jZ zg
def uW:Sg:=⟨[(true,bn),zI],[(true,bn),(false,.bool),zI],Ux⟩
theorem zK:tE gB [] 12 uW:=fun _=>by kernel_rfl
def gC:tL:=(12,uW)::gB
theorem jc:tO gC:=SR ja zK
def wF:tA:=[(13,2,2,.loop { keep:=[0,1],kb:=[],pl:=[.slot 5 false zJ,.slot 4 false .bool],ex:=[(.ret,[]),(.exit 0,[])],pay:=.unit })]
def uX:Sg:=⟨[(false,(.sl true T2)),(false,(.sl true T2))],[(false,.bool)],Vv⟩
theorem zL:tE gC wF 13 uX:=fun _=>by kernel_rfl
def lC:tL:=(13,uX)::gC
theorem jd:tO lC:=SR jc zL
def y9:tA:=[(3,5,28,.loop { keep:=[0,1,15,31,23,39,19,35,27,17,33,25,21,29,2,16,32,24,20,36,28,18,34,26,22,38,30],kb:=[],pl:=[.slot 5 false (.sl true T2),.slot 4 false .bool,.slot 6 false zJ,.box 0 [.lf zJ,.lf (.sl true T2),.lf zJ,.lf (.sl true (.sl true T3)),.lf (.sl true ah),.lf zJ]],ex:=[(.ret,[]),(.exit 0,[])],pay:=.unit })]
theorem e3(x:AR [(true,eA),(false,(.sl true T2))]):OQ Tryz.prog (Ah pu lC) (RK y9) 3000 60 3 [(true,eA),(false,(.sl true T2))] [(false,.bool)] x=U3 x:=by kernel_rfl
theorem YD{x:AR [(true,eA),(false,(.sl true T2))]}(h:U3 x=some true){b:List Pi.PV}(d:Dr [(true,eA),(false,(.sl true T2))] x b){M:Pi.Ao}{w:World}(c:∀ a v,M a=some v->a.spot=none/\w.cell? a=some v){vs:List Value}(f:Pi.RepL M Pi.mu0 b vs) :
  Calls Tryz.prog 3 vs.toArray w λe w'=>e=.returned (.bool true)/\RowKit.Grown w w':=Ry (Pi.RG _ λ_=>rfl) jd ((e3 x).trans h) d (Ru (λ_=>rfl) _) c f
end Go.Proofs.YtggceepiljjadaaGreat.Pt
