/- The evaluator comes to each of the plain functions. No condition. -/
import Derived.Test.YtfipnhjfbebeiabGreatDoorPt9
set_option linter.all false
namespace Go.Proofs.YtfipnhjfbebeiabGreatDoor.Pt
open Go Sv Pl
set_option maxRecDepth 1000000
def wL:Sg:=⟨[(true,T4),zI],[(true,T4),(false,(.sl true T3)),zI],Vt⟩
theorem e97:tE fi [] 97 wL:=fun _=>by kernel_rfl
def fj:tL:=(97,wL)::fi
theorem jI:tO fj:=SY jH e97
def xF:tA:=[(174,1,31,.loop { keep:=[0,1,7,8,6],kb:=[0,1,25,21,26],pl:=[.slot 9 false zJ,.box 2 [.lf zJ,.ow true (.sl true T3) false],.box 3 [.lf zJ]],ex:=[(.exit 0,[(26,0,none)]),(.ret,[(26,2,some .ret)])],pay:=.unit }),(174,4,41,.loop { keep:=[0,1,7,15,11,9,13,4,8,16,12,6,10,14],kb:=[0,1,3,25,21,34,26],pl:=[.slot 5 false zJ,.box 2 [.lf zJ,.ow true (.sl true T3) false]],ex:=[(.exit 2,[(26,0,none)])],pay:=.unit }),(174,4,42,.loop { keep:=[0,1,7,15,11,9,13,4,8,16,12,6,10,14],kb:=[0,1,35,25,21,26],pl:=[.slot 5 false zJ,.box 2 [.lf zJ,.ow true (.sl true T3) false],.box 3 [.lf zJ]],ex:=[(.exit 2,[(26,0,none)]),(.ret,[(26,2,some .ret)])],pay:=.unit })]
def wM:Sg:=⟨[(true,T4),zI,(true,T3)],[(true,T4),zI],UY⟩
theorem e98:tE fj xF 98 wM:=fun _=>by kernel_rfl
def fm:tL:=(98,wM)::fj
theorem jJ:tO fm:=SY jI e98
def rL:Sg:=⟨[(true,T4),zI],[(true,aL),zI],Xk⟩
theorem xz:tE fm [] 153 rL:=fun _=>by kernel_rfl
def fo:tL:=(153,rL)::fm
theorem jK:tO fo:=SY jJ xz
def xG:tA:=[(99,3,10,.loop { keep:=[0,1,3,19,5,9,21,2,4,8,20,10,22],kb:=[0,1,2],pl:=[.slot 23 false zJ,.map 4 zJ true aL],ex:=[(.exit 0,[])],pay:=.unit }),(99,10,22,.loop { keep:=[0,1,3,23,39,19,35,5,33,13,21,37,2,4,8,32,20,36,10,34,22,38],kb:=[0,1,4],pl:=[.slot 9 false zJ,.slot 40 false zJ,.box 2 [.lf zJ,.ow true (.sl true T3) false,.ow true aL false,.lf zJ],.box 16 [.lf zJ,.lf (.sl true (.sl true T3)),.ow true aL false,.lf zJ]],ex:=[(.exit 2,[]),(.ret,[])],pay:=.unit })]
def wN:Sg:=⟨[(true,Zk),(true,T4),zI,zI],[(true,Zk),zI],UO⟩
theorem e99:tE fo xG 99 wN:=fun _=>by kernel_rfl
def fq:tL:=(99,wN)::fo
theorem jL:tO fq:=SY jK e99
def vV:Sg:=⟨[(true,Zk),zI],[(true,Zk),zI],WF⟩
theorem e47:tE fq [] 47 vV:=fun _=>by kernel_rfl
def ft:tL:=(47,vV)::fq
theorem jM:tO ft:=SY jL e47
def uw:Sg:=⟨[(true,Zk),zI],[(true,Zk),(false,.bool),zI],Uy⟩
theorem zp:tE ft [] 12 uw:=fun _=>by kernel_rfl
def fu:tL:=(12,uw)::ft
theorem jN:tO fu:=SY jM zp
def wm:tA:=[(135,3,25,.loop { keep:=[0,1,5,2,4,6],kb:=[0,3,19,9,18,14],pl:=[.box 13 [.lf zJ,.lf (.sl true (.sl true T3)),.lf (.sl true aL),.lf zJ],.box 22 [.er 306 0 150 .i64],.box 20 [.lf zJ],.box 2 [.lf zJ,.lf (.sl true (.sl true T3)),.lf (.sl true aL),.lf zJ],.box 1 [.lf zJ]],ex:=[(.ret,[(19,0,none)]),(.ret,[(19,2,some (.exit 0))])],pay:=.unit })]
def vO:Sg:=⟨[(true,Zk),zI],[(true,Zk),zI,zI],Xy⟩
theorem e39:tE fu wm 39 vO:=fun _=>by kernel_rfl
def fw:tL:=(39,vO)::fu
theorem jO:tO fw:=SY jN e39
def vK:Sg:=⟨[(true,Zk)],[(true,Zk),zI,zI],XQ⟩
theorem e36:tE fw [] 36 vK:=fun _=>by kernel_rfl
def fx:tL:=(36,vK)::fw
theorem jP:tO fx:=SY jO e36
def u7:Sg:=⟨[(true,gm)],[(true,gm),zI,zI],Vv⟩
theorem zz:tE fx [] 20 u7:=fun _=>by kernel_rfl
def kr:tL:=(20,u7)::fx
theorem jQ:tO kr:=SY jP zz
theorem e4 (x:AP [(true,gm)]):OU Tryz.prog (Ae pu kr) (RM []) 3000 60 4 [(true,gm)] [(false,.bool)] x=VV x:=by kernel_rfl
theorem Yd {x:AP [(true,gm)]} (h:VV x=some true) {ps:List Pi.PV} (c:Df [(true,gm)] x ps) {M:Pi.Ap} (gl:Pi.GlOK M) {w:World} (b : ∀ a v,M a=some v->a.spot=none/\w.cell? a=some v) {vs:List Value} (d:Pi.RepL M Pi.mu0 ps vs) :
  Calls Tryz.prog 4 vs.toArray w λe w'=>e = .returned (.bool true)/\RowKit.Grown w w':=R0 Gv.prim jQ ((e4 x).trans h) c gl b d
end Go.Proofs.YtfipnhjfbebeiabGreatDoor.Pt
