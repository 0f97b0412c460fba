/- The evaluator comes to each of the plain functions. No condition. -/
import Derived.Test.YtiehjicadcamiaaGreatPt10
set_option linter.all false
open Option renaming some->zo, none->zn
open Bool renaming true->zt, false->zf
namespace Go.Proofs.YtiehjicadcamiaaGreat.Pt
open Go Sv Pl
set_option maxRecDepth 1000000
def an8:tA:=[(8,6,11,.loop { keep:=[0,5,9,13,2,4,8,12,10,14],kb:=[],pl:=[.slot 3 zf zJ,.slot 15 zf zJ,.box 0 [.lf zJ,.lf zJ,.lf zJ,.lf zJ,.lf zJ,.lf zJ,.lf zJ,.lf zJ,.lf zJ,.lf zJ,.lf zJ,.lf zJ,.lf zJ,.lf zJ,.lf zJ],.box 5 [.lf zJ,.lf zJ,.lf zJ,.lf zJ,.lf zJ,.lf zJ,.lf zJ,.lf zJ,.lf zJ,.lf zJ,.lf zJ,.lf zJ,.lf zJ,.lf zJ,.lf zJ]],ex:=[(.exit 0,[]),(.ret,[])],pay:=.unit }),(21,2,34,.loop { keep:=[0,3,18,19],kb:=[0,31,5,20,14],pl:=[.slot 4 zf .bool,.slot 20 zf zJ],ex:=[(.ret,[]),(.exit 0,[])],pay:=.unit }),(21,10,74,.loop { keep:=[0,66],kb:=[0,31,20,14],pl:=[.slot 67 zf zJ,.box 5 [.lf zJ,.lf zJ,.lf zJ,.lf zJ,.lf zJ,.lf zJ,.lf zJ,.lf zJ,.lf zJ,.lf zJ,.lf zJ,.lf zJ,.lf zJ,.lf zJ,.lf zJ]],ex:=[(.exit 2,[])],pay:=.unit,st:=zt })]
def zV:Sg:=⟨[(zf,(.sl zt bV))],[(zt,bV),zI],XF⟩
theorem e8:tQ gS an8 8 zV:=fun _=>by kernel_rfl
def gT:tL:=(8,zV)::gS
theorem ji:tO gT:=Sj jh e8
def ur:Sg:=⟨[zI],[(zf,.bool)],VO⟩
theorem e29:tQ gT [] 29 ur:=fun _=>by kernel_rfl
def gU:tL:=(29,ur)::gT
theorem jj:tO gU:=Sj ji e29
def wM:tA:=[(14,5,7,.loop { keep:=[0,9,2,4,8,10],kb:=[],pl:=[.slot 3 zf zJ,.slot 5 zf zJ,.box 0 [.lf zJ,.lf zJ,.lf zJ,.lf zJ,.lf zJ,.lf zJ,.lf zJ,.lf zJ,.lf zJ,.lf zJ,.lf zJ,.lf zJ,.lf zJ,.lf zJ,.lf zJ],.box 5 [.lf zJ,.lf zJ,.lf zJ,.lf zJ,.lf zJ,.lf zJ,.lf zJ,.lf zJ,.lf zJ,.lf zJ,.lf zJ,.lf zJ,.lf zJ,.lf zJ,.lf zJ]],ex:=[(.exit 0,[]),(.ret,[])],pay:=.unit }),(14,12,55,.loop { keep:=[0,15,31,47,23,39,55,19,35,51,27,43,5,9,33,49,25,41,13,21,37,53,29,45,2,4,8,32,48,24,40,56,12,20,36,52,28,44,6,10,18,34,50,26,42,14,22,54,30,46],kb:=[15],pl:=[.slot 3 zf zJ,.slot 7 zf zJ,.box 0 [.lf zJ,.lf zJ,.lf zJ,.lf zJ,.lf zJ,.lf zJ,.lf zJ,.lf zJ,.lf zJ,.lf zJ,.lf zJ,.lf zJ,.lf zJ,.lf zJ,.lf zJ],.box 5 [.lf zJ,.lf zJ,.lf zJ,.lf zJ,.lf zJ,.lf zJ,.lf zJ,.lf zJ,.lf zJ,.lf zJ,.lf zJ,.lf zJ,.lf zJ,.lf zJ,.lf zJ]],ex:=[(.exit 2,[]),(.ret,[])],pay:=.unit })]
def ud:Sg:=⟨[(zf,(.sl zt bV))],[(zt,bV),zI],Xv⟩
theorem e14:tQ gU wM 14 ud:=fun _=>by kernel_rfl
def ky:tL:=(14,ud)::gU
theorem jk:tO ky:=Sj jj e14
def an4:tA:=[(4,1001001,2,.join { keep:=[0,1,3,2,6],kb:=[0],pl0:=[],pl1:=[.slot 46 zf .bool],ex:=[],pay:=.unit }),(4,1005005,24,.join { keep:=[0,1,3,7,55,11,51,59,9,49,57,53,61,2,8,48,56,12,52,60,6,10,50,58,54,46],kb:=[0,9,20],pl0:=[],pl1:=[.slot 76 zf .bool],ex:=[],pay:=.unit })]
theorem e4(x:AO [(zt,Xx),(zf,(.sl zf zJ)),(zf,(.sl zt bV))]):OZ Tryz.prog (Ae pu ky) (RU an4) 3000 60 4 [(zt,Xx),(zf,(.sl zf zJ)),(zf,(.sl zt bV))] [(zf,.bool)] x=Vj x:=by kernel_rfl
theorem Yu{x:AO [(zt,Xx),(zf,(.sl zf zJ)),(zf,(.sl zt bV))]}(h:Vj x=zo zt){b:List Pi.PV}(d:Df [(zt,Xx),(zf,(.sl zf zJ)),(zf,(.sl zt bV))] x b){M:Pi.Ao}{w:World}(c:∀ a v,M a=zo v->a.spot=zn/\w.cell? a=zo v){vs:List Value}(f:Pi.RepL M Pi.mu0 b vs) :
  Calls Tryz.prog 4 vs.toArray w λe w'=>e=.returned (.bool zt)/\RowKit.Grown w w':=SF (Pi.RR _ λ_=>rfl) jk ((e4 x).trans h) d (SB (λ_=>rfl) _) c f
end Go.Proofs.YtiehjicadcamiaaGreat.Pt
