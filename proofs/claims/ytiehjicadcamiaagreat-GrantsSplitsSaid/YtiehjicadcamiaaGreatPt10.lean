/- The evaluator comes to each of the plain functions. No condition. -/
import Derived.Test.YtiehjicadcamiaaGreatPt9
set_option linter.all false
open Option renaming some->zo, none->zn
open Bool renaming true->zt, false->zf
namespace Go.Proofs.YtiehjicadcamiaaGreat.Pt
open Go Sv Pl
set_option maxRecDepth 1000000
def pw:Sg:=⟨[(zt,T4),zI],[(zt,ZI),zI],U5⟩
theorem wQ:tQ fT [] 116 pw:=fun _=>by kernel_rfl
def fU:tL:=(116,pw)::fT
theorem iq:tO fU:=Sj ip wQ
def vV:tA:=[(83,3,98,.loop { keep:=[0,1,3,7,13,2,4,12,6,14],kb:=[0,1,92,90,70,54],pl:=[.slot 8 zf zJ,.box 91 [.lf zJ,.lf (.sl zt (.sl zt T3)),.ow zt ZI zf,.lf zJ]],ex:=[(.exit 0,[])],pay:=.unit }),(83,3,73,.loop { keep:=[0,1,3,7,13,2,4,12,6,14],kb:=[0,1,67,65,54],pl:=[.slot 8 zf zJ,.box 66 [.lf zJ,.lf (.sl zt (.sl zt T3)),.ow zt ZI zf,.lf zJ]],ex:=[(.exit 0,[])],pay:=.unit }),(83,7,116,.loop { keep:=[0,1,3,7,15,23,27,9,17,25,13,21,29,2,4,8,16,24,12,28,6,10,18,26,14,22,30],kb:=[0,1,91,92,90,70,54],pl:=[.slot 11 zf zJ,.box 112 [.lf zJ,.lf (.sl zf (.sl zt T2)),.lf (.sl zf zJ),.lf (.sl zt T5),.lf (.sl zf zJ),.lf zJ,.lf .bool,.lf .str,.lf .bool,.lf (.sl zt T2),.lf zJ]],ex:=[(.exit 2,[])],pay:=.unit }),(83,7,91,.loop { keep:=[0,1,3,7,15,23,27,9,17,25,13,21,29,2,4,8,16,24,12,28,6,10,18,26,14,22,30],kb:=[0,1,67,65,66,54],pl:=[.slot 11 zf zJ,.box 87 [.lf zJ,.lf (.sl zf (.sl zt T2)),.lf (.sl zf zJ),.lf (.sl zt T5),.lf (.sl zf zJ),.lf zJ,.lf .bool,.lf .str,.lf .bool,.lf (.sl zt T2),.lf zJ]],ex:=[(.exit 2,[])],pay:=.unit }),(83,7,117,.loop { keep:=[0,1,3,7,15,23,27,9,17,25,13,21,29,2,4,8,16,24,12,28,6,10,18,26,14,22,30],kb:=[0,1,91,92,98,90,70,54],pl:=[.slot 11 zf zJ,.box 113 [.lf zJ,.lf (.sl zf (.sl zt T2)),.lf (.sl zf zJ),.lf (.sl zt T5),.lf (.sl zf zJ),.lf zJ,.lf .bool,.lf .str,.lf .bool,.lf (.sl zt T2),.lf zJ]],ex:=[(.exit 2,[])],pay:=.unit }),(83,7,92,.loop { keep:=[0,1,3,7,15,23,27,9,17,25,13,21,29,2,4,8,16,24,12,28,6,10,18,26,14,22,30],kb:=[0,1,67,65,73,66,54],pl:=[.slot 11 zf zJ,.box 88 [.lf zJ,.lf (.sl zf (.sl zt T2)),.lf (.sl zf zJ),.lf (.sl zt T5),.lf (.sl zf zJ),.lf zJ,.lf .bool,.lf .str,.lf .bool,.lf (.sl zt T2),.lf zJ]],ex:=[(.exit 2,[])],pay:=.unit })]
def uJ:Sg:=⟨[(zt,YM),zI],[(zt,YM),zI],WF⟩
theorem zW:tQ fU vV 47 uJ:=fun _=>by kernel_rfl
def fV:tL:=(47,uJ)::fU
theorem ir:tO fV:=Sj iq zW
def tq:Sg:=⟨[(zt,YM),zI],[(zt,YM),(zf,.bool),zI],Vc⟩
theorem y8:tQ fV [] 24 tq:=fun _=>by kernel_rfl
def fW:tL:=(24,tq)::fV
theorem iu:tO fW:=Sj ir y8
def yj:tA:=[(9,7,24,.loop { keep:=[0,1,7,15,23,19,27,17,25,21,29,2,4,8,16,24,20,28,18,26,14,22,30],kb:=[],pl:=[.slot 5 zf zJ,.slot 9 zf zJ,.slot 6 zf zJ,.box 1 [.lf zJ,.lf (.sl zt (.sl zt T3)),.lf (.sl zt ZI),.lf zJ],.box 0 [.lf zJ,.lf (.sl zt (.sl zt T3)),.lf (.sl zt ZI),.lf zJ]],ex:=[(.exit 0,[]),(.ret,[])],pay:=.unit })]
def yI:Sg:=⟨[(zt,YM),zI],[(zt,YM),zI,zI],YQ⟩
theorem e9:tQ fW yj 9 yI:=fun _=>by kernel_rfl
def fX:tL:=(9,yI)::fW
theorem iv:tO fX:=Sj iu e9
def sS:tA:=[(117,2,2,.loop { keep:=[0,1],kb:=[],pl:=[.slot 5 zf zJ,.slot 4 zf .bool],ex:=[(.ret,[]),(.exit 0,[])],pay:=.unit })]
def px:Sg:=⟨[(zf,(.sl zt T2)),(zf,(.sl zt T2))],[(zf,.bool)],Wh⟩
theorem wR:tQ fX sS 117 px:=fun _=>by kernel_rfl
def fY:tL:=(117,px)::fX
theorem iw:tO fY:=Sj iv wR
def uq:Sg:=⟨[(zt,T3),(zt,T3)],[(zf,.bool)],Wx⟩
theorem e84:tQ fY [] 84 uq:=fun _=>by kernel_rfl
def fZ:tL:=(84,uq)::fY
theorem iy:tO fZ:=Sj iw e84
def vW:tA:=[(48,4,7,.loop { keep:=[0,1,7,9,8,6,10],kb:=[],pl:=[.slot 5 zf zJ,.slot 4 zf .bool],ex:=[(.ret,[]),(.exit 0,[])],pay:=.unit })]
def uK:Sg:=⟨[(zf,(.sl zt T3)),(zf,(.sl zt T3))],[(zf,.bool)],Wi⟩
theorem zX:tQ fZ vW 48 uK:=fun _=>by kernel_rfl
def fa:tL:=(48,uK)::fZ
theorem i0:tO fa:=Sj iy zX
def vK:tA:=[(25,4,18,.loop { keep:=[0,1,3,7,15,11,19,9,17,13,2,8,16,12,6,10,18,14],kb:=[0,1],pl:=[.slot 5 zf zJ,.slot 4 zf .bool],ex:=[(.ret,[]),(.exit 0,[])],pay:=.unit })]
def tu:Sg:=⟨[(zt,T4),(zt,T4)],[(zf,.bool)],X8⟩
theorem y9:tQ fa vK 25 tu:=fun _=>by kernel_rfl
def fb:tL:=(25,tu)::fa
theorem i4:tO fb:=Sj i0 y9
def tv:Sg:=⟨[(zt,ZI),(zt,ZI)],[(zf,.bool)],Wy⟩
theorem zA:tQ fb [] 26 tv:=fun _=>by kernel_rfl
def fc:tL:=(26,tv)::fb
theorem i5:tO fc:=Sj i4 zA
def vF:tA:=[(10,4,26,.loop { keep:=[0,1,3,7,15,23,11,19,27,9,17,25,13,21,2,8,16,24,12,20,6,10,18,26,14,22],kb:=[0,1],pl:=[.slot 5 zf zJ,.slot 4 zf .bool],ex:=[(.ret,[]),(.exit 0,[])],pay:=.unit })]
def td:Sg:=⟨[(zt,YM),(zt,YM)],[(zf,.bool)],WA⟩
theorem yp:tQ fc vF 10 td:=fun _=>by kernel_rfl
def j0:tL:=(10,td)::fc
theorem i6:tO j0:=Sj i5 yp
theorem e3(x:AO [(zt,YM),(zf,(.int .u8)),(zf,(.int .u8))]):OZ Tryz.prog (Ae pu j0) (RU []) 3000 60 3 [(zt,YM),(zf,(.int .u8)),(zf,(.int .u8))] [(zf,.bool)] x=VM x:=by kernel_rfl
theorem YV{x:AO [(zt,YM),(zf,(.int .u8)),(zf,(.int .u8))]}(h:VM x=zo zt){b:List Pi.PV}(d:Df [(zt,YM),(zf,(.int .u8)),(zf,(.int .u8))] x b){M:Pi.Ao}{w:World}(c:∀ a v,M a=zo v->a.spot=zn/\w.cell? a=zo v){vs:List Value}(f:Pi.RepL M Pi.mu0 b vs) :
  Calls Tryz.prog 3 vs.toArray w λe w'=>e=.returned (.bool zt)/\RowKit.Grown w w':=SF (Pi.RR _ λ_=>rfl) i6 ((e3 x).trans h) d (SB (λ_=>rfl) _) c f
end Go.Proofs.YtiehjicadcamiaaGreat.Pt
