/- The evaluator comes to each of the plain functions. No condition. -/
import Derived.Test.YthpkjfabdccpdaaGreatPj1
set_option linter.all false
namespace Go.Proofs.YthpkjfabdccpdaaGreat.Pt
open Go Go.Proofs.YthpkjfabdccpdaaGreat.Sv Go.Proofs.YthpkjfabdccpdaaGreat.Pl Go.Proofs Go.Proofs.YthpkjfabdccpdaaGreat
open Go.ChangeShapes Go.WideShapes Go.ChangeAt Go.RowKit
set_option maxRecDepth 100000
set_option linter.unusedVariables false
def cl:List Nat:=[11,45,35,22,84,85,165,51,132,203,38,112,188,187,110,185,225,249,113,120,114,115,189,186,116,42,190,226,231,230,250,269,270,281,287,227,117,191,228,234,233,229,193,195,196,232,251,271,198,192,118,194,119,197,46,47,125,126,200,56,130,131,202,204,235,141,107,122,172,109,184,180,179,219,178,218,181,182,220,247,254,268,256,272,273,282,288,291,289,283,286,290,285,243,167,214,240,255,224,223,257,274,284,259,275,260,276,258,241,261,277,265,266,279,278,242,263,262,267,280,244,215,175,217,245,264,246,216,183,221,222,248,62,58,133,134,205,208,209,237,253,252,139,137,108,169,170,36,93,123,199,171,94,173,140,142,52,54]
theorem eO:Tryz.prog.closure 11=cl:=by kernel_rfl
theorem n1:Tryz.prog.inPlace 11=[]:=by unfold Program.inPlace;rw [eO];kernel_rfl
theorem n2:Tryz.prog.unfollowed 11=true:=by unfold Program.unfollowed;rw [eO];kernel_rfl
theorem n3:Tryz.prog.recurses 11=true:=by unfold Program.recurses;rw [n2];rfl
theorem n4:Tryz.prog.varsNamed 11=[]:=by unfold Program.varsNamed;rw [eO];kernel_rfl
end Go.Proofs.YthpkjfabdccpdaaGreat.Pt
