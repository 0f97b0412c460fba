/- The evaluator comes to each of the plain functions. No condition. -/
import Derived.Test.YthpkjfabdccpdaaGreatPj1
set_option linter.all false
namespace Go.Proofs.YthpkjfabdccpdaaGreat.Pt
open Go Go.Proofs.YthpkjfabdccpdaaGreat.Sv Go.Proofs.YthpkjfabdccpdaaGreat.Pl Go.Proofs Go.Proofs.YthpkjfabdccpdaaGreat
open Go.ChangeShapes Go.WideShapes Go.ChangeAt Go.RowKit
set_option maxRecDepth 100000
set_option linter.unusedVariables false
def cl:List Nat:=[7,38,112,188,187,110,185,203,225,249,113,120,114,115,189,186,116,42,190,226,231,230,250,269,270,281,287,227,117,191,228,234,233,229,193,195,196,232,251,271,198,192,118,194,119,197,22,84,85,165,35,23,87,166,86,27,88,151,107,122,172,109,184,204,235,180,179,219,178,218,181,182,220,247,254,268,256,272,273,282,288,291,289,283,286,290,285,243,167,214,240,255,224,223,257,274,284,259,275,260,276,258,241,261,277,265,266,279,278,242,263,262,267,280,244,215,175,217,245,264,246,216,183,221,222,248,211,210,238,90,89,92,44,168,108,169,170,100,176,24,91,171,93,123,199,94,173,31,33,105,39,121,29,40]
theorem eY:Tryz.prog.closure 7=cl:=by kernel_rfl
theorem n1:Tryz.prog.inPlace 7=[]:=by unfold Program.inPlace;rw [eY];kernel_rfl
theorem n2:Tryz.prog.unfollowed 7=true:=by unfold Program.unfollowed;rw [eY];kernel_rfl
theorem n3:Tryz.prog.recurses 7=true:=by unfold Program.recurses;rw [n2];rfl
theorem n4:Tryz.prog.varsNamed 7=[]:=by unfold Program.varsNamed;rw [eY];kernel_rfl
end Go.Proofs.YthpkjfabdccpdaaGreat.Pt
