/- The evaluator comes to each of the plain functions. No condition. -/
import Derived.Test.YtfilfloanndddaaGreatPj1
set_option linter.all false
namespace Go.Proofs.YtfilfloanndddaaGreat.Pt
open Go Go.Proofs.YtfilfloanndddaaGreat.Sv Go.Proofs.YtfilfloanndddaaGreat.Pl Go.Proofs Go.Proofs.YtfilfloanndddaaGreat
open Go.ChangeShapes Go.WideShapes Go.ChangeAt Go.RowKit
set_option maxRecDepth 100000
set_option linter.unusedVariables false
def cl:List Nat:=[8,12,13,44,96,64,109,108,150,185,122,201,220,65,62,66,67,110,151,68,104,111,152,157,156,186,202,203,221,231,153,14,45,97,142,177,165,188,127,164,143,133,168,132,167,144,145,180,199,205,219,207,222,223,232,237,240,238,233,236,239,235,194,134,169,191,206,184,183,208,224,234,210,225,211,226,209,192,212,227,216,217,229,228,193,214,213,218,230,195,170,137,173,196,215,197,172,146,181,182,200,46,54,101,41,90,91,53,100,99,148,92,93,135,171,136,163,174,175,42,94,138,95,139,176,140,178,198,141,179,47,17,52,20,25,27,63,26,28,69,112,154,160,159,155,114,116,117,158,187,204,119,113,70,115,71,118]
theorem ft:Tryz.prog.closure 8=cl:=by kernel_rfl
theorem n1:Tryz.prog.inPlace 8=[]:=by unfold Program.inPlace;rw [ft];kernel_rfl
theorem n2:Tryz.prog.unfollowed 8=true:=by unfold Program.unfollowed;rw [ft];kernel_rfl
theorem n3:Tryz.prog.recurses 8=true:=by unfold Program.recurses;rw [n2];rfl
theorem n4:Tryz.prog.varsNamed 8=[]:=by unfold Program.varsNamed;rw [ft];kernel_rfl
end Go.Proofs.YtfilfloanndddaaGreat.Pt
