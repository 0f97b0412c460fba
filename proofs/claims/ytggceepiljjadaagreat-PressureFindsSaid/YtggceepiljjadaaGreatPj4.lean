/- The evaluator comes to each of the plain functions. No condition. -/
import Derived.Test.YtggceepiljjadaaGreatPj1
set_option linter.all false
namespace Go.Proofs.YtggceepiljjadaaGreat.Pt
open Go Sv Pl Go.Proofs Go.Proofs.YtggceepiljjadaaGreat
open Go.ChangeShapes Go.WideShapes Go.ChangeAt Go.RowKit
set_option maxRecDepth 100000
def cl:List Nat:=[3,4,5,14,37,38,71,6,15,39,16,40,73,72,110,138,157,171,41,51,42,43,74,111,44,75,76,112,117,116,139,158,159,172,178,113,45,77,114,120,119,115,79,81,82,118,140,160,84,78,46,80,47,83,7,17,48,49,85,18,23,24,53,55,92,29,54,87,107,93,126,88,61,96,60,95,89,90,121,141,143,161,145,162,163,173,179,182,180,174,177,181,176,133,63,99,130,144,125,124,146,164,175,148,165,149,166,147,131,150,167,154,155,169,168,132,152,151,156,170,134,100,66,103,135,153,136,102,91,122,123,142,19,9,25,26,56,58,59,94,128,127,27,50,86,104,105,57,69,108,137,106,70,109,28,30,20,21,8,22,52,10,11,31,32,62,98,97,129,33,34,64,101,65,12,35,67,36,68,13]
theorem jx:Tryz.prog.closure 3=cl:=by kernel_rfl
theorem n1:Tryz.prog.inPlace 3=[]:=by unfold Program.inPlace;rw[jx];kernel_rfl
theorem n2:Tryz.prog.unfollowed 3=true:=by unfold Program.unfollowed;rw[jx];kernel_rfl
theorem n3:Tryz.prog.recurses 3=true:=by unfold Program.recurses;rw[n2];rfl
theorem n4:Tryz.prog.varsNamed 3=[]:=by unfold Program.varsNamed;rw[jx];kernel_rfl
end Go.Proofs.YtggceepiljjadaaGreat.Pt
