/- The evaluator comes to each of the plain functions. No condition. -/
import Derived.Test.YtanppfoapnaeaaaGreatPj1
set_option linter.all false
namespace Go.Proofs.YtanppfoapnaeaaaGreat.Pt
open Go Sv Pl Go.Proofs Go.Proofs.YtanppfoapnaeaaaGreat
open Go.ChangeShapes Go.WideShapes Go.ChangeAt Go.RowKit
set_option maxRecDepth 100000
def cl:List Nat:=[3,4,5,12,33,34,57,6,13,35,36,58,14,18,19,38,40,69,24,39,60,95,70,107,61,63,97,62,96,64,65,98,125,145,146,147,162,163,174,180,184,181,175,178,182,177,126,66,99,127,148,106,105,149,164,176,151,165,152,166,150,128,153,167,157,158,169,168,129,155,154,159,170,130,100,67,102,131,156,132,101,68,103,104,133,15,7,20,21,41,43,44,73,112,111,22,37,59,93,94,42,71,108,134,109,72,110,23,25,16,17,8,26,45,30,51,74,52,79,90,89,54,86,124,144,80,88,81,82,116,87,83,53,117,137,142,141,160,171,172,179,183,138,84,118,139,136,135,140,120,122,123,143,161,173,115,119,85,121,78,114,46,75,47,76,11,31,32,55,91,56,92,27,9,28,48,29,49,77,113,50,10]
theorem gf:Tryz.prog.closure 3=cl:=by kernel_rfl
theorem n1:Tryz.prog.inPlace 3=[]:=by unfold Program.inPlace;rw[gf];kernel_rfl
theorem n2:Tryz.prog.unfollowed 3=true:=by unfold Program.unfollowed;rw[gf];kernel_rfl
theorem n3:Tryz.prog.recurses 3=true:=by unfold Program.recurses;rw[n2];rfl
theorem n4:Tryz.prog.varsNamed 3=[]:=by unfold Program.varsNamed;rw[gf];kernel_rfl
end Go.Proofs.YtanppfoapnaeaaaGreat.Pt
