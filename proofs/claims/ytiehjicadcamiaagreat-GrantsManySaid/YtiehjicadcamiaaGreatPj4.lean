/- The evaluator comes to each of the plain functions. No condition. -/
import Derived.Test.YtiehjicadcamiaaGreatPj1
set_option linter.all false
open Bool renaming true->zt
namespace Go.Proofs.YtiehjicadcamiaaGreat.Pt
open Go Sv Pl Go.Proofs Go.Proofs.YtiehjicadcamiaaGreat
open Go.ChangeShapes Go.WideShapes Go.ChangeAt Go.RowKit
set_option maxRecDepth 100000
def cl:List Nat:=[4,5,6,15,30,35,65,64,104,134,160,161,176,36,66,37,38,67,105,39,68,69,106,111,110,135,162,163,177,184,107,7,18,34,55,92,124,144,166,178,56,58,94,57,93,59,60,95,125,145,146,147,167,168,179,185,188,186,180,183,187,182,126,61,96,127,148,103,102,149,169,181,151,170,152,171,150,128,153,172,157,158,174,173,129,155,154,159,175,130,97,62,99,131,156,132,98,63,100,101,133,19,33,52,53,86,87,32,51,50,85,88,89,118,137,119,138,139,140,54,90,120,91,121,141,122,142,165,123,143,20,16,31,17,11,12,22,40,70,108,114,113,109,72,74,75,112,136,164,77,71,41,73,42,76,27,28,49,23,43,44,45,78,79,115,80,24,46,47,81,82,83,116,10,25,48,84,117,26,13,8,21,14,29]
theorem jz:Tryz.prog.closure 4=cl:=by kernel_rfl
theorem n1:Tryz.prog.inPlace 4=[]:=by unfold Program.inPlace;rw[jz];kernel_rfl
theorem n2:Tryz.prog.unfollowed 4=zt:=by unfold Program.unfollowed;rw[jz];kernel_rfl
theorem n3:Tryz.prog.recurses 4=zt:=by unfold Program.recurses;rw[n2];rfl
theorem n4:Tryz.prog.varsNamed 4=[]:=by unfold Program.varsNamed;rw[jz];kernel_rfl
end Go.Proofs.YtiehjicadcamiaaGreat.Pt
