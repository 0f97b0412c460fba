/- The evaluator comes to each of the plain functions. No condition. -/
import Derived.Test.YtoefnfbpoabinaaGreatDoorPj1
set_option linter.all false
open Bool renaming true->zt
namespace Go.Proofs.YtoefnfbpoabinaaGreatDoor.Pt
open Go Sv Pl Go.Proofs Go.Proofs.YtoefnfbpoabinaaGreatDoor
open Go.ChangeShapes Go.WideShapes Go.ChangeAt Go.RowKit
set_option maxRecDepth 100000
def cl:List Nat:=[3,6,22,7,23,45,24,46,47,76,64,105,73,103,88,148,191,77,44,78,80,108,104,79,69,107,149,173,172,203,226,227,249,264,150,18,35,65,83,60,93,139,177,109,151,110,112,153,111,152,113,114,154,192,212,213,214,240,241,259,268,272,269,260,263,270,262,193,115,155,194,215,162,161,216,242,261,217,243,218,244,128,195,219,245,223,224,247,246,196,221,220,225,248,197,156,116,158,198,222,199,157,117,159,160,200,95,141,140,178,179,180,205,229,230,250,266,265,271,231,232,251,62,252,187,98,99,206,233,253,234,254,100,67,61,94,188,209,142,181,182,183,184,185,207,208,143,186,34,25,48,49,81,82,13,36,66,96,144,145,97,37,29,26,50,51,52,63,53,54,85,126,127,84,118,119,163,120,164,165,121,166,167,201,122,123,124,125,55,56,86,87,129,168,202,130,169,30,8,12,9,27,57,58,89,131,170,176,175,171,133,135,136,174,204,228,138,132,90,134,91,137,28,59,92,10,31,32,11,21,33]
theorem kw:Tryz.prog.closure 3=cl:=by kernel_rfl
theorem n1:Tryz.prog.inPlace 3=Rows.settleWholesRow.inPlace:=by unfold Program.inPlace;rw[kw];kernel_rfl
theorem n2:Tryz.prog.unfollowed 3=zt:=by unfold Program.unfollowed;rw[kw];kernel_rfl
theorem n3:Tryz.prog.recurses 3=zt:=by unfold Program.recurses;rw[n2];rfl
theorem n4:Tryz.prog.varsNamed 3=Rows.settleWholesRow.named:=by unfold Program.varsNamed;rw[kw];kernel_rfl
end Go.Proofs.YtoefnfbpoabinaaGreatDoor.Pt
