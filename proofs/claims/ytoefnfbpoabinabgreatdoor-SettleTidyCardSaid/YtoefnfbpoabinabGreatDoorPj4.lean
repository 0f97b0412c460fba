/- The evaluator comes to each of the plain functions. No condition. -/
import Derived.Test.YtoefnfbpoabinabGreatDoorPj1
set_option linter.all false
open Bool renaming true->zt
namespace Go.Proofs.YtoefnfbpoabinabGreatDoor.Pt
open Go Sv Pl Go.Proofs Go.Proofs.YtoefnfbpoabinabGreatDoor
open Go.ChangeShapes Go.WideShapes Go.ChangeAt Go.RowKit
set_option maxRecDepth 100000
def cl:List Nat:=[4,5,18,6,19,38,20,39,40,34,37,66,96,137,54,172,192,55,15,56,57,84,127,58,85,86,128,133,132,170,189,190,213,228,129,10,25,51,72,62,81,126,169,98,139,99,101,141,100,140,102,103,142,173,193,194,195,214,215,229,236,240,237,230,233,238,232,174,104,143,175,196,150,149,197,216,231,198,217,199,218,117,176,200,219,204,205,221,220,177,202,201,206,222,178,144,105,146,179,203,180,145,106,147,148,181,77,121,120,158,159,160,184,207,208,223,235,234,239,209,210,224,64,225,167,80,82,185,211,226,212,227,83,53,63,95,168,188,122,161,162,163,164,165,186,187,123,166,24,21,41,42,70,71,12,26,52,78,124,125,79,27,30,22,43,44,45,65,46,47,74,115,116,73,107,108,151,109,152,153,110,154,155,182,111,112,113,114,48,49,75,76,118,156,183,119,157,31,7,8,14,32,33,16,35,67,36,68,97,138,69,61,93,135,136,94,17]
theorem nK:Tryz.prog.closure 4=cl:=by kernel_rfl
theorem n1:Tryz.prog.inPlace 4=Rows.settleTidyRow.inPlace:=by unfold Program.inPlace;rw[nK];kernel_rfl
theorem n2:Tryz.prog.unfollowed 4=zt:=by unfold Program.unfollowed;rw[nK];kernel_rfl
theorem n3:Tryz.prog.recurses 4=zt:=by unfold Program.recurses;rw[n2];rfl
theorem n4:Tryz.prog.varsNamed 4=Rows.settleTidyRow.named:=by unfold Program.varsNamed;rw[nK];kernel_rfl
end Go.Proofs.YtoefnfbpoabinabGreatDoor.Pt
