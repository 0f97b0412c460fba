/- The evaluator comes to each of the plain functions. No condition. -/
import Derived.Test.YtfipnhjfbebeiaaGreatDoorPj1
set_option linter.all false
namespace Go.Proofs.YtfipnhjfbebeiaaGreatDoor.Pt
open Go Sv Pl Go.Proofs Go.Proofs.YtfipnhjfbebeiaaGreatDoor
open Go.ChangeShapes Go.WideShapes Go.ChangeAt Go.RowKit
set_option maxRecDepth 100000
def cl:List Nat:=[4,13,32,68,67,111,141,167,168,188,33,42,34,35,69,112,36,70,71,113,118,117,142,169,170,189,202,114,37,72,115,121,120,116,74,76,77,119,143,171,79,73,38,75,39,78,5,19,20,44,81,6,7,22,45,21,14,40,25,47,83,125,146,172,190,48,50,85,49,84,51,52,86,126,147,148,149,173,174,191,203,206,204,192,195,205,194,127,53,87,128,150,94,93,151,175,193,153,176,154,177,152,129,155,178,159,160,180,179,130,157,156,161,181,131,88,54,90,132,158,133,89,55,91,92,134,23,46,82,124,123,145,16,41,80,122,144,15,8,26,57,56,95,96,97,135,162,163,164,182,196,183,197,198,199,136,165,184,166,185,200,186,187,201,58,98,99,100,101,102,137,138,59,103,11,24,10,29,65,110,17,30,18,43]
theorem jc:Tryz.prog.closure 4=cl:=by kernel_rfl
theorem n1:Tryz.prog.inPlace 4=Rows.debtSettlesRow.inPlace:=by unfold Program.inPlace;rw [jc];kernel_rfl
theorem n2:Tryz.prog.unfollowed 4=true:=by unfold Program.unfollowed;rw [jc];kernel_rfl
theorem n3:Tryz.prog.recurses 4=true:=by unfold Program.recurses;rw [n2];rfl
theorem n4:Tryz.prog.varsNamed 4=Rows.debtSettlesRow.named:=by unfold Program.varsNamed;rw [jc];kernel_rfl
end Go.Proofs.YtfipnhjfbebeiaaGreatDoor.Pt
