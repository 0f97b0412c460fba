/- The evaluator comes to each of the plain functions. No condition. -/
import Derived.Test.YtfipnhjfbebeiabGreatDoorPj1
set_option linter.all false
namespace Go.Proofs.YtfipnhjfbebeiabGreatDoor.Pt
open Go Sv Pl Go.Proofs Go.Proofs.YtfipnhjfbebeiabGreatDoor
open Go.ChangeShapes Go.WideShapes Go.ChangeAt Go.RowKit
set_option maxRecDepth 100000
def cl:List Nat:=[4,14,48,15,49,100,50,51,52,101,102,31,21,63,62,111,157,177,178,199,22,56,23,24,64,112,25,65,66,113,118,117,158,179,180,200,211,114,16,54,103,154,155,175,198,210,176,38,79,123,160,182,80,82,125,81,124,83,84,126,161,183,184,185,201,202,212,217,220,218,213,216,219,215,162,85,127,163,186,134,133,187,203,214,189,204,190,205,188,164,191,206,195,196,208,207,165,193,192,197,209,166,128,86,130,167,194,168,129,87,131,132,169,13,42,33,77,93,146,145,173,104,152,174,55,19,59,106,107,108,109,110,53,17,18,57,5,26,67,115,121,120,116,69,71,72,119,159,181,74,68,27,70,28,73,58,105,156,20,61,36,39,89,88,135,136,137,11,43,44,45,94,147,95,148,149,150,12,46,96,47,97,151,98,99,153,90,138,139,140,141,142,170,171,91,143,60]
theorem ji:Tryz.prog.closure 4=cl:=by kernel_rfl
theorem n1:Tryz.prog.inPlace 4=Rows.boundsDebtRow.inPlace:=by unfold Program.inPlace;rw [ji];kernel_rfl
theorem n2:Tryz.prog.unfollowed 4=true:=by unfold Program.unfollowed;rw [ji];kernel_rfl
theorem n3:Tryz.prog.recurses 4=true:=by unfold Program.recurses;rw [n2];rfl
theorem n4:Tryz.prog.varsNamed 4=Rows.boundsDebtRow.named:=by unfold Program.varsNamed;rw [ji];kernel_rfl
end Go.Proofs.YtfipnhjfbebeiabGreatDoor.Pt
