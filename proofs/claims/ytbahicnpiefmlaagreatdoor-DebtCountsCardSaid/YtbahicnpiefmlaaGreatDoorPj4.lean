/- The evaluator comes to each of the plain functions. No condition. -/
import Derived.Test.YtbahicnpiefmlaaGreatDoorPj1
set_option linter.all false
namespace Go.Proofs.YtbahicnpiefmlaaGreatDoor.Pt
open Go Sv Pl Go.Proofs Go.Proofs.YtbahicnpiefmlaaGreatDoor
open Go.ChangeShapes Go.WideShapes Go.ChangeAt Go.RowKit
set_option maxRecDepth 100000
def cl:List Nat:=[3,15,65,66,124,190,16,68,125,67,80,123,145,184,241,183,275,302,81,63,82,83,146,218,84,147,148,219,224,223,257,291,292,312,320,220,19,71,74,131,197,250,285,261,294,132,130,196,129,195,133,134,198,251,276,286,278,303,304,315,321,324,322,316,319,323,318,248,127,193,245,277,204,203,279,305,317,280,306,281,307,272,246,282,308,288,289,310,309,247,284,283,290,311,249,194,135,200,252,287,253,199,136,201,202,254,17,69,126,192,191,244,21,73,119,187,243,23,28,75,138,137,205,206,207,36,89,90,91,157,188,158,228,229,230,37,92,159,93,160,231,161,162,232,139,208,209,210,211,212,255,256,140,213,31,25,18,70,128,72,33,85,149,221,227,226,222,151,153,154,225,258,293,156,150,86,152,87,155,20,22,41,24,26]
theorem hG:Tryz.prog.closure 3=cl:=by kernel_rfl
theorem n1:Tryz.prog.inPlace 3=Rows.debtCountsRow.inPlace:=by unfold Program.inPlace;rw [hG];kernel_rfl
theorem n2:Tryz.prog.unfollowed 3=true:=by unfold Program.unfollowed;rw [hG];kernel_rfl
theorem n3:Tryz.prog.recurses 3=true:=by unfold Program.recurses;rw [n2];rfl
theorem n4:Tryz.prog.varsNamed 3=Rows.debtCountsRow.named:=by unfold Program.varsNamed;rw [hG];kernel_rfl
end Go.Proofs.YtbahicnpiefmlaaGreatDoor.Pt
