/- The evaluator comes to each of the plain functions. No condition. -/
import Derived.Test.YtfceigpbgndbgaaGreatDoorPj1
set_option linter.all false
open Bool renaming true->zt
namespace Go.Proofs.YtfceigpbgndbgaaGreatDoor.Pt
open Go Sv Pl Go.Proofs Go.Proofs.YtfceigpbgndbgaaGreatDoor
open Go.ChangeShapes Go.WideShapes Go.ChangeAt Go.RowKit
set_option maxRecDepth 100000
def cl:List Nat:=[4,5,15,6,16,31,19,32,33,45,54,76,119,175,69,207,233,46,53,47,48,77,122,49,78,79,123,128,127,178,208,209,234,249,124,7,21,37,67,88,92,133,180,134,181,102,104,149,103,148,105,106,150,189,213,214,215,235,236,250,257,261,258,251,254,259,253,190,107,151,191,216,158,157,217,237,252,218,238,219,239,145,192,220,240,224,225,242,241,193,222,221,226,243,194,152,108,154,195,223,196,153,109,155,156,197,68,111,110,159,160,161,198,227,228,244,256,255,260,229,230,245,90,246,173,91,93,199,231,247,232,248,94,57,89,132,174,206,112,162,163,164,165,166,200,201,113,167,20,35,58,59,95,96,17,26,43,72,117,118,73,34,55,36,60,61,62,97,63,64,99,143,144,98,135,136,182,137,183,184,138,185,186,211,139,140,141,142,65,66,100,101,146,187,212,147,188,56,18,14,12,28,50,80,125,131,130,126,82,84,85,129,179,210,87,81,51,83,52,86,29,13,30,9,24,40,25,41,71,116,42,10]
theorem kw:Tryz.prog.closure 4=cl:=by kernel_rfl
theorem n1:Tryz.prog.inPlace 4=Rows.settleRestsRow.inPlace:=by unfold Program.inPlace;rw[kw];kernel_rfl
theorem n2:Tryz.prog.unfollowed 4=zt:=by unfold Program.unfollowed;rw[kw];kernel_rfl
theorem n3:Tryz.prog.recurses 4=zt:=by unfold Program.recurses;rw[n2];rfl
theorem n4:Tryz.prog.varsNamed 4=Rows.settleRestsRow.named:=by unfold Program.varsNamed;rw[kw];kernel_rfl
end Go.Proofs.YtfceigpbgndbgaaGreatDoor.Pt
