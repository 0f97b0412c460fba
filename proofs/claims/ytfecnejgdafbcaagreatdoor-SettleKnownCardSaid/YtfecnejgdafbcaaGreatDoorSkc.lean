/- settleKnown: a part of the proof that the law holds: closed facts on what the function reaches. No condition. -/
import Derived.Test.YtfecnejgdafbcaaGreatDoorRows
import Derived.JoinedOf
import Derived.Conc.Holds
namespace Go.Proofs.YtfecnejgdafbcaaGreatDoor.settleKnown
set_option maxRecDepth 1000000
def cl : List Nat := [5, 16, 40, 41, 42, 22, 58, 97, 96, 154, 212, 277, 278, 339, 59, 98, 60, 62, 101, 157, 61, 99, 100, 155, 213, 214, 279, 340, 341, 385, 409, 156, 15, 38, 29, 67, 84, 136, 196, 249, 117, 178, 105, 103, 159, 102, 158, 106, 107, 162, 220, 280, 288, 282, 342, 343, 386, 410, 424, 411, 387, 390, 412, 389, 218, 104, 160, 215, 281, 168, 167, 283, 344, 388, 268, 331, 284, 345, 246, 216, 285, 346, 290, 291, 348, 347, 217, 287, 286, 292, 349, 219, 161, 108, 164, 221, 289, 222, 163, 109, 165, 166, 223, 68, 111, 110, 169, 170, 171, 123, 64, 182, 77, 121, 120, 181, 183, 184, 227, 86, 228, 119, 135, 137, 124, 185, 229, 186, 230, 138, 83, 85, 139, 231, 295, 112, 172, 173, 174, 175, 176, 224, 225, 113, 177, 39, 81, 71, 72, 115, 116, 126, 75, 191, 127, 37, 35, 17, 43, 44, 82, 128, 129, 130, 87, 131, 132, 193, 244, 245, 192, 236, 237, 297, 238, 298, 299, 239, 300, 301, 350, 240, 241, 242, 243, 133, 134, 194, 195, 247, 302, 351, 248, 303, 45, 18, 19, 46, 47, 20, 48, 49, 50]
theorem cl_ok : Tryz.prog.closure 5 = cl := by kernel_rfl
theorem n1 : Tryz.prog.inPlace 5 = Rows.settleKnownRow.inPlace := by unfold Program.inPlace; rw [cl_ok]; kernel_rfl
theorem n2 : Tryz.prog.unfollowed 5 = true := by unfold Program.unfollowed; rw [cl_ok]; kernel_rfl
theorem n3 : Tryz.prog.recurses 5 = true := by unfold Program.recurses; rw [n2]; rfl
theorem n4 : Tryz.prog.varsNamed 5 = Rows.settleKnownRow.named := by unfold Program.varsNamed; rw [cl_ok]; kernel_rfl
theorem laid : laidOutB Tryz.prog = true := by kernel_rfl
theorem rowed0 : mapsRowed Tryz.prog = true := by kernel_rfl
end Go.Proofs.YtfecnejgdafbcaaGreatDoor.settleKnown
