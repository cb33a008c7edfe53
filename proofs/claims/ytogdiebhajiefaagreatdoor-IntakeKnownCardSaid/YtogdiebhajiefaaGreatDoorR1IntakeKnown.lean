/-
  A piece of the abstract machine's run of IntakeKnown. No condition.
-/
import Derived.Test.YtogdiebhajiefaaGreatDoorTIntakeKnown
noncomputable section
namespace Go.Proofs.YtogdiebhajiefaaGreatDoor.lawIntakeKnown
open Go Go.Am
set_option maxRecDepth 100000
theorem seg1 : segA (gd.cfg pawake.base) 9361 [0, 1, 5, 6, 8, 21, 22, 23, 517, 520, 647, 650, 656, 816, 818, 819, 820, 821, 1036, 1119, 1121, 1319, 1360, 1361, 1362] S0 = some S1 := by kernel_rfl
end Go.Proofs.YtogdiebhajiefaaGreatDoor.lawIntakeKnown
end
