/-
  A piece of the abstract machine's run of IntakeKnown. No condition.
-/
import Derived.Test.YtogdiebhajiefaaGreatDoorTIntakeKnown
noncomputable section
namespace Go.Proofs.YtogdiebhajiefaaGreatDoor.lawIntakeKnown
open Go Go.Am
set_option maxRecDepth 100000
theorem seg0 : segA (gd.cfg pawake.base) 17018 [0, 1, 5, 6, 8, 21, 22, 23, 51, 132, 133, 403, 405, 406, 517, 520, 647, 650, 656, 812, 813] (gd.start 6) = some S0 := by kernel_rfl
end Go.Proofs.YtogdiebhajiefaaGreatDoor.lawIntakeKnown
end
