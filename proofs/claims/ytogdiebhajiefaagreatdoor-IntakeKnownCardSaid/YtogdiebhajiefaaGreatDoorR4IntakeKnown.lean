/-
  A piece of the abstract machine's run of IntakeKnown. No condition.
-/
import Derived.Test.YtogdiebhajiefaaGreatDoorTIntakeKnown
noncomputable section
namespace Go.Proofs.YtogdiebhajiefaaGreatDoor.lawIntakeKnown
open Go Go.Am
set_option maxRecDepth 100000
theorem known : lastA (gd.cfg pawake.base) 6 40000 S3 = some (.bool true) := by kernel_rfl
end Go.Proofs.YtogdiebhajiefaaGreatDoor.lawIntakeKnown
end
