/-
  A piece of the abstract machine's run of awake. No condition.
-/
import Derived.Test.YtogdiebhajiefaaGreatDoorTawake
noncomputable section
namespace Go.Proofs.YtogdiebhajiefaaGreatDoor.pawake
open Go Go.Am
set_option maxRecDepth 100000
theorem known : lastA (gd.cfg gd.base) 8 30000 S1 = some (.bool true) := by kernel_rfl
end Go.Proofs.YtogdiebhajiefaaGreatDoor.pawake
end
