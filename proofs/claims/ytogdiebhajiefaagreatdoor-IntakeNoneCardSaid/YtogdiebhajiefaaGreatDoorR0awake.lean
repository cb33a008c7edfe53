/-
  A piece of the abstract machine's run of awake. No condition.
-/
import Derived.Test.YtogdiebhajiefaaGreatDoorTawake
noncomputable section
namespace Go.Proofs.YtogdiebhajiefaaGreatDoor.pawake
open Go Go.Am
set_option maxRecDepth 100000
theorem seg0 : segA (gd.cfg gd.base) 8409 [0, 1, 5, 6, 8, 21, 22, 24, 107, 135, 216, 217, 218, 220, 306, 311, 313, 314, 393, 466] (gd.start 8) = some S0 := by kernel_rfl
end Go.Proofs.YtogdiebhajiefaaGreatDoor.pawake
end
