/-
  A piece of the abstract machine's run of awake. No condition.
-/
import Derived.Test.YtogdiebhajiefaaGreatDoorTawake
noncomputable section
namespace Go.Proofs.YtogdiebhajiefaaGreatDoor.pawake
open Go Go.Am
set_option maxRecDepth 100000
theorem seg1 : segA (gd.cfg gd.base) 9401 [0, 1, 5, 6, 8, 21, 22, 24, 107, 135, 216, 217, 487, 489, 490, 601, 604, 731, 734, 740, 896, 897] S0 = some S1 := by kernel_rfl
end Go.Proofs.YtogdiebhajiefaaGreatDoor.pawake
end
