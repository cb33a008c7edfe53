/-
  A piece of the abstract machine's run of IntakeKnown. No condition.
-/
import Derived.Test.YtogdiebhajiefaaGreatDoorTIntakeKnown
noncomputable section
namespace Go.Proofs.YtogdiebhajiefaaGreatDoor.lawIntakeKnown
open Go Go.Am
set_option maxRecDepth 100000
theorem seg3 : segA (gd.cfg pawake.base) 13751 [0, 1, 5, 6, 8, 21, 22, 23, 517, 520, 647, 650, 656, 816, 818, 819, 820, 821, 1036, 1319, 1473, 1474, 1475, 1476, 1565, 1805, 1806, 1807, 1809, 1887, 1889, 2098, 2100, 2101, 2562, 2563] S2 = some S3 := by kernel_rfl
end Go.Proofs.YtogdiebhajiefaaGreatDoor.lawIntakeKnown
end
