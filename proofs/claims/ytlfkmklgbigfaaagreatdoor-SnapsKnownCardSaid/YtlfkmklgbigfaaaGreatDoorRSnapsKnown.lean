/-
  The abstract machine carries SnapsKnown out to its end and finds true. No condition.
-/
import Derived.Test.YtlfkmklgbigfaaaGreatDoorPawake
noncomputable section
namespace Go.Proofs.YtlfkmklgbigfaaaGreatDoor.lawSnapsKnown
open Go Go.Am
set_option maxRecDepth 100000
theorem known : lastA (gd.cfg pawake.base) 5 40000 (gd.start 5) = some (.bool true) := by kernel_rfl
end Go.Proofs.YtlfkmklgbigfaaaGreatDoor.lawSnapsKnown
end
