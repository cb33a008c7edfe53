/-
  The abstract machine carries awake out to its end and finds true. No condition.
-/
import Derived.Test.YtlfkmklgbigfaaaGreatDoorGd
noncomputable section
namespace Go.Proofs.YtlfkmklgbigfaaaGreatDoor.pawake
open Go Go.Am
set_option maxRecDepth 100000
theorem known : lastA (gd.cfg gd.base) 9 20000 (gd.start 9) = some (.bool true) := by kernel_rfl
theorem runs [Atoms] (G : Go.Am.Good Tryz.prog (gd.cfg gd.base)) : Go.Am.Yields Tryz.prog (gd.cfg gd.base) 9 (.bool true) (gd.start 9) := Go.Am.Yields.end_ G known
end Go.Proofs.YtlfkmklgbigfaaaGreatDoor.pawake
end
