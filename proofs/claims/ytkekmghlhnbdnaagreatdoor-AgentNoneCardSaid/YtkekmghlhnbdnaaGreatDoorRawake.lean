/-
  The abstract machine carries awake out to its end and finds true. No condition.
-/
import Derived.Test.YtkekmghlhnbdnaaGreatDoorGd
noncomputable section
namespace Go.Proofs.YtkekmghlhnbdnaaGreatDoor.pawake
open Go Go.Am
set_option maxRecDepth 100000
theorem known : lastA (gd.cfg gd.base) 7 30000 (gd.start 7) = some (.bool true) := by kernel_rfl
theorem runs [Atoms] (G : Go.Am.Good Tryz.prog (gd.cfg gd.base)) : Go.Am.Yields Tryz.prog (gd.cfg gd.base) 7 (.bool true) (gd.start 7) := Go.Am.Yields.end_ G known
end Go.Proofs.YtkekmghlhnbdnaaGreatDoor.pawake
end
