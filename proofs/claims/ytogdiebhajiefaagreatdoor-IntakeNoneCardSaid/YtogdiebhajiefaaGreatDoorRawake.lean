/-
  The abstract machine carries awake out to its end and finds true: the pieces, joined. No condition.
-/
import Derived.Test.YtogdiebhajiefaaGreatDoorR0awake
import Derived.Test.YtogdiebhajiefaaGreatDoorR1awake
import Derived.Test.YtogdiebhajiefaaGreatDoorR2awake
noncomputable section
namespace Go.Proofs.YtogdiebhajiefaaGreatDoor.pawake
open Go Go.Am
set_option maxRecDepth 100000
theorem runs [Atoms] (G : Go.Am.Good Tryz.prog (gd.cfg gd.base)) : Go.Am.Yields Tryz.prog (gd.cfg gd.base) 8 (.bool true) (gd.start 8) := Go.Am.Yields.seg G seg0 (Go.Am.Yields.seg G seg1 (Go.Am.Yields.end_ G known))
end Go.Proofs.YtogdiebhajiefaaGreatDoor.pawake
end
