/-
  The abstract machine carries IntakeKnown out to its end and finds true: the pieces, joined. No condition.
-/
import Derived.Test.YtogdiebhajiefaaGreatDoorR0IntakeKnown
import Derived.Test.YtogdiebhajiefaaGreatDoorR1IntakeKnown
import Derived.Test.YtogdiebhajiefaaGreatDoorR2IntakeKnown
import Derived.Test.YtogdiebhajiefaaGreatDoorR3IntakeKnown
import Derived.Test.YtogdiebhajiefaaGreatDoorR4IntakeKnown
noncomputable section
namespace Go.Proofs.YtogdiebhajiefaaGreatDoor.lawIntakeKnown
open Go Go.Am
set_option maxRecDepth 100000
theorem runs (G : Go.Am.Good Tryz.prog (gd.cfg pawake.base)) : Go.Am.Yields Tryz.prog (gd.cfg pawake.base) 6 (.bool true) (gd.start 6) := Go.Am.Yields.seg G seg0 (Go.Am.Yields.seg G seg1 (Go.Am.Yields.seg G seg2 (Go.Am.Yields.seg G seg3 (Go.Am.Yields.end_ G known))))
end Go.Proofs.YtogdiebhajiefaaGreatDoor.lawIntakeKnown
end
