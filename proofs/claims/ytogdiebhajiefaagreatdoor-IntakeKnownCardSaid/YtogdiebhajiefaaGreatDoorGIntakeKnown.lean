/-
  IntakeKnown: for every world that meets the row's conditions the call returns true; the abstract run is a run of the given program, so the call returns true. Conditions: those of the given row alone (the listed variables, tied to the text).
-/
import Derived.Test.YtogdiebhajiefaaGreatDoorRIntakeKnown
import Derived.Test.YtogdiebhajiefaaGreatDoorRows
import Derived.Test.YtogdiebhajiefaaGreatDoorCards
import Derived.Test.YtogdiebhajiefaaGreatDoorTie
import Derived.ProofKit
import Derived.LaidMore
import Derived.OpenShut
import Derived.Stop.Joined
import Derived.SevenTiedAt
noncomputable section
namespace Go.Proofs.YtogdiebhajiefaaGreatDoor.lawIntakeKnown
open Go Go.Am Go.ChangeShapes Go.WideShapes Go.ChangeAt Go.WideMaps Go.WideElems Go.RowKit
set_option maxRecDepth 100000

theorem knownRuns (w : World) : Calls Tryz.prog 6 #[] w (fun en w' => en = .returned (.bool true) ∧ Below w.heap.size w w') :=
  Go.Am.Yields.calls (C := gd.cfg pawake.base) (gd.good_of pawake.base_ok) (f := 6) (args := []) (fr := (gd.start 6).fr) (by kernel_rfl) (runs (gd.good_of pawake.base_ok)) rfl rfl (laid_none (gl := 0) (Nat.zero_le _))

end Go.Proofs.YtogdiebhajiefaaGreatDoor.lawIntakeKnown
end
