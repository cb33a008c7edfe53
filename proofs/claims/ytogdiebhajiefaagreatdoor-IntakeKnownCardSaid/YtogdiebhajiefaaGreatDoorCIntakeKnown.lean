/-
  IntakeKnown: for every world that meets the row's conditions the call returns true; the tied card, closed. Conditions: those of the given row alone (the listed variables, tied to the text).
-/
import Derived.Test.YtogdiebhajiefaaGreatDoorSIntakeKnown
import Derived.Test.YtogdiebhajiefaaGreatDoorRows
import Derived.Test.YtogdiebhajiefaaGreatDoorCards
import Derived.Test.YtogdiebhajiefaaGreatDoorTie
import Derived.ProofKit
import Derived.LaidMore
import Derived.OpenShut
import Derived.Stop.Joined
import Derived.SevenTiedAt
noncomputable section
namespace Go.Proofs.YtogdiebhajiefaaGreatDoor.lawIntakeKnown
open Go Go.Am Go.ChangeShapes Go.WideShapes Go.ChangeAt Go.WideMaps Go.WideElems Go.RowKit
set_option maxRecDepth 100000
theorem c1 : OpenClaim.wfByText (OpenSpec.ofChange Rows.intakeKnownSpec) Rows.intakeKnownRow = true := by kernel_rfl
theorem c2 : Tryz.pinned.checked.prog.mainIs = some (true, ("de17de73d5a22c315ea3d36f90caa8c442c6b030f8cbfa71471a33471b4c49e7" : String).toList) := by kernel_rfl
theorem c3 : true = Tryz.pinned.checked.prog.looks [] := by kernel_rfl
theorem c4 : false = Rows.intakeKnownRow.goesBy Tryz.pinned.checked.prog := by kernel_rfl
theorem c5 : Tryz.pinned.checked.prog.funcNamed Rows.intakeKnownRow.func = some 6 := by kernel_rfl
theorem card : Rows.IntakeKnownCardSaid :=
  Claim7.holds_tied_plain_at .later [] [.data, .data, .data, .sentinel, .sentinel] true (true, "de17de73d5a22c315ea3d36f90caa8c442c6b030f8cbfa71471a33471b4c49e7") true
    said (fun _ h => by cases h) c1 (fun _ h => by cases h) intakeKnown_row_tie rfl ⟨rfl, rfl⟩ c2 rfl
    (fun f fn hf hfn => by
      obtain rfl : f = 6 := Option.some.inj (c5.symm.trans hf) |>.symm
      obtain rfl : fn = Tryz.f6 := (Option.some.inj (Tryz.func6.symm.trans hfn)).symm
      exact ⟨c3, fun j t ht => by
        have hpar : Tryz.f6.params.toList = [] := by kernel_rfl
        have h2 : Tryz.f6.params.toList[j]? = some t := by rw [Array.getElem?_toList]; exact ht
        rw [hpar] at h2
        cases h2⟩)
    c4
#print axioms card
end Go.Proofs.YtogdiebhajiefaaGreatDoor.lawIntakeKnown
end
