/-
  IntakeNone: the tied card, closed. Conditions: those of the given row alone (the listed variables, tied to the text).
-/
import Derived.Test.YtogdiebhajiefaaGreatDoorSIntakeNone
import Derived.Test.YtogdiebhajiefaaGreatDoorRows
import Derived.Test.YtogdiebhajiefaaGreatDoorCards
import Derived.Test.YtogdiebhajiefaaGreatDoorTie
import Derived.ProofKit
import Derived.LaidMore
import Derived.OpenShut
import Derived.Stop.Joined
import Derived.SevenTiedAt
import Derived.Carry
noncomputable section
namespace Go.Proofs.YtogdiebhajiefaaGreatDoor.lawIntakeNone
open Go Go.Am Go.ChangeShapes Go.WideShapes Go.ChangeAt Go.WideMaps Go.WideElems Go.RowKit
set_option maxRecDepth 100000
theorem c1 : OpenClaim.wfByText (OpenSpec.ofChange Rows.intakeNoneSpec) Rows.intakeNoneRow = true := by kernel_rfl
theorem c2 : Tryz.pinned.checked.prog.mainIs = some (true, ("de17de73d5a22c315ea3d36f90caa8c442c6b030f8cbfa71471a33471b4c49e7" : String).toList) := by kernel_rfl
theorem c3 : true = Tryz.pinned.checked.prog.looks [] := by kernel_rfl
theorem c4 : false = Rows.intakeNoneRow.goesBy Tryz.pinned.checked.prog := by kernel_rfl
theorem c5 : Tryz.pinned.checked.prog.funcNamed Rows.intakeNoneRow.func = some 4 := by kernel_rfl
theorem c6 : (Tryz.f4.params.toList.all fun t => !(Tryz.pinned.checked.prog.wantsStandIn t)) = true := by kernel_rfl
theorem card : Rows.IntakeNoneCardSaid :=
  Claim7.holds_tied_plain_at .later [] [.data, .data, .data, .sentinel, .sentinel] true (true, "de17de73d5a22c315ea3d36f90caa8c442c6b030f8cbfa71471a33471b4c49e7") true
    said (fun _ h => by cases h) c1 (fun _ h => by cases h) intakeNone_row_tie rfl ⟨rfl, rfl⟩ c2 rfl
    (fun f fn hf hfn => by
      obtain rfl : f = 4 := Option.some.inj (c5.symm.trans hf) |>.symm
      obtain rfl : fn = Tryz.f4 := (Option.some.inj (Tryz.func4.symm.trans hfn)).symm
      exact ⟨c3, fun j t ht => by
        have h2 : Tryz.f4.params.toList[j]? = some t := by rw [Array.getElem?_toList]; exact ht
        have h3 := List.all_eq_true.1 c6 t (List.mem_of_getElem? h2)
        simpa using h3⟩)
    c4
#print axioms card
end Go.Proofs.YtogdiebhajiefaaGreatDoor.lawIntakeNone
end
