/-
  SnapsNone: the tied card, closed. Conditions: those of the given row alone (the listed variables, tied to the text).
-/
import Derived.Test.YtlfkmklgbigfaaaGreatDoorSSnapsNone
import Derived.Test.YtlfkmklgbigfaaaGreatDoorRows
import Derived.Test.YtlfkmklgbigfaaaGreatDoorCards
import Derived.Test.YtlfkmklgbigfaaaGreatDoorTie
import Derived.ProofKit
import Derived.LaidMore
import Derived.OpenShut
import Derived.Stop.Joined
import Derived.SevenTiedAt
import Derived.Carry
noncomputable section
namespace Go.Proofs.YtlfkmklgbigfaaaGreatDoor.lawSnapsNone
open Go Go.Am Go.ChangeShapes Go.WideShapes Go.ChangeAt Go.WideMaps Go.WideElems Go.RowKit
set_option maxRecDepth 100000
theorem c1 : OpenClaim.wfByText (OpenSpec.ofChange Rows.snapsNoneSpec) Rows.snapsNoneRow = true := by kernel_rfl
theorem c2 : Tryz.pinned.checked.prog.mainIs = some (true, ("5e3b1da7618e92ae6491f9f39ef9a86d17d3d05a4d59b1f9ea940ba69c51138b" : String).toList) := by kernel_rfl
theorem c3 : true = Tryz.pinned.checked.prog.looks [] := by kernel_rfl
theorem c4 : false = Rows.snapsNoneRow.goesBy Tryz.pinned.checked.prog := by kernel_rfl
theorem c5 : Tryz.pinned.checked.prog.funcNamed Rows.snapsNoneRow.func = some 6 := by kernel_rfl
theorem c6 : (Tryz.f6.params.toList.all fun t => !(Tryz.pinned.checked.prog.wantsStandIn t)) = true := by kernel_rfl
theorem card : Rows.SnapsNoneCardSaid :=
  Claim7.holds_tied_plain_at .later [] [.data, .data, .data, .sentinel, .sentinel] true (true, "5e3b1da7618e92ae6491f9f39ef9a86d17d3d05a4d59b1f9ea940ba69c51138b") true
    said (fun _ h => by cases h) c1 (fun _ h => by cases h) snapsNone_row_tie rfl ⟨rfl, rfl⟩ c2 rfl
    (fun f fn hf hfn => by
      obtain rfl : f = 6 := Option.some.inj (c5.symm.trans hf) |>.symm
      obtain rfl : fn = Tryz.f6 := (Option.some.inj (Tryz.func6.symm.trans hfn)).symm
      exact ⟨c3, fun j t ht => by
        have h2 : Tryz.f6.params.toList[j]? = some t := by rw [Array.getElem?_toList]; exact ht
        have h3 := List.all_eq_true.1 c6 t (List.mem_of_getElem? h2)
        simpa using h3⟩)
    c4
#print axioms card
end Go.Proofs.YtlfkmklgbigfaaaGreatDoor.lawSnapsNone
end
