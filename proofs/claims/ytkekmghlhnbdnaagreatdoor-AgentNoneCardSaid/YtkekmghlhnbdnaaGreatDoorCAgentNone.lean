/-
  AgentNone: the tied card, closed. Conditions: those of the given row alone (the listed variables, tied to the text).
-/
import Derived.Test.YtkekmghlhnbdnaaGreatDoorSAgentNone
import Derived.Test.YtkekmghlhnbdnaaGreatDoorRows
import Derived.Test.YtkekmghlhnbdnaaGreatDoorCards
import Derived.Test.YtkekmghlhnbdnaaGreatDoorTie
import Derived.ProofKit
import Derived.LaidMore
import Derived.OpenShut
import Derived.Stop.Joined
import Derived.SevenTiedAt
import Derived.Carry
noncomputable section
namespace Go.Proofs.YtkekmghlhnbdnaaGreatDoor.lawAgentNone
open Go Go.Am Go.ChangeShapes Go.WideShapes Go.ChangeAt Go.WideMaps Go.WideElems Go.RowKit
set_option maxRecDepth 100000
theorem c1 : OpenClaim.wfByText (OpenSpec.ofChange Rows.agentNoneSpec) Rows.agentNoneRow = true := by kernel_rfl
theorem c2 : Tryz.pinned.checked.prog.mainIs = some (true, ("91306304656048b972d42c3ee187ab4449fec852d38e5810c96d36dfc8792c99" : String).toList) := by kernel_rfl
theorem c3 : true = Tryz.pinned.checked.prog.looks [] := by kernel_rfl
theorem c4 : false = Rows.agentNoneRow.goesBy Tryz.pinned.checked.prog := by kernel_rfl
theorem c5 : Tryz.pinned.checked.prog.funcNamed Rows.agentNoneRow.func = some 5 := by kernel_rfl
theorem c6 : (Tryz.f5.params.toList.all fun t => !(Tryz.pinned.checked.prog.wantsStandIn t)) = true := by kernel_rfl
theorem card : Rows.AgentNoneCardSaid :=
  Claim7.holds_tied_plain_at .later [] [.data, .data, .data, .sentinel, .sentinel] true (true, "91306304656048b972d42c3ee187ab4449fec852d38e5810c96d36dfc8792c99") true
    said (fun _ h => by cases h) c1 (fun _ h => by cases h) agentNone_row_tie rfl ⟨rfl, rfl⟩ c2 rfl
    (fun f fn hf hfn => by
      obtain rfl : f = 5 := Option.some.inj (c5.symm.trans hf) |>.symm
      obtain rfl : fn = Tryz.f5 := (Option.some.inj (Tryz.func5.symm.trans hfn)).symm
      exact ⟨c3, fun j t ht => by
        have h2 : Tryz.f5.params.toList[j]? = some t := by rw [Array.getElem?_toList]; exact ht
        have h3 := List.all_eq_true.1 c6 t (List.mem_of_getElem? h2)
        simpa using h3⟩)
    c4
#print axioms card
end Go.Proofs.YtkekmghlhnbdnaaGreatDoor.lawAgentNone
end
