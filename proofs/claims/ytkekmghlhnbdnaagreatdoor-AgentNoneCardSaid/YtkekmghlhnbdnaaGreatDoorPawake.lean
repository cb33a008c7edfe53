/-
  A call of awake yields true. No condition.
-/
import Derived.Test.YtkekmghlhnbdnaaGreatDoorRawake
noncomputable section
namespace Go.Proofs.YtkekmghlhnbdnaaGreatDoor.pawake
open Go Go.Am
set_option maxRecDepth 100000
theorem ok [Atoms] : OrcOk Tryz.prog 0 7 (closedOrc (.bool true)) := closed_ok (C := gd.cfg (gd.base)) (gd.good_of gd.base_ok) Tryz.func7 (by kernel_rfl) (by kernel_rfl) (fr := (gd.start 7).fr) (by kernel_rfl) (runs (gd.good_of gd.base_ok)) rfl
def base : List (Nat × Orc) := (7, closedOrc (.bool true)) :: gd.base
theorem base_ok [Atoms] : ∀ q ∈ base, OrcOk Tryz.prog 0 q.1 q.2 := gd.more_ok ok gd.base_ok
end Go.Proofs.YtkekmghlhnbdnaaGreatDoor.pawake
end
