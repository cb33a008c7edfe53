/-
  A call of awake yields true. No condition.
-/
import Derived.Test.YtlfkmklgbigfaaaGreatDoorRawake
noncomputable section
namespace Go.Proofs.YtlfkmklgbigfaaaGreatDoor.pawake
open Go Go.Am
set_option maxRecDepth 100000
theorem ok [Atoms] : OrcOk Tryz.prog 0 9 (closedOrc (.bool true)) := closed_ok (C := gd.cfg (gd.base)) (gd.good_of gd.base_ok) Tryz.func9 (by kernel_rfl) (by kernel_rfl) (fr := (gd.start 9).fr) (by kernel_rfl) (runs (gd.good_of gd.base_ok)) rfl
def base : List (Nat × Orc) := (9, closedOrc (.bool true)) :: gd.base
theorem base_ok [Atoms] : ∀ q ∈ base, OrcOk Tryz.prog 0 q.1 q.2 := gd.more_ok ok gd.base_ok
end Go.Proofs.YtlfkmklgbigfaaaGreatDoor.pawake
end
