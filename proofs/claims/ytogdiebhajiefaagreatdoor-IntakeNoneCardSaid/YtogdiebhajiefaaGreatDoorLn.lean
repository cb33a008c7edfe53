/-
  Whether a note is long: the walk of satchelkit.LongNote: in every world, for every note. No condition.
-/
import Derived.Test.YtogdiebhajiefaaGreatDoorProg
import Derived.WalkKit
import Derived.Tactics
import Derived.Tactics2
import Derived.Deep.QuietTactic
import Derived.BigQuiet
namespace Go.Proofs.YtogdiebhajiefaaGreatDoor.longNote
open Go Go.RowKit
def longB (l1 l2 l3 : Nat) : Bool := decide (200 < (l1 : Int)) || decide (40 < (l2 : Int)) || decide (2000 < (l3 : Int))
theorem below_alloc (w : World) (o : Obj) : Below w.heap.size w (w.alloc o) := ⟨rfl, rfl, rfl, by simp, fun k hk => heap_alloc_old w o hk⟩
set_option maxRecDepth 1000000 in
theorem longWalk (k : Value) (a1 a2 a3 : Option Addr) (l1 l2 l3 c1 c2 c3 : Nat) (w : World) :
    Calls Tryz.prog 19 #[.agg #[k, .slice a1 l1 c1, .slice a2 l2 c2, .slice a3 l3 c3]] w fun e w' => e = .returned (.bool (longB l1 l2 l3)) ∧ Below w.heap.size w w' := by
  go_enter Tryz.func19, Tryz.ntmps19
  go_wp2
  all_goals go_ret
  all_goals refine ⟨?_, below_alloc _ _⟩
  all_goals simp only [longB, Ending.returned.injEq]
  all_goals simp [*]
  all_goals omega
end Go.Proofs.YtogdiebhajiefaaGreatDoor.longNote
