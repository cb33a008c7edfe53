/-
  Whether an act is long: the walk of the law's own check at one act. Conditions: those that the theorem names: the act lies in memory, its manifest is measured.
-/
import Derived.Test.YtlfkmklgbigfaaaGreatDoorBm
import Derived.Test.YtlfkmklgbigfaaaGreatDoorProg
import Derived.WalkKit
import Derived.Tactics
import Derived.Tactics2
import Derived.LoopTactic
import Derived.Deep.QuietTactic
import Derived.BigQuiet
namespace Go.Proofs.YtlfkmklgbigfaaaGreatDoor.longAct
open Go Go.RowKit
def longB (b : Bool) (l1 l2 l3 : Nat) : Bool := b || decide ((100 : Int) < l1) || decide ((100 : Int) < l2) || decide ((500 : Int) < l3)
set_option maxRecDepth 1000000 in
theorem walk (b : Nat) (x2 x3 x4 x5 x6 : Value) (a1 a3 : Option Addr) (l1 l3 c1 c3 : Nat) (s : ByteArray) (β : Bool) (w : World)
    (h2 : w.cell? ⟨b, 2, none⟩ = some x2) (h3 : w.cell? ⟨b, 3, none⟩ = some x3) (h4 : w.cell? ⟨b, 4, none⟩ = some x4) (h5 : w.cell? ⟨b, 5, none⟩ = some x5) (h6 : w.cell? ⟨b, 6, none⟩ = some x6)
    (h10 : w.cell? ⟨b, 10, none⟩ = some (.slice a1 l1 c1)) (h11 : w.cell? ⟨b, 11, none⟩ = some (.string s)) (h12 : w.cell? ⟨b, 12, none⟩ = some (.slice a3 l3 c3))
    (hbig : ∀ w', Below w.heap.size w w' → Calls Tryz.prog 11 #[.agg #[x2, x3, x4, x5, x6], .int .i64 20] w' fun e w'' => e = .returned (.bool β) ∧ Below w'.heap.size w' w'') :
    Calls Tryz.prog 35 #[.slice (some ⟨b, 0, none⟩) 1 1] w fun e w' => e = .returned (.bool (longB β l1 s.size l3)) ∧ Below w.heap.size w w' := by
  have hlt : b < w.heap.size := World.block_lt_of_cell? w _ h2
  go_enter Tryz.func35, Tryz.ntmps35
  go_wp2
  refine wp_loop_rounds 2 ?_
  rw [rounds_succ]
  go_wp2_with (go_at_call 11; refine (hbig _ (Below.refl _ _)).mono ?_; rintro e w1 ⟨rfl, hb⟩; have q10 := (hb.cell (p := ⟨b, 10, none⟩) hlt).trans h10; have q11 := (hb.cell (p := ⟨b, 11, none⟩) hlt).trans h11; have q12 := (hb.cell (p := ⟨b, 12, none⟩) hlt).trans h12)
  all_goals try (rw [rounds_succ]; go_wp2)
  all_goals go_ret
  all_goals refine ⟨?_, hb⟩
  all_goals simp only [longB]
  all_goals simp [*]
end Go.Proofs.YtlfkmklgbigfaaaGreatDoor.longAct
