/-
  IntakeNone, called with values of which nothing is known: true, and nothing that was there is turned. Conditions: those that the theorem names.
-/
import Derived.Test.YtogdiebhajiefaaGreatDoorPawake
import Derived.Test.YtogdiebhajiefaaGreatDoorLn
import Derived.KernelRfl
noncomputable section
namespace Go.Proofs.YtogdiebhajiefaaGreatDoor.lawIntakeNone
open Go Go.Am Go.RowKit
set_option maxRecDepth 100000
def pat0 : Value := .agg ⟨[.chan (some 0), .chan (some 1), .chan (some 2), .chan (some 3)]⟩
def pat1 : Value := .agg ⟨[.chan (some 4), .chan (some 5), .chan (some 6), .chan (some 7)]⟩
def orcs (b : Bool) : List (Nat × Orc) := (19, patOrc [pat0] (.bool b)) :: pawake.base
def frN : AFrame := match enterA gd.C0 4 [pat0, pat1] .normal with | some fr => fr | none => (gd.start 4).fr
theorem enters (b : Bool) : enterA (gd.cfg (orcs b)) 4 [pat0, pat1] .normal = some frN := by
  cases b <;> kernel_rfl
theorem run (b : Bool) : lastA (gd.cfg (orcs b)) 4 20000 ⟨frN, [], ⟨.e, 0⟩⟩ = some (.bool true) := by
  cases b <;> kernel_rfl
theorem runs (n q0 q1 q2 q3 : Int) (a1 a2 a3 : Option Addr) (l1 l2 l3 c1 c2 c3 : Nat) (W : World) :
    Calls Tryz.prog 4 #[.agg #[.int .i64 n, .slice a1 l1 c1, .slice a2 l2 c2, .slice a3 l3 c3], .agg #[.int .i64 q0, .int .i64 q1, .int .i64 q2, .int .i64 q3]] W (fun e w' => e = .returned (.bool true) ∧ Below W.heap.size W w') := by
  let L : List Value := [.int .i64 n, .slice a1 l1 c1, .slice a2 l2 c2, .slice a3 l3 c3, .int .i64 q0, .int .i64 q1, .int .i64 q2, .int .i64 q3]
  have hL : ∀ v ∈ L, v.oneCell' = true ∧ v.cells = #[v] ∧ ∀ b, v ≠ .bool b := by
    intro v hv
    simp only [L, List.mem_cons, List.not_mem_nil, or_false] at hv
    rcases hv with e | e | e | e | e | e | e | e <;> subst e <;> exact ⟨rfl, rfl, fun b h => by cases h⟩
  let At : Atoms := atomsOf L hL (fun _ => True) (fun _ _ _ _ => trivial)
  have K : @OrcOk At Tryz.prog 0 19 (patOrc [pat0] (.bool (longNote.longB l1 l2 l3))) :=
    @patOrc_ok At _ _ _ _ _ [.agg #[.int .i64 n, .slice a1 l1 c1, .slice a2 l2 c2, .slice a3 l3 c3]] _ Tryz.func19 (by kernel_rfl) (by kernel_rfl) rfl (fun r => rfl) (fun w0 w _ _ => longNote.longWalk (.int .i64 n) a1 a2 a3 l1 l2 l3 c1 c2 c3 w)
  have G : @Go.Am.Good At Tryz.prog (gd.cfg (orcs (longNote.longB l1 l2 l3))) := @gd.good_of At _ (@gd.more_ok At _ _ K (@pawake.base_ok At))
  exact @Go.Am.Yields.callsA At kF _ _ G rfl _ _ _ _ _ (enters _) (Go.Am.Yields.end_ G (run _)) (fun r => rfl) rfl _ trivial
end Go.Proofs.YtogdiebhajiefaaGreatDoor.lawIntakeNone
end
