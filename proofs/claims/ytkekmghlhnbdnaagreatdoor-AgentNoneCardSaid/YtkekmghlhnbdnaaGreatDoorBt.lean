/-
  Whether a tree is big: the walk of satchelkit.BigTree: in every world, for every tree. Conditions: those that the theorems name: that the tree lies in memory.
-/
import Derived.Test.YtkekmghlhnbdnaaGreatDoorProg
import Derived.WalkKit
import Derived.Tactics
import Derived.Tactics2
import Derived.LoopTactic
import Derived.Deep.QuietTactic
import Derived.BigQuiet
namespace Go.Proofs.YtkekmghlhnbdnaaGreatDoor.bigTree
open Go Go.RowKit
/-- what the loop adds up -/
def sumW (p d t : Nat → Int) : Nat → Int
  | 0 => 0
  | i + 1 => wrap64 (wrap64 (wrap64 (sumW p d t i + p i) + d i) + t i)
def bigB (l : Nat) (p d t : Nat → Int) : Bool := decide ((12 : Int) < (l : Int)) || decide ((4000 : Int) < sumW p d t (if l < 13 then l else 13))
def meas : Value → Nat
  | .int _ k => (13 - k).toNat
  | _ => 0
set_option maxRecDepth 1000000 in
theorem walk (a : Addr) (l c : Nat) (p d t : Nat → Int) (w : World) (hmax : l ≤ maxLen)
    (hc : ∀ i, i < l → ∃ x z da dl dc, w.cell? (a.add (i * 5)) = some (.string x) ∧ w.cell? ⟨(a.add (i * 5)).block, (a.add (i * 5)).off + 3, none⟩ = some (.slice da dl dc) ∧ w.cell? ⟨(a.add (i * 5)).block, (a.add (i * 5)).off + 4, none⟩ = some (.string z) ∧ p i = x.size ∧ d i = dl ∧ t i = z.size) :
    Calls Tryz.prog 9 #[.slice (some a) l c, .int .i64 12, .int .i64 4000] w fun e w' => e = .returned (.bool (bigB l p d t)) ∧ ∃ n, w' = w.drewN n := by
  go_enter Tryz.func9, Tryz.ntmps9
  go_wp2
  go_loopw [7, 8] (fun s i w' => ∃ n k : Nat, w' = w.drewN n ∧ k ≤ l ∧ k ≤ 13 ∧ s = .int .i64 (sumW p d t k) ∧ i = .int .i64 k) (fun _ i _ => meas i)
  case atStart => exact ⟨0, 0, rfl, Nat.zero_le _, by omega, rfl, rfl⟩
  case round =>
    obtain ⟨n, k, rfl, hk, hk2, rfl, rfl⟩ := hrel
    by_cases h1 : k < l
    · by_cases h2 : k ≤ 12
      · obtain ⟨x, z, da, dl, dc, q0, q3, q4, e0, e3, e4⟩ := hc k h1
        have g1 : (k : Int) < (l : Int) := by omega
        have g2 : (k : Int) ≤ 12 := by omega
        have g0 : (0 : Int) ≤ (k : Int) := by omega
        go_wp2
        go_quiet (fail)
        go_wp2
        refine ⟨⟨n + nq, k + 1, rfl, by omega, by omega, ?_, by simp⟩, by show (13 - ((k : Int) + 1)).toNat < (13 - (k : Int)).toNat; omega⟩
        rw [sumW, e0, e3, e4]
      · have g1 : (k : Int) < (l : Int) := by omega
        have g2 : ¬ (k : Int) ≤ 12 := by omega
        have ek : k = 13 := by omega
        subst ek
        go_wp2
        all_goals go_ret
        all_goals refine ⟨?_, n, rfl⟩
        all_goals have e1 : (if l < 13 then l else 13) = 13 := by rw [if_neg (by omega)]
        all_goals simp only [bigB, e1]
        all_goals simp [*]
    · have g1 : ¬ (k : Int) < (l : Int) := by omega
      have ek : k = l := by omega
      subst ek
      go_wp2
      all_goals go_ret
      all_goals refine ⟨?_, n, rfl⟩
      all_goals have e1 : (if k < 13 then k else 13) = k := by split <;> omega
      all_goals simp only [bigB, e1]
      all_goals simp [*]
set_option maxRecDepth 1000000 in
theorem walkNil (w : World) :
    Calls Tryz.prog 9 #[.slice none 0 0, .int .i64 12, .int .i64 4000] w fun e w' => e = .returned (.bool false) ∧ ∃ n, w' = w.drewN n := by
  go_enter Tryz.func9, Tryz.ntmps9
  go_wp2
  refine wp_loop_rounds 1 ?_
  rw [rounds_succ]
  go_wp2
  go_ret
  exact ⟨rfl, 0, rfl⟩
end Go.Proofs.YtkekmghlhnbdnaaGreatDoor.bigTree
