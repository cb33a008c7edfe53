/-
  Whether a manifest is big: the walk of satchelkit.BigManifest: in every world, for every manifest. Conditions: those that the theorems name: that the items lie in memory.
-/
import Derived.Test.YtlfkmklgbigfaaaGreatDoorProg
import Derived.WalkKit
import Derived.Tactics
import Derived.Tactics2
import Derived.LoopTactic
import Derived.Deep.QuietTactic
import Derived.BigQuiet
namespace Go.Proofs.YtlfkmklgbigfaaaGreatDoor.bigManifest
open Go Go.RowKit
/-- what the loop adds up -/
def sumN (c : Nat → Int) : Nat → Int
  | 0 => 0
  | i + 1 => wrap64 (sumN c i + c i)
def sumS (p t : Nat → Int) : Nat → Int
  | 0 => 0
  | i + 1 => wrap64 (wrap64 (sumS p t i + p i) + t i)
def bigB (l : Nat) (c p t : Nat → Int) : Bool := decide ((20 : Int) < (l : Int)) || decide ((400 : Int) < sumN c (if l < 21 then l else 21)) || decide ((6000 : Int) < sumS p t (if l < 21 then l else 21))
def meas : Value → Nat
  | .int _ k => (21 - k).toNat
  | _ => 0
set_option maxRecDepth 1000000 in
theorem walk (k0 k1 k2 k3 : Value) (a : Addr) (l cp : Nat) (c p t : Nat → Int) (w : World) (hmax : l ≤ maxLen)
    (hc : ∀ i, i < l → ∃ x z da dl dc, w.cell? (a.add (i * 6)) = some (.string x) ∧ w.cell? ⟨(a.add (i * 6)).block, (a.add (i * 6)).off + 4, none⟩ = some (.string z) ∧ w.cell? ⟨(a.add (i * 6)).block, (a.add (i * 6)).off + 5, none⟩ = some (.slice da dl dc) ∧ p i = x.size ∧ t i = z.size ∧ c i = dl) :
    Calls Tryz.prog 11 #[.agg #[k0, k1, k2, k3, .slice (some a) l cp], .int .i64 20] w fun e w' => e = .returned (.bool (bigB l c p t)) ∧ Below w.heap.size w w' := by
  go_enter Tryz.func11, Tryz.ntmps11
  go_wp2
  go_loopw [5, 6, 7] (fun s5 s6 i w' => ∃ n k : Nat, w' = (w.drewN n).alloc (.cells #[k0, k1, k2, k3, .slice (some a) l cp] 31) ∧ k ≤ l ∧ k ≤ 21 ∧ s5 = .int .i64 (sumN c k) ∧ s6 = .int .i64 (sumS p t k) ∧ i = .int .i64 k) (fun _ _ i _ => meas i)
  case atStart => exact ⟨0, 0, rfl, Nat.zero_le _, by omega, rfl, rfl, rfl⟩
  case round =>
    obtain ⟨n, k, rfl, hk, hk2, rfl, rfl, rfl⟩ := hrel
    have hcell : ∀ m v, (⟨w.heap.size, m, none⟩ : Addr).block = w.heap.size ∧ (#[k0, k1, k2, k3, Value.slice (some a) l cp] : Array Value)[m]? = some v → ((w.drewN n).alloc (.cells #[k0, k1, k2, k3, .slice (some a) l cp] 31)).cell? ⟨w.heap.size, m, none⟩ = some v := fun m v h => by
      rw [← h.2]; exact World.cell?_alloc_new (w.drewN n) _ _ m
    have q9 : ((w.drewN n).alloc (.cells #[k0, k1, k2, k3, .slice (some a) l cp] 31)).cell? ⟨w.heap.size, 4, none⟩ = some (.slice (some a) l cp) := hcell 4 _ ⟨rfl, rfl⟩
    clear hcell
    by_cases h1 : k < l
    · by_cases h2 : k ≤ 20
      · obtain ⟨x, z, da, dl, dc, q0, q4, q5, e0, e4, e5⟩ := hc k h1
        have g1 : (k : Int) < (l : Int) := by omega
        have g2 : (k : Int) ≤ 20 := by omega
        have g0 : (0 : Int) ≤ (k : Int) := by omega
        have q0' := (World.cell?_alloc_old (w.drewN n) (.cells #[k0, k1, k2, k3, .slice (some a) l cp] 31) _ (Nat.ne_of_lt (World.block_lt_of_cell? w _ q0))).trans q0
        have q4' := (World.cell?_alloc_old (w.drewN n) (.cells #[k0, k1, k2, k3, .slice (some a) l cp] 31) _ (Nat.ne_of_lt (World.block_lt_of_cell? w _ q4))).trans q4
        have q5' := (World.cell?_alloc_old (w.drewN n) (.cells #[k0, k1, k2, k3, .slice (some a) l cp] 31) _ (Nat.ne_of_lt (World.block_lt_of_cell? w _ q5))).trans q5
        generalize hW : (w.drewN n).alloc (.cells #[k0, k1, k2, k3, .slice (some a) l cp] 31) = W at *
        go_wp2
        go_quiet (fail)
        go_wp2
        subst hW
        have hdr : ((w.drewN n).alloc (.cells #[k0, k1, k2, k3, .slice (some a) l cp] 31)).drewN nq = (w.drewN (n + nq)).alloc (.cells #[k0, k1, k2, k3, .slice (some a) l cp] 31) := by
          rw [← World.drewN_drewN]; rfl
        refine ⟨⟨n + nq, k + 1, hdr, by omega, by omega, ?_, ?_, by simp⟩, by show (21 - ((k : Int) + 1)).toNat < (21 - (k : Int)).toNat; omega⟩
        · rw [sumN, e5]
        · rw [sumS, e0, e4]
      · have g1 : (k : Int) < (l : Int) := by omega
        have g2 : ¬ (k : Int) ≤ 20 := by omega
        have ek : k = 21 := by omega
        subst ek
        generalize hW : (w.drewN n).alloc (.cells #[k0, k1, k2, k3, .slice (some a) l cp] 31) = W at *
        go_wp2
        all_goals go_ret
        all_goals refine ⟨?_, by rw [← hW]; exact ⟨rfl, rfl, rfl, by simp, fun j hj => heap_alloc_old (w.drewN n) _ hj⟩⟩
        all_goals have e1 : (if l < 21 then l else 21) = 21 := by rw [if_neg (by omega)]
        all_goals simp only [bigB, e1]
        all_goals simp [*]
    · have g1 : ¬ (k : Int) < (l : Int) := by omega
      have ek : k = l := by omega
      subst ek
      generalize hW : (w.drewN n).alloc (.cells #[k0, k1, k2, k3, .slice (some a) k cp] 31) = W at *
      go_wp2
      all_goals go_ret
      all_goals refine ⟨?_, by rw [← hW]; exact ⟨rfl, rfl, rfl, by simp, fun j hj => heap_alloc_old (w.drewN n) _ hj⟩⟩
      all_goals have e1 : (if k < 21 then k else 21) = k := by split <;> omega
      all_goals simp only [bigB, e1]
      all_goals simp [*]
set_option maxRecDepth 1000000 in
theorem walkNil (k0 k1 k2 k3 : Value) (w : World) :
    Calls Tryz.prog 11 #[.agg #[k0, k1, k2, k3, .slice none 0 0], .int .i64 20] w fun e w' => e = .returned (.bool false) ∧ Below w.heap.size w w' := by
  go_enter Tryz.func11, Tryz.ntmps11
  go_wp2
  refine wp_loop_rounds 1 ?_
  rw [rounds_succ]
  go_wp2
  go_ret
  exact ⟨rfl, rfl, rfl, rfl, by simp, fun j hj => heap_alloc_old w _ hj⟩
end Go.Proofs.YtlfkmklgbigfaaaGreatDoor.bigManifest
