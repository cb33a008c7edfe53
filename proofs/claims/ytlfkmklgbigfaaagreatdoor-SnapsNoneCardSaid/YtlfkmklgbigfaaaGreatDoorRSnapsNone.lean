/-
  SnapsNone, called with values of which nothing is known: true, and nothing that was there is turned. Conditions: those that the theorem names.
-/
import Derived.Test.YtlfkmklgbigfaaaGreatDoorPawake
import Derived.Test.YtlfkmklgbigfaaaGreatDoorLa
import Derived.KernelRfl
noncomputable section
namespace Go.Proofs.YtlfkmklgbigfaaaGreatDoor.lawSnapsNone
open Go Go.Am Go.RowKit
set_option maxRecDepth 100000
def cells13 : List Value := [.chan (some 0), .chan (some 1), .chan (some 2), .chan (some 3), .chan (some 4), .chan (some 5), .chan (some 6), .chan (some 7), .chan (some 8), .chan (some 9), .chan (some 10), .chan (some 11), .chan (some 12)]
def pat0 : Value := .agg ⟨cells13⟩
def orcs (b : Bool) : List (Nat × Orc) := (35, rowPat 13 cells13 (.bool b)) :: pawake.base
def frN : AFrame := match enterA gd.C0 6 [pat0] .normal with | some fr => fr | none => (gd.start 6).fr
theorem enters (b : Bool) : enterA (gd.cfg (orcs b)) 6 [pat0] .normal = some frN := by
  cases b <;> kernel_rfl
theorem run (b : Bool) : lastA (gd.cfg (orcs b)) 6 20000 ⟨frN, [], ⟨.e, 0⟩⟩ = some (.bool true) := by
  cases b <;> kernel_rfl
/-- the size check on a manifest whose items lie in W answers alike in each later world -/
theorem bigOk (x2 x3 x4 x5 : Value) (ta : Option Addr) (tl tc : Nat) (W : World)
    (ht : (ta = none ∧ tl = 0 ∧ tc = 0) ∨ (∃ a, ta = some a ∧ tl ≤ maxLen ∧ ∀ i, i < tl → ∃ x z da dl dc, W.cell? (a.add (i * 6)) = some (.string x) ∧ W.cell? ⟨(a.add (i * 6)).block, (a.add (i * 6)).off + 4, none⟩ = some (.string z) ∧ W.cell? ⟨(a.add (i * 6)).block, (a.add (i * 6)).off + 5, none⟩ = some (.slice da dl dc))) :
    ∃ b : Bool, ∀ w, Below W.heap.size W w → Calls Tryz.prog 11 #[.agg #[x2, x3, x4, x5, .slice ta tl tc], .int .i64 20] w (fun e w' => e = .returned (.bool b) ∧ Below w.heap.size w w') := by
  rcases ht with ⟨e1, e2, e3⟩ | ⟨a, e1, hm, hc⟩
  · subst e1; subst e2; subst e3
    exact ⟨false, fun w _ => bigManifest.walkNil x2 x3 x4 x5 w⟩
  · subst e1
    let sz : Option Value → Int := fun v => match v with | some (.string x) => x.size | some (.slice _ l _) => l | _ => 0
    let p : Nat → Int := fun i => sz (W.cell? (a.add (i * 6)))
    let t : Nat → Int := fun i => sz (W.cell? ⟨(a.add (i * 6)).block, (a.add (i * 6)).off + 4, none⟩)
    let c : Nat → Int := fun i => sz (W.cell? ⟨(a.add (i * 6)).block, (a.add (i * 6)).off + 5, none⟩)
    refine ⟨bigManifest.bigB tl c p t, fun w hb => bigManifest.walk x2 x3 x4 x5 a tl tc c p t w hm fun i hi => ?_⟩
    obtain ⟨x, z, da, dl, dc, h0, h4, h5⟩ := hc i hi
    refine ⟨x, z, da, dl, dc, ?_, ?_, ?_, ?_, ?_, ?_⟩
    · rw [hb.cell (p := a.add (i * 6)) (World.block_lt_of_cell? W _ h0)]; exact h0
    · rw [hb.cell (p := ⟨(a.add (i * 6)).block, (a.add (i * 6)).off + 4, none⟩) (World.block_lt_of_cell? W _ h4)]; exact h4
    · rw [hb.cell (p := ⟨(a.add (i * 6)).block, (a.add (i * 6)).off + 5, none⟩) (World.block_lt_of_cell? W _ h5)]; exact h5
    · show sz (W.cell? (a.add (i * 6))) = _
      rw [h0]
    · show sz (W.cell? ⟨(a.add (i * 6)).block, (a.add (i * 6)).off + 4, none⟩) = _
      rw [h4]
    · show sz (W.cell? ⟨(a.add (i * 6)).block, (a.add (i * 6)).off + 5, none⟩) = _
      rw [h5]
theorem runs (i0 i1 i2 i3 i4 i5 i7 i8 i9 : Int) (ta a1 a3 : Option Addr) (tl tc l1 c1 l3 c3 : Nat) (s : ByteArray) (W : World)
    (ht : (ta = none ∧ tl = 0 ∧ tc = 0) ∨ (∃ a, ta = some a ∧ tl ≤ maxLen ∧ ∀ i, i < tl → ∃ x z da dl dc, W.cell? (a.add (i * 6)) = some (.string x) ∧ W.cell? ⟨(a.add (i * 6)).block, (a.add (i * 6)).off + 4, none⟩ = some (.string z) ∧ W.cell? ⟨(a.add (i * 6)).block, (a.add (i * 6)).off + 5, none⟩ = some (.slice da dl dc))) :
    Calls Tryz.prog 6 #[.agg #[.int .i64 i0, .int .i64 i1, .int .i64 i2, .int .i64 i3, .int .i64 i4, .int .i64 i5, .slice ta tl tc, .int .i64 i7, .int .i64 i8, .int .i64 i9, .slice a1 l1 c1, .string s, .slice a3 l3 c3]] W (fun e w' => e = .returned (.bool true) ∧ Below W.heap.size W w') := by
  obtain ⟨b, hbig⟩ := bigOk (.int .i64 i2) (.int .i64 i3) (.int .i64 i4) (.int .i64 i5) ta tl tc W ht
  let L : List Value := [.int .i64 i0, .int .i64 i1, .int .i64 i2, .int .i64 i3, .int .i64 i4, .int .i64 i5, .slice ta tl tc, .int .i64 i7, .int .i64 i8, .int .i64 i9, .slice a1 l1 c1, .string s, .slice a3 l3 c3]
  have hL : ∀ v ∈ L, v.oneCell' = true ∧ v.cells = #[v] ∧ ∀ b, v ≠ .bool b := by
    intro v hv
    simp only [L, List.mem_cons, List.not_mem_nil, or_false] at hv
    rcases hv with e | e | e | e | e | e | e | e | e | e | e | e | e <;> subst e <;> exact ⟨rfl, rfl, fun b h => by cases h⟩
  let At : Atoms := atomsOf L hL (fun w => Below W.heap.size W w) (fun w w' h h' => h.trans (h'.mono h.size))
  have hQ : At.Q W := Below.refl _ _
  have K : @OrcOk At Tryz.prog 0 35 (rowPat 13 cells13 (.bool (longAct.longB b l1 s.size l3))) :=
    @rowPat_ok At _ _ _ _ _ _ L _ Tryz.func35 (by kernel_rfl) (by kernel_rfl) rfl (fun r => rfl) (fun w0 w bl hq hw hc =>
      longAct.walk bl (.int .i64 i2) (.int .i64 i3) (.int .i64 i4) (.int .i64 i5) (.slice ta tl tc) a1 a3 l1 l3 c1 c3 s b w (hc 2 _ rfl) (hc 3 _ rfl) (hc 4 _ rfl) (hc 5 _ rfl) (hc 6 _ rfl) (hc 10 _ rfl) (hc 11 _ rfl) (hc 12 _ rfl)
        (fun w' hw' => hbig w' ((hq.trans (hw.mono hq.size)).trans (hw'.mono (hq.trans (hw.mono hq.size)).size))))
  have G : @Go.Am.Good At Tryz.prog (gd.cfg (orcs (longAct.longB b l1 s.size l3))) := @gd.good_of At _ (@gd.more_ok At _ _ K (@pawake.base_ok At))
  exact @Go.Am.Yields.callsA At kF _ _ G rfl _ _ _ _ _ (enters _) (Go.Am.Yields.end_ G (run _)) (fun r => rfl) rfl _ hQ
end Go.Proofs.YtlfkmklgbigfaaaGreatDoor.lawSnapsNone
end
