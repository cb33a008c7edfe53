/-
  AgentNone, called with values of which nothing is known: true, and nothing that was there is turned. Conditions: those that the theorem names.
-/
import Derived.Test.YtkekmghlhnbdnaaGreatDoorPawake
import Derived.Test.YtkekmghlhnbdnaaGreatDoorBt
import Derived.KernelRfl
noncomputable section
namespace Go.Proofs.YtkekmghlhnbdnaaGreatDoor.lawAgentNone
open Go Go.Am Go.RowKit
set_option maxRecDepth 100000
def pat0 : Value := .agg ⟨[.chan (some 0), .chan (some 1), .chan (some 2), .chan (some 3)]⟩
def pat1 : List Value := [.chan (some 3), .int .i64 12, .int .i64 4000]
def pat2 : Value := .chan (some 4)
def orcs (b : Bool) : List (Nat × Orc) := (9, patOrc pat1 (.bool b)) :: pawake.base
def frN (v : Value) : AFrame := match enterA gd.C0 5 [pat0, v, pat2] .normal with | some fr => fr | none => (gd.start 5).fr
theorem enters (b : Bool) (v : Value) : enterA (gd.cfg (orcs b)) 5 [pat0, v, pat2] .normal = some (frN v) := by
  cases b <;> kernel_rfl
theorem entersS (b : Bool) (v : Value) : @enterA sF (gd.cfg (orcs b)) 5 [pat0, v, pat2] .normal = some (frN v) := by
  cases b <;> kernel_rfl
theorem runNil (b : Bool) : lastA (gd.cfg (orcs b)) 5 20000 ⟨frN (.slice none 0 0), [], ⟨.e, 0⟩⟩ = some (.bool true) := by
  cases b <;> kernel_rfl
/-- the start, with a slice of bytes in the place 0 -/
def st (l c : Nat) : AState := ⟨frN (.slice (some ⟨0, 0, none⟩) l c), [], ⟨.e, 1⟩⟩
theorem runT (l c : Nat) : lastA (gd.cfg (orcs true)) 5 20000 (st l c) = some (.bool true) := by kernel_rfl
theorem tmpF (l c : Nat) : ob (@iterA sF (gd.cfg (orcs false)) 5 (st l c)) (tmpAt 25) = some (.bool (Nat.blt 1500 l)) := by kernel_rfl
theorem runFT (l c : Nat) : @lastS (gd.cfg (orcs false)) sF 5 5 25 (.bool true) 20000 (st l c) = some (.bool true) := by kernel_rfl
theorem runFF (l c : Nat) : @lastS (gd.cfg (orcs false)) sF 5 5 25 (.bool false) 20000 (st l c) = some (.bool true) := by kernel_rfl
theorem below_drewN (w : World) (n : Nat) : Below w.heap.size w (w.drewN n) := ⟨rfl, rfl, rfl, Nat.le_refl _, fun _ _ => rfl⟩
/-- the size check on a tree that lies in W answers alike in each later world -/
theorem bigOk (ta : Option Addr) (tl tc : Nat) (W : World)
    (ht : (ta = none ∧ tl = 0 ∧ tc = 0) ∨ (∃ a, ta = some a ∧ tl ≤ maxLen ∧ ∀ i, i < tl → ∃ x z da dl dc, W.cell? (a.add (i * 5)) = some (.string x) ∧ W.cell? ⟨(a.add (i * 5)).block, (a.add (i * 5)).off + 3, none⟩ = some (.slice da dl dc) ∧ W.cell? ⟨(a.add (i * 5)).block, (a.add (i * 5)).off + 4, none⟩ = some (.string z))) :
    ∃ b : Bool, ∀ w, Below W.heap.size W w → Calls Tryz.prog 9 #[.slice ta tl tc, .int .i64 12, .int .i64 4000] w (fun e w' => e = .returned (.bool b) ∧ Below w.heap.size w w') := by
  rcases ht with ⟨e1, e2, e3⟩ | ⟨a, e1, hm, hc⟩
  · subst e1; subst e2; subst e3
    refine ⟨false, fun w _ => (bigTree.walkNil w).mono ?_⟩
    rintro e w' ⟨h, n, rfl⟩
    exact ⟨h, below_drewN _ _⟩
  · subst e1
    let sz : Option Value → Int := fun v => match v with | some (.string x) => x.size | some (.slice _ l _) => l | _ => 0
    let p : Nat → Int := fun i => sz (W.cell? (a.add (i * 5)))
    let d : Nat → Int := fun i => sz (W.cell? ⟨(a.add (i * 5)).block, (a.add (i * 5)).off + 3, none⟩)
    let t : Nat → Int := fun i => sz (W.cell? ⟨(a.add (i * 5)).block, (a.add (i * 5)).off + 4, none⟩)
    refine ⟨bigTree.bigB tl p d t, fun w hb => (bigTree.walk a tl tc p d t w hm fun i hi => ?_).mono ?_⟩
    · obtain ⟨x, z, da, dl, dc, h0, h3, h4⟩ := hc i hi
      refine ⟨x, z, da, dl, dc, ?_, ?_, ?_, ?_, ?_, ?_⟩
      · rw [hb.cell (p := a.add (i * 5)) (World.block_lt_of_cell? W _ h0)]; exact h0
      · rw [hb.cell (p := ⟨(a.add (i * 5)).block, (a.add (i * 5)).off + 3, none⟩) (World.block_lt_of_cell? W _ h3)]; exact h3
      · rw [hb.cell (p := ⟨(a.add (i * 5)).block, (a.add (i * 5)).off + 4, none⟩) (World.block_lt_of_cell? W _ h4)]; exact h4
      · show sz (W.cell? (a.add (i * 5))) = _
        rw [h0]
      · show sz (W.cell? ⟨(a.add (i * 5)).block, (a.add (i * 5)).off + 3, none⟩) = _
        rw [h3]
      · show sz (W.cell? ⟨(a.add (i * 5)).block, (a.add (i * 5)).off + 4, none⟩) = _
        rw [h4]
    · rintro e w' ⟨h, n, rfl⟩
      exact ⟨h, below_drewN _ _⟩
theorem runs (k n tk now : Int) (ta ba : Option Addr) (tl tc bl bc : Nat) (W : World)
    (ht : (ta = none ∧ tl = 0 ∧ tc = 0) ∨ (∃ a, ta = some a ∧ tl ≤ maxLen ∧ ∀ i, i < tl → ∃ x z da dl dc, W.cell? (a.add (i * 5)) = some (.string x) ∧ W.cell? ⟨(a.add (i * 5)).block, (a.add (i * 5)).off + 3, none⟩ = some (.slice da dl dc) ∧ W.cell? ⟨(a.add (i * 5)).block, (a.add (i * 5)).off + 4, none⟩ = some (.string z)))
    (hb : (ba = none ∧ bl = 0 ∧ bc = 0) ∨ (∃ a, ba = some a ∧ a.spot = none ∧ bc < capInf ∧ ∃ o, W.heap[a.block]? = some o)) :
    Calls Tryz.prog 5 #[.agg #[.int .i64 k, .int .i64 n, .int .i64 tk, .slice ta tl tc], .slice ba bl bc, .int .i64 now] W (fun e w' => e = .returned (.bool true) ∧ Below W.heap.size W w') := by
  obtain ⟨b, hbig⟩ := bigOk ta tl tc W ht
  let L : List Value := [.int .i64 k, .int .i64 n, .int .i64 tk, .slice ta tl tc, .int .i64 now]
  have hL : ∀ v ∈ L, v.oneCell' = true ∧ v.cells = #[v] ∧ ∀ b, v ≠ .bool b := by
    intro v hv
    simp only [L, List.mem_cons, List.not_mem_nil, or_false] at hv
    rcases hv with e | e | e | e | e <;> subst e <;> exact ⟨rfl, rfl, fun b h => by cases h⟩
  let At : Atoms := atomsOf L hL (fun w => Below W.heap.size W w) (fun w w' h h' => h.trans (h'.mono h.size))
  have hQ : At.Q W := Below.refl _ _
  have K : @OrcOk At Tryz.prog 0 9 (patOrc pat1 (.bool b)) :=
    @patOrc_ok At _ _ _ _ _ [.slice ta tl tc, .int .i64 12, .int .i64 4000] _ Tryz.func9 (by kernel_rfl) (by kernel_rfl) rfl (fun r => rfl) (fun w0 w hq hw => hbig w (hq.trans (hw.mono hq.size)))
  have G : @Go.Am.Good At Tryz.prog (gd.cfg (orcs b)) := @gd.good_of At _ (@gd.more_ok At _ _ K (@pawake.base_ok At))
  rcases hb with ⟨e1, e2, e3⟩ | ⟨a, e1, hsp, hcap, o, ho⟩
  · subst e1; subst e2; subst e3
    exact @Go.Am.Yields.callsA At kF _ _ G rfl _ _ _ _ _ (enters _ _) (Go.Am.Yields.end_ G (runNil _)) (fun r => rfl) rfl _ hQ
  · subst e1
    let r : Rho := fun i => if i = 0 then some ⟨a.block, a.off, 0⟩ else none
    have H : @HR At 0 r ⟨.e, 1⟩ W W := by
      refine @hr_bare At 1 r W (fun i pb hi => ?_) hQ
      by_cases e : i = 0
      · subst e
        have : some (⟨a.block, a.off, 0⟩ : PB) = some pb := hi
        cases this
        exact ⟨Nat.zero_lt_one, o, ho⟩
      · have : (none : Option PB) = some pb := by rw [← hi]; show _ = (if i = 0 then (some ⟨a.block, a.off, 0⟩ : Option PB) else none); rw [if_neg e]
        cases this
    have ha : @cvs At r [pat0, .slice (some ⟨0, 0, none⟩) bl bc, pat2] = some [.agg #[.int .i64 k, .int .i64 n, .int .i64 tk, .slice ta tl tc], .slice (some a) bl bc, .int .i64 now] := by
      have e1 : @cv At r (.slice (some ⟨0, 0, none⟩) bl bc) = some (.slice (some a) bl bc) := by
        have e2 := cv_mk_exact (r := r) (a := (⟨0, 0, none⟩ : Addr)) (b := ⟨a.block, a.off + 0, none⟩) (l := bl) (c := bc) rfl hcap
        rw [e2]
        obtain ⟨x, y, z⟩ := a
        simp only at hsp
        subst hsp
        rfl
      show (match @cv At r pat0, (match @cv At r (.slice (some ⟨0, 0, none⟩) bl bc), @cvs At r [pat2] with | some v', some l' => some (v' :: l') | _, _ => none) with | some v', some l' => some (v' :: l') | _, _ => none) = _
      rw [e1]
      rfl
    cases b with
    | true => exact @Go.Am.Yields.callsB _ _ At kF G rfl _ _ _ _ _ _ _ _ (enters _ _) (Go.Am.Yields.end_ G (runT bl bc)) H ha rfl
    | false =>
      cases hl : Nat.blt 1500 bl with
      | true => exact @Go.Am.Yields.callsB _ _ At sF G rfl _ _ _ _ _ _ _ _ (entersS _ _) (Go.Am.Yields.assume (iF := sF) G (tmpF bl bc) (by rw [hl]) (runFT bl bc)) H ha rfl
      | false => exact @Go.Am.Yields.callsB _ _ At sF G rfl _ _ _ _ _ _ _ _ (entersS _ _) (Go.Am.Yields.assume (iF := sF) G (tmpF bl bc) (by rw [hl]) (runFF bl bc)) H ha rfl
end Go.Proofs.YtkekmghlhnbdnaaGreatDoor.lawAgentNone
end
