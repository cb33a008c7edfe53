/-
  What the arguments of IntakeNone are: numbers and slices. Conditions: that they read as their types say.
-/
import Derived.Test.YtogdiebhajiefaaGreatDoorProg
import Derived.ProofKit
import Derived.Carry
import Derived.Lib.SmallJoins
import Derived.Deep.Slices
import Derived.KernelRfl
namespace Go.Proofs.YtogdiebhajiefaaGreatDoor.args
open Go Go.Joins Go.ChangeShapes Go.WideShapes Go.RowKit Go.Deep
set_option maxRecDepth 100000
section
variable {H : Type} {enc : TypeId × Value → H} {w : World} {base : Nat} {spare : Nat → Bool} {held : Bool}
/-- a slice is a slice -/
theorem slice_any {P : Program} {t e : TypeId} {fuel : Nat} {c : Value} {x : DataW H × List MemPlace} (ht : P.underlying t = some (.slice e)) (h : DataW.trod enc P w base spare held fuel t [c] = some x) : ∃ a l k, c = .slice a l k := by
  rcases open_slice ht h with ⟨h1, _⟩ | ⟨a, len, cap, _, _, _, _, h1, _⟩
  · simp at h1; exact ⟨_, _, _, h1⟩
  · simp at h1; exact ⟨_, _, _, h1⟩
theorem int_any {P : Program} {t : TypeId} {k : IntKind} {fuel : Nat} {c : Value} {x : DataW H × List MemPlace} (ht : P.underlying t = some (.int k)) (h : DataW.trod enc P w base spare held fuel t [c] = some x) : ∃ n, c = .int k n := by
  obtain ⟨n, h1, _⟩ := DataW.trod_int ht h
  simp at h1; exact ⟨n, h1⟩
theorem note_open {r : Reach} {b0 : Nat} {v : Value} {d : DataW H} {p : List MemPlace} (hv : Value.okWide Tryz.prog w r b0 44 v) (h : DataW.Trod enc Tryz.prog w base spare held 44 v d p) :
    ∃ n a1 l1 c1 a2 l2 c2 a3 l3 c3, v = .agg #[.int .i64 n, .slice a1 l1 c1, .slice a2 l2 c2, .slice a3 l3 c3] := by
  obtain ⟨v0, v1, v2, v3, y0, y1, y2, y3, n, rfl, _, _, h0, h1, h2, h3⟩ := open_agg4 Tryz.underlying44 (by kernel_rfl) (by kernel_rfl) hv h
  obtain ⟨m, rfl⟩ := int_any Tryz.underlying3 h0
  obtain ⟨a1, l1, c1, rfl⟩ := slice_any Tryz.underlying41 h1
  obtain ⟨a2, l2, c2, rfl⟩ := slice_any Tryz.underlying42 h2
  obtain ⟨a3, l3, c3, rfl⟩ := slice_any Tryz.underlying35 h3
  exact ⟨m, a1, l1, c1, a2, l2, c2, a3, l3, c3, rfl⟩
theorem limits_open {r : Reach} {b0 : Nat} {v : Value} {d : DataW H} {p : List MemPlace} (hv : Value.okWide Tryz.prog w r b0 53 v) (h : DataW.Trod enc Tryz.prog w base spare held 53 v d p) :
    ∃ q0 q1 q2 q3, v = .agg #[.int .i64 q0, .int .i64 q1, .int .i64 q2, .int .i64 q3] := by
  obtain ⟨cs, rfl, hsz⟩ := okWide_struct Tryz.underlying53 hv
  obtain ⟨c0, c1, c2, c3, rfl⟩ := array4 (hsz.trans (by kernel_rfl : Tryz.prog.cellsOf 53 = 4))
  obtain ⟨fuel, hf⟩ := h
  obtain ⟨xs, n, _, _, _, hl, hfs⟩ := DataW.trod_struct Tryz.underlying53 hf
  have k3 : Tryz.prog.cellsOf 3 = 1 := by kernel_rfl
  have k51 : Tryz.prog.cellsOf 51 = 3 := by kernel_rfl
  have g0 : DataW.trod enc Tryz.prog w base spare held n 3 (([c0, c1, c2, c3].drop 0).take (Tryz.prog.cellsOf 3)) = xs[0]? := hfs 0 _ rfl
  have g1 : DataW.trod enc Tryz.prog w base spare held n 51 (([c0, c1, c2, c3].drop 1).take (Tryz.prog.cellsOf 51)) = xs[1]? := hfs 1 _ rfl
  rw [k3] at g0
  rw [k51] at g1
  have e0 : xs[0]? = some (xs[0]'(by simp at hl; omega)) := List.getElem?_eq_getElem _
  have e1 : xs[1]? = some (xs[1]'(by simp at hl; omega)) := List.getElem?_eq_getElem _
  rw [e0] at g0
  rw [e1] at g1
  obtain ⟨q0, rfl⟩ := int_any Tryz.underlying3 g0
  obtain ⟨ys, n2, _, _, _, hl2, hfs2⟩ := DataW.trod_struct Tryz.underlying51 g1
  have f0 : DataW.trod enc Tryz.prog w base spare held n2 3 (([c1, c2, c3].drop 0).take (Tryz.prog.cellsOf 3)) = ys[0]? := hfs2 0 _ rfl
  have f1 : DataW.trod enc Tryz.prog w base spare held n2 3 (([c1, c2, c3].drop 1).take (Tryz.prog.cellsOf 3)) = ys[1]? := hfs2 1 _ rfl
  have f2 : DataW.trod enc Tryz.prog w base spare held n2 3 (([c1, c2, c3].drop 2).take (Tryz.prog.cellsOf 3)) = ys[2]? := hfs2 2 _ rfl
  rw [k3] at f0 f1 f2
  have e2 : ys[0]? = some (ys[0]'(by simp at hl2; omega)) := List.getElem?_eq_getElem _
  have e3 : ys[1]? = some (ys[1]'(by simp at hl2; omega)) := List.getElem?_eq_getElem _
  have e4 : ys[2]? = some (ys[2]'(by simp at hl2; omega)) := List.getElem?_eq_getElem _
  rw [e2] at f0
  rw [e3] at f1
  rw [e4] at f2
  obtain ⟨q1, rfl⟩ := int_any Tryz.underlying3 f0
  obtain ⟨q2, rfl⟩ := int_any Tryz.underlying3 f1
  obtain ⟨q3, rfl⟩ := int_any Tryz.underlying3 f2
  exact ⟨q0, q1, q2, q3, rfl⟩
end
end Go.Proofs.YtogdiebhajiefaaGreatDoor.args
