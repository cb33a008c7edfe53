/-
  What the argument of SnapsNone is. Conditions: that it reads as its type says.
-/
import Derived.Test.YtlfkmklgbigfaaaGreatDoorProg
import Derived.ProofKit
import Derived.Carry
import Derived.Lib.SmallJoins
import Derived.Deep.Slices
import Derived.Deep.Fields
import Derived.ChangeSame
import Derived.KernelRfl
namespace Go.Proofs.YtlfkmklgbigfaaaGreatDoor.args
open Go Go.Joins Go.ChangeShapes Go.WideShapes Go.RowKit Go.Deep
set_option maxRecDepth 100000
section
variable {H : Type} {enc : TypeId × Value → H} {w : World} {base : Nat} {spare : Nat → Bool} {held : Bool}
theorem open_slice_fields {P : Program} {t e : TypeId} {fs : Array Field} {fuel : Nat} {cs : List Value} {x : DataW H × List MemPlace} (ht : P.underlying t = some (.slice e)) (he : P.underlying e = some (.struct fs))
    (hone : oneCellFields P fs = true) (hC : P.cellsOf e = fs.size) (h : DataW.trod enc P w base spare held fuel t cs = some x) :
    (cs = [.slice none 0 0] ∧ x = (.nil, [])) ∨
    ∃ (a : Addr) (len cap m : Nat), cs = [.slice (some a) len cap] ∧ len ≤ m ∧ cap ≤ maxLen ∧ len ≤ cap ∧
      ∀ i, i < m → ∃ (ys : List (DataW H × List MemPlace)) (n : Nat), ys.length = fs.size ∧
        ∀ (j : Nat) (f : Field), fs[j]? = some f → ∃ (v : Value) (y : DataW H × List MemPlace), w.cell? (a.add (i * fs.size + j)) = some v ∧ ys[j]? = some y ∧ DataW.trod enc P w base spare held n f.type [v] = some y := by
  rcases open_slice ht h with h0 | ⟨a, len, cap, m, n, D, Pl, hcs, hb, hl, hm, hmm, hx, hi⟩
  · exact .inl h0
  · refine .inr ⟨a, len, cap, m, hcs, by rw [hmm]; split <;> omega, hm, hl, fun i him => ?_⟩
    obtain ⟨cs', hc, ht'⟩ := hi i him
    rw [hC] at hc
    obtain ⟨ys, n', hn', hy, hlen, hyl, hf⟩ := DataW.trod_struct he ht'
    obtain ⟨_, hcl, hat⟩ := World.cells?_some hc
    refine ⟨ys, n', hyl, fun j f hj => ?_⟩
    obtain ⟨ho, hk⟩ := hone_of hone j f hj
    have hjl : j < fs.size := (Array.getElem?_eq_some_iff.1 hj).1
    have hcell := hat j hjl
    have hv : cs'[j]? = some (cs'[j]'(by omega)) := List.getElem?_eq_getElem (by omega)
    have h1 := hf j f hj
    rw [ho, hk] at h1
    have hone' : (cs'.drop j).take 1 = [cs'[j]'(by omega)] := by
      rw [List.drop_eq_getElem_cons (by omega)]
      rfl
    rw [hone'] at h1
    have hys : ys[j]? = some (ys[j]'(by omega)) := List.getElem?_eq_getElem (by omega)
    refine ⟨_, _, ?_, hys, h1.trans hys⟩
    rw [← Go.Deep.add_add, hcell, hv]
theorem slice_any {P : Program} {t e : TypeId} {fuel : Nat} {c : Value} {x : DataW H × List MemPlace} (ht : P.underlying t = some (.slice e)) (h : DataW.trod enc P w base spare held fuel t [c] = some x) : ∃ a l k, c = .slice a l k := by
  rcases open_slice ht h with ⟨h1, _⟩ | ⟨a, len, cap, _, _, _, _, h1, _⟩
  · simp at h1; exact ⟨_, _, _, h1⟩
  · simp at h1; exact ⟨_, _, _, h1⟩
theorem int_any {P : Program} {t : TypeId} {k : IntKind} {fuel : Nat} {c : Value} {x : DataW H × List MemPlace} (ht : P.underlying t = some (.int k)) (h : DataW.trod enc P w base spare held fuel t [c] = some x) : ∃ n, c = .int k n := by
  obtain ⟨n, h1, _⟩ := DataW.trod_int ht h
  simp at h1; exact ⟨n, h1⟩
theorem string_any {P : Program} {t : TypeId} {fuel : Nat} {c : Value} {x : DataW H × List MemPlace} (ht : P.underlying t = some .string) (h : DataW.trod enc P w base spare held fuel t [c] = some x) : ∃ s, c = .string s := by
  obtain ⟨n, h1, _⟩ := DataW.trod_string ht h
  simp at h1; exact ⟨n, h1⟩
/-- a field of a struct -/
theorem field_at {P : Program} {t : TypeId} {fs : Array Field} {fuel : Nat} {cs : List Value} {x : DataW H × List MemPlace} (ht : P.underlying t = some (.struct fs)) (h : DataW.trod enc P w base spare held fuel t cs = some x) :
    ∃ n, ∀ (i : Nat) (f : Field), fs[i]? = some f → ∃ y, DataW.trod enc P w base spare held n f.type ((cs.drop f.offset).take (P.cellsOf f.type)) = some y := by
  obtain ⟨xs, n, _, _, _, hl, hf⟩ := DataW.trod_struct ht h
  refine ⟨n, fun i f hi => ?_⟩
  have hlt : i < xs.length := by
    rw [hl]; exact (Array.getElem?_eq_some_iff.1 hi).1
  exact ⟨_, (hf i f hi).trans (List.getElem?_eq_getElem hlt)⟩
/-- what the cells of items are -/
def ItemsIn (w : World) (ta : Option Addr) (tl tc : Nat) : Prop :=
  (ta = none ∧ tl = 0 ∧ tc = 0) ∨ (∃ a, ta = some a ∧ tl ≤ maxLen ∧ ∀ i, i < tl → ∃ x z da dl dc, w.cell? (a.add (i * 6)) = some (.string x) ∧ w.cell? ⟨(a.add (i * 6)).block, (a.add (i * 6)).off + 4, none⟩ = some (.string z) ∧ w.cell? ⟨(a.add (i * 6)).block, (a.add (i * 6)).off + 5, none⟩ = some (.slice da dl dc))
theorem items_open {fuel : Nat} {c : Value} {x : DataW H × List MemPlace} (h : DataW.trod enc Tryz.prog w base spare held fuel 29 [c] = some x) : ∃ ta tl tc, c = .slice ta tl tc ∧ ItemsIn w ta tl tc := by
  rcases open_slice_fields Tryz.underlying29 Tryz.underlying99 (by kernel_rfl) (by kernel_rfl) h with ⟨h1, _⟩ | ⟨a, len, cap, m, h1, hlm, hcap, hlc, hi⟩
  · simp at h1; exact ⟨none, 0, 0, h1, .inl ⟨rfl, rfl, rfl⟩⟩
  · simp at h1
    refine ⟨some a, len, cap, h1, .inr ⟨a, rfl, by omega, fun i hil => ?_⟩⟩
    obtain ⟨ys, n, _, hf⟩ := hi i (by omega)
    obtain ⟨v0, y0, c0, _, t0⟩ := hf 0 _ rfl
    obtain ⟨v4, y4, c4, _, t4⟩ := hf 4 _ rfl
    obtain ⟨v5, y5, c5, _, t5⟩ := hf 5 _ rfl
    obtain ⟨s0, rfl⟩ := string_any Tryz.underlying9 t0
    obtain ⟨s4, rfl⟩ := string_any Tryz.underlying9 t4
    obtain ⟨a5, l5, k5, rfl⟩ := slice_any Tryz.underlying97 t5
    refine ⟨s0, s4, a5, l5, k5, c0, ?_, ?_⟩
    · have c4' : w.cell? (a.add (i * 6 + 4)) = some (.string s4) := c4
      rw [← Go.Deep.add_add] at c4'; exact c4'
    · have c5' : w.cell? (a.add (i * 6 + 5)) = some (.slice a5 l5 k5) := c5
      rw [← Go.Deep.add_add] at c5'; exact c5'
theorem array13 {α : Type} {cs : Array α} (h : cs.size = 13) : ∃ c0 c1 c2 c3 c4 c5 c6 c7 c8 c9 c10 c11 c12, cs = #[c0, c1, c2, c3, c4, c5, c6, c7, c8, c9, c10, c11, c12] := by
  obtain ⟨l⟩ := cs
  match l, h with
  | [c0, c1, c2, c3, c4, c5, c6, c7, c8, c9, c10, c11, c12], _ => exact ⟨c0, c1, c2, c3, c4, c5, c6, c7, c8, c9, c10, c11, c12, rfl⟩
theorem act_open {r : Reach} {b0 : Nat} {v : Value} {d : DataW H} {p : List MemPlace} (hv : Value.okWide Tryz.prog w r b0 76 v) (h : DataW.Trod enc Tryz.prog w base spare held 76 v d p) :
    ∃ i0 i1 i2 i3 i4 i5 ta tl tc i7 i8 i9 a1 l1 c1 s a3 l3 c3, v = .agg #[.int .i64 i0, .int .i64 i1, .int .i64 i2, .int .i64 i3, .int .i64 i4, .int .i64 i5, .slice ta tl tc, .int .i64 i7, .int .i64 i8, .int .i64 i9, .slice a1 l1 c1, .string s, .slice a3 l3 c3] ∧ ItemsIn w ta tl tc := by
  obtain ⟨cs, rfl, hsz⟩ := okWide_struct Tryz.underlying76 hv
  obtain ⟨c0, c1, c2, c3, c4, c5, c6, c7, c8, c9, c10, c11, c12, rfl⟩ := array13 (hsz.trans (by kernel_rfl : Tryz.prog.cellsOf 76 = 13))
  obtain ⟨fuel, hf⟩ := h
  have k3 : Tryz.prog.cellsOf 3 = 1 := by kernel_rfl
  have k31 : Tryz.prog.cellsOf 31 = 5 := by kernel_rfl
  have k74 : Tryz.prog.cellsOf 74 = 3 := by kernel_rfl
  have k63 : Tryz.prog.cellsOf 63 = 1 := by kernel_rfl
  have k9 : Tryz.prog.cellsOf 9 = 1 := by kernel_rfl
  have k54 : Tryz.prog.cellsOf 54 = 1 := by kernel_rfl
  have k29 : Tryz.prog.cellsOf 29 = 1 := by kernel_rfl
  obtain ⟨n, hA⟩ := field_at Tryz.underlying76 hf
  obtain ⟨y0, g0⟩ : ∃ y, DataW.trod enc Tryz.prog w base spare held n 3 (([c0, c1, c2, c3, c4, c5, c6, c7, c8, c9, c10, c11, c12].drop 0).take (Tryz.prog.cellsOf 3)) = some y := hA 0 _ rfl
  obtain ⟨y1, g1⟩ : ∃ y, DataW.trod enc Tryz.prog w base spare held n 3 (([c0, c1, c2, c3, c4, c5, c6, c7, c8, c9, c10, c11, c12].drop 1).take (Tryz.prog.cellsOf 3)) = some y := hA 1 _ rfl
  obtain ⟨y2, g2⟩ : ∃ y, DataW.trod enc Tryz.prog w base spare held n 31 (([c0, c1, c2, c3, c4, c5, c6, c7, c8, c9, c10, c11, c12].drop 2).take (Tryz.prog.cellsOf 31)) = some y := hA 2 _ rfl
  obtain ⟨y3, g3⟩ : ∃ y, DataW.trod enc Tryz.prog w base spare held n 74 (([c0, c1, c2, c3, c4, c5, c6, c7, c8, c9, c10, c11, c12].drop 7).take (Tryz.prog.cellsOf 74)) = some y := hA 3 _ rfl
  obtain ⟨y4, g4⟩ : ∃ y, DataW.trod enc Tryz.prog w base spare held n 63 (([c0, c1, c2, c3, c4, c5, c6, c7, c8, c9, c10, c11, c12].drop 10).take (Tryz.prog.cellsOf 63)) = some y := hA 4 _ rfl
  obtain ⟨y5, g5⟩ : ∃ y, DataW.trod enc Tryz.prog w base spare held n 9 (([c0, c1, c2, c3, c4, c5, c6, c7, c8, c9, c10, c11, c12].drop 11).take (Tryz.prog.cellsOf 9)) = some y := hA 5 _ rfl
  obtain ⟨y6, g6⟩ : ∃ y, DataW.trod enc Tryz.prog w base spare held n 54 (([c0, c1, c2, c3, c4, c5, c6, c7, c8, c9, c10, c11, c12].drop 12).take (Tryz.prog.cellsOf 54)) = some y := hA 6 _ rfl
  rw [k3] at g0 g1
  rw [k31] at g2
  rw [k74] at g3
  rw [k63] at g4
  rw [k9] at g5
  rw [k54] at g6
  obtain ⟨i0, rfl⟩ := int_any Tryz.underlying3 g0
  obtain ⟨i1, rfl⟩ := int_any Tryz.underlying3 g1
  obtain ⟨a1, l1, k1, rfl⟩ := slice_any Tryz.underlying63 g4
  obtain ⟨s, rfl⟩ := string_any Tryz.underlying9 g5
  obtain ⟨a3, l3, k3', rfl⟩ := slice_any Tryz.underlying54 g6
  obtain ⟨n2, hB⟩ := field_at Tryz.underlying31 g2
  obtain ⟨z0, f0⟩ : ∃ y, DataW.trod enc Tryz.prog w base spare held n2 3 (([c2, c3, c4, c5, c6].drop 0).take (Tryz.prog.cellsOf 3)) = some y := hB 0 _ rfl
  obtain ⟨z1, f1⟩ : ∃ y, DataW.trod enc Tryz.prog w base spare held n2 3 (([c2, c3, c4, c5, c6].drop 1).take (Tryz.prog.cellsOf 3)) = some y := hB 1 _ rfl
  obtain ⟨z2, f2⟩ : ∃ y, DataW.trod enc Tryz.prog w base spare held n2 3 (([c2, c3, c4, c5, c6].drop 2).take (Tryz.prog.cellsOf 3)) = some y := hB 2 _ rfl
  obtain ⟨z3, f3⟩ : ∃ y, DataW.trod enc Tryz.prog w base spare held n2 3 (([c2, c3, c4, c5, c6].drop 3).take (Tryz.prog.cellsOf 3)) = some y := hB 3 _ rfl
  obtain ⟨z4, f4⟩ : ∃ y, DataW.trod enc Tryz.prog w base spare held n2 29 (([c2, c3, c4, c5, c6].drop 4).take (Tryz.prog.cellsOf 29)) = some y := hB 4 _ rfl
  rw [k3] at f0 f1 f2 f3
  rw [k29] at f4
  obtain ⟨i2, rfl⟩ := int_any Tryz.underlying3 f0
  obtain ⟨i3, rfl⟩ := int_any Tryz.underlying3 f1
  obtain ⟨i4, rfl⟩ := int_any Tryz.underlying3 f2
  obtain ⟨i5, rfl⟩ := int_any Tryz.underlying3 f3
  obtain ⟨ta, tl, tc, rfl, ht⟩ := items_open f4
  obtain ⟨n3, hC⟩ := field_at Tryz.underlying74 g3
  obtain ⟨u0, e0⟩ : ∃ y, DataW.trod enc Tryz.prog w base spare held n3 3 (([c7, c8, c9].drop 0).take (Tryz.prog.cellsOf 3)) = some y := hC 0 _ rfl
  obtain ⟨u1, e1⟩ : ∃ y, DataW.trod enc Tryz.prog w base spare held n3 3 (([c7, c8, c9].drop 1).take (Tryz.prog.cellsOf 3)) = some y := hC 1 _ rfl
  obtain ⟨u2, e2⟩ : ∃ y, DataW.trod enc Tryz.prog w base spare held n3 3 (([c7, c8, c9].drop 2).take (Tryz.prog.cellsOf 3)) = some y := hC 2 _ rfl
  rw [k3] at e0 e1 e2
  obtain ⟨i7, rfl⟩ := int_any Tryz.underlying3 e0
  obtain ⟨i8, rfl⟩ := int_any Tryz.underlying3 e1
  obtain ⟨i9, rfl⟩ := int_any Tryz.underlying3 e2
  exact ⟨i0, i1, i2, i3, i4, i5, ta, tl, tc, i7, i8, i9, a1, l1, k1, s, a3, l3, k3', rfl, ht⟩
end
end Go.Proofs.YtlfkmklgbigfaaaGreatDoor.args
