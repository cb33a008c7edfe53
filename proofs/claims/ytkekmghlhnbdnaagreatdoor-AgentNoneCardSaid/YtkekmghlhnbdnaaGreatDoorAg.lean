/-
  What the arguments of AgentNone are. Conditions: that they read as their types say.
-/
import Derived.Test.YtkekmghlhnbdnaaGreatDoorProg
import Derived.Test.YtkekmghlhnbdnaaGreatDoorAmA
import Derived.ProofKit
import Derived.Carry
import Derived.Lib.SmallJoins
import Derived.Deep.Slices
import Derived.Deep.Fields
import Derived.ChangeSame
import Derived.KernelRfl
namespace Go.Proofs.YtkekmghlhnbdnaaGreatDoor.args
open Go Go.Joins Go.ChangeShapes Go.WideShapes Go.RowKit Go.Deep
set_option maxRecDepth 100000
section
variable {H : Type} {enc : TypeId × Value → H} {w : World} {base : Nat} {spare : Nat → Bool} {held : Bool}
theorem open_slice_fields {P : Program} {t e : TypeId} {fs : Array Field} {fuel : Nat} {cs : List Value} {x : DataW H × List MemPlace} (ht : P.underlying t = some (.slice e)) (he : P.underlying e = some (.struct fs))
    (hone : oneCellFields P fs = true) (hC : P.cellsOf e = fs.size) (h : DataW.trod enc P w base spare held fuel t cs = some x) :
    (cs = [.slice none 0 0] ∧ x = (.nil, [])) ∨
    ∃ (a : Addr) (len cap m : Nat), cs = [.slice (some a) len cap] ∧ len ≤ m ∧ cap ≤ maxLen ∧ len ≤ cap ∧
      ∀ i, i < m → ∃ (ys : List (DataW H × List MemPlace)) (n : Nat), ys.length = fs.size ∧
        ∀ (j : Nat) (f : Field), fs[j]? = some f → ∃ (v : Value) (y : DataW H × List MemPlace), w.cell? (a.add (i * fs.size + j)) = some v ∧ ys[j]? = some y ∧ DataW.trod enc P w base spare held n f.type [v] = some y := by
  rcases open_slice ht h with h0 | ⟨a, len, cap, m, n, D, Pl, hcs, hb, hl, hm, hmm, hx, hi⟩
  · exact .inl h0
  · refine .inr ⟨a, len, cap, m, hcs, by rw [hmm]; split <;> omega, hm, hl, fun i him => ?_⟩
    obtain ⟨cs', hc, ht'⟩ := hi i him
    rw [hC] at hc
    obtain ⟨ys, n', hn', hy, hlen, hyl, hf⟩ := DataW.trod_struct he ht'
    obtain ⟨_, hcl, hat⟩ := World.cells?_some hc
    refine ⟨ys, n', hyl, fun j f hj => ?_⟩
    obtain ⟨ho, hk⟩ := hone_of hone j f hj
    have hjl : j < fs.size := (Array.getElem?_eq_some_iff.1 hj).1
    have hcell := hat j hjl
    have hv : cs'[j]? = some (cs'[j]'(by omega)) := List.getElem?_eq_getElem (by omega)
    have h1 := hf j f hj
    rw [ho, hk] at h1
    have hone' : (cs'.drop j).take 1 = [cs'[j]'(by omega)] := by
      rw [List.drop_eq_getElem_cons (by omega)]
      rfl
    rw [hone'] at h1
    have hys : ys[j]? = some (ys[j]'(by omega)) := List.getElem?_eq_getElem (by omega)
    refine ⟨_, _, ?_, hys, h1.trans hys⟩
    rw [← Go.Deep.add_add, hcell, hv]
theorem slice_any {P : Program} {t e : TypeId} {fuel : Nat} {c : Value} {x : DataW H × List MemPlace} (ht : P.underlying t = some (.slice e)) (h : DataW.trod enc P w base spare held fuel t [c] = some x) : ∃ a l k, c = .slice a l k := by
  rcases open_slice ht h with ⟨h1, _⟩ | ⟨a, len, cap, _, _, _, _, h1, _⟩
  · simp at h1; exact ⟨_, _, _, h1⟩
  · simp at h1; exact ⟨_, _, _, h1⟩
theorem int_any {P : Program} {t : TypeId} {k : IntKind} {fuel : Nat} {c : Value} {x : DataW H × List MemPlace} (ht : P.underlying t = some (.int k)) (h : DataW.trod enc P w base spare held fuel t [c] = some x) : ∃ n, c = .int k n := by
  obtain ⟨n, h1, _⟩ := DataW.trod_int ht h
  simp at h1; exact ⟨n, h1⟩
theorem string_any {P : Program} {t : TypeId} {fuel : Nat} {c : Value} {x : DataW H × List MemPlace} (ht : P.underlying t = some .string) (h : DataW.trod enc P w base spare held fuel t [c] = some x) : ∃ s, c = .string s := by
  obtain ⟨n, h1, _⟩ := DataW.trod_string ht h
  simp at h1; exact ⟨n, h1⟩
/-- what a tree's cells are -/
def TreeIn (w : World) (ta : Option Addr) (tl tc : Nat) : Prop :=
  (ta = none ∧ tl = 0 ∧ tc = 0) ∨ (∃ a, ta = some a ∧ tl ≤ maxLen ∧ ∀ i, i < tl → ∃ x z da dl dc, w.cell? (a.add (i * 5)) = some (.string x) ∧ w.cell? ⟨(a.add (i * 5)).block, (a.add (i * 5)).off + 3, none⟩ = some (.slice da dl dc) ∧ w.cell? ⟨(a.add (i * 5)).block, (a.add (i * 5)).off + 4, none⟩ = some (.string z))
theorem tree_open {fuel : Nat} {c : Value} {x : DataW H × List MemPlace} (h : DataW.trod enc Tryz.prog w base spare held fuel 22 [c] = some x) : ∃ ta tl tc, c = .slice ta tl tc ∧ TreeIn w ta tl tc := by
  rcases open_slice_fields Tryz.underlying22 Tryz.underlying71 (by kernel_rfl) (by kernel_rfl) h with ⟨h1, _⟩ | ⟨a, len, cap, m, h1, hlm, hcap, hlc, hi⟩
  · simp at h1; exact ⟨none, 0, 0, h1, .inl ⟨rfl, rfl, rfl⟩⟩
  · simp at h1
    refine ⟨some a, len, cap, h1, .inr ⟨a, rfl, by omega, fun i hil => ?_⟩⟩
    obtain ⟨ys, n, _, hf⟩ := hi i (by omega)
    obtain ⟨v0, y0, c0, _, t0⟩ := hf 0 _ rfl
    obtain ⟨v3, y3, c3, _, t3⟩ := hf 3 _ rfl
    obtain ⟨v4, y4, c4, _, t4⟩ := hf 4 _ rfl
    obtain ⟨s0, rfl⟩ := string_any Tryz.underlying9 t0
    obtain ⟨a3, l3, k3, rfl⟩ := slice_any Tryz.underlying53 t3
    obtain ⟨s4, rfl⟩ := string_any Tryz.underlying9 t4
    refine ⟨s0, s4, a3, l3, k3, c0, ?_, ?_⟩
    · have c3' : w.cell? (a.add (i * 5 + 3)) = some (.slice a3 l3 k3) := c3
      rw [← Go.Deep.add_add] at c3'; exact c3'
    · have c4' : w.cell? (a.add (i * 5 + 4)) = some (.string s4) := c4
      rw [← Go.Deep.add_add] at c4'; exact c4'
theorem ask_open {r : Reach} {b0 : Nat} {v : Value} {d : DataW H} {p : List MemPlace} (hv : Value.okWide Tryz.prog w r b0 24 v) (h : DataW.Trod enc Tryz.prog w base spare held 24 v d p) :
    ∃ k n tk ta tl tc, v = .agg #[.int .i64 k, .int .i64 n, .int .i64 tk, .slice ta tl tc] ∧ TreeIn w ta tl tc := by
  obtain ⟨v0, v1, v2, v3, y0, y1, y2, y3, n, rfl, _, _, h0, h1, h2, h3⟩ := open_agg4 Tryz.underlying24 (by kernel_rfl) (by kernel_rfl) hv h
  obtain ⟨k, rfl⟩ := int_any Tryz.underlying3 h0
  obtain ⟨m, rfl⟩ := int_any Tryz.underlying3 h1
  obtain ⟨tk, rfl⟩ := int_any Tryz.underlying3 h2
  obtain ⟨ta, tl, tc, rfl, ht⟩ := tree_open h3
  exact ⟨k, m, tk, ta, tl, tc, rfl, ht⟩
theorem bytes_open {r : Reach} {b0 : Nat} {v : Value} {d : DataW H} {p : List MemPlace} (hv : Value.okWide Tryz.prog w r b0 53 v) (h : DataW.Trod enc Tryz.prog w base spare held 53 v d p) :
    ∃ ba bl bc, v = .slice ba bl bc ∧ ((ba = none ∧ bl = 0 ∧ bc = 0) ∨ (∃ a, ba = some a ∧ a.spot = none ∧ bc < Go.Am.capInf ∧ ∃ o, w.heap[a.block]? = some o)) := by
  obtain ⟨ba, bl, bc, rfl⟩ := okWide_slice Tryz.underlying53 hv
  obtain ⟨fuel, hf⟩ := h
  rcases open_slice Tryz.underlying53 hf with ⟨h1, _⟩ | ⟨a, len, cap, _, _, _, _, h1, _, _, hcap, _⟩
  · simp [Value.cells] at h1
    obtain ⟨e1, e2, e3⟩ := h1
    exact ⟨_, _, _, rfl, .inl ⟨e1, e2, e3⟩⟩
  · simp [Value.cells] at h1
    obtain ⟨e1, e2, e3⟩ := h1
    subst e1; subst e2; subst e3
    refine ⟨_, _, _, rfl, .inr ⟨a, rfl, ?_⟩⟩
    simp only [Value.okWide, Tryz.underlying53, Cell.okWide, Cell.ok] at hv
    obtain ⟨_, _, _, hsp, row, cells, hsh, _⟩ := hv
    refine ⟨hsp, ?_, ?_⟩
    · unfold Go.Am.capInf; unfold maxLen at hcap; omega
    · unfold World.shape? at hsh
      cases hq : w.heap[a.block]? with
      | none => rw [hq] at hsh; cases hsh
      | some o => exact ⟨o, rfl⟩
theorem int_open {r : Reach} {b0 : Nat} {v : Value} {d : DataW H} {p : List MemPlace} (hv : Value.okWide Tryz.prog w r b0 3 v) (h : DataW.Trod enc Tryz.prog w base spare held 3 v d p) : ∃ n, v = .int .i64 n := by
  obtain ⟨n, rfl, _⟩ := open_int Tryz.underlying3 hv h
  exact ⟨n, rfl⟩
end
end Go.Proofs.YtkekmghlhnbdnaaGreatDoor.args
