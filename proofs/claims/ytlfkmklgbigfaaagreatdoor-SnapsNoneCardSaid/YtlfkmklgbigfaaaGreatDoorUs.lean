/-
  What the files of a disk have together, in whatever order they come: the walk of disk.Used. Conditions: those that the theorem names.
-/
import Derived.Test.YtlfkmklgbigfaaaGreatDoorProg
import Derived.WalkKit
import Derived.Tactics
import Derived.Tactics2
import Derived.LoopTactic
import Derived.Deep.QuietTactic
import Derived.BigQuiet
import Derived.Laws.RangeAny
import Derived.Laws.IdiomRangeMap
import Derived.Maps.RangeRun
namespace Go.Proofs.YtlfkmklgbigfaaaGreatDoor.used
open Go Go.RowKit
open Go.ChangeMaps (setBlock)
theorem wrap0 : wrap64 0 = 0 := by unfold wrap64; omega
/-- what has been seen, summed -/
def seenW (g : MapEntry → Int) : List MapEntry → Array Nat → Int
  | [], _ => 0
  | x :: l, seen => (if seen.contains x.born then g x else 0) + seenW g l seen
theorem seenW_other (g : MapEntry → Int) (seen : Array Nat) (b : Nat) : ∀ (es : List MapEntry), b ∉ es.map (·.born) → seenW g es (seen.push b) = seenW g es seen
  | [], _ => rfl
  | x :: l, h => by
    have hx : (x.born == b) = false := by
      cases hc : x.born == b with
      | false => rfl
      | true => exact absurd (List.mem_cons.2 (Or.inl (beq_iff_eq.1 hc).symm)) h
    simp only [seenW, contains_push, hx, Bool.or_false, seenW_other g seen b l (fun hh => h (List.mem_cons.2 (Or.inr hh)))]
theorem seenW_push (g : MapEntry → Int) (seen : Array Nat) (e : MapEntry) (hs : seen.contains e.born = false) : ∀ (es : List MapEntry), (es.map (·.born)).Nodup → e ∈ es → seenW g es (seen.push e.born) = seenW g es seen + g e
  | x :: l, hn, he => by
    have hn' : x.born ∉ l.map (·.born) ∧ (l.map (·.born)).Nodup := List.nodup_cons.1 hn
    rcases List.mem_cons.1 he with rfl | h
    · simp only [seenW, contains_push, hs, beq_self_eq_true, Bool.or_true, if_true, Bool.false_eq_true, if_false, seenW_other g seen e.born l hn'.1]
      omega
    · have hx : (x.born == e.born) = false := by
        cases hc : x.born == e.born with
        | false => rfl
        | true => exact absurd (List.mem_map.2 ⟨e, h, (beq_iff_eq.1 hc).symm⟩) hn'.1
      simp only [seenW, contains_push, hx, Bool.or_false, seenW_push g seen e hs l hn'.2 h]
      omega
theorem seenW_none (g : MapEntry → Int) : ∀ (es : List MapEntry), seenW g es #[] = 0
  | [] => rfl
  | x :: l => by
    have : (#[] : Array Nat).contains x.born = false := by simp
    simp only [seenW, this, Bool.false_eq_true, if_false, seenW_none g l]
    rfl
theorem seenW_full (g : MapEntry → Int) (seen : Array Nat) : ∀ (es : List MapEntry), (∀ x ∈ es, seen.contains x.born = true) → seenW g es seen = (es.map g).sum
  | [], _ => rfl
  | x :: l, h => by
    simp only [seenW, h x (List.mem_cons.2 (Or.inl rfl)), if_true, List.map_cons, List.sum_cons, seenW_full g seen l (fun y hy => h y (List.mem_cons.2 (Or.inr hy)))]
theorem seenW_all (g : MapEntry → Int) (es : Array MapEntry) (seen : Array Nat) (h : (leftOf es seen).size = 0) : seenW g es.toList seen = (es.toList.map g).sum :=
  seenW_full g seen es.toList (fun x hx => all_seen es seen h x hx)
/-- one step of the range -/
theorem next_law {P : Program} (w : World) (n bm clock : Nat) (seen : Array Nat) (es : Array MapEntry) (hb : w.heap[bm]? = some (.map es clock)) (hst : MapKept.Stamped es clock) :
    ((leftOf es seen).size = 0 ∧ ∀ ty, (Instr.next (.pointer (some ⟨w.heap.size, 0, none⟩)) false ty).run P ((w.drewN n).alloc (.mapIter (some bm) clock seen clock)) = .ok (.tuple #[.bool false]) ((w.drewN n).alloc (.mapIter (some bm) clock seen clock))) ∨
    ∃ e ∈ (leftOf es seen).toList, ∃ n', (∀ ty, (Instr.next (.pointer (some ⟨w.heap.size, 0, none⟩)) false ty).run P ((w.drewN n).alloc (.mapIter (some bm) clock seen clock)) = .ok (.tuple #[.bool true, e.key, e.val]) ((w.drewN n').alloc (.mapIter (some bm) clock (seen.push e.born) clock))) ∧
      (Instr.entry (.pointer (some ⟨w.heap.size, 0, none⟩))).run P ((w.drewN n').alloc (.mapIter (some bm) clock (seen.push e.born) clock)) = .ok (.tuple #[e.key, e.val]) ((w.drewN n').alloc (.mapIter (some bm) clock (seen.push e.born) clock)) := by
  have hlt : bm < w.heap.size := by
    rcases Nat.lt_or_ge bm w.heap.size with h | h
    · exact h
    · simp [Array.getElem?_eq_none h] at hb
  have hr : ∀ m o, ((w.drewN m).alloc o).heap[w.heap.size]? = some o := fun m o => heap_alloc_new (w.drewN m) o
  have hb' : ∀ m o, ((w.drewN m).alloc o).heap[bm]? = some (.map es clock) := fun m o => by
    rw [heap_alloc_old (w.drewN m) o hlt]; exact hb
  have hset : ∀ m o o', setBlock ((w.drewN m).alloc o) w.heap.size o' = (w.drewN m).alloc o' := by
    intro m o o'
    have e : (w.heap.push o).setIfInBounds w.heap.size o' = w.heap.push o' := by
      apply Array.ext_getElem?
      intro i
      rw [Array.getElem?_setIfInBounds, Array.getElem?_push, Array.getElem?_push, Array.size_push]
      by_cases hi : w.heap.size = i
      · subst hi; simp
      · have : ¬ i = w.heap.size := fun h => hi h.symm
        simp [hi, this]
    show ({ ((w.drewN m).alloc o) with heap := (w.heap.push o).setIfInBounds w.heap.size o' } : World) = _
    rw [e]; rfl
  rcases run_next_at (P := P) _ 0 w.heap.size bm clock clock seen es clock (hr n _) (hb' n _) hst.1 (Nat.le_refl _) with ⟨h0, hrun⟩ | ⟨e, he, w1, hal, hrun⟩
  · exact .inl ⟨h0, fun _ => hrun⟩
  · rcases hal with rfl | rfl
    · refine .inr ⟨e, he, n, fun ty => ?_, ?_⟩
      · rw [hset n] at hrun; exact hrun
      · exact run_entry_at _ w.heap.size bm clock seen es clock e (hr n _) (hb' n _) (mem_left he).1 hst.2.1
    · refine .inr ⟨e, he, n + 1, fun ty => ?_, ?_⟩
      · have e2 := hset (n + 1) (.mapIter (some bm) clock seen clock) (.mapIter (some bm) clock (seen.push e.born) clock)
        rw [← e2]; exact hrun
      · exact run_entry_at _ w.heap.size bm clock seen es clock e (hr (n + 1) _) (hb' (n + 1) _) (mem_left he).1 hst.2.1

set_option maxRecDepth 1000000 in
theorem lenWalk (fb fo : Nat) (a0 a1 : Option Addr) (l0 l1 c0 c1 : Nat) (w : World) (h0 : w.cell? ⟨fb, fo, none⟩ = some (.slice a0 l0 c0)) (h1 : w.cell? ⟨fb, fo + 1, none⟩ = some (.slice a1 l1 c1)) :
    Calls Tryz.prog 65 #[.pointer (some ⟨fb, fo, none⟩)] w fun e w' => e = .returned (.int .i64 (wrap64 ((l0 : Int) + l1))) ∧ ∃ n, w' = w.drewN n := by
  go_enter Tryz.func65, Tryz.ntmps65
  go_wp2
  go_quiet (fail)
  go_wp2
  go_ret
  exact ⟨rfl, _, rfl⟩
set_option maxRecDepth 1000000 in
theorem noneWalk (b : Nat) (w : World) (h0 : w.cell? ⟨b, 0, none⟩ = some (.bool true)) :
    Calls Tryz.prog 64 #[.pointer (some ⟨b, 0, none⟩)] w fun e w' => e = .returned (.bool false) ∧ w = w' := by
  go_enter Tryz.func64, Tryz.ntmps64
  go_wp2
  go_ret
  exact ⟨rfl, rfl⟩
set_option maxRecDepth 1000000 in
theorem usedWalk (b bm : Nat) (es : Array MapEntry) (clock : Nat) (g : MapEntry → Int) (w : World) (h0 : w.cell? ⟨b, 0, none⟩ = some (.bool true)) (h1 : w.cell? ⟨b, 1, none⟩ = some (.map (some bm)))
    (hb : w.heap[bm]? = some (.map es clock)) (hst : MapKept.Stamped es clock)
    (hv : ∀ x ∈ es.toList, ∃ fb fo a0 l0 c0 a1 l1 c1, x.val = .pointer (some ⟨fb, fo, none⟩) ∧ w.cell? ⟨fb, fo, none⟩ = some (.slice a0 l0 c0) ∧ w.cell? ⟨fb, fo + 1, none⟩ = some (.slice a1 l1 c1) ∧ g x = (l0 : Int) + l1) :
    Calls Tryz.prog 137 #[.pointer (some ⟨b, 0, none⟩)] w fun e w' => e = .returned (.int .i64 (wrap64 ((es.toList.map g).sum))) ∧ ∃ n seen, w' = (w.drewN n).alloc (.mapIter (some bm) clock seen clock) := by
  have hrg := run_range_map (P := Tryz.prog) w 119 9 118 bm es clock Tryz.underlying119 hb
  go_enter Tryz.func137, Tryz.ntmps137
  go_wp2_with (go_at_call 64; refine (noneWalk b _ h0).mono ?_; rintro e w' ⟨rfl, rfl⟩)
  go_loopw [3] (fun s w' => ∃ n seen, w' = (w.drewN n).alloc (.mapIter (some bm) clock seen clock) ∧ s = .int .i64 (wrap64 (seenW g es.toList seen))) (fun _ w' => (leftOf es (w'.iterSeen w.heap.size)).size)
  case atStart => exact ⟨0, #[], rfl, by rw [seenW_none, wrap0]⟩
  case round =>
    obtain ⟨n, seen, rfl, rfl⟩ := hrel
    rcases next_law (P := Tryz.prog) w n bm clock seen es hb hst with ⟨hd, hnx⟩ | ⟨e, he, n', hnx, hen⟩
    · go_wp2
      go_ret
      rw [seenW_all g es seen hd]
      exact ⟨rfl, n, seen, rfl⟩
    · obtain ⟨fb, fo, a0, l0, c0, a1, l1, c1, hval, k0, k1, hg⟩ := hv e (mem_left he).1
      rw [hval] at hnx hen
      have q0 : ((w.drewN n').alloc (.mapIter (some bm) clock (seen.push e.born) clock)).cell? ⟨fb, fo, none⟩ = some (.slice a0 l0 c0) := (World.cell?_alloc_old _ _ _ (Nat.ne_of_lt (World.block_lt_of_cell? w _ k0))).trans k0
      have q1 : ((w.drewN n').alloc (.mapIter (some bm) clock (seen.push e.born) clock)).cell? ⟨fb, fo + 1, none⟩ = some (.slice a1 l1 c1) := (World.cell?_alloc_old _ _ _ (Nat.ne_of_lt (World.block_lt_of_cell? w _ k1))).trans k1
      go_wp2_with (go_at_call 65; refine (lenWalk fb fo a0 a1 l0 l1 c0 c1 _ q0 q1).mono ?_; rintro e w' ⟨rfl, m, rfl⟩)
      have hdr : ((w.drewN n').alloc (.mapIter (some bm) clock (seen.push e.born) clock)).drewN m = (w.drewN (n' + m)).alloc (.mapIter (some bm) clock (seen.push e.born) clock) := by
        rw [← World.drewN_drewN]; rfl
      refine ⟨⟨n' + m, seen.push e.born, hdr, ?_⟩, ?_⟩
      · rw [seenW_push g seen e (mem_left he).2 es.toList hst.2.1 (mem_left he).1, hg]
        have e3 : ∀ x y : Int, wrap64 (wrap64 x + wrap64 y) = wrap64 (x + y) := fun x y => by
          unfold wrap64
          omega
        rw [e3]
      · have e4 : ∀ k s, ((w.drewN k).alloc (.mapIter (some bm) clock s clock)).iterSeen w.heap.size = s := fun k s => World.iterSeen_alloc (w := w.drewN k) ..
        have e5 : (((w.drewN n').alloc (.mapIter (some bm) clock (seen.push e.born) clock)).drewN m).iterSeen w.heap.size = seen.push e.born := by rw [hdr]; exact e4 (n' + m) _
        rw [e5, e4]
        exact left_shrinks es seen e he
end Go.Proofs.YtlfkmklgbigfaaaGreatDoor.used
