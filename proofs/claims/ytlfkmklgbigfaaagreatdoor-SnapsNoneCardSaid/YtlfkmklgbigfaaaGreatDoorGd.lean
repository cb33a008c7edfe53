/-
  What a run may lean on, function by function: sums over a disk's files, sorted names, the digest, what has no Go body. No condition.
-/
import Derived.Test.YtlfkmklgbigfaaaGreatDoorAmF
import Derived.Test.YtlfkmklgbigfaaaGreatDoorProg
import Derived.Test.YtlfkmklgbigfaaaGreatDoorShp
import Derived.Test.YtlfkmklgbigfaaaGreatDoorUs
import Derived.Shelf.SlIter.Nil
import Derived.Shelf.SortM.Plain
import Derived.Shelf.SortM.SortNone
import Derived.Test.YtlfkmklgbigfaaaGreatDoorSha
import Derived.KernelRfl
noncomputable section
namespace Go.Proofs.YtlfkmklgbigfaaaGreatDoor.gd
open Go Go.Am Go.RowKit Go.Maps Go.Sort Go.Shelf Go.Proofs
set_option maxRecDepth 100000
def C0 : Cfg := { p := AP.of Tryz.prog, gl := 0, orc := .e }
def start (f : Nat) : AState := match enterA C0 f [] .normal with | some fr => { fr, cs := [], h := { objs := .e, next := 0 } } | none => { fr := { fn := 0, nt := 0, tmps := .e, todo := [], defers := [], mode := .run, kind := .normal, roundOf := none }, cs := [], h := { objs := .e, next := 0 } }

theorem namesB : (Tryz.prog.funcs.toList.all fun fn => fn.body.isNone || !(fn.name == "runtime.NumGoroutine")) = true := by kernel_rfl
theorem names : ∀ (f : FuncId) (fn : Func), Tryz.prog.funcs[f]? = some fn → fn.body.isSome = true → (fn.name == "runtime.NumGoroutine") = false := by
  intro f fn hf hb
  have h1 := List.all_eq_true.1 namesB fn (by
    have : Tryz.prog.funcs.toList[f]? = some fn := by rw [Array.getElem?_toList]; exact hf
    exact List.mem_of_getElem? this)
  cases hq : fn.body with
  | none => rw [hq] at hb; cases hb
  | some c => rw [hq] at h1; simpa using h1
theorem mixed : Tryz.prog.follows .mixedOrders = true := by kernel_rfl
theorem good0 [Atoms] : Go.Am.Good Tryz.prog C0 := ⟨rfl, names, mixed, (fun f g e => by
  have : (T.e : T Orc).get f = some g := e
  rw [T.get_e] at this; cases this), no_pur rfl⟩
theorem sorts (m : Nat) : AnyZ.SortsIn Tryz.prog Tryz.sortedL_ren Fence.wide m :=
  ⟨fun blk off cap ss W hH hblk hsz => callsIn_wide.2 (AnyM.slices_Sort_string Tryz.sortL blk off cap ss W hH hblk hsz),
   fun p cap W => callsIn_wide.2 (AnyM.slices_Sort_string_none Tryz.sortL p cap W)⟩
set_option maxHeartbeats 1000000 in
theorem sortedLaw : SortedLaw Tryz.prog 67 118 9 := by
  intro w Bm b nn D0 hB hm hown hmax
  have hseq : SeqGives Fence.wide 2 Tryz.prog 118 #[.pointer (some ⟨Bm, 0, none⟩)] encStr (fun ss => ss.Perm (strKeys D0)) (Go.Maps.size D0) w :=
    AnyZ.keys_gives (ρ := Tryz.keysL_ren) { Tryz.keysL with } Fence.wide _ trivial rfl (by omega) Bm b nn D0 w hB hm hown
  have h1 : Go.Maps.size D0 ≤ maxLen := Nat.le_trans hmax (by decide)
  exact callsIn_wide.1 (AnyZ.sorted_in Tryz.sortedL Fence.wide 5 trivial trivial trivial trivial rfl (by omega) (sorts _) (enters_of Tryz.func117 (by kernel_rfl) rfl) 118 #[.pointer (some ⟨Bm, 0, none⟩)] trivial (enters_of Tryz.func118 (by kernel_rfl) rfl) _ _ h1 (by omega) w hseq)
theorem usedLaw : UsedLaw Tryz.prog 137 := by
  intro b bm es clock g w h0 h1 hb hst hv
  refine (used.usedWalk b bm es clock g w h0 h1 hb hst hv).mono ?_
  rintro e w' ⟨h, n, seen, hw⟩
  subst hw
  refine ⟨h, ?_⟩
  exact ⟨rfl, rfl, rfl, by simp, fun k hk => heap_alloc_old (w.drewN n) _ hk⟩
theorem sortedOk [Atoms] : OrcOk Tryz.prog 0 67 (sortedOrc 118 9) :=
  orc_addr Tryz.func67 (by kernel_rfl) (by kernel_rfl) Tryz.underlying9 sortedLaw
theorem usedOk [Atoms] : OrcOk Tryz.prog 0 137 (usedOrc) :=
  used_ok (t := 9) Tryz.func137 (by kernel_rfl) (by kernel_rfl) Tryz.underlying9 usedLaw
theorem nextOk [Atoms] : OrcOk Tryz.prog 0 151 (nextOrc) :=
  sha.nextOk (@good0 at0) good0 kF
theorem ext176 [Atoms] : OrcOk Tryz.prog 0 176 (addI64) :=
  extern_ok Tryz.func176 (by kernel_rfl) (by kernel_rfl) (by kernel_rfl) (e := Extern.Atomic.update (Op.intArith .add) .i64 true) (by kernel_rfl) (fun H ha e => addI64_ok H ha e)
theorem ext122 [Atoms] : OrcOk Tryz.prog 0 122 (loadI64) :=
  extern_ok Tryz.func122 (by kernel_rfl) (by kernel_rfl) (by kernel_rfl) (e := Extern.Atomic.loadT (.int .i64)) (by kernel_rfl) (fun H ha e => loadI64_ok H ha e)
theorem ext244 [Atoms] : OrcOk Tryz.prog 0 244 (indexByteS) :=
  extern_ok Tryz.func244 (by kernel_rfl) (by kernel_rfl) (by kernel_rfl) (e := Extern.BytealgIndexByte.indexByte) (by kernel_rfl) (fun H ha e => indexByteS_ok H ha e)
def base : List (Nat × Orc) := [(67, sortedOrc 118 9), (137, usedOrc), (151, nextOrc), (176, addI64), (122, loadI64), (244, indexByteS)]
theorem base_ok [Atoms] : ∀ q ∈ base, OrcOk Tryz.prog 0 q.1 q.2 := by
  intro q hq
  simp only [base, List.mem_cons, List.not_mem_nil, or_false] at hq
  rcases hq with e | e | e | e | e | e
  · subst e; exact sortedOk
  · subst e; exact usedOk
  · subst e; exact nextOk
  · subst e; exact ext176
  · subst e; exact ext122
  · subst e; exact ext244
theorem more_ok [Atoms] {l : List (Nat × Orc)} {q : Nat × Orc} (hq : OrcOk Tryz.prog 0 q.1 q.2) (h : ∀ p ∈ l, OrcOk Tryz.prog 0 p.1 p.2) : ∀ p ∈ q :: l, OrcOk Tryz.prog 0 p.1 p.2 := by
  intro p hp
  rcases List.mem_cons.1 hp with e | e
  · subst e; exact hq
  · exact h p e
def cfg (l : List (Nat × Orc)) : Cfg := { p := AP.of Tryz.prog, gl := 0, orc := orcT l }
theorem good_of [Atoms] {l : List (Nat × Orc)} (h : ∀ p ∈ l, OrcOk Tryz.prog 0 p.1 p.2) : Go.Am.Good Tryz.prog (cfg l) := ⟨rfl, names, mixed, orcT_ok h, no_pur rfl⟩
end Go.Proofs.YtlfkmklgbigfaaaGreatDoor.gd
end
