/-
  AgentKnown: for every world that meets the row's conditions the call returns true; the abstract run is a run of the given program, so the call returns true. Conditions: those of the given row alone (the listed variables, tied to the text).
-/
import Derived.Test.YtkekmghlhnbdnaaGreatDoorRAgentKnown
import Derived.Test.YtkekmghlhnbdnaaGreatDoorRows
import Derived.Test.YtkekmghlhnbdnaaGreatDoorCards
import Derived.Test.YtkekmghlhnbdnaaGreatDoorTie
import Derived.ProofKit
import Derived.LaidMore
import Derived.OpenShut
import Derived.Stop.Joined
import Derived.SevenTiedAt
noncomputable section
namespace Go.Proofs.YtkekmghlhnbdnaaGreatDoor.lawAgentKnown
open Go Go.Am Go.ChangeShapes Go.WideShapes Go.ChangeAt Go.WideMaps Go.WideElems Go.RowKit
set_option maxRecDepth 100000

theorem namesB : (Tryz.prog.funcs.toList.all fun fn => fn.body.isNone || !(fn.name == "runtime.NumGoroutine")) = true := by kernel_rfl
theorem names : ∀ (f : FuncId) (fn : Func), Tryz.prog.funcs[f]? = some fn → fn.body.isSome = true → (fn.name == "runtime.NumGoroutine") = false := by
  intro f fn hf hb
  have h1 := List.all_eq_true.1 namesB fn (by
    have : Tryz.prog.funcs.toList[f]? = some fn := by rw [Array.getElem?_toList]; exact hf
    exact List.mem_of_getElem? this)
  cases hq : fn.body with
  | none => rw [hq] at hb; cases hb
  | some c => rw [hq] at h1; simpa using h1
theorem mixed : Tryz.prog.follows .mixedOrders = true := by kernel_rfl
theorem good0 : Go.Am.Good Tryz.prog C0 := ⟨rfl, names, mixed, fun f g e => by
  have : (T.e : T Orc).get f = some g := e
  rw [T.get_e] at this; cases this⟩
theorem wordsOk : OrcOk Tryz.prog 0 159 (closedOrc tabV) :=
  closed_ok (C := C0) good0 Tryz.func159 (by kernel_rfl) (by kernel_rfl) (fr := (start 159).fr) (by kernel_rfl) (Yields.end_ good0 words) tabLit
theorem ext219 : OrcOk Tryz.prog 0 219 (addI64) :=
  extern_ok Tryz.func219 (by kernel_rfl) (by kernel_rfl) (by kernel_rfl) (e := Extern.Atomic.update (Op.intArith .add) .i64 true) (by kernel_rfl) (fun H ha e => addI64_ok H ha e)
theorem ext297 : OrcOk Tryz.prog 0 297 (indexByteS) :=
  extern_ok Tryz.func297 (by kernel_rfl) (by kernel_rfl) (by kernel_rfl) (e := Extern.BytealgIndexByte.indexByte) (by kernel_rfl) (fun H ha e => indexByteS_ok H ha e)
theorem good : Go.Am.Good Tryz.prog C := ⟨rfl, names, mixed, orcT_ok (by
  intro q hq
  simp only [List.mem_cons, List.not_mem_nil, or_false] at hq
  rcases hq with e | e | e
  · subst e; exact wordsOk
  · subst e; exact ext219
  · subst e; exact ext297)⟩

theorem knownRuns (w : World) : Calls Tryz.prog 6 #[] w (fun en w' => en = .returned (.bool true) ∧ Below w.heap.size w w') :=
  Yields.calls (C := C) good (f := 6) (args := []) (fr := (start 6).fr) (by kernel_rfl) (Yields.end_ good known) rfl rfl (laid_none (gl := 0) (Nat.zero_le _))

end Go.Proofs.YtkekmghlhnbdnaaGreatDoor.lawAgentKnown
end
