/-
  The table that guard.words makes is what the abstract machine finds when it carries the function out. No condition.
-/
import Derived.Test.YtkekmghlhnbdnaaGreatDoorAmF
import Derived.Test.YtkekmghlhnbdnaaGreatDoorProg
import Derived.KernelRfl
noncomputable section
namespace Go.Proofs.YtkekmghlhnbdnaaGreatDoor.wd
open Go Go.Am
def C0 : Cfg := { p := AP.of Tryz.prog, gl := 0, orc := .e }
def start (f : Nat) : AState := match enterA C0 f [] .normal with | some fr => { fr, cs := [], h := { objs := .e, next := 0 } } | none => { fr := { fn := 0, nt := 0, tmps := .e, todo := [], defers := [], mode := .run, kind := .normal, roundOf := none }, cs := [], h := { objs := .e, next := 0 } }
def crc1 : Nat → Nat → Nat
  | 0, n => n
  | k + 1, n => ci (Nat.beq (Nat.mod n 2) 1) (crc1 k (Nat.xor (Nat.div n 2) 3988292384)) (crc1 k (Nat.div n 2))
def tabL : Nat → List Nat → List Nat
  | 0, l => l
  | k + 1, l => tabL k (crc1 8 k :: l)
def valL : List Nat → List Value
  | [] => []
  | a :: l => Forc.fN a fun a => .int .u32 (.ofNat a) :: valL l
def tabV : Value := .agg ⟨valL (tabL 256 [])⟩
set_option maxRecDepth 100000
theorem words : lastA C0 159 40000 (start 159) = some tabV := by kernel_rfl
theorem tabLit : lit tabV = true := by kernel_rfl
end Go.Proofs.YtkekmghlhnbdnaaGreatDoor.wd
end
