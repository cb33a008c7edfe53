/-
  The abstract machine carries AgentKnown out to its end and finds true. No condition.
-/
import Derived.Test.YtkekmghlhnbdnaaGreatDoorWd
noncomputable section
namespace Go.Proofs.YtkekmghlhnbdnaaGreatDoor.lawAgentKnown
open Go Go.Am
def C : Cfg := { p := AP.of Tryz.prog, gl := 0, orc := orcT [(159, closedOrc tabV), (219, addI64), (297, indexByteS)] }
set_option maxRecDepth 100000
theorem known : lastA C 6 23000 (start 6) = some (.bool true) := by kernel_rfl
end Go.Proofs.YtkekmghlhnbdnaaGreatDoor.lawAgentKnown
end
