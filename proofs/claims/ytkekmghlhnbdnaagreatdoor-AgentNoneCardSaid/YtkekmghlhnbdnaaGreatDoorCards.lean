/-
  DERIVED. GIVEN WITH THE SEED: THE CARDS: each row of YtkekmghlhnbdnaaGreatDoorRows.lean that lists a variable, with what it lists TIED to the program's text (the seventh form; the later family's looks); each row that meets fmt, with fmt's text TOLD by the authors' own Lean function (tested against real Go, not proved from fmt's source: count such statements apart). THE CARD IS WHAT COUNTS. Prove the row's statement (the work); the ties are given (YtkekmghlhnbdnaaGreatDoorTie.lean); close each card by the builder's one call (the guide's Derived/Test/ToyasCard.lean, 'card_holds'). Laid BY PROGRAM, IN A SANDBOX (cutbox-door.mjs). By AI agents, Wed Nov 11 2026. No macro, syntax, notation, axiom, sorry.
-/
import Derived.Test.YtkekmghlhnbdnaaGreatDoorRows
import GoSem.ClaimSeven
namespace Go.Proofs.YtkekmghlhnbdnaaGreatDoor
namespace Rows

/-- THE TIED CARD OF 'satchellaw29.AgentLost'. -/
def agentLostCard : Claim7 := { stood := { row := agentLostRow, standIns := [], harness := (true, "91306304656048b972d42c3ee187ab4449fec852d38e5810c96d36dfc8792c99"), looks := true }, kinds := [], alts := [], laidByText := true, laidKinds := [.data, .data, .data, .sentinel, .sentinel], laidTests := true, laidLooks := .later }
def AgentLostCardSaid : Prop := Claim7.holds Tryz.pinned (.plain (OpenSpec.ofChange agentLostSpec)) agentLostCard

/-- THE TIED CARD OF 'satchellaw29.AgentOnce'. -/
def agentOnceCard : Claim7 := { stood := { row := agentOnceRow, standIns := [], harness := (true, "91306304656048b972d42c3ee187ab4449fec852d38e5810c96d36dfc8792c99"), looks := true }, kinds := [], alts := [], laidByText := true, laidKinds := [.data, .data, .data, .sentinel, .sentinel], laidTests := true, laidLooks := .later }
def AgentOnceCardSaid : Prop := Claim7.holds Tryz.pinned (.plain (OpenSpec.ofChange agentOnceSpec)) agentOnceCard

/-- THE TIED CARD OF 'satchellaw29.AgentNone'. -/
def agentNoneCard : Claim7 := { stood := { row := agentNoneRow, standIns := [], harness := (true, "91306304656048b972d42c3ee187ab4449fec852d38e5810c96d36dfc8792c99"), looks := true }, kinds := [], alts := [], laidByText := true, laidKinds := [.data, .data, .data, .sentinel, .sentinel], laidTests := true, laidLooks := .later }
def AgentNoneCardSaid : Prop := Claim7.holds Tryz.pinned (.plain (OpenSpec.ofChange agentNoneSpec)) agentNoneCard

/-- THE TIED CARD OF 'satchellaw29.AgentKnown'. -/
def agentKnownCard : Claim7 := { stood := { row := agentKnownRow, standIns := [], harness := (true, "91306304656048b972d42c3ee187ab4449fec852d38e5810c96d36dfc8792c99"), looks := true }, kinds := [], alts := [], laidByText := true, laidKinds := [.data, .data, .data, .sentinel, .sentinel], laidTests := true, laidLooks := .later }
def AgentKnownCardSaid : Prop := Claim7.holds Tryz.pinned (.plain (OpenSpec.ofChange agentKnownSpec)) agentKnownCard

/-- THE SECOND FORM's CARD OF 'satchellaw29.AgentLost'. -/
def agentLostUptoCard : Claim7 := { stood := { row := agentLostUptoRow, standIns := [], harness := (true, "91306304656048b972d42c3ee187ab4449fec852d38e5810c96d36dfc8792c99"), looks := true }, kinds := [], alts := [], laidByText := true, laidKinds := [.data, .data, .data, .sentinel, .sentinel], laidTests := true, laidLooks := .later }
def AgentLostUptoCardSaid : Prop := Claim7.holds Tryz.pinned (.plain (OpenSpec.upto agentLostSpec)) agentLostUptoCard

/-- THE SECOND FORM's CARD OF 'satchellaw29.AgentOnce'. -/
def agentOnceUptoCard : Claim7 := { stood := { row := agentOnceUptoRow, standIns := [], harness := (true, "91306304656048b972d42c3ee187ab4449fec852d38e5810c96d36dfc8792c99"), looks := true }, kinds := [], alts := [], laidByText := true, laidKinds := [.data, .data, .data, .sentinel, .sentinel], laidTests := true, laidLooks := .later }
def AgentOnceUptoCardSaid : Prop := Claim7.holds Tryz.pinned (.plain (OpenSpec.upto agentOnceSpec)) agentOnceUptoCard

/-- THE SECOND FORM's CARD OF 'satchellaw29.AgentNone'. -/
def agentNoneUptoCard : Claim7 := { stood := { row := agentNoneUptoRow, standIns := [], harness := (true, "91306304656048b972d42c3ee187ab4449fec852d38e5810c96d36dfc8792c99"), looks := true }, kinds := [], alts := [], laidByText := true, laidKinds := [.data, .data, .data, .sentinel, .sentinel], laidTests := true, laidLooks := .later }
def AgentNoneUptoCardSaid : Prop := Claim7.holds Tryz.pinned (.plain (OpenSpec.upto agentNoneSpec)) agentNoneUptoCard

/-- THE SECOND FORM's CARD OF 'satchellaw29.AgentKnown'. -/
def agentKnownUptoCard : Claim7 := { stood := { row := agentKnownUptoRow, standIns := [], harness := (true, "91306304656048b972d42c3ee187ab4449fec852d38e5810c96d36dfc8792c99"), looks := true }, kinds := [], alts := [], laidByText := true, laidKinds := [.data, .data, .data, .sentinel, .sentinel], laidTests := true, laidLooks := .later }
def AgentKnownUptoCardSaid : Prop := Claim7.holds Tryz.pinned (.plain (OpenSpec.upto agentKnownSpec)) agentKnownUptoCard
end Rows
end Go.Proofs.YtkekmghlhnbdnaaGreatDoor
