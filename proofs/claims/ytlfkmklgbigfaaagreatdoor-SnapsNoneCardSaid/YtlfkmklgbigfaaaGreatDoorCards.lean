/-
  DERIVED. GIVEN WITH THE SEED: THE CARDS: each row of YtlfkmklgbigfaaaGreatDoorRows.lean that lists a variable, with what it lists TIED to the program's text (the seventh form; the later family's looks); each row that meets fmt, with fmt's text TOLD by the authors' own Lean function (tested against real Go, not proved from fmt's source: count such statements apart). THE CARD IS WHAT COUNTS. Prove the row's statement (the work); the ties are given (YtlfkmklgbigfaaaGreatDoorTie.lean); close each card by the builder's one call (the guide's Derived/Test/ToyasCard.lean, 'card_holds'). Laid BY PROGRAM, IN A SANDBOX (cutbox-door.mjs). By AI agents, Wed Nov 11 2026. No macro, syntax, notation, axiom, sorry.
-/
import Derived.Test.YtlfkmklgbigfaaaGreatDoorRows
import GoSem.ClaimSeven
namespace Go.Proofs.YtlfkmklgbigfaaaGreatDoor
namespace Rows

/-- THE TIED CARD OF 'satchellaw23.SnapsBack'. -/
def snapsBackCard : Claim7 := { stood := { row := snapsBackRow, standIns := [], harness := (true, "5e3b1da7618e92ae6491f9f39ef9a86d17d3d05a4d59b1f9ea940ba69c51138b"), looks := true }, kinds := [], alts := [], laidByText := true, laidKinds := [.data, .data, .data, .sentinel, .sentinel], laidTests := true, laidLooks := .later }
def SnapsBackCardSaid : Prop := Claim7.holds Tryz.pinned (.plain (OpenSpec.ofChange snapsBackSpec)) snapsBackCard

/-- THE TIED CARD OF 'satchellaw23.SnapsFlip'. -/
def snapsFlipCard : Claim7 := { stood := { row := snapsFlipRow, standIns := [], harness := (true, "5e3b1da7618e92ae6491f9f39ef9a86d17d3d05a4d59b1f9ea940ba69c51138b"), looks := true }, kinds := [], alts := [], laidByText := true, laidKinds := [.data, .data, .data, .sentinel, .sentinel], laidTests := true, laidLooks := .later }
def SnapsFlipCardSaid : Prop := Claim7.holds Tryz.pinned (.plain (OpenSpec.ofChange snapsFlipSpec)) snapsFlipCard

/-- THE TIED CARD OF 'satchellaw23.SnapsKnown'. -/
def snapsKnownCard : Claim7 := { stood := { row := snapsKnownRow, standIns := [], harness := (true, "5e3b1da7618e92ae6491f9f39ef9a86d17d3d05a4d59b1f9ea940ba69c51138b"), looks := true }, kinds := [], alts := [], laidByText := true, laidKinds := [.data, .data, .data, .sentinel, .sentinel], laidTests := true, laidLooks := .later }
def SnapsKnownCardSaid : Prop := Claim7.holds Tryz.pinned (.plain (OpenSpec.ofChange snapsKnownSpec)) snapsKnownCard

/-- THE TIED CARD OF 'satchellaw23.SnapsNone'. -/
def snapsNoneCard : Claim7 := { stood := { row := snapsNoneRow, standIns := [], harness := (true, "5e3b1da7618e92ae6491f9f39ef9a86d17d3d05a4d59b1f9ea940ba69c51138b"), looks := true }, kinds := [], alts := [], laidByText := true, laidKinds := [.data, .data, .data, .sentinel, .sentinel], laidTests := true, laidLooks := .later }
def SnapsNoneCardSaid : Prop := Claim7.holds Tryz.pinned (.plain (OpenSpec.ofChange snapsNoneSpec)) snapsNoneCard

/-- THE TIED CARD OF 'satchellaw23.SnapsApart'. -/
def snapsApartCard : Claim7 := { stood := { row := snapsApartRow, standIns := [], harness := (true, "5e3b1da7618e92ae6491f9f39ef9a86d17d3d05a4d59b1f9ea940ba69c51138b"), looks := true }, kinds := [], alts := [], laidByText := true, laidKinds := [.data, .data, .data, .sentinel, .sentinel], laidTests := true, laidLooks := .later }
def SnapsApartCardSaid : Prop := Claim7.holds Tryz.pinned (.plain (OpenSpec.ofChange snapsApartSpec)) snapsApartCard

/-- THE TIED CARD OF 'satchellaw23.SnapsCrash'. -/
def snapsCrashCard : Claim7 := { stood := { row := snapsCrashRow, standIns := [], harness := (true, "5e3b1da7618e92ae6491f9f39ef9a86d17d3d05a4d59b1f9ea940ba69c51138b"), looks := true }, kinds := [], alts := [], laidByText := true, laidKinds := [.data, .data, .data, .sentinel, .sentinel], laidTests := true, laidLooks := .later }
def SnapsCrashCardSaid : Prop := Claim7.holds Tryz.pinned (.plain (OpenSpec.ofChange snapsCrashSpec)) snapsCrashCard

/-- THE SECOND FORM's CARD OF 'satchellaw23.SnapsBack'. -/
def snapsBackUptoCard : Claim7 := { stood := { row := snapsBackUptoRow, standIns := [], harness := (true, "5e3b1da7618e92ae6491f9f39ef9a86d17d3d05a4d59b1f9ea940ba69c51138b"), looks := true }, kinds := [], alts := [], laidByText := true, laidKinds := [.data, .data, .data, .sentinel, .sentinel], laidTests := true, laidLooks := .later }
def SnapsBackUptoCardSaid : Prop := Claim7.holds Tryz.pinned (.plain (OpenSpec.upto snapsBackSpec)) snapsBackUptoCard

/-- THE SECOND FORM's CARD OF 'satchellaw23.SnapsFlip'. -/
def snapsFlipUptoCard : Claim7 := { stood := { row := snapsFlipUptoRow, standIns := [], harness := (true, "5e3b1da7618e92ae6491f9f39ef9a86d17d3d05a4d59b1f9ea940ba69c51138b"), looks := true }, kinds := [], alts := [], laidByText := true, laidKinds := [.data, .data, .data, .sentinel, .sentinel], laidTests := true, laidLooks := .later }
def SnapsFlipUptoCardSaid : Prop := Claim7.holds Tryz.pinned (.plain (OpenSpec.upto snapsFlipSpec)) snapsFlipUptoCard

/-- THE SECOND FORM's CARD OF 'satchellaw23.SnapsKnown'. -/
def snapsKnownUptoCard : Claim7 := { stood := { row := snapsKnownUptoRow, standIns := [], harness := (true, "5e3b1da7618e92ae6491f9f39ef9a86d17d3d05a4d59b1f9ea940ba69c51138b"), looks := true }, kinds := [], alts := [], laidByText := true, laidKinds := [.data, .data, .data, .sentinel, .sentinel], laidTests := true, laidLooks := .later }
def SnapsKnownUptoCardSaid : Prop := Claim7.holds Tryz.pinned (.plain (OpenSpec.upto snapsKnownSpec)) snapsKnownUptoCard

/-- THE SECOND FORM's CARD OF 'satchellaw23.SnapsNone'. -/
def snapsNoneUptoCard : Claim7 := { stood := { row := snapsNoneUptoRow, standIns := [], harness := (true, "5e3b1da7618e92ae6491f9f39ef9a86d17d3d05a4d59b1f9ea940ba69c51138b"), looks := true }, kinds := [], alts := [], laidByText := true, laidKinds := [.data, .data, .data, .sentinel, .sentinel], laidTests := true, laidLooks := .later }
def SnapsNoneUptoCardSaid : Prop := Claim7.holds Tryz.pinned (.plain (OpenSpec.upto snapsNoneSpec)) snapsNoneUptoCard

/-- THE SECOND FORM's CARD OF 'satchellaw23.SnapsApart'. -/
def snapsApartUptoCard : Claim7 := { stood := { row := snapsApartUptoRow, standIns := [], harness := (true, "5e3b1da7618e92ae6491f9f39ef9a86d17d3d05a4d59b1f9ea940ba69c51138b"), looks := true }, kinds := [], alts := [], laidByText := true, laidKinds := [.data, .data, .data, .sentinel, .sentinel], laidTests := true, laidLooks := .later }
def SnapsApartUptoCardSaid : Prop := Claim7.holds Tryz.pinned (.plain (OpenSpec.upto snapsApartSpec)) snapsApartUptoCard

/-- THE SECOND FORM's CARD OF 'satchellaw23.SnapsCrash'. -/
def snapsCrashUptoCard : Claim7 := { stood := { row := snapsCrashUptoRow, standIns := [], harness := (true, "5e3b1da7618e92ae6491f9f39ef9a86d17d3d05a4d59b1f9ea940ba69c51138b"), looks := true }, kinds := [], alts := [], laidByText := true, laidKinds := [.data, .data, .data, .sentinel, .sentinel], laidTests := true, laidLooks := .later }
def SnapsCrashUptoCardSaid : Prop := Claim7.holds Tryz.pinned (.plain (OpenSpec.upto snapsCrashSpec)) snapsCrashUptoCard
end Rows
end Go.Proofs.YtlfkmklgbigfaaaGreatDoor
