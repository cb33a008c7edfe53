/-
  DERIVED. GIVEN WITH THE SEED: THE CARDS: each row of YtogdiebhajiefaaGreatDoorRows.lean that lists a variable, with what it lists TIED to the program's text (the seventh form; the later family's looks); each row that meets fmt, with fmt's text TOLD by the authors' own Lean function (tested against real Go, not proved from fmt's source: count such statements apart). THE CARD IS WHAT COUNTS. Prove the row's statement (the work); the ties are given (YtogdiebhajiefaaGreatDoorTie.lean); close each card by the builder's one call (the guide's Derived/Test/ToyasCard.lean, 'card_holds'). Laid BY PROGRAM, IN A SANDBOX (cutbox-door.mjs). By AI agents, Wed Nov 11 2026. No macro, syntax, notation, axiom, sorry.
-/
import Derived.Test.YtogdiebhajiefaaGreatDoorRows
import GoSem.ClaimSeven
namespace Go.Proofs.YtogdiebhajiefaaGreatDoor
namespace Rows

/-- THE TIED CARD OF 'satchellaw25.IntakeQuota'. -/
def intakeQuotaCard : Claim7 := { stood := { row := intakeQuotaRow, standIns := [], harness := (true, "de17de73d5a22c315ea3d36f90caa8c442c6b030f8cbfa71471a33471b4c49e7"), looks := true }, kinds := [], alts := [], laidByText := true, laidKinds := [.data, .data, .data, .sentinel, .sentinel], laidTests := true, laidLooks := .later }
def IntakeQuotaCardSaid : Prop := Claim7.holds Tryz.pinned (.plain (OpenSpec.ofChange intakeQuotaSpec)) intakeQuotaCard

/-- THE TIED CARD OF 'satchellaw25.IntakeNone'. -/
def intakeNoneCard : Claim7 := { stood := { row := intakeNoneRow, standIns := [], harness := (true, "de17de73d5a22c315ea3d36f90caa8c442c6b030f8cbfa71471a33471b4c49e7"), looks := true }, kinds := [], alts := [], laidByText := true, laidKinds := [.data, .data, .data, .sentinel, .sentinel], laidTests := true, laidLooks := .later }
def IntakeNoneCardSaid : Prop := Claim7.holds Tryz.pinned (.plain (OpenSpec.ofChange intakeNoneSpec)) intakeNoneCard

/-- THE TIED CARD OF 'satchellaw25.IntakeHalf'. -/
def intakeHalfCard : Claim7 := { stood := { row := intakeHalfRow, standIns := [], harness := (true, "de17de73d5a22c315ea3d36f90caa8c442c6b030f8cbfa71471a33471b4c49e7"), looks := true }, kinds := [], alts := [], laidByText := true, laidKinds := [.data, .data, .data, .sentinel, .sentinel], laidTests := true, laidLooks := .later }
def IntakeHalfCardSaid : Prop := Claim7.holds Tryz.pinned (.plain (OpenSpec.ofChange intakeHalfSpec)) intakeHalfCard

/-- THE TIED CARD OF 'satchellaw25.IntakeKnown'. -/
def intakeKnownCard : Claim7 := { stood := { row := intakeKnownRow, standIns := [], harness := (true, "de17de73d5a22c315ea3d36f90caa8c442c6b030f8cbfa71471a33471b4c49e7"), looks := true }, kinds := [], alts := [], laidByText := true, laidKinds := [.data, .data, .data, .sentinel, .sentinel], laidTests := true, laidLooks := .later }
def IntakeKnownCardSaid : Prop := Claim7.holds Tryz.pinned (.plain (OpenSpec.ofChange intakeKnownSpec)) intakeKnownCard

/-- THE TIED CARD OF 'satchellaw25.IntakeAnswers'. -/
def intakeAnswersCard : Claim7 := { stood := { row := intakeAnswersRow, standIns := [], harness := (true, "de17de73d5a22c315ea3d36f90caa8c442c6b030f8cbfa71471a33471b4c49e7"), looks := true }, kinds := [], alts := [], laidByText := true, laidKinds := [.data, .data, .data, .sentinel, .sentinel], laidTests := true, laidLooks := .later }
def IntakeAnswersCardSaid : Prop := Claim7.holds Tryz.pinned (.plain (OpenSpec.ofChange intakeAnswersSpec)) intakeAnswersCard

/-- THE SECOND FORM's CARD OF 'satchellaw25.IntakeQuota'. -/
def intakeQuotaUptoCard : Claim7 := { stood := { row := intakeQuotaUptoRow, standIns := [], harness := (true, "de17de73d5a22c315ea3d36f90caa8c442c6b030f8cbfa71471a33471b4c49e7"), looks := true }, kinds := [], alts := [], laidByText := true, laidKinds := [.data, .data, .data, .sentinel, .sentinel], laidTests := true, laidLooks := .later }
def IntakeQuotaUptoCardSaid : Prop := Claim7.holds Tryz.pinned (.plain (OpenSpec.upto intakeQuotaSpec)) intakeQuotaUptoCard

/-- THE SECOND FORM's CARD OF 'satchellaw25.IntakeNone'. -/
def intakeNoneUptoCard : Claim7 := { stood := { row := intakeNoneUptoRow, standIns := [], harness := (true, "de17de73d5a22c315ea3d36f90caa8c442c6b030f8cbfa71471a33471b4c49e7"), looks := true }, kinds := [], alts := [], laidByText := true, laidKinds := [.data, .data, .data, .sentinel, .sentinel], laidTests := true, laidLooks := .later }
def IntakeNoneUptoCardSaid : Prop := Claim7.holds Tryz.pinned (.plain (OpenSpec.upto intakeNoneSpec)) intakeNoneUptoCard

/-- THE SECOND FORM's CARD OF 'satchellaw25.IntakeHalf'. -/
def intakeHalfUptoCard : Claim7 := { stood := { row := intakeHalfUptoRow, standIns := [], harness := (true, "de17de73d5a22c315ea3d36f90caa8c442c6b030f8cbfa71471a33471b4c49e7"), looks := true }, kinds := [], alts := [], laidByText := true, laidKinds := [.data, .data, .data, .sentinel, .sentinel], laidTests := true, laidLooks := .later }
def IntakeHalfUptoCardSaid : Prop := Claim7.holds Tryz.pinned (.plain (OpenSpec.upto intakeHalfSpec)) intakeHalfUptoCard

/-- THE SECOND FORM's CARD OF 'satchellaw25.IntakeKnown'. -/
def intakeKnownUptoCard : Claim7 := { stood := { row := intakeKnownUptoRow, standIns := [], harness := (true, "de17de73d5a22c315ea3d36f90caa8c442c6b030f8cbfa71471a33471b4c49e7"), looks := true }, kinds := [], alts := [], laidByText := true, laidKinds := [.data, .data, .data, .sentinel, .sentinel], laidTests := true, laidLooks := .later }
def IntakeKnownUptoCardSaid : Prop := Claim7.holds Tryz.pinned (.plain (OpenSpec.upto intakeKnownSpec)) intakeKnownUptoCard

/-- THE SECOND FORM's CARD OF 'satchellaw25.IntakeAnswers'. -/
def intakeAnswersUptoCard : Claim7 := { stood := { row := intakeAnswersUptoRow, standIns := [], harness := (true, "de17de73d5a22c315ea3d36f90caa8c442c6b030f8cbfa71471a33471b4c49e7"), looks := true }, kinds := [], alts := [], laidByText := true, laidKinds := [.data, .data, .data, .sentinel, .sentinel], laidTests := true, laidLooks := .later }
def IntakeAnswersUptoCardSaid : Prop := Claim7.holds Tryz.pinned (.plain (OpenSpec.upto intakeAnswersSpec)) intakeAnswersUptoCard
end Rows
end Go.Proofs.YtogdiebhajiefaaGreatDoor
