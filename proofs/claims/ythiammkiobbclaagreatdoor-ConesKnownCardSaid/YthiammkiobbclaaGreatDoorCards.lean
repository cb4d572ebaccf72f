/-
  DERIVED. GIVEN WITH THE SEED: THE CARDS: each row of YthiammkiobbclaaGreatDoorRows.lean that lists a variable, with what it lists TIED to the program's text (the seventh form; the later family's looks); each row that meets fmt, with fmt's text TOLD by the authors' own Lean function (tested against real Go, not proved from fmt's source: count such statements apart). THE CARD IS WHAT COUNTS. Prove the row's statement (the work); the ties are given (YthiammkiobbclaaGreatDoorTie.lean); close each card by the builder's one call (the guide's Derived/Test/ToyasCard.lean, 'card_holds'). Laid BY PROGRAM, IN A SANDBOX (cutbox-door.mjs). By AI agents, Wed Nov 11 2026. No macro, syntax, notation, axiom, sorry.
-/
import Derived.Test.YthiammkiobbclaaGreatDoorRows
import GoSem.ClaimSeven
namespace Go.Proofs.YthiammkiobbclaaGreatDoor
namespace Rows

/-- THE TIED CARD OF 'crimplaw15.ConesCount'. -/
def conesCountCard : Claim7 := { stood := { row := conesCountRow, standIns := [], harness := (true, "030d4492f8823923ff834f5471ad25c6c96535af41b8e84e8bf8720807a3f5fe"), looks := false }, kinds := [], alts := [], laidByText := true, laidKinds := [.data, .pinned], laidTests := true, laidLooks := .later }
def ConesCountCardSaid : Prop := Claim7.holds Tryz.pinned (.plain (OpenSpec.ofChange conesCountSpec)) conesCountCard

/-- THE TIED CARD OF 'crimplaw15.ConesKinds'. -/
def conesKindsCard : Claim7 := { stood := { row := conesKindsRow, standIns := [], harness := (true, "030d4492f8823923ff834f5471ad25c6c96535af41b8e84e8bf8720807a3f5fe"), looks := false }, kinds := [], alts := [], laidByText := true, laidKinds := [.data, .pinned], laidTests := true, laidLooks := .later }
def ConesKindsCardSaid : Prop := Claim7.holds Tryz.pinned (.plain (OpenSpec.ofChange conesKindsSpec)) conesKindsCard

/-- THE TIED CARD OF 'crimplaw15.ConesTurned'. -/
def conesTurnedCard : Claim7 := { stood := { row := conesTurnedRow, standIns := [], harness := (true, "030d4492f8823923ff834f5471ad25c6c96535af41b8e84e8bf8720807a3f5fe"), looks := false }, kinds := [], alts := [], laidByText := true, laidKinds := [.data, .pinned], laidTests := true, laidLooks := .later }
def ConesTurnedCardSaid : Prop := Claim7.holds Tryz.pinned (.plain (OpenSpec.ofChange conesTurnedSpec)) conesTurnedCard

/-- THE TIED CARD OF 'crimplaw15.ConesValid'. -/
def conesValidCard : Claim7 := { stood := { row := conesValidRow, standIns := [], harness := (true, "030d4492f8823923ff834f5471ad25c6c96535af41b8e84e8bf8720807a3f5fe"), looks := false }, kinds := [], alts := [], laidByText := true, laidKinds := [.data, .pinned], laidTests := true, laidLooks := .later }
def ConesValidCardSaid : Prop := Claim7.holds Tryz.pinned (.plain (OpenSpec.ofChange conesValidSpec)) conesValidCard

/-- THE TIED CARD OF 'crimplaw15.ConesDecide'. -/
def conesDecideCard : Claim7 := { stood := { row := conesDecideRow, standIns := [], harness := (true, "030d4492f8823923ff834f5471ad25c6c96535af41b8e84e8bf8720807a3f5fe"), looks := false }, kinds := [], alts := [], laidByText := true, laidKinds := [.data, .pinned], laidTests := true, laidLooks := .later }
def ConesDecideCardSaid : Prop := Claim7.holds Tryz.pinned (.plain (OpenSpec.ofChange conesDecideSpec)) conesDecideCard

/-- THE TIED CARD OF 'crimplaw15.ConesErrors'. -/
def conesErrorsCard : Claim7 := { stood := { row := conesErrorsRow, standIns := [], harness := (true, "030d4492f8823923ff834f5471ad25c6c96535af41b8e84e8bf8720807a3f5fe"), looks := false }, kinds := [], alts := [], laidByText := true, laidKinds := [.data, .pinned], laidTests := true, laidLooks := .later }
def ConesErrorsCardSaid : Prop := Claim7.holds Tryz.pinned (.plain (OpenSpec.ofChange conesErrorsSpec)) conesErrorsCard

/-- THE TIED CARD OF 'crimplaw15.ConesKnown'. -/
def conesKnownCard : Claim7 := { stood := { row := conesKnownRow, standIns := [], harness := (true, "030d4492f8823923ff834f5471ad25c6c96535af41b8e84e8bf8720807a3f5fe"), looks := false }, kinds := [], alts := [], laidByText := true, laidKinds := [.data, .pinned], laidTests := true, laidLooks := .later }
def ConesKnownCardSaid : Prop := Claim7.holds Tryz.pinned (.plain (OpenSpec.ofChange conesKnownSpec)) conesKnownCard

/-- THE SECOND FORM's CARD OF 'crimplaw15.ConesCount'. -/
def conesCountUptoCard : Claim7 := { stood := { row := conesCountUptoRow, standIns := [], harness := (true, "030d4492f8823923ff834f5471ad25c6c96535af41b8e84e8bf8720807a3f5fe"), looks := false }, kinds := [], alts := [], laidByText := true, laidKinds := [.data, .pinned], laidTests := true, laidLooks := .later }
def ConesCountUptoCardSaid : Prop := Claim7.holds Tryz.pinned (.plain (OpenSpec.upto conesCountSpec)) conesCountUptoCard

/-- THE SECOND FORM's CARD OF 'crimplaw15.ConesKinds'. -/
def conesKindsUptoCard : Claim7 := { stood := { row := conesKindsUptoRow, standIns := [], harness := (true, "030d4492f8823923ff834f5471ad25c6c96535af41b8e84e8bf8720807a3f5fe"), looks := false }, kinds := [], alts := [], laidByText := true, laidKinds := [.data, .pinned], laidTests := true, laidLooks := .later }
def ConesKindsUptoCardSaid : Prop := Claim7.holds Tryz.pinned (.plain (OpenSpec.upto conesKindsSpec)) conesKindsUptoCard

/-- THE SECOND FORM's CARD OF 'crimplaw15.ConesTurned'. -/
def conesTurnedUptoCard : Claim7 := { stood := { row := conesTurnedUptoRow, standIns := [], harness := (true, "030d4492f8823923ff834f5471ad25c6c96535af41b8e84e8bf8720807a3f5fe"), looks := false }, kinds := [], alts := [], laidByText := true, laidKinds := [.data, .pinned], laidTests := true, laidLooks := .later }
def ConesTurnedUptoCardSaid : Prop := Claim7.holds Tryz.pinned (.plain (OpenSpec.upto conesTurnedSpec)) conesTurnedUptoCard

/-- THE SECOND FORM's CARD OF 'crimplaw15.ConesValid'. -/
def conesValidUptoCard : Claim7 := { stood := { row := conesValidUptoRow, standIns := [], harness := (true, "030d4492f8823923ff834f5471ad25c6c96535af41b8e84e8bf8720807a3f5fe"), looks := false }, kinds := [], alts := [], laidByText := true, laidKinds := [.data, .pinned], laidTests := true, laidLooks := .later }
def ConesValidUptoCardSaid : Prop := Claim7.holds Tryz.pinned (.plain (OpenSpec.upto conesValidSpec)) conesValidUptoCard

/-- THE SECOND FORM's CARD OF 'crimplaw15.ConesDecide'. -/
def conesDecideUptoCard : Claim7 := { stood := { row := conesDecideUptoRow, standIns := [], harness := (true, "030d4492f8823923ff834f5471ad25c6c96535af41b8e84e8bf8720807a3f5fe"), looks := false }, kinds := [], alts := [], laidByText := true, laidKinds := [.data, .pinned], laidTests := true, laidLooks := .later }
def ConesDecideUptoCardSaid : Prop := Claim7.holds Tryz.pinned (.plain (OpenSpec.upto conesDecideSpec)) conesDecideUptoCard

/-- THE SECOND FORM's CARD OF 'crimplaw15.ConesErrors'. -/
def conesErrorsUptoCard : Claim7 := { stood := { row := conesErrorsUptoRow, standIns := [], harness := (true, "030d4492f8823923ff834f5471ad25c6c96535af41b8e84e8bf8720807a3f5fe"), looks := false }, kinds := [], alts := [], laidByText := true, laidKinds := [.data, .pinned], laidTests := true, laidLooks := .later }
def ConesErrorsUptoCardSaid : Prop := Claim7.holds Tryz.pinned (.plain (OpenSpec.upto conesErrorsSpec)) conesErrorsUptoCard

/-- THE SECOND FORM's CARD OF 'crimplaw15.ConesKnown'. -/
def conesKnownUptoCard : Claim7 := { stood := { row := conesKnownUptoRow, standIns := [], harness := (true, "030d4492f8823923ff834f5471ad25c6c96535af41b8e84e8bf8720807a3f5fe"), looks := false }, kinds := [], alts := [], laidByText := true, laidKinds := [.data, .pinned], laidTests := true, laidLooks := .later }
def ConesKnownUptoCardSaid : Prop := Claim7.holds Tryz.pinned (.plain (OpenSpec.upto conesKnownSpec)) conesKnownUptoCard
end Rows
end Go.Proofs.YthiammkiobbclaaGreatDoor
