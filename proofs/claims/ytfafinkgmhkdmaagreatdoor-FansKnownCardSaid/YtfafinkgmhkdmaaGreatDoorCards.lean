/-
  DERIVED. GIVEN WITH THE SEED: THE CARDS: each row of YtfafinkgmhkdmaaGreatDoorRows.lean that lists a variable, with what it lists TIED to the program's text (the seventh form; the later family's looks); each row that meets fmt, with fmt's text TOLD by the authors' own Lean function (tested against real Go, not proved from fmt's source: count such statements apart). THE CARD IS WHAT COUNTS. Prove the row's statement (the work); the ties are given (YtfafinkgmhkdmaaGreatDoorTie.lean); close each card by the builder's one call (the guide's Derived/Test/ToyasCard.lean, 'card_holds'). Laid BY PROGRAM, IN A SANDBOX (cutbox-door.mjs). By AI agents, Wed Nov 11 2026. No macro, syntax, notation, axiom, sorry.
-/
import Derived.Test.YtfafinkgmhkdmaaGreatDoorRows
import GoSem.ClaimSeven
namespace Go.Proofs.YtfafinkgmhkdmaaGreatDoor
namespace Rows

/-- THE TIED CARD OF 'crimplaw12.FansPattern'. -/
def fansPatternCard : Claim7 := { stood := { row := fansPatternRow, standIns := [], harness := (true, "7b3feac40940d494ece7ec0d113c48e7c13a9001713d0536b7276fcef6e827ea"), looks := false }, kinds := [], alts := [], laidByText := true, laidKinds := [.data, .data, .data, .data, .widerDeep, .data], laidTests := true, laidLooks := .later }
def FansPatternCardSaid : Prop := Claim7.holds Tryz.pinned (.plain (OpenSpec.ofChange fansPatternSpec)) fansPatternCard

/-- THE TIED CARD OF 'crimplaw12.FansKnown'. -/
def fansKnownCard : Claim7 := { stood := { row := fansKnownRow, standIns := [], harness := (true, "7b3feac40940d494ece7ec0d113c48e7c13a9001713d0536b7276fcef6e827ea"), looks := false }, kinds := [], alts := [], laidByText := true, laidKinds := [.data, .data, .data, .data, .data, .widerDeep, .data, .pinned], laidTests := true, laidLooks := .later }
def FansKnownCardSaid : Prop := Claim7.holds Tryz.pinned (.plain (OpenSpec.ofChange fansKnownSpec)) fansKnownCard

/-- THE SECOND FORM's CARD OF 'crimplaw12.FansPattern'. -/
def fansPatternUptoCard : Claim7 := { stood := { row := fansPatternUptoRow, standIns := [], harness := (true, "7b3feac40940d494ece7ec0d113c48e7c13a9001713d0536b7276fcef6e827ea"), looks := false }, kinds := [], alts := [], laidByText := true, laidKinds := [.data, .data, .data, .data, .widerDeep, .data], laidTests := true, laidLooks := .later }
def FansPatternUptoCardSaid : Prop := Claim7.holds Tryz.pinned (.plain (OpenSpec.upto fansPatternSpec)) fansPatternUptoCard

/-- THE SECOND FORM's CARD OF 'crimplaw12.FansKnown'. -/
def fansKnownUptoCard : Claim7 := { stood := { row := fansKnownUptoRow, standIns := [], harness := (true, "7b3feac40940d494ece7ec0d113c48e7c13a9001713d0536b7276fcef6e827ea"), looks := false }, kinds := [], alts := [], laidByText := true, laidKinds := [.data, .data, .data, .data, .data, .widerDeep, .data, .pinned], laidTests := true, laidLooks := .later }
def FansKnownUptoCardSaid : Prop := Claim7.holds Tryz.pinned (.plain (OpenSpec.upto fansKnownSpec)) fansKnownUptoCard
end Rows
end Go.Proofs.YtfafinkgmhkdmaaGreatDoor
