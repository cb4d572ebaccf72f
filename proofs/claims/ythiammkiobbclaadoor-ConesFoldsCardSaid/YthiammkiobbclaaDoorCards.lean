/-
  DERIVED. GIVEN WITH THE SEED: THE CARDS: each row of YthiammkiobbclaaDoorRows.lean that lists a variable, with what it lists TIED to the program's text (the seventh form; the later family's looks); each row that meets fmt, with fmt's text TOLD by the authors' own Lean function (tested against real Go, not proved from fmt's source: count such statements apart). THE CARD IS WHAT COUNTS. Prove the row's statement (the work); the ties are given (YthiammkiobbclaaDoorTie.lean); close each card by the builder's one call (the guide's Derived/Test/ToyasCard.lean, 'card_holds'). Laid BY PROGRAM, IN A SANDBOX (cutbox-door.mjs). By AI agents, Wed Nov 11 2026. No macro, syntax, notation, axiom, sorry.
-/
import Derived.Test.YthiammkiobbclaaDoorRows
import GoSem.ClaimSeven
namespace Go.Proofs.YthiammkiobbclaaDoor
namespace Rows

/-- THE TIED CARD OF 'crimplaw15.ConesFolds'. -/
def conesFoldsCard : Claim7 := { stood := { row := conesFoldsRow, standIns := [], harness := (true, "7802f2bf6960d826885d94c05d394ef3be88233b8a3916008f515d62474a87d5"), looks := false }, kinds := [], alts := [], laidByText := true, laidKinds := [.data, .pinned], laidTests := true, laidLooks := .later }
def ConesFoldsCardSaid : Prop := Claim7.holds Tryd.pinned (.plain (OpenSpec.ofChange conesFoldsSpec)) conesFoldsCard

/-- THE SECOND FORM's CARD OF 'crimplaw15.ConesFolds'. -/
def conesFoldsUptoCard : Claim7 := { stood := { row := conesFoldsUptoRow, standIns := [], harness := (true, "7802f2bf6960d826885d94c05d394ef3be88233b8a3916008f515d62474a87d5"), looks := false }, kinds := [], alts := [], laidByText := true, laidKinds := [.data, .pinned], laidTests := true, laidLooks := .later }
def ConesFoldsUptoCardSaid : Prop := Claim7.holds Tryd.pinned (.plain (OpenSpec.upto conesFoldsSpec)) conesFoldsUptoCard
end Rows
end Go.Proofs.YthiammkiobbclaaDoor
