/-
  DERIVED. GIVEN WITH THE SEED: THE CARDS: each row of YtfpcbimohikhmaaDoorRows.lean that lists a variable, with what it lists TIED to the program's text (the seventh form; the later family's looks); each row that meets fmt, with fmt's text TOLD by the authors' own Lean function (tested against real Go, not proved from fmt's source: count such statements apart). THE CARD IS WHAT COUNTS. Prove the row's statement (the work); the ties are given (YtfpcbimohikhmaaDoorTie.lean); close each card by the builder's one call (the guide's Derived/Test/ToyasCard.lean, 'card_holds'). Laid BY PROGRAM, IN A SANDBOX (cutbox-door.mjs). By AI agents, Wed Nov 11 2026. No macro, syntax, notation, axiom, sorry.
-/
import Derived.Test.YtfpcbimohikhmaaDoorRows
import GoSem.ClaimSeven
namespace Go.Proofs.YtfpcbimohikhmaaDoor
namespace Rows

/-- THE TIED CARD OF 'crimplaw06.PatternsSet'. -/
def patternsSetCard : Claim7 := { stood := { row := patternsSetRow, standIns := [], harness := (true, "1c8075623d186dc6f6a7e6d7d5808315c5e2b823bd8c9b7c6af8e3b882814fe7"), looks := false }, kinds := [], alts := [], laidByText := true, laidKinds := [.data, .data], laidTests := true, laidLooks := .later }
def PatternsSetCardSaid : Prop := Claim7.holds Tryd.pinned (.plain (OpenSpec.ofChange patternsSetSpec)) patternsSetCard

/-- THE TIED CARD OF 'crimplaw06.PatternsTurned'. -/
def patternsTurnedCard : Claim7 := { stood := { row := patternsTurnedRow, standIns := [], harness := (true, "1c8075623d186dc6f6a7e6d7d5808315c5e2b823bd8c9b7c6af8e3b882814fe7"), looks := false }, kinds := [], alts := [], laidByText := true, laidKinds := [.data, .data], laidTests := true, laidLooks := .later }
def PatternsTurnedCardSaid : Prop := Claim7.holds Tryd.pinned (.plain (OpenSpec.ofChange patternsTurnedSpec)) patternsTurnedCard

/-- THE TIED CARD OF 'crimplaw06.PatternsCheck'. -/
def patternsCheckCard : Claim7 := { stood := { row := patternsCheckRow, standIns := [], harness := (true, "1c8075623d186dc6f6a7e6d7d5808315c5e2b823bd8c9b7c6af8e3b882814fe7"), looks := false }, kinds := [], alts := [], laidByText := true, laidKinds := [.data, .data], laidTests := true, laidLooks := .later }
def PatternsCheckCardSaid : Prop := Claim7.holds Tryd.pinned (.plain (OpenSpec.ofChange patternsCheckSpec)) patternsCheckCard

/-- THE TIED CARD OF 'crimplaw06.PatternsOrder'. -/
def patternsOrderCard : Claim7 := { stood := { row := patternsOrderRow, standIns := [], harness := (true, "1c8075623d186dc6f6a7e6d7d5808315c5e2b823bd8c9b7c6af8e3b882814fe7"), looks := false }, kinds := [], alts := [], laidByText := true, laidKinds := [.data, .data], laidTests := true, laidLooks := .later }
def PatternsOrderCardSaid : Prop := Claim7.holds Tryd.pinned (.plain (OpenSpec.ofChange patternsOrderSpec)) patternsOrderCard

/-- THE TIED CARD OF 'crimplaw06.PatternsSame'. -/
def patternsSameCard : Claim7 := { stood := { row := patternsSameRow, standIns := [], harness := (true, "1c8075623d186dc6f6a7e6d7d5808315c5e2b823bd8c9b7c6af8e3b882814fe7"), looks := false }, kinds := [], alts := [], laidByText := true, laidKinds := [.data, .data], laidTests := true, laidLooks := .later }
def PatternsSameCardSaid : Prop := Claim7.holds Tryd.pinned (.plain (OpenSpec.ofChange patternsSameSpec)) patternsSameCard

/-- THE TIED CARD OF 'crimplaw06.PatternsKnown'. -/
def patternsKnownCard : Claim7 := { stood := { row := patternsKnownRow, standIns := [], harness := (true, "1c8075623d186dc6f6a7e6d7d5808315c5e2b823bd8c9b7c6af8e3b882814fe7"), looks := false }, kinds := [], alts := [], laidByText := true, laidKinds := [.data, .data], laidTests := true, laidLooks := .later }
def PatternsKnownCardSaid : Prop := Claim7.holds Tryd.pinned (.plain (OpenSpec.ofChange patternsKnownSpec)) patternsKnownCard

/-- THE TIED CARD OF 'crimplaw08.FacesGraph'. -/
def facesGraphCard : Claim7 := { stood := { row := facesGraphRow, standIns := [], harness := (true, "1c8075623d186dc6f6a7e6d7d5808315c5e2b823bd8c9b7c6af8e3b882814fe7"), looks := false }, kinds := [], alts := [], laidByText := true, laidKinds := [.data], laidTests := true, laidLooks := .later }
def FacesGraphCardSaid : Prop := Claim7.holds Tryd.pinned (.plain (OpenSpec.ofChange facesGraphSpec)) facesGraphCard

/-- THE TIED CARD OF 'crimplaw08.FacesLines'. -/
def facesLinesCard : Claim7 := { stood := { row := facesLinesRow, standIns := [], harness := (true, "1c8075623d186dc6f6a7e6d7d5808315c5e2b823bd8c9b7c6af8e3b882814fe7"), looks := false }, kinds := [], alts := [], laidByText := true, laidKinds := [.data], laidTests := true, laidLooks := .later }
def FacesLinesCardSaid : Prop := Claim7.holds Tryd.pinned (.plain (OpenSpec.ofChange facesLinesSpec)) facesLinesCard

/-- THE TIED CARD OF 'crimplaw08.FacesSizes'. -/
def facesSizesCard : Claim7 := { stood := { row := facesSizesRow, standIns := [], harness := (true, "1c8075623d186dc6f6a7e6d7d5808315c5e2b823bd8c9b7c6af8e3b882814fe7"), looks := false }, kinds := [], alts := [], laidByText := true, laidKinds := [.data], laidTests := true, laidLooks := .later }
def FacesSizesCardSaid : Prop := Claim7.holds Tryd.pinned (.plain (OpenSpec.ofChange facesSizesSpec)) facesSizesCard

/-- THE TIED CARD OF 'crimplaw08.FacesOf'. -/
def facesOfCard : Claim7 := { stood := { row := facesOfRow, standIns := [], harness := (true, "1c8075623d186dc6f6a7e6d7d5808315c5e2b823bd8c9b7c6af8e3b882814fe7"), looks := false }, kinds := [], alts := [], laidByText := true, laidKinds := [.data, .data], laidTests := true, laidLooks := .later }
def FacesOfCardSaid : Prop := Claim7.holds Tryd.pinned (.plain (OpenSpec.ofChange facesOfSpec)) facesOfCard

/-- THE TIED CARD OF 'crimplaw08.FacesErrors'. -/
def facesErrorsCard : Claim7 := { stood := { row := facesErrorsRow, standIns := [], harness := (true, "1c8075623d186dc6f6a7e6d7d5808315c5e2b823bd8c9b7c6af8e3b882814fe7"), looks := false }, kinds := [], alts := [], laidByText := true, laidKinds := [.data], laidTests := true, laidLooks := .later }
def FacesErrorsCardSaid : Prop := Claim7.holds Tryd.pinned (.plain (OpenSpec.ofChange facesErrorsSpec)) facesErrorsCard

/-- THE SECOND FORM's CARD OF 'crimplaw06.PatternsSet'. -/
def patternsSetUptoCard : Claim7 := { stood := { row := patternsSetUptoRow, standIns := [], harness := (true, "1c8075623d186dc6f6a7e6d7d5808315c5e2b823bd8c9b7c6af8e3b882814fe7"), looks := false }, kinds := [], alts := [], laidByText := true, laidKinds := [.data, .data], laidTests := true, laidLooks := .later }
def PatternsSetUptoCardSaid : Prop := Claim7.holds Tryd.pinned (.plain (OpenSpec.upto patternsSetSpec)) patternsSetUptoCard

/-- THE SECOND FORM's CARD OF 'crimplaw06.PatternsTurned'. -/
def patternsTurnedUptoCard : Claim7 := { stood := { row := patternsTurnedUptoRow, standIns := [], harness := (true, "1c8075623d186dc6f6a7e6d7d5808315c5e2b823bd8c9b7c6af8e3b882814fe7"), looks := false }, kinds := [], alts := [], laidByText := true, laidKinds := [.data, .data], laidTests := true, laidLooks := .later }
def PatternsTurnedUptoCardSaid : Prop := Claim7.holds Tryd.pinned (.plain (OpenSpec.upto patternsTurnedSpec)) patternsTurnedUptoCard

/-- THE SECOND FORM's CARD OF 'crimplaw06.PatternsCheck'. -/
def patternsCheckUptoCard : Claim7 := { stood := { row := patternsCheckUptoRow, standIns := [], harness := (true, "1c8075623d186dc6f6a7e6d7d5808315c5e2b823bd8c9b7c6af8e3b882814fe7"), looks := false }, kinds := [], alts := [], laidByText := true, laidKinds := [.data, .data], laidTests := true, laidLooks := .later }
def PatternsCheckUptoCardSaid : Prop := Claim7.holds Tryd.pinned (.plain (OpenSpec.upto patternsCheckSpec)) patternsCheckUptoCard

/-- THE SECOND FORM's CARD OF 'crimplaw06.PatternsOrder'. -/
def patternsOrderUptoCard : Claim7 := { stood := { row := patternsOrderUptoRow, standIns := [], harness := (true, "1c8075623d186dc6f6a7e6d7d5808315c5e2b823bd8c9b7c6af8e3b882814fe7"), looks := false }, kinds := [], alts := [], laidByText := true, laidKinds := [.data, .data], laidTests := true, laidLooks := .later }
def PatternsOrderUptoCardSaid : Prop := Claim7.holds Tryd.pinned (.plain (OpenSpec.upto patternsOrderSpec)) patternsOrderUptoCard

/-- THE SECOND FORM's CARD OF 'crimplaw06.PatternsSame'. -/
def patternsSameUptoCard : Claim7 := { stood := { row := patternsSameUptoRow, standIns := [], harness := (true, "1c8075623d186dc6f6a7e6d7d5808315c5e2b823bd8c9b7c6af8e3b882814fe7"), looks := false }, kinds := [], alts := [], laidByText := true, laidKinds := [.data, .data], laidTests := true, laidLooks := .later }
def PatternsSameUptoCardSaid : Prop := Claim7.holds Tryd.pinned (.plain (OpenSpec.upto patternsSameSpec)) patternsSameUptoCard

/-- THE SECOND FORM's CARD OF 'crimplaw06.PatternsKnown'. -/
def patternsKnownUptoCard : Claim7 := { stood := { row := patternsKnownUptoRow, standIns := [], harness := (true, "1c8075623d186dc6f6a7e6d7d5808315c5e2b823bd8c9b7c6af8e3b882814fe7"), looks := false }, kinds := [], alts := [], laidByText := true, laidKinds := [.data, .data], laidTests := true, laidLooks := .later }
def PatternsKnownUptoCardSaid : Prop := Claim7.holds Tryd.pinned (.plain (OpenSpec.upto patternsKnownSpec)) patternsKnownUptoCard

/-- THE SECOND FORM's CARD OF 'crimplaw08.FacesGraph'. -/
def facesGraphUptoCard : Claim7 := { stood := { row := facesGraphUptoRow, standIns := [], harness := (true, "1c8075623d186dc6f6a7e6d7d5808315c5e2b823bd8c9b7c6af8e3b882814fe7"), looks := false }, kinds := [], alts := [], laidByText := true, laidKinds := [.data], laidTests := true, laidLooks := .later }
def FacesGraphUptoCardSaid : Prop := Claim7.holds Tryd.pinned (.plain (OpenSpec.upto facesGraphSpec)) facesGraphUptoCard

/-- THE SECOND FORM's CARD OF 'crimplaw08.FacesLines'. -/
def facesLinesUptoCard : Claim7 := { stood := { row := facesLinesUptoRow, standIns := [], harness := (true, "1c8075623d186dc6f6a7e6d7d5808315c5e2b823bd8c9b7c6af8e3b882814fe7"), looks := false }, kinds := [], alts := [], laidByText := true, laidKinds := [.data], laidTests := true, laidLooks := .later }
def FacesLinesUptoCardSaid : Prop := Claim7.holds Tryd.pinned (.plain (OpenSpec.upto facesLinesSpec)) facesLinesUptoCard

/-- THE SECOND FORM's CARD OF 'crimplaw08.FacesSizes'. -/
def facesSizesUptoCard : Claim7 := { stood := { row := facesSizesUptoRow, standIns := [], harness := (true, "1c8075623d186dc6f6a7e6d7d5808315c5e2b823bd8c9b7c6af8e3b882814fe7"), looks := false }, kinds := [], alts := [], laidByText := true, laidKinds := [.data], laidTests := true, laidLooks := .later }
def FacesSizesUptoCardSaid : Prop := Claim7.holds Tryd.pinned (.plain (OpenSpec.upto facesSizesSpec)) facesSizesUptoCard

/-- THE SECOND FORM's CARD OF 'crimplaw08.FacesOf'. -/
def facesOfUptoCard : Claim7 := { stood := { row := facesOfUptoRow, standIns := [], harness := (true, "1c8075623d186dc6f6a7e6d7d5808315c5e2b823bd8c9b7c6af8e3b882814fe7"), looks := false }, kinds := [], alts := [], laidByText := true, laidKinds := [.data, .data], laidTests := true, laidLooks := .later }
def FacesOfUptoCardSaid : Prop := Claim7.holds Tryd.pinned (.plain (OpenSpec.upto facesOfSpec)) facesOfUptoCard

/-- THE SECOND FORM's CARD OF 'crimplaw08.FacesErrors'. -/
def facesErrorsUptoCard : Claim7 := { stood := { row := facesErrorsUptoRow, standIns := [], harness := (true, "1c8075623d186dc6f6a7e6d7d5808315c5e2b823bd8c9b7c6af8e3b882814fe7"), looks := false }, kinds := [], alts := [], laidByText := true, laidKinds := [.data], laidTests := true, laidLooks := .later }
def FacesErrorsUptoCardSaid : Prop := Claim7.holds Tryd.pinned (.plain (OpenSpec.upto facesErrorsSpec)) facesErrorsUptoCard
end Rows
end Go.Proofs.YtfpcbimohikhmaaDoor
