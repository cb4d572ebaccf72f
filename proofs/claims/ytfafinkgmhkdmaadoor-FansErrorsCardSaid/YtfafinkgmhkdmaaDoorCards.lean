/-
  DERIVED. GIVEN WITH THE SEED: THE CARDS: each row of YtfafinkgmhkdmaaDoorRows.lean that lists a variable, with what it lists TIED to the program's text (the seventh form; the later family's looks); each row that meets fmt, with fmt's text TOLD by the authors' own Lean function (tested against real Go, not proved from fmt's source: count such statements apart). THE CARD IS WHAT COUNTS. Prove the row's statement (the work); the ties are given (YtfafinkgmhkdmaaDoorTie.lean); close each card by the builder's one call (the guide's Derived/Test/ToyasCard.lean, 'card_holds'). Laid BY PROGRAM, IN A SANDBOX (cutbox-door.mjs). By AI agents, Wed Nov 11 2026. No macro, syntax, notation, axiom, sorry.
-/
import Derived.Test.YtfafinkgmhkdmaaDoorRows
import GoSem.ClaimSeven
namespace Go.Proofs.YtfafinkgmhkdmaaDoor
namespace Rows

/-- THE TIED CARD OF 'crimplaw14.ReductionsAny'. -/
def reductionsAnyCard : Claim7 := { stood := { row := reductionsAnyRow, standIns := [], harness := (true, "d7e330ed3d8542b5618e3872b63a9503b87c668c5df2027ad7db1cef99ba089f"), looks := false }, kinds := [], alts := [], laidByText := true, laidKinds := [.data, .data, .data, .data, .pinned], laidTests := true, laidLooks := .later }
def ReductionsAnyCardSaid : Prop := Claim7.holds Tryd.pinned (.plain (OpenSpec.ofChange reductionsAnySpec)) reductionsAnyCard

/-- THE TIED CARD OF 'crimplaw14.ReductionsErrors'. -/
def reductionsErrorsCard : Claim7 := { stood := { row := reductionsErrorsRow, standIns := [], harness := (true, "d7e330ed3d8542b5618e3872b63a9503b87c668c5df2027ad7db1cef99ba089f"), looks := false }, kinds := [], alts := [], laidByText := true, laidKinds := [.data, .data, .data, .data, .pinned], laidTests := true, laidLooks := .later }
def ReductionsErrorsCardSaid : Prop := Claim7.holds Tryd.pinned (.plain (OpenSpec.ofChange reductionsErrorsSpec)) reductionsErrorsCard

/-- THE TIED CARD OF 'crimplaw14.ReductionsTurned'. -/
def reductionsTurnedCard : Claim7 := { stood := { row := reductionsTurnedRow, standIns := [], harness := (true, "d7e330ed3d8542b5618e3872b63a9503b87c668c5df2027ad7db1cef99ba089f"), looks := false }, kinds := [], alts := [], laidByText := true, laidKinds := [.data, .data, .data, .data, .pinned], laidTests := true, laidLooks := .later }
def ReductionsTurnedCardSaid : Prop := Claim7.holds Tryd.pinned (.plain (OpenSpec.ofChange reductionsTurnedSpec)) reductionsTurnedCard

/-- THE TIED CARD OF 'crimplaw14.ReductionsReduce'. -/
def reductionsReduceCard : Claim7 := { stood := { row := reductionsReduceRow, standIns := [], harness := (true, "d7e330ed3d8542b5618e3872b63a9503b87c668c5df2027ad7db1cef99ba089f"), looks := false }, kinds := [], alts := [], laidByText := true, laidKinds := [.data, .data, .data, .data, .pinned], laidTests := true, laidLooks := .later }
def ReductionsReduceCardSaid : Prop := Claim7.holds Tryd.pinned (.plain (OpenSpec.ofChange reductionsReduceSpec)) reductionsReduceCard

/-- THE TIED CARD OF 'crimplaw14.ReductionsSteps'. -/
def reductionsStepsCard : Claim7 := { stood := { row := reductionsStepsRow, standIns := [], harness := (true, "d7e330ed3d8542b5618e3872b63a9503b87c668c5df2027ad7db1cef99ba089f"), looks := false }, kinds := [], alts := [], laidByText := true, laidKinds := [.data, .data, .data, .data, .pinned], laidTests := true, laidLooks := .later }
def ReductionsStepsCardSaid : Prop := Claim7.holds Tryd.pinned (.plain (OpenSpec.ofChange reductionsStepsSpec)) reductionsStepsCard

/-- THE TIED CARD OF 'crimplaw12.FansMirror'. -/
def fansMirrorCard : Claim7 := { stood := { row := fansMirrorRow, standIns := [], harness := (true, "d7e330ed3d8542b5618e3872b63a9503b87c668c5df2027ad7db1cef99ba089f"), looks := false }, kinds := [], alts := [], laidByText := true, laidKinds := [.data, .data, .data, .data], laidTests := true, laidLooks := .later }
def FansMirrorCardSaid : Prop := Claim7.holds Tryd.pinned (.plain (OpenSpec.ofChange fansMirrorSpec)) fansMirrorCard

/-- THE TIED CARD OF 'crimplaw12.FansTurn'. -/
def fansTurnCard : Claim7 := { stood := { row := fansTurnRow, standIns := [], harness := (true, "d7e330ed3d8542b5618e3872b63a9503b87c668c5df2027ad7db1cef99ba089f"), looks := false }, kinds := [], alts := [], laidByText := true, laidKinds := [.data, .data, .data, .data], laidTests := true, laidLooks := .later }
def FansTurnCardSaid : Prop := Claim7.holds Tryd.pinned (.plain (OpenSpec.ofChange fansTurnSpec)) fansTurnCard

/-- THE TIED CARD OF 'crimplaw12.FansErrors'. -/
def fansErrorsCard : Claim7 := { stood := { row := fansErrorsRow, standIns := [], harness := (true, "d7e330ed3d8542b5618e3872b63a9503b87c668c5df2027ad7db1cef99ba089f"), looks := false }, kinds := [], alts := [], laidByText := true, laidKinds := [.data, .data, .data, .data], laidTests := true, laidLooks := .later }
def FansErrorsCardSaid : Prop := Claim7.holds Tryd.pinned (.plain (OpenSpec.ofChange fansErrorsSpec)) fansErrorsCard

/-- THE TIED CARD OF 'crimplaw12.FansText'. -/
def fansTextCard : Claim7 := { stood := { row := fansTextRow, standIns := [], harness := (true, "d7e330ed3d8542b5618e3872b63a9503b87c668c5df2027ad7db1cef99ba089f"), looks := false }, kinds := [], alts := [], laidByText := true, laidKinds := [.data, .data, .data, .data, .data, .pinned], laidTests := true, laidLooks := .later }
def FansTextCardSaid : Prop := Claim7.holds Tryd.pinned (.plain (OpenSpec.ofChange fansTextSpec)) fansTextCard

/-- THE SECOND FORM's CARD OF 'crimplaw14.ReductionsAny'. -/
def reductionsAnyUptoCard : Claim7 := { stood := { row := reductionsAnyUptoRow, standIns := [], harness := (true, "d7e330ed3d8542b5618e3872b63a9503b87c668c5df2027ad7db1cef99ba089f"), looks := false }, kinds := [], alts := [], laidByText := true, laidKinds := [.data, .data, .data, .data, .pinned], laidTests := true, laidLooks := .later }
def ReductionsAnyUptoCardSaid : Prop := Claim7.holds Tryd.pinned (.plain (OpenSpec.upto reductionsAnySpec)) reductionsAnyUptoCard

/-- THE SECOND FORM's CARD OF 'crimplaw14.ReductionsErrors'. -/
def reductionsErrorsUptoCard : Claim7 := { stood := { row := reductionsErrorsUptoRow, standIns := [], harness := (true, "d7e330ed3d8542b5618e3872b63a9503b87c668c5df2027ad7db1cef99ba089f"), looks := false }, kinds := [], alts := [], laidByText := true, laidKinds := [.data, .data, .data, .data, .pinned], laidTests := true, laidLooks := .later }
def ReductionsErrorsUptoCardSaid : Prop := Claim7.holds Tryd.pinned (.plain (OpenSpec.upto reductionsErrorsSpec)) reductionsErrorsUptoCard

/-- THE SECOND FORM's CARD OF 'crimplaw14.ReductionsTurned'. -/
def reductionsTurnedUptoCard : Claim7 := { stood := { row := reductionsTurnedUptoRow, standIns := [], harness := (true, "d7e330ed3d8542b5618e3872b63a9503b87c668c5df2027ad7db1cef99ba089f"), looks := false }, kinds := [], alts := [], laidByText := true, laidKinds := [.data, .data, .data, .data, .pinned], laidTests := true, laidLooks := .later }
def ReductionsTurnedUptoCardSaid : Prop := Claim7.holds Tryd.pinned (.plain (OpenSpec.upto reductionsTurnedSpec)) reductionsTurnedUptoCard

/-- THE SECOND FORM's CARD OF 'crimplaw14.ReductionsReduce'. -/
def reductionsReduceUptoCard : Claim7 := { stood := { row := reductionsReduceUptoRow, standIns := [], harness := (true, "d7e330ed3d8542b5618e3872b63a9503b87c668c5df2027ad7db1cef99ba089f"), looks := false }, kinds := [], alts := [], laidByText := true, laidKinds := [.data, .data, .data, .data, .pinned], laidTests := true, laidLooks := .later }
def ReductionsReduceUptoCardSaid : Prop := Claim7.holds Tryd.pinned (.plain (OpenSpec.upto reductionsReduceSpec)) reductionsReduceUptoCard

/-- THE SECOND FORM's CARD OF 'crimplaw14.ReductionsSteps'. -/
def reductionsStepsUptoCard : Claim7 := { stood := { row := reductionsStepsUptoRow, standIns := [], harness := (true, "d7e330ed3d8542b5618e3872b63a9503b87c668c5df2027ad7db1cef99ba089f"), looks := false }, kinds := [], alts := [], laidByText := true, laidKinds := [.data, .data, .data, .data, .pinned], laidTests := true, laidLooks := .later }
def ReductionsStepsUptoCardSaid : Prop := Claim7.holds Tryd.pinned (.plain (OpenSpec.upto reductionsStepsSpec)) reductionsStepsUptoCard

/-- THE SECOND FORM's CARD OF 'crimplaw12.FansMirror'. -/
def fansMirrorUptoCard : Claim7 := { stood := { row := fansMirrorUptoRow, standIns := [], harness := (true, "d7e330ed3d8542b5618e3872b63a9503b87c668c5df2027ad7db1cef99ba089f"), looks := false }, kinds := [], alts := [], laidByText := true, laidKinds := [.data, .data, .data, .data], laidTests := true, laidLooks := .later }
def FansMirrorUptoCardSaid : Prop := Claim7.holds Tryd.pinned (.plain (OpenSpec.upto fansMirrorSpec)) fansMirrorUptoCard

/-- THE SECOND FORM's CARD OF 'crimplaw12.FansTurn'. -/
def fansTurnUptoCard : Claim7 := { stood := { row := fansTurnUptoRow, standIns := [], harness := (true, "d7e330ed3d8542b5618e3872b63a9503b87c668c5df2027ad7db1cef99ba089f"), looks := false }, kinds := [], alts := [], laidByText := true, laidKinds := [.data, .data, .data, .data], laidTests := true, laidLooks := .later }
def FansTurnUptoCardSaid : Prop := Claim7.holds Tryd.pinned (.plain (OpenSpec.upto fansTurnSpec)) fansTurnUptoCard

/-- THE SECOND FORM's CARD OF 'crimplaw12.FansErrors'. -/
def fansErrorsUptoCard : Claim7 := { stood := { row := fansErrorsUptoRow, standIns := [], harness := (true, "d7e330ed3d8542b5618e3872b63a9503b87c668c5df2027ad7db1cef99ba089f"), looks := false }, kinds := [], alts := [], laidByText := true, laidKinds := [.data, .data, .data, .data], laidTests := true, laidLooks := .later }
def FansErrorsUptoCardSaid : Prop := Claim7.holds Tryd.pinned (.plain (OpenSpec.upto fansErrorsSpec)) fansErrorsUptoCard

/-- THE SECOND FORM's CARD OF 'crimplaw12.FansText'. -/
def fansTextUptoCard : Claim7 := { stood := { row := fansTextUptoRow, standIns := [], harness := (true, "d7e330ed3d8542b5618e3872b63a9503b87c668c5df2027ad7db1cef99ba089f"), looks := false }, kinds := [], alts := [], laidByText := true, laidKinds := [.data, .data, .data, .data, .data, .pinned], laidTests := true, laidLooks := .later }
def FansTextUptoCardSaid : Prop := Claim7.holds Tryd.pinned (.plain (OpenSpec.upto fansTextSpec)) fansTextUptoCard
end Rows
end Go.Proofs.YtfafinkgmhkdmaaDoor
