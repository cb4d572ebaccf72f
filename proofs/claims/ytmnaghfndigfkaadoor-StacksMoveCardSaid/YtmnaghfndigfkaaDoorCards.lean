/-
  DERIVED. GIVEN WITH THE SEED: THE CARDS: each row of YtmnaghfndigfkaaDoorRows.lean that lists a variable, with what it lists TIED to the program's text (the seventh form; the later family's looks); each row that meets fmt, with fmt's text TOLD by the authors' own Lean function (tested against real Go, not proved from fmt's source: count such statements apart). THE CARD IS WHAT COUNTS. Prove the row's statement (the work); the ties are given (YtmnaghfndigfkaaDoorTie.lean); close each card by the builder's one call (the guide's Derived/Test/ToyasCard.lean, 'card_holds'). Laid BY PROGRAM, IN A SANDBOX (cutbox-door.mjs). By AI agents, Wed Nov 11 2026. No macro, syntax, notation, axiom, sorry.
-/
import Derived.Test.YtmnaghfndigfkaaDoorRows
import GoSem.ClaimSeven
namespace Go.Proofs.YtmnaghfndigfkaaDoor
namespace Rows

/-- THE TIED CARD OF 'crimplaw23.StacksAt'. -/
def stacksAtCard : Claim7 := { stood := { row := stacksAtRow, standIns := [], harness := (true, "78af1729131fee05db09ed4775e4bfeca396db3e7839ff9f7421e921086210c6"), looks := false }, kinds := [], alts := [], laidByText := true, laidKinds := [.data], laidTests := true, laidLooks := .later }
def StacksAtCardSaid : Prop := Claim7.holds Tryd.pinned (.plain (OpenSpec.ofChange stacksAtSpec)) stacksAtCard

/-- THE TIED CARD OF 'crimplaw23.StacksSplit'. -/
def stacksSplitCard : Claim7 := { stood := { row := stacksSplitRow, standIns := [], harness := (true, "78af1729131fee05db09ed4775e4bfeca396db3e7839ff9f7421e921086210c6"), looks := false }, kinds := [], alts := [], laidByText := true, laidKinds := [.data], laidTests := true, laidLooks := .later }
def StacksSplitCardSaid : Prop := Claim7.holds Tryd.pinned (.plain (OpenSpec.ofChange stacksSplitSpec)) stacksSplitCard

/-- THE TIED CARD OF 'crimplaw23.StacksSame'. -/
def stacksSameCard : Claim7 := { stood := { row := stacksSameRow, standIns := [], harness := (true, "78af1729131fee05db09ed4775e4bfeca396db3e7839ff9f7421e921086210c6"), looks := false }, kinds := [], alts := [], laidByText := true, laidKinds := [.data], laidTests := true, laidLooks := .later }
def StacksSameCardSaid : Prop := Claim7.holds Tryd.pinned (.plain (OpenSpec.ofChange stacksSameSpec)) stacksSameCard

/-- THE TIED CARD OF 'crimplaw23.StacksCheck'. -/
def stacksCheckCard : Claim7 := { stood := { row := stacksCheckRow, standIns := [], harness := (true, "78af1729131fee05db09ed4775e4bfeca396db3e7839ff9f7421e921086210c6"), looks := false }, kinds := [], alts := [], laidByText := true, laidKinds := [.data], laidTests := true, laidLooks := .later }
def StacksCheckCardSaid : Prop := Claim7.holds Tryd.pinned (.plain (OpenSpec.ofChange stacksCheckSpec)) stacksCheckCard

/-- THE TIED CARD OF 'crimplaw04.SetsMerge'. -/
def setsMergeCard : Claim7 := { stood := { row := setsMergeRow, standIns := [], harness := (true, "78af1729131fee05db09ed4775e4bfeca396db3e7839ff9f7421e921086210c6"), looks := false }, kinds := [], alts := [], laidByText := true, laidKinds := [.wider, .data], laidTests := true, laidLooks := .later }
def SetsMergeCardSaid : Prop := Claim7.holds Tryd.pinned (.plain (OpenSpec.ofChange setsMergeSpec)) setsMergeCard

/-- THE TIED CARD OF 'crimplaw04.SetsAssociate'. -/
def setsAssociateCard : Claim7 := { stood := { row := setsAssociateRow, standIns := [], harness := (true, "78af1729131fee05db09ed4775e4bfeca396db3e7839ff9f7421e921086210c6"), looks := false }, kinds := [], alts := [], laidByText := true, laidKinds := [.wider, .data], laidTests := true, laidLooks := .later }
def SetsAssociateCardSaid : Prop := Claim7.holds Tryd.pinned (.plain (OpenSpec.ofChange setsAssociateSpec)) setsAssociateCard

/-- THE TIED CARD OF 'crimplaw04.SetsMove'. -/
def setsMoveCard : Claim7 := { stood := { row := setsMoveRow, standIns := [], harness := (true, "78af1729131fee05db09ed4775e4bfeca396db3e7839ff9f7421e921086210c6"), looks := false }, kinds := [], alts := [], laidByText := true, laidKinds := [.wider, .data], laidTests := true, laidLooks := .later }
def SetsMoveCardSaid : Prop := Claim7.holds Tryd.pinned (.plain (OpenSpec.ofChange setsMoveSpec)) setsMoveCard

/-- THE TIED CARD OF 'crimplaw04.SetsShape'. -/
def setsShapeCard : Claim7 := { stood := { row := setsShapeRow, standIns := [], harness := (true, "78af1729131fee05db09ed4775e4bfeca396db3e7839ff9f7421e921086210c6"), looks := false }, kinds := [], alts := [], laidByText := true, laidKinds := [.wider, .data], laidTests := true, laidLooks := .later }
def SetsShapeCardSaid : Prop := Claim7.holds Tryd.pinned (.plain (OpenSpec.ofChange setsShapeSpec)) setsShapeCard

/-- THE TIED CARD OF 'crimplaw04.SetsText'. -/
def setsTextCard : Claim7 := { stood := { row := setsTextRow, standIns := [], harness := (true, "78af1729131fee05db09ed4775e4bfeca396db3e7839ff9f7421e921086210c6"), looks := false }, kinds := [], alts := [], laidByText := true, laidKinds := [.wider, .data], laidTests := true, laidLooks := .later }
def SetsTextCardSaid : Prop := Claim7.holds Tryd.pinned (.plain (OpenSpec.ofChange setsTextSpec)) setsTextCard

/-- THE TIED CARD OF 'crimplaw04.SetsErrors'. -/
def setsErrorsCard : Claim7 := { stood := { row := setsErrorsRow, standIns := [], harness := (true, "78af1729131fee05db09ed4775e4bfeca396db3e7839ff9f7421e921086210c6"), looks := false }, kinds := [], alts := [], laidByText := true, laidKinds := [.wider, .data], laidTests := true, laidLooks := .later }
def SetsErrorsCardSaid : Prop := Claim7.holds Tryd.pinned (.plain (OpenSpec.ofChange setsErrorsSpec)) setsErrorsCard

/-- THE TIED CARD OF 'crimplaw23.StacksMove'. -/
def stacksMoveCard : Claim7 := { stood := { row := stacksMoveRow, standIns := [], harness := (true, "78af1729131fee05db09ed4775e4bfeca396db3e7839ff9f7421e921086210c6"), looks := false }, kinds := [], alts := [], laidByText := true, laidKinds := [.wider, .data], laidTests := true, laidLooks := .later }
def StacksMoveCardSaid : Prop := Claim7.holds Tryd.pinned (.plain (OpenSpec.ofChange stacksMoveSpec)) stacksMoveCard

/-- THE TIED CARD OF 'crimplaw04.SetsOf'. -/
def setsOfCard : Claim7 := { stood := { row := setsOfRow, standIns := [], harness := (true, "78af1729131fee05db09ed4775e4bfeca396db3e7839ff9f7421e921086210c6"), looks := false }, kinds := [], alts := [], laidByText := true, laidKinds := [.wider, .data], laidTests := true, laidLooks := .later }
def SetsOfCardSaid : Prop := Claim7.holds Tryd.pinned (.plain (OpenSpec.ofChange setsOfSpec)) setsOfCard

/-- THE SECOND FORM's CARD OF 'crimplaw23.StacksAt'. -/
def stacksAtUptoCard : Claim7 := { stood := { row := stacksAtUptoRow, standIns := [], harness := (true, "78af1729131fee05db09ed4775e4bfeca396db3e7839ff9f7421e921086210c6"), looks := false }, kinds := [], alts := [], laidByText := true, laidKinds := [.data], laidTests := true, laidLooks := .later }
def StacksAtUptoCardSaid : Prop := Claim7.holds Tryd.pinned (.plain (OpenSpec.upto stacksAtSpec)) stacksAtUptoCard

/-- THE SECOND FORM's CARD OF 'crimplaw23.StacksSplit'. -/
def stacksSplitUptoCard : Claim7 := { stood := { row := stacksSplitUptoRow, standIns := [], harness := (true, "78af1729131fee05db09ed4775e4bfeca396db3e7839ff9f7421e921086210c6"), looks := false }, kinds := [], alts := [], laidByText := true, laidKinds := [.data], laidTests := true, laidLooks := .later }
def StacksSplitUptoCardSaid : Prop := Claim7.holds Tryd.pinned (.plain (OpenSpec.upto stacksSplitSpec)) stacksSplitUptoCard

/-- THE SECOND FORM's CARD OF 'crimplaw23.StacksSame'. -/
def stacksSameUptoCard : Claim7 := { stood := { row := stacksSameUptoRow, standIns := [], harness := (true, "78af1729131fee05db09ed4775e4bfeca396db3e7839ff9f7421e921086210c6"), looks := false }, kinds := [], alts := [], laidByText := true, laidKinds := [.data], laidTests := true, laidLooks := .later }
def StacksSameUptoCardSaid : Prop := Claim7.holds Tryd.pinned (.plain (OpenSpec.upto stacksSameSpec)) stacksSameUptoCard

/-- THE SECOND FORM's CARD OF 'crimplaw23.StacksCheck'. -/
def stacksCheckUptoCard : Claim7 := { stood := { row := stacksCheckUptoRow, standIns := [], harness := (true, "78af1729131fee05db09ed4775e4bfeca396db3e7839ff9f7421e921086210c6"), looks := false }, kinds := [], alts := [], laidByText := true, laidKinds := [.data], laidTests := true, laidLooks := .later }
def StacksCheckUptoCardSaid : Prop := Claim7.holds Tryd.pinned (.plain (OpenSpec.upto stacksCheckSpec)) stacksCheckUptoCard

/-- THE SECOND FORM's CARD OF 'crimplaw04.SetsMerge'. -/
def setsMergeUptoCard : Claim7 := { stood := { row := setsMergeUptoRow, standIns := [], harness := (true, "78af1729131fee05db09ed4775e4bfeca396db3e7839ff9f7421e921086210c6"), looks := false }, kinds := [], alts := [], laidByText := true, laidKinds := [.wider, .data], laidTests := true, laidLooks := .later }
def SetsMergeUptoCardSaid : Prop := Claim7.holds Tryd.pinned (.plain (OpenSpec.upto setsMergeSpec)) setsMergeUptoCard

/-- THE SECOND FORM's CARD OF 'crimplaw04.SetsAssociate'. -/
def setsAssociateUptoCard : Claim7 := { stood := { row := setsAssociateUptoRow, standIns := [], harness := (true, "78af1729131fee05db09ed4775e4bfeca396db3e7839ff9f7421e921086210c6"), looks := false }, kinds := [], alts := [], laidByText := true, laidKinds := [.wider, .data], laidTests := true, laidLooks := .later }
def SetsAssociateUptoCardSaid : Prop := Claim7.holds Tryd.pinned (.plain (OpenSpec.upto setsAssociateSpec)) setsAssociateUptoCard

/-- THE SECOND FORM's CARD OF 'crimplaw04.SetsMove'. -/
def setsMoveUptoCard : Claim7 := { stood := { row := setsMoveUptoRow, standIns := [], harness := (true, "78af1729131fee05db09ed4775e4bfeca396db3e7839ff9f7421e921086210c6"), looks := false }, kinds := [], alts := [], laidByText := true, laidKinds := [.wider, .data], laidTests := true, laidLooks := .later }
def SetsMoveUptoCardSaid : Prop := Claim7.holds Tryd.pinned (.plain (OpenSpec.upto setsMoveSpec)) setsMoveUptoCard

/-- THE SECOND FORM's CARD OF 'crimplaw04.SetsShape'. -/
def setsShapeUptoCard : Claim7 := { stood := { row := setsShapeUptoRow, standIns := [], harness := (true, "78af1729131fee05db09ed4775e4bfeca396db3e7839ff9f7421e921086210c6"), looks := false }, kinds := [], alts := [], laidByText := true, laidKinds := [.wider, .data], laidTests := true, laidLooks := .later }
def SetsShapeUptoCardSaid : Prop := Claim7.holds Tryd.pinned (.plain (OpenSpec.upto setsShapeSpec)) setsShapeUptoCard

/-- THE SECOND FORM's CARD OF 'crimplaw04.SetsText'. -/
def setsTextUptoCard : Claim7 := { stood := { row := setsTextUptoRow, standIns := [], harness := (true, "78af1729131fee05db09ed4775e4bfeca396db3e7839ff9f7421e921086210c6"), looks := false }, kinds := [], alts := [], laidByText := true, laidKinds := [.wider, .data], laidTests := true, laidLooks := .later }
def SetsTextUptoCardSaid : Prop := Claim7.holds Tryd.pinned (.plain (OpenSpec.upto setsTextSpec)) setsTextUptoCard

/-- THE SECOND FORM's CARD OF 'crimplaw04.SetsErrors'. -/
def setsErrorsUptoCard : Claim7 := { stood := { row := setsErrorsUptoRow, standIns := [], harness := (true, "78af1729131fee05db09ed4775e4bfeca396db3e7839ff9f7421e921086210c6"), looks := false }, kinds := [], alts := [], laidByText := true, laidKinds := [.wider, .data], laidTests := true, laidLooks := .later }
def SetsErrorsUptoCardSaid : Prop := Claim7.holds Tryd.pinned (.plain (OpenSpec.upto setsErrorsSpec)) setsErrorsUptoCard

/-- THE SECOND FORM's CARD OF 'crimplaw23.StacksMove'. -/
def stacksMoveUptoCard : Claim7 := { stood := { row := stacksMoveUptoRow, standIns := [], harness := (true, "78af1729131fee05db09ed4775e4bfeca396db3e7839ff9f7421e921086210c6"), looks := false }, kinds := [], alts := [], laidByText := true, laidKinds := [.wider, .data], laidTests := true, laidLooks := .later }
def StacksMoveUptoCardSaid : Prop := Claim7.holds Tryd.pinned (.plain (OpenSpec.upto stacksMoveSpec)) stacksMoveUptoCard

/-- THE SECOND FORM's CARD OF 'crimplaw04.SetsOf'. -/
def setsOfUptoCard : Claim7 := { stood := { row := setsOfUptoRow, standIns := [], harness := (true, "78af1729131fee05db09ed4775e4bfeca396db3e7839ff9f7421e921086210c6"), looks := false }, kinds := [], alts := [], laidByText := true, laidKinds := [.wider, .data], laidTests := true, laidLooks := .later }
def SetsOfUptoCardSaid : Prop := Claim7.holds Tryd.pinned (.plain (OpenSpec.upto setsOfSpec)) setsOfUptoCard
end Rows
end Go.Proofs.YtmnaghfndigfkaaDoor
