/-
  DERIVED. GIVEN WITH THE SEED: THE CARDS: each row of YtpkmnabefnhcfaaDoorRows.lean that lists a variable, with what it lists TIED to the program's text (the seventh form; the later family's looks); each row that meets fmt, with fmt's text TOLD by the authors' own Lean function (tested against real Go, not proved from fmt's source: count such statements apart). THE CARD IS WHAT COUNTS. Prove the row's statement (the work); the ties are given (YtpkmnabefnhcfaaDoorTie.lean); close each card by the builder's one call (the guide's Derived/Test/ToyasCard.lean, 'card_holds'). Laid BY PROGRAM, IN A SANDBOX (cutbox-door.mjs). By AI agents, Wed Nov 11 2026. No macro, syntax, notation, axiom, sorry.
-/
import Derived.Test.YtpkmnabefnhcfaaDoorRows
import GoSem.ClaimSeven
namespace Go.Proofs.YtpkmnabefnhcfaaDoor
namespace Rows

/-- THE TIED CARD OF 'crimplaw01.LinesSide'. -/
def linesSideCard : Claim7 := { stood := { row := linesSideRow, standIns := [], harness := (true, "b717215049f13c6222cc1595c421aad2e3e370035fc481f74673574e7dc1652a"), looks := false }, kinds := [], alts := [], laidByText := true, laidKinds := [.data, .data, .data], laidTests := true, laidLooks := .later }
def LinesSideCardSaid : Prop := Claim7.holds Tryd.pinned (.plain (OpenSpec.ofChange linesSideSpec)) linesSideCard

/-- THE TIED CARD OF 'crimplaw01.LinesReflect'. -/
def linesReflectCard : Claim7 := { stood := { row := linesReflectRow, standIns := [], harness := (true, "b717215049f13c6222cc1595c421aad2e3e370035fc481f74673574e7dc1652a"), looks := false }, kinds := [], alts := [], laidByText := true, laidKinds := [.data, .data, .data], laidTests := true, laidLooks := .later }
def LinesReflectCardSaid : Prop := Claim7.holds Tryd.pinned (.plain (OpenSpec.ofChange linesReflectSpec)) linesReflectCard

/-- THE TIED CARD OF 'crimplaw01.LinesImage'. -/
def linesImageCard : Claim7 := { stood := { row := linesImageRow, standIns := [], harness := (true, "b717215049f13c6222cc1595c421aad2e3e370035fc481f74673574e7dc1652a"), looks := false }, kinds := [], alts := [], laidByText := true, laidKinds := [.data, .data, .data], laidTests := true, laidLooks := .later }
def LinesImageCardSaid : Prop := Claim7.holds Tryd.pinned (.plain (OpenSpec.ofChange linesImageSpec)) linesImageCard

/-- THE TIED CARD OF 'crimplaw01.LinesMeet'. -/
def linesMeetCard : Claim7 := { stood := { row := linesMeetRow, standIns := [], harness := (true, "b717215049f13c6222cc1595c421aad2e3e370035fc481f74673574e7dc1652a"), looks := false }, kinds := [], alts := [], laidByText := true, laidKinds := [.data, .data, .data], laidTests := true, laidLooks := .later }
def LinesMeetCardSaid : Prop := Claim7.holds Tryd.pinned (.plain (OpenSpec.ofChange linesMeetSpec)) linesMeetCard

/-- THE TIED CARD OF 'crimplaw01.LinesThrough'. -/
def linesThroughCard : Claim7 := { stood := { row := linesThroughRow, standIns := [], harness := (true, "b717215049f13c6222cc1595c421aad2e3e370035fc481f74673574e7dc1652a"), looks := false }, kinds := [], alts := [], laidByText := true, laidKinds := [.data, .data, .data], laidTests := true, laidLooks := .later }
def LinesThroughCardSaid : Prop := Claim7.holds Tryd.pinned (.plain (OpenSpec.ofChange linesThroughSpec)) linesThroughCard

/-- THE TIED CARD OF 'crimplaw01.LinesTwice'. -/
def linesTwiceCard : Claim7 := { stood := { row := linesTwiceRow, standIns := [], harness := (true, "b717215049f13c6222cc1595c421aad2e3e370035fc481f74673574e7dc1652a"), looks := false }, kinds := [], alts := [], laidByText := true, laidKinds := [.data, .data, .data], laidTests := true, laidLooks := .later }
def LinesTwiceCardSaid : Prop := Claim7.holds Tryd.pinned (.plain (OpenSpec.ofChange linesTwiceSpec)) linesTwiceCard

/-- THE TIED CARD OF 'crimplaw01.LinesText'. -/
def linesTextCard : Claim7 := { stood := { row := linesTextRow, standIns := [], harness := (true, "b717215049f13c6222cc1595c421aad2e3e370035fc481f74673574e7dc1652a"), looks := false }, kinds := [], alts := [], laidByText := true, laidKinds := [.data, .data, .data], laidTests := true, laidLooks := .later }
def LinesTextCardSaid : Prop := Claim7.holds Tryd.pinned (.plain (OpenSpec.ofChange linesTextSpec)) linesTextCard

/-- THE TIED CARD OF 'crimplaw01.LinesKnown'. -/
def linesKnownCard : Claim7 := { stood := { row := linesKnownRow, standIns := [], harness := (true, "b717215049f13c6222cc1595c421aad2e3e370035fc481f74673574e7dc1652a"), looks := false }, kinds := [], alts := [], laidByText := true, laidKinds := [.data, .data, .data], laidTests := true, laidLooks := .later }
def LinesKnownCardSaid : Prop := Claim7.holds Tryd.pinned (.plain (OpenSpec.ofChange linesKnownSpec)) linesKnownCard

/-- THE SECOND FORM's CARD OF 'crimplaw01.LinesSide'. -/
def linesSideUptoCard : Claim7 := { stood := { row := linesSideUptoRow, standIns := [], harness := (true, "b717215049f13c6222cc1595c421aad2e3e370035fc481f74673574e7dc1652a"), looks := false }, kinds := [], alts := [], laidByText := true, laidKinds := [.data, .data, .data], laidTests := true, laidLooks := .later }
def LinesSideUptoCardSaid : Prop := Claim7.holds Tryd.pinned (.plain (OpenSpec.upto linesSideSpec)) linesSideUptoCard

/-- THE SECOND FORM's CARD OF 'crimplaw01.LinesReflect'. -/
def linesReflectUptoCard : Claim7 := { stood := { row := linesReflectUptoRow, standIns := [], harness := (true, "b717215049f13c6222cc1595c421aad2e3e370035fc481f74673574e7dc1652a"), looks := false }, kinds := [], alts := [], laidByText := true, laidKinds := [.data, .data, .data], laidTests := true, laidLooks := .later }
def LinesReflectUptoCardSaid : Prop := Claim7.holds Tryd.pinned (.plain (OpenSpec.upto linesReflectSpec)) linesReflectUptoCard

/-- THE SECOND FORM's CARD OF 'crimplaw01.LinesImage'. -/
def linesImageUptoCard : Claim7 := { stood := { row := linesImageUptoRow, standIns := [], harness := (true, "b717215049f13c6222cc1595c421aad2e3e370035fc481f74673574e7dc1652a"), looks := false }, kinds := [], alts := [], laidByText := true, laidKinds := [.data, .data, .data], laidTests := true, laidLooks := .later }
def LinesImageUptoCardSaid : Prop := Claim7.holds Tryd.pinned (.plain (OpenSpec.upto linesImageSpec)) linesImageUptoCard

/-- THE SECOND FORM's CARD OF 'crimplaw01.LinesMeet'. -/
def linesMeetUptoCard : Claim7 := { stood := { row := linesMeetUptoRow, standIns := [], harness := (true, "b717215049f13c6222cc1595c421aad2e3e370035fc481f74673574e7dc1652a"), looks := false }, kinds := [], alts := [], laidByText := true, laidKinds := [.data, .data, .data], laidTests := true, laidLooks := .later }
def LinesMeetUptoCardSaid : Prop := Claim7.holds Tryd.pinned (.plain (OpenSpec.upto linesMeetSpec)) linesMeetUptoCard

/-- THE SECOND FORM's CARD OF 'crimplaw01.LinesThrough'. -/
def linesThroughUptoCard : Claim7 := { stood := { row := linesThroughUptoRow, standIns := [], harness := (true, "b717215049f13c6222cc1595c421aad2e3e370035fc481f74673574e7dc1652a"), looks := false }, kinds := [], alts := [], laidByText := true, laidKinds := [.data, .data, .data], laidTests := true, laidLooks := .later }
def LinesThroughUptoCardSaid : Prop := Claim7.holds Tryd.pinned (.plain (OpenSpec.upto linesThroughSpec)) linesThroughUptoCard

/-- THE SECOND FORM's CARD OF 'crimplaw01.LinesTwice'. -/
def linesTwiceUptoCard : Claim7 := { stood := { row := linesTwiceUptoRow, standIns := [], harness := (true, "b717215049f13c6222cc1595c421aad2e3e370035fc481f74673574e7dc1652a"), looks := false }, kinds := [], alts := [], laidByText := true, laidKinds := [.data, .data, .data], laidTests := true, laidLooks := .later }
def LinesTwiceUptoCardSaid : Prop := Claim7.holds Tryd.pinned (.plain (OpenSpec.upto linesTwiceSpec)) linesTwiceUptoCard

/-- THE SECOND FORM's CARD OF 'crimplaw01.LinesText'. -/
def linesTextUptoCard : Claim7 := { stood := { row := linesTextUptoRow, standIns := [], harness := (true, "b717215049f13c6222cc1595c421aad2e3e370035fc481f74673574e7dc1652a"), looks := false }, kinds := [], alts := [], laidByText := true, laidKinds := [.data, .data, .data], laidTests := true, laidLooks := .later }
def LinesTextUptoCardSaid : Prop := Claim7.holds Tryd.pinned (.plain (OpenSpec.upto linesTextSpec)) linesTextUptoCard

/-- THE SECOND FORM's CARD OF 'crimplaw01.LinesKnown'. -/
def linesKnownUptoCard : Claim7 := { stood := { row := linesKnownUptoRow, standIns := [], harness := (true, "b717215049f13c6222cc1595c421aad2e3e370035fc481f74673574e7dc1652a"), looks := false }, kinds := [], alts := [], laidByText := true, laidKinds := [.data, .data, .data], laidTests := true, laidLooks := .later }
def LinesKnownUptoCardSaid : Prop := Claim7.holds Tryd.pinned (.plain (OpenSpec.upto linesKnownSpec)) linesKnownUptoCard
end Rows
end Go.Proofs.YtpkmnabefnhcfaaDoor
