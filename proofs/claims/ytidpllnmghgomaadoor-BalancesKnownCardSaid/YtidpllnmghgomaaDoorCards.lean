/-
  DERIVED. GIVEN WITH THE SEED: THE CARDS: each row of YtidpllnmghgomaaDoorRows.lean that lists a variable, with what it lists TIED to the program's text (the seventh form; the later family's looks); each row that meets fmt, with fmt's text TOLD by the authors' own Lean function (tested against real Go, not proved from fmt's source: count such statements apart). THE CARD IS WHAT COUNTS. Prove the row's statement (the work); the ties are given (YtidpllnmghgomaaDoorTie.lean); close each card by the builder's one call (the guide's Derived/Test/ToyasCard.lean, 'card_holds'). Laid BY PROGRAM, IN A SANDBOX (cutbox-door.mjs). By AI agents, Wed Nov 11 2026. No macro, syntax, notation, axiom, sorry.
-/
import Derived.Test.YtidpllnmghgomaaDoorRows
import GoSem.ClaimSeven
namespace Go.Proofs.YtidpllnmghgomaaDoor
namespace Rows

/-- THE TIED CARD OF 'crimplaw13.BalancesRange'. -/
def balancesRangeCard : Claim7 := { stood := { row := balancesRangeRow, standIns := [], harness := (true, "b75fd487938ef52f7083a0b25c12f3297b54b38be86f7651f3167737e772b050"), looks := false }, kinds := [], alts := [], laidByText := true, laidKinds := [.data, .funcs, .pinned], laidTests := true, laidLooks := .later }
def BalancesRangeCardSaid : Prop := Claim7.holds Tryd.pinned (.plain (OpenSpec.ofChange balancesRangeSpec)) balancesRangeCard

/-- THE TIED CARD OF 'crimplaw13.BalancesSharp'. -/
def balancesSharpCard : Claim7 := { stood := { row := balancesSharpRow, standIns := [], harness := (true, "b75fd487938ef52f7083a0b25c12f3297b54b38be86f7651f3167737e772b050"), looks := false }, kinds := [], alts := [], laidByText := true, laidKinds := [.data, .funcs, .pinned], laidTests := true, laidLooks := .later }
def BalancesSharpCardSaid : Prop := Claim7.holds Tryd.pinned (.plain (OpenSpec.ofChange balancesSharpSpec)) balancesSharpCard

/-- THE TIED CARD OF 'crimplaw13.BalancesSums'. -/
def balancesSumsCard : Claim7 := { stood := { row := balancesSumsRow, standIns := [], harness := (true, "b75fd487938ef52f7083a0b25c12f3297b54b38be86f7651f3167737e772b050"), looks := false }, kinds := [], alts := [], laidByText := true, laidKinds := [.data, .funcs, .pinned], laidTests := true, laidLooks := .later }
def BalancesSumsCardSaid : Prop := Claim7.holds Tryd.pinned (.plain (OpenSpec.ofChange balancesSumsSpec)) balancesSumsCard

/-- THE TIED CARD OF 'crimplaw13.BalancesErrors'. -/
def balancesErrorsCard : Claim7 := { stood := { row := balancesErrorsRow, standIns := [], harness := (true, "b75fd487938ef52f7083a0b25c12f3297b54b38be86f7651f3167737e772b050"), looks := false }, kinds := [], alts := [], laidByText := true, laidKinds := [.data, .funcs, .pinned], laidTests := true, laidLooks := .later }
def BalancesErrorsCardSaid : Prop := Claim7.holds Tryd.pinned (.plain (OpenSpec.ofChange balancesErrorsSpec)) balancesErrorsCard

/-- THE TIED CARD OF 'crimplaw13.BalancesLacks'. -/
def balancesLacksCard : Claim7 := { stood := { row := balancesLacksRow, standIns := [], harness := (true, "b75fd487938ef52f7083a0b25c12f3297b54b38be86f7651f3167737e772b050"), looks := false }, kinds := [], alts := [], laidByText := true, laidKinds := [.data, .funcs, .pinned], laidTests := true, laidLooks := .later }
def BalancesLacksCardSaid : Prop := Claim7.holds Tryd.pinned (.plain (OpenSpec.ofChange balancesLacksSpec)) balancesLacksCard

/-- THE TIED CARD OF 'crimplaw13.BalancesKnown'. -/
def balancesKnownCard : Claim7 := { stood := { row := balancesKnownRow, standIns := [], harness := (true, "b75fd487938ef52f7083a0b25c12f3297b54b38be86f7651f3167737e772b050"), looks := false }, kinds := [], alts := [], laidByText := true, laidKinds := [.data, .funcs, .pinned], laidTests := true, laidLooks := .later }
def BalancesKnownCardSaid : Prop := Claim7.holds Tryd.pinned (.plain (OpenSpec.ofChange balancesKnownSpec)) balancesKnownCard

/-- THE SECOND FORM's CARD OF 'crimplaw13.BalancesRange'. -/
def balancesRangeUptoCard : Claim7 := { stood := { row := balancesRangeUptoRow, standIns := [], harness := (true, "b75fd487938ef52f7083a0b25c12f3297b54b38be86f7651f3167737e772b050"), looks := false }, kinds := [], alts := [], laidByText := true, laidKinds := [.data, .funcs, .pinned], laidTests := true, laidLooks := .later }
def BalancesRangeUptoCardSaid : Prop := Claim7.holds Tryd.pinned (.plain (OpenSpec.upto balancesRangeSpec)) balancesRangeUptoCard

/-- THE SECOND FORM's CARD OF 'crimplaw13.BalancesSharp'. -/
def balancesSharpUptoCard : Claim7 := { stood := { row := balancesSharpUptoRow, standIns := [], harness := (true, "b75fd487938ef52f7083a0b25c12f3297b54b38be86f7651f3167737e772b050"), looks := false }, kinds := [], alts := [], laidByText := true, laidKinds := [.data, .funcs, .pinned], laidTests := true, laidLooks := .later }
def BalancesSharpUptoCardSaid : Prop := Claim7.holds Tryd.pinned (.plain (OpenSpec.upto balancesSharpSpec)) balancesSharpUptoCard

/-- THE SECOND FORM's CARD OF 'crimplaw13.BalancesSums'. -/
def balancesSumsUptoCard : Claim7 := { stood := { row := balancesSumsUptoRow, standIns := [], harness := (true, "b75fd487938ef52f7083a0b25c12f3297b54b38be86f7651f3167737e772b050"), looks := false }, kinds := [], alts := [], laidByText := true, laidKinds := [.data, .funcs, .pinned], laidTests := true, laidLooks := .later }
def BalancesSumsUptoCardSaid : Prop := Claim7.holds Tryd.pinned (.plain (OpenSpec.upto balancesSumsSpec)) balancesSumsUptoCard

/-- THE SECOND FORM's CARD OF 'crimplaw13.BalancesErrors'. -/
def balancesErrorsUptoCard : Claim7 := { stood := { row := balancesErrorsUptoRow, standIns := [], harness := (true, "b75fd487938ef52f7083a0b25c12f3297b54b38be86f7651f3167737e772b050"), looks := false }, kinds := [], alts := [], laidByText := true, laidKinds := [.data, .funcs, .pinned], laidTests := true, laidLooks := .later }
def BalancesErrorsUptoCardSaid : Prop := Claim7.holds Tryd.pinned (.plain (OpenSpec.upto balancesErrorsSpec)) balancesErrorsUptoCard

/-- THE SECOND FORM's CARD OF 'crimplaw13.BalancesLacks'. -/
def balancesLacksUptoCard : Claim7 := { stood := { row := balancesLacksUptoRow, standIns := [], harness := (true, "b75fd487938ef52f7083a0b25c12f3297b54b38be86f7651f3167737e772b050"), looks := false }, kinds := [], alts := [], laidByText := true, laidKinds := [.data, .funcs, .pinned], laidTests := true, laidLooks := .later }
def BalancesLacksUptoCardSaid : Prop := Claim7.holds Tryd.pinned (.plain (OpenSpec.upto balancesLacksSpec)) balancesLacksUptoCard

/-- THE SECOND FORM's CARD OF 'crimplaw13.BalancesKnown'. -/
def balancesKnownUptoCard : Claim7 := { stood := { row := balancesKnownUptoRow, standIns := [], harness := (true, "b75fd487938ef52f7083a0b25c12f3297b54b38be86f7651f3167737e772b050"), looks := false }, kinds := [], alts := [], laidByText := true, laidKinds := [.data, .funcs, .pinned], laidTests := true, laidLooks := .later }
def BalancesKnownUptoCardSaid : Prop := Claim7.holds Tryd.pinned (.plain (OpenSpec.upto balancesKnownSpec)) balancesKnownUptoCard
end Rows
end Go.Proofs.YtidpllnmghgomaaDoor
