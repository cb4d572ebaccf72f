/-
  NARROWER THAN 'FOR EVERY INPUT', by the rows' own cells (each row's printed sentence says how): BalancesRange: laid · BalancesSharp: laid · BalancesSums: laid · BalancesErrors: laid · BalancesLacks: laid · BalancesKnown: laid.
  DERIVED. THE GIVEN ROWS OF THIS SEAT. 6 by the template 'for every input the law returns true; each argument reads behind the call as it read before'; 0 by the template 'total and deterministic' (their statements: YtidpllnmghgomaaDoorTotals.lean).
  GIVEN WITH THE SEED: the statements are not yours to turn. If you find one false, say at which input.
  Laid BY PROGRAM, IN A SANDBOX (cutbox-rows.mjs): the forced cells as the released guide's own fill.sh prints them over the translation b7a397d5efafa307… (all of the seat's roots in one cut). By AI agents, Wed Nov 11 2026. No macro, syntax, notation, axiom, sorry.
-/
import Derived.Test.YtidpllnmghgomaaDoorChecked
import GoSem.PinnedTables
import GoSem.Claim
import GoSem.ClaimJoined
import GoSem.ClaimMapViews
import Derived.JoinedTies
import Derived.KernelRfl
namespace Go.Proofs.YtidpllnmghgomaaDoor
/- THE CELL 'sum', in the pinned program and in every row, IS THE sha256 OF THE DUMP (.gsa) THAT YtidpllnmghgomaaDoorProg.lean LOADS. Nothing in Lean hashes anything: it is a label: what it is worth is what the hold of that sum in a sandbox is worth. -/
noncomputable def Tryd.pinned : Pinned := { name := "ytidpllnmghgomaadoor", sum := "b7a397d5efafa307a32f8b805c9a3674971b295b1a0f48da4e9afc58cebb9e87", checked := Tryd.checked }
namespace Rows
def none {H : Type} : Left H := { results := [], args := [] }

/- WHAT THE LISTED PACKAGE-LEVEL VARIABLES READ AS WHEN THE CALL BEGINS. Each datum BY PROGRAM (the guide's laid-datum.mjs) off the statement by which the dump's own 'gosem.cut.vars' lays the variable. In a bare row this is a premise. The card (YtidpllnmghgomaaDoorCards.lean) ties it to the program's text. -/
def laid_unicode_utf8_acceptRanges {H : Type} : DataW H := .agg [.agg [.lit (.int .u8 128), .lit (.int .u8 191)], .agg [.lit (.int .u8 160), .lit (.int .u8 191)], .agg [.lit (.int .u8 128), .lit (.int .u8 159)], .agg [.lit (.int .u8 144), .lit (.int .u8 191)], .agg [.lit (.int .u8 128), .lit (.int .u8 143)], .agg [.lit (.int .u8 0), .lit (.int .u8 0)], .agg [.lit (.int .u8 0), .lit (.int .u8 0)], .agg [.lit (.int .u8 0), .lit (.int .u8 0)], .agg [.lit (.int .u8 0), .lit (.int .u8 0)], .agg [.lit (.int .u8 0), .lit (.int .u8 0)], .agg [.lit (.int .u8 0), .lit (.int .u8 0)], .agg [.lit (.int .u8 0), .lit (.int .u8 0)], .agg [.lit (.int .u8 0), .lit (.int .u8 0)], .agg [.lit (.int .u8 0), .lit (.int .u8 0)], .agg [.lit (.int .u8 0), .lit (.int .u8 0)], .agg [.lit (.int .u8 0), .lit (.int .u8 0)]]
def laid_crimp_balances_lacks {H : Type} : DataW H := .iface "func table" (.agg [.iface "func" (.lit (.string [99, 114, 105, 109, 112, 47, 98, 97, 108, 97, 110, 99, 101, 115, 46, 108, 97, 99, 107, 115, 36, 49])), .iface "func" (.lit (.string [99, 114, 105, 109, 112, 47, 98, 97, 108, 97, 110, 99, 101, 115, 46, 111, 100, 100])), .iface "func" (.lit (.string [99, 114, 105, 109, 112, 47, 98, 97, 108, 97, 110, 99, 101, 115, 46, 117, 110, 101, 118, 101, 110])), .iface "func" (.lit (.string [99, 114, 105, 109, 112, 47, 98, 97, 108, 97, 110, 99, 101, 115, 46, 117, 110, 98, 97, 108, 97, 110, 99, 101, 100])), .iface "func" (.lit (.string [99, 114, 105, 109, 112, 47, 98, 97, 108, 97, 110, 99, 101, 115, 46, 112, 111, 105, 110, 116, 101, 100]))])
/-- One of Go's own tables, pinned by name: the form's constant. -/
def laid_unicode_utf8_first : DataW Unit := Go.Pinned.utf8First

/-- 'crimplaw13.BalancesRange': WHATEVER THE INPUT: true; the input reads as it did. -/
def balancesRangeSpec : ChangeSpec := { name := "balancesRange", fn := fun _ => fun
  | [d] => { results := [.lit (.bool true)], args := [d] }
  | _ => none }
def balancesRangeRow : OpenClaim := { program := "ytidpllnmghgomaadoor", sum := "b7a397d5efafa307a32f8b805c9a3674971b295b1a0f48da4e9afc58cebb9e87", func := "crimp/crimplaw13.BalancesRange", spec := "balancesRange", inPlace := ["internal/bytealg.CountString", "internal/bytealg.IndexByteString", "internal/bytealg.IndexString"], unfollowed := true, recurses := true, named := ["unicode/utf8.first", "unicode/utf8.acceptRanges", "internal/bytealg.MaxLen", "crimp/balances.lacks"], apart := false, laid := [("unicode/utf8.acceptRanges", laid_unicode_utf8_acceptRanges), ("crimp/balances.lacks", laid_crimp_balances_lacks), ("unicode/utf8.first", laid_unicode_utf8_first)] }
def BalancesRangeSaid : Prop := balancesRangeRow.holds Tryd.pinned (OpenSpec.ofChange balancesRangeSpec)

/-- ITS FALSE NEIGHBOUR: 'it returns false'. Refute it at one input. -/
def balancesRangeWrong : ChangeSpec := { name := "balancesRange", fn := fun _ => fun
  | [d] => { results := [.lit (.bool false)], args := [d] }
  | _ => none }
def BalancesRangeWrongFalsely : Prop := balancesRangeRow.holds Tryd.pinned (OpenSpec.ofChange balancesRangeWrong)

/-- 'crimplaw13.BalancesSharp': WHATEVER THE INPUT: true; the input reads as it did. -/
def balancesSharpSpec : ChangeSpec := { name := "balancesSharp", fn := fun _ => fun
  | [d] => { results := [.lit (.bool true)], args := [d] }
  | _ => none }
def balancesSharpRow : OpenClaim := { program := "ytidpllnmghgomaadoor", sum := "b7a397d5efafa307a32f8b805c9a3674971b295b1a0f48da4e9afc58cebb9e87", func := "crimp/crimplaw13.BalancesSharp", spec := "balancesSharp", inPlace := ["internal/bytealg.CountString", "internal/bytealg.IndexByteString", "internal/bytealg.IndexString"], unfollowed := true, recurses := true, named := ["unicode/utf8.first", "unicode/utf8.acceptRanges", "internal/bytealg.MaxLen", "crimp/balances.lacks"], apart := false, laid := [("unicode/utf8.acceptRanges", laid_unicode_utf8_acceptRanges), ("crimp/balances.lacks", laid_crimp_balances_lacks), ("unicode/utf8.first", laid_unicode_utf8_first)] }
def BalancesSharpSaid : Prop := balancesSharpRow.holds Tryd.pinned (OpenSpec.ofChange balancesSharpSpec)

/-- ITS FALSE NEIGHBOUR: 'it returns false'. Refute it at one input. -/
def balancesSharpWrong : ChangeSpec := { name := "balancesSharp", fn := fun _ => fun
  | [d] => { results := [.lit (.bool false)], args := [d] }
  | _ => none }
def BalancesSharpWrongFalsely : Prop := balancesSharpRow.holds Tryd.pinned (OpenSpec.ofChange balancesSharpWrong)

/-- 'crimplaw13.BalancesSums': WHATEVER THE INPUT: true; the input reads as it did. -/
def balancesSumsSpec : ChangeSpec := { name := "balancesSums", fn := fun _ => fun
  | [d] => { results := [.lit (.bool true)], args := [d] }
  | _ => none }
def balancesSumsRow : OpenClaim := { program := "ytidpllnmghgomaadoor", sum := "b7a397d5efafa307a32f8b805c9a3674971b295b1a0f48da4e9afc58cebb9e87", func := "crimp/crimplaw13.BalancesSums", spec := "balancesSums", inPlace := ["internal/bytealg.CountString", "internal/bytealg.IndexByteString", "internal/bytealg.IndexString"], unfollowed := true, recurses := true, named := ["unicode/utf8.first", "unicode/utf8.acceptRanges", "internal/bytealg.MaxLen", "crimp/balances.lacks"], apart := false, laid := [("unicode/utf8.acceptRanges", laid_unicode_utf8_acceptRanges), ("crimp/balances.lacks", laid_crimp_balances_lacks), ("unicode/utf8.first", laid_unicode_utf8_first)] }
def BalancesSumsSaid : Prop := balancesSumsRow.holds Tryd.pinned (OpenSpec.ofChange balancesSumsSpec)

/-- ITS FALSE NEIGHBOUR: 'it returns false'. Refute it at one input. -/
def balancesSumsWrong : ChangeSpec := { name := "balancesSums", fn := fun _ => fun
  | [d] => { results := [.lit (.bool false)], args := [d] }
  | _ => none }
def BalancesSumsWrongFalsely : Prop := balancesSumsRow.holds Tryd.pinned (OpenSpec.ofChange balancesSumsWrong)

/-- 'crimplaw13.BalancesErrors': WHATEVER THE INPUT: true; the input reads as it did. -/
def balancesErrorsSpec : ChangeSpec := { name := "balancesErrors", fn := fun _ => fun
  | [d] => { results := [.lit (.bool true)], args := [d] }
  | _ => none }
def balancesErrorsRow : OpenClaim := { program := "ytidpllnmghgomaadoor", sum := "b7a397d5efafa307a32f8b805c9a3674971b295b1a0f48da4e9afc58cebb9e87", func := "crimp/crimplaw13.BalancesErrors", spec := "balancesErrors", inPlace := ["internal/bytealg.CountString", "internal/bytealg.IndexByteString", "internal/bytealg.IndexString"], unfollowed := true, recurses := true, named := ["unicode/utf8.first", "unicode/utf8.acceptRanges", "internal/bytealg.MaxLen", "crimp/balances.lacks"], apart := false, laid := [("unicode/utf8.acceptRanges", laid_unicode_utf8_acceptRanges), ("crimp/balances.lacks", laid_crimp_balances_lacks), ("unicode/utf8.first", laid_unicode_utf8_first)] }
def BalancesErrorsSaid : Prop := balancesErrorsRow.holds Tryd.pinned (OpenSpec.ofChange balancesErrorsSpec)

/-- ITS FALSE NEIGHBOUR: 'it returns false'. Refute it at one input. -/
def balancesErrorsWrong : ChangeSpec := { name := "balancesErrors", fn := fun _ => fun
  | [d] => { results := [.lit (.bool false)], args := [d] }
  | _ => none }
def BalancesErrorsWrongFalsely : Prop := balancesErrorsRow.holds Tryd.pinned (OpenSpec.ofChange balancesErrorsWrong)

/-- 'crimplaw13.BalancesLacks': WHATEVER THE INPUT: true; the input reads as it did. -/
def balancesLacksSpec : ChangeSpec := { name := "balancesLacks", fn := fun _ => fun
  | [d1, d2] => { results := [.lit (.bool true)], args := [d1, d2] }
  | _ => none }
def balancesLacksRow : OpenClaim := { program := "ytidpllnmghgomaadoor", sum := "b7a397d5efafa307a32f8b805c9a3674971b295b1a0f48da4e9afc58cebb9e87", func := "crimp/crimplaw13.BalancesLacks", spec := "balancesLacks", inPlace := ["internal/bytealg.CountString", "internal/bytealg.IndexByteString", "internal/bytealg.IndexString"], unfollowed := true, recurses := true, named := ["crimp/balances.lacks", "unicode/utf8.first", "unicode/utf8.acceptRanges", "internal/bytealg.MaxLen"], apart := false, laid := [("unicode/utf8.acceptRanges", laid_unicode_utf8_acceptRanges), ("crimp/balances.lacks", laid_crimp_balances_lacks), ("unicode/utf8.first", laid_unicode_utf8_first)] }
def BalancesLacksSaid : Prop := balancesLacksRow.holds Tryd.pinned (OpenSpec.ofChange balancesLacksSpec)

/-- ITS FALSE NEIGHBOUR: 'it returns false'. Refute it at one input. -/
def balancesLacksWrong : ChangeSpec := { name := "balancesLacks", fn := fun _ => fun
  | [d1, d2] => { results := [.lit (.bool false)], args := [d1, d2] }
  | _ => none }
def BalancesLacksWrongFalsely : Prop := balancesLacksRow.holds Tryd.pinned (OpenSpec.ofChange balancesLacksWrong)

/-- 'crimplaw13.BalancesKnown': WHATEVER THE INPUT: true; the input reads as it did. -/
def balancesKnownSpec : ChangeSpec := { name := "balancesKnown", fn := fun _ => fun
  | [] => { results := [.lit (.bool true)], args := [] }
  | _ => none }
def balancesKnownRow : OpenClaim := { program := "ytidpllnmghgomaadoor", sum := "b7a397d5efafa307a32f8b805c9a3674971b295b1a0f48da4e9afc58cebb9e87", func := "crimp/crimplaw13.BalancesKnown", spec := "balancesKnown", inPlace := ["internal/bytealg.CountString", "internal/bytealg.IndexByteString", "internal/bytealg.IndexString"], unfollowed := true, recurses := true, named := ["unicode/utf8.first", "unicode/utf8.acceptRanges", "internal/bytealg.MaxLen", "crimp/balances.lacks"], apart := false, laid := [("unicode/utf8.acceptRanges", laid_unicode_utf8_acceptRanges), ("crimp/balances.lacks", laid_crimp_balances_lacks), ("unicode/utf8.first", laid_unicode_utf8_first)] }
def BalancesKnownSaid : Prop := balancesKnownRow.holds Tryd.pinned (OpenSpec.ofChange balancesKnownSpec)

/-- ITS FALSE NEIGHBOUR: 'it returns false'. Refute it at one input. -/
def balancesKnownWrong : ChangeSpec := { name := "balancesKnown", fn := fun _ => fun
  | [] => { results := [.lit (.bool false)], args := [] }
  | _ => none }
def BalancesKnownWrongFalsely : Prop := balancesKnownRow.holds Tryd.pinned (OpenSpec.ofChange balancesKnownWrong)

/- THE SECOND FORM. 'bulk': how many values and letters a reading holds, each counted each time it is reached (what is shared counts as often as it is met; a slice's spare places count too). A statement '..UptoSaid' is the law's where the arguments, and the package variables that the reading takes, are together of bulk at most 1048576: NARROWER than '..Said'. Prove '..Said' where nothing that the law and all that it calls make is longer than what came in: it says more and counts as full. Else prove '..UptoSaid'. A law counts once. -/
mutual
def uptoBulk {H : Type} : DataW H → Nat
  | .lit (.string bytes) => bytes.length + 1
  | .lit _ => 1
  | .nil => 1
  | .ptr d => uptoBulk d + 1
  | .slice elems spare => uptoBulkAll elems + uptoBulkAll spare + 1
  | .agg parts => uptoBulkAll parts + 1
  | .iface _ d => uptoBulk d + 1
  | .map entries => uptoBulkEntries entries + 1
  | .held _ => 1
def uptoBulkAll {H : Type} : List (DataW H) → Nat
  | [] => 0
  | d :: r => uptoBulk d + uptoBulkAll r
def uptoBulkEntries {H : Type} : List (Lit × DataW H) → Nat
  | [] => 0
  | x :: r => uptoBulkEntry x + uptoBulkEntries r
def uptoBulkEntry {H : Type} : Lit × DataW H → Nat
  | (.string bytes, d) => bytes.length + uptoBulk d + 1
  | (_, d) => uptoBulk d + 1
 end
def uptoSmall : (H : Type) → List (DataW H) → Bool := fun _ ds => decide (uptoBulkAll ds ≤ 1048576)
def OpenSpec.upto (s : _root_.Go.ChangeSpec) : _root_.Go.OpenSpec := { _root_.Go.OpenSpec.ofChange s with cond := some uptoSmall }

/-- 'crimplaw13.BalancesRange', WHERE WHAT IT READS IS OF BULK AT MOST 1048576: true; the input reads as it did. -/
def balancesRangeUptoRow : OpenClaim := { program := "ytidpllnmghgomaadoor", sum := "b7a397d5efafa307a32f8b805c9a3674971b295b1a0f48da4e9afc58cebb9e87", func := "crimp/crimplaw13.BalancesRange", spec := "balancesRange", inPlace := ["internal/bytealg.CountString", "internal/bytealg.IndexByteString", "internal/bytealg.IndexString"], unfollowed := true, recurses := true, named := ["unicode/utf8.first", "unicode/utf8.acceptRanges", "internal/bytealg.MaxLen", "crimp/balances.lacks"], apart := false, laid := [("unicode/utf8.acceptRanges", laid_unicode_utf8_acceptRanges), ("crimp/balances.lacks", laid_crimp_balances_lacks), ("unicode/utf8.first", laid_unicode_utf8_first)], narrowed := true }
def BalancesRangeUptoSaid : Prop := balancesRangeUptoRow.holds Tryd.pinned (OpenSpec.upto balancesRangeSpec)

/-- 'crimplaw13.BalancesSharp', WHERE WHAT IT READS IS OF BULK AT MOST 1048576: true; the input reads as it did. -/
def balancesSharpUptoRow : OpenClaim := { program := "ytidpllnmghgomaadoor", sum := "b7a397d5efafa307a32f8b805c9a3674971b295b1a0f48da4e9afc58cebb9e87", func := "crimp/crimplaw13.BalancesSharp", spec := "balancesSharp", inPlace := ["internal/bytealg.CountString", "internal/bytealg.IndexByteString", "internal/bytealg.IndexString"], unfollowed := true, recurses := true, named := ["unicode/utf8.first", "unicode/utf8.acceptRanges", "internal/bytealg.MaxLen", "crimp/balances.lacks"], apart := false, laid := [("unicode/utf8.acceptRanges", laid_unicode_utf8_acceptRanges), ("crimp/balances.lacks", laid_crimp_balances_lacks), ("unicode/utf8.first", laid_unicode_utf8_first)], narrowed := true }
def BalancesSharpUptoSaid : Prop := balancesSharpUptoRow.holds Tryd.pinned (OpenSpec.upto balancesSharpSpec)

/-- 'crimplaw13.BalancesSums', WHERE WHAT IT READS IS OF BULK AT MOST 1048576: true; the input reads as it did. -/
def balancesSumsUptoRow : OpenClaim := { program := "ytidpllnmghgomaadoor", sum := "b7a397d5efafa307a32f8b805c9a3674971b295b1a0f48da4e9afc58cebb9e87", func := "crimp/crimplaw13.BalancesSums", spec := "balancesSums", inPlace := ["internal/bytealg.CountString", "internal/bytealg.IndexByteString", "internal/bytealg.IndexString"], unfollowed := true, recurses := true, named := ["unicode/utf8.first", "unicode/utf8.acceptRanges", "internal/bytealg.MaxLen", "crimp/balances.lacks"], apart := false, laid := [("unicode/utf8.acceptRanges", laid_unicode_utf8_acceptRanges), ("crimp/balances.lacks", laid_crimp_balances_lacks), ("unicode/utf8.first", laid_unicode_utf8_first)], narrowed := true }
def BalancesSumsUptoSaid : Prop := balancesSumsUptoRow.holds Tryd.pinned (OpenSpec.upto balancesSumsSpec)

/-- 'crimplaw13.BalancesErrors', WHERE WHAT IT READS IS OF BULK AT MOST 1048576: true; the input reads as it did. -/
def balancesErrorsUptoRow : OpenClaim := { program := "ytidpllnmghgomaadoor", sum := "b7a397d5efafa307a32f8b805c9a3674971b295b1a0f48da4e9afc58cebb9e87", func := "crimp/crimplaw13.BalancesErrors", spec := "balancesErrors", inPlace := ["internal/bytealg.CountString", "internal/bytealg.IndexByteString", "internal/bytealg.IndexString"], unfollowed := true, recurses := true, named := ["unicode/utf8.first", "unicode/utf8.acceptRanges", "internal/bytealg.MaxLen", "crimp/balances.lacks"], apart := false, laid := [("unicode/utf8.acceptRanges", laid_unicode_utf8_acceptRanges), ("crimp/balances.lacks", laid_crimp_balances_lacks), ("unicode/utf8.first", laid_unicode_utf8_first)], narrowed := true }
def BalancesErrorsUptoSaid : Prop := balancesErrorsUptoRow.holds Tryd.pinned (OpenSpec.upto balancesErrorsSpec)

/-- 'crimplaw13.BalancesLacks', WHERE WHAT IT READS IS OF BULK AT MOST 1048576: true; the input reads as it did. -/
def balancesLacksUptoRow : OpenClaim := { program := "ytidpllnmghgomaadoor", sum := "b7a397d5efafa307a32f8b805c9a3674971b295b1a0f48da4e9afc58cebb9e87", func := "crimp/crimplaw13.BalancesLacks", spec := "balancesLacks", inPlace := ["internal/bytealg.CountString", "internal/bytealg.IndexByteString", "internal/bytealg.IndexString"], unfollowed := true, recurses := true, named := ["crimp/balances.lacks", "unicode/utf8.first", "unicode/utf8.acceptRanges", "internal/bytealg.MaxLen"], apart := false, laid := [("unicode/utf8.acceptRanges", laid_unicode_utf8_acceptRanges), ("crimp/balances.lacks", laid_crimp_balances_lacks), ("unicode/utf8.first", laid_unicode_utf8_first)], narrowed := true }
def BalancesLacksUptoSaid : Prop := balancesLacksUptoRow.holds Tryd.pinned (OpenSpec.upto balancesLacksSpec)

/-- 'crimplaw13.BalancesKnown', WHERE WHAT IT READS IS OF BULK AT MOST 1048576: true; the input reads as it did. -/
def balancesKnownUptoRow : OpenClaim := { program := "ytidpllnmghgomaadoor", sum := "b7a397d5efafa307a32f8b805c9a3674971b295b1a0f48da4e9afc58cebb9e87", func := "crimp/crimplaw13.BalancesKnown", spec := "balancesKnown", inPlace := ["internal/bytealg.CountString", "internal/bytealg.IndexByteString", "internal/bytealg.IndexString"], unfollowed := true, recurses := true, named := ["unicode/utf8.first", "unicode/utf8.acceptRanges", "internal/bytealg.MaxLen", "crimp/balances.lacks"], apart := false, laid := [("unicode/utf8.acceptRanges", laid_unicode_utf8_acceptRanges), ("crimp/balances.lacks", laid_crimp_balances_lacks), ("unicode/utf8.first", laid_unicode_utf8_first)], narrowed := true }
def BalancesKnownUptoSaid : Prop := balancesKnownUptoRow.holds Tryd.pinned (OpenSpec.upto balancesKnownSpec)

end Rows
end Go.Proofs.YtidpllnmghgomaaDoor
