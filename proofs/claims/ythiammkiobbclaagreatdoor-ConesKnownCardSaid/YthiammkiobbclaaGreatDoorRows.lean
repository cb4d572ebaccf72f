/-
  NARROWER THAN 'FOR EVERY INPUT', by the rows' own cells (each row's printed sentence says how): ConesCount: laid · ConesKinds: laid · ConesTurned: laid · ConesValid: laid · ConesDecide: laid · ConesErrors: laid · ConesKnown: laid.
  DERIVED. THE GIVEN ROWS OF THIS SEAT. 7 by the template 'for every input the law returns true; each argument reads behind the call as it read before'; 0 by the template 'total and deterministic' (their statements: YthiammkiobbclaaGreatDoorTotals.lean).
  GIVEN WITH THE SEED: the statements are not yours to turn. If you find one false, say at which input.
  Laid BY PROGRAM, IN A SANDBOX (cutbox-rows.mjs): the forced cells as the released guide's own fill.sh prints them over the translation 2d7ccaefc2393aa4… (all of the seat's roots in one cut). By AI agents, Wed Nov 11 2026. No macro, syntax, notation, axiom, sorry.
-/
import Derived.Test.YthiammkiobbclaaGreatDoorChecked
import GoSem.PinnedTables
import GoSem.Claim
import GoSem.ClaimJoined
import GoSem.ClaimMapViews
import Derived.JoinedTies
import Derived.KernelRfl
namespace Go.Proofs.YthiammkiobbclaaGreatDoor
/- THE CELL 'sum', in the pinned program and in every row, IS THE sha256 OF THE DUMP (.gsa) THAT YthiammkiobbclaaGreatDoorProg.lean LOADS. Nothing in Lean hashes anything: it is a label: what it is worth is what the hold of that sum in a sandbox is worth. -/
noncomputable def Tryz.pinned : Pinned := { name := "ythiammkiobbclaagreatdoor", sum := "2d7ccaefc2393aa4953f63bdb26493afb0f57abb024d4f1a73b91638ec929b48", checked := Tryz.checked }
namespace Rows
def none {H : Type} : Left H := { results := [], args := [] }

/- WHAT THE LISTED PACKAGE-LEVEL VARIABLES READ AS WHEN THE CALL BEGINS. Each datum BY PROGRAM (the guide's laid-datum.mjs) off the statement by which the dump's own 'gosem.cut.vars' lays the variable. In a bare row this is a premise. The card (YthiammkiobbclaaGreatDoorCards.lean) ties it to the program's text. -/
def laid_unicode_utf8_acceptRanges {H : Type} : DataW H := .agg [.agg [.lit (.int .u8 128), .lit (.int .u8 191)], .agg [.lit (.int .u8 160), .lit (.int .u8 191)], .agg [.lit (.int .u8 128), .lit (.int .u8 159)], .agg [.lit (.int .u8 144), .lit (.int .u8 191)], .agg [.lit (.int .u8 128), .lit (.int .u8 143)], .agg [.lit (.int .u8 0), .lit (.int .u8 0)], .agg [.lit (.int .u8 0), .lit (.int .u8 0)], .agg [.lit (.int .u8 0), .lit (.int .u8 0)], .agg [.lit (.int .u8 0), .lit (.int .u8 0)], .agg [.lit (.int .u8 0), .lit (.int .u8 0)], .agg [.lit (.int .u8 0), .lit (.int .u8 0)], .agg [.lit (.int .u8 0), .lit (.int .u8 0)], .agg [.lit (.int .u8 0), .lit (.int .u8 0)], .agg [.lit (.int .u8 0), .lit (.int .u8 0)], .agg [.lit (.int .u8 0), .lit (.int .u8 0)], .agg [.lit (.int .u8 0), .lit (.int .u8 0)]]
/-- One of Go's own tables, pinned by name: the form's constant. -/
def laid_unicode_utf8_first : DataW Unit := Go.Pinned.utf8First

/-- 'crimplaw15.ConesCount': WHATEVER THE INPUT: true; the input reads as it did. -/
def conesCountSpec : ChangeSpec := { name := "conesCount", fn := fun _ => fun
  | [d] => { results := [.lit (.bool true)], args := [d] }
  | _ => none }
def conesCountRow : OpenClaim := { program := "ythiammkiobbclaagreatdoor", sum := "2d7ccaefc2393aa4953f63bdb26493afb0f57abb024d4f1a73b91638ec929b48", func := "crimp/crimplaw15.ConesCount", spec := "conesCount", inPlace := ["internal/bytealg.CountString", "internal/bytealg.IndexByteString", "internal/bytealg.IndexString", "slices.overlaps[int]"], unfollowed := true, recurses := true, named := ["unicode/utf8.first", "unicode/utf8.acceptRanges", "internal/bytealg.MaxLen"], plainKeys := false, apart := false, laid := [("unicode/utf8.acceptRanges", laid_unicode_utf8_acceptRanges), ("unicode/utf8.first", laid_unicode_utf8_first)] }
def ConesCountSaid : Prop := conesCountRow.holds Tryz.pinned (OpenSpec.ofChange conesCountSpec)

/-- ITS FALSE NEIGHBOUR: 'it returns false'. Refute it at one input. -/
def conesCountWrong : ChangeSpec := { name := "conesCount", fn := fun _ => fun
  | [d] => { results := [.lit (.bool false)], args := [d] }
  | _ => none }
def ConesCountWrongFalsely : Prop := conesCountRow.holds Tryz.pinned (OpenSpec.ofChange conesCountWrong)

/-- 'crimplaw15.ConesKinds': WHATEVER THE INPUT: true; the input reads as it did. -/
def conesKindsSpec : ChangeSpec := { name := "conesKinds", fn := fun _ => fun
  | [d] => { results := [.lit (.bool true)], args := [d] }
  | _ => none }
def conesKindsRow : OpenClaim := { program := "ythiammkiobbclaagreatdoor", sum := "2d7ccaefc2393aa4953f63bdb26493afb0f57abb024d4f1a73b91638ec929b48", func := "crimp/crimplaw15.ConesKinds", spec := "conesKinds", inPlace := ["internal/bytealg.CountString", "internal/bytealg.IndexByteString", "internal/bytealg.IndexString", "slices.overlaps[int]"], unfollowed := true, recurses := true, named := ["unicode/utf8.first", "unicode/utf8.acceptRanges", "internal/bytealg.MaxLen"], plainKeys := false, apart := false, laid := [("unicode/utf8.acceptRanges", laid_unicode_utf8_acceptRanges), ("unicode/utf8.first", laid_unicode_utf8_first)] }
def ConesKindsSaid : Prop := conesKindsRow.holds Tryz.pinned (OpenSpec.ofChange conesKindsSpec)

/-- ITS FALSE NEIGHBOUR: 'it returns false'. Refute it at one input. -/
def conesKindsWrong : ChangeSpec := { name := "conesKinds", fn := fun _ => fun
  | [d] => { results := [.lit (.bool false)], args := [d] }
  | _ => none }
def ConesKindsWrongFalsely : Prop := conesKindsRow.holds Tryz.pinned (OpenSpec.ofChange conesKindsWrong)

/-- 'crimplaw15.ConesTurned': WHATEVER THE INPUT: true; the input reads as it did. -/
def conesTurnedSpec : ChangeSpec := { name := "conesTurned", fn := fun _ => fun
  | [d1, d2] => { results := [.lit (.bool true)], args := [d1, d2] }
  | _ => none }
def conesTurnedRow : OpenClaim := { program := "ythiammkiobbclaagreatdoor", sum := "2d7ccaefc2393aa4953f63bdb26493afb0f57abb024d4f1a73b91638ec929b48", func := "crimp/crimplaw15.ConesTurned", spec := "conesTurned", inPlace := ["internal/bytealg.CountString", "internal/bytealg.IndexByteString", "internal/bytealg.IndexString", "slices.overlaps[int]"], unfollowed := true, recurses := true, named := ["unicode/utf8.first", "unicode/utf8.acceptRanges", "internal/bytealg.MaxLen"], plainKeys := false, apart := false, laid := [("unicode/utf8.acceptRanges", laid_unicode_utf8_acceptRanges), ("unicode/utf8.first", laid_unicode_utf8_first)] }
def ConesTurnedSaid : Prop := conesTurnedRow.holds Tryz.pinned (OpenSpec.ofChange conesTurnedSpec)

/-- ITS FALSE NEIGHBOUR: 'it returns false'. Refute it at one input. -/
def conesTurnedWrong : ChangeSpec := { name := "conesTurned", fn := fun _ => fun
  | [d1, d2] => { results := [.lit (.bool false)], args := [d1, d2] }
  | _ => none }
def ConesTurnedWrongFalsely : Prop := conesTurnedRow.holds Tryz.pinned (OpenSpec.ofChange conesTurnedWrong)

/-- 'crimplaw15.ConesValid': WHATEVER THE INPUT: true; the input reads as it did. -/
def conesValidSpec : ChangeSpec := { name := "conesValid", fn := fun _ => fun
  | [d1, d2] => { results := [.lit (.bool true)], args := [d1, d2] }
  | _ => none }
def conesValidRow : OpenClaim := { program := "ythiammkiobbclaagreatdoor", sum := "2d7ccaefc2393aa4953f63bdb26493afb0f57abb024d4f1a73b91638ec929b48", func := "crimp/crimplaw15.ConesValid", spec := "conesValid", inPlace := ["internal/bytealg.CountString", "internal/bytealg.IndexByteString", "internal/bytealg.IndexString", "slices.overlaps[int]"], unfollowed := true, recurses := true, named := ["unicode/utf8.first", "unicode/utf8.acceptRanges", "internal/bytealg.MaxLen"], plainKeys := false, apart := false, laid := [("unicode/utf8.acceptRanges", laid_unicode_utf8_acceptRanges), ("unicode/utf8.first", laid_unicode_utf8_first)] }
def ConesValidSaid : Prop := conesValidRow.holds Tryz.pinned (OpenSpec.ofChange conesValidSpec)

/-- ITS FALSE NEIGHBOUR: 'it returns false'. Refute it at one input. -/
def conesValidWrong : ChangeSpec := { name := "conesValid", fn := fun _ => fun
  | [d1, d2] => { results := [.lit (.bool false)], args := [d1, d2] }
  | _ => none }
def ConesValidWrongFalsely : Prop := conesValidRow.holds Tryz.pinned (OpenSpec.ofChange conesValidWrong)

/-- 'crimplaw15.ConesDecide': WHATEVER THE INPUT: true; the input reads as it did. -/
def conesDecideSpec : ChangeSpec := { name := "conesDecide", fn := fun _ => fun
  | [d1, d2] => { results := [.lit (.bool true)], args := [d1, d2] }
  | _ => none }
def conesDecideRow : OpenClaim := { program := "ythiammkiobbclaagreatdoor", sum := "2d7ccaefc2393aa4953f63bdb26493afb0f57abb024d4f1a73b91638ec929b48", func := "crimp/crimplaw15.ConesDecide", spec := "conesDecide", inPlace := ["internal/bytealg.CountString", "internal/bytealg.IndexByteString", "internal/bytealg.IndexString", "slices.overlaps[int]"], unfollowed := true, recurses := true, named := ["unicode/utf8.first", "unicode/utf8.acceptRanges", "internal/bytealg.MaxLen"], plainKeys := false, apart := false, laid := [("unicode/utf8.acceptRanges", laid_unicode_utf8_acceptRanges), ("unicode/utf8.first", laid_unicode_utf8_first)] }
def ConesDecideSaid : Prop := conesDecideRow.holds Tryz.pinned (OpenSpec.ofChange conesDecideSpec)

/-- ITS FALSE NEIGHBOUR: 'it returns false'. Refute it at one input. -/
def conesDecideWrong : ChangeSpec := { name := "conesDecide", fn := fun _ => fun
  | [d1, d2] => { results := [.lit (.bool false)], args := [d1, d2] }
  | _ => none }
def ConesDecideWrongFalsely : Prop := conesDecideRow.holds Tryz.pinned (OpenSpec.ofChange conesDecideWrong)

/-- 'crimplaw15.ConesErrors': WHATEVER THE INPUT: true; the input reads as it did. -/
def conesErrorsSpec : ChangeSpec := { name := "conesErrors", fn := fun _ => fun
  | [d1, d2] => { results := [.lit (.bool true)], args := [d1, d2] }
  | _ => none }
def conesErrorsRow : OpenClaim := { program := "ythiammkiobbclaagreatdoor", sum := "2d7ccaefc2393aa4953f63bdb26493afb0f57abb024d4f1a73b91638ec929b48", func := "crimp/crimplaw15.ConesErrors", spec := "conesErrors", inPlace := ["internal/bytealg.CountString", "internal/bytealg.IndexByteString", "internal/bytealg.IndexString", "slices.overlaps[int]"], unfollowed := true, recurses := true, named := ["unicode/utf8.first", "unicode/utf8.acceptRanges", "internal/bytealg.MaxLen"], plainKeys := false, apart := false, laid := [("unicode/utf8.acceptRanges", laid_unicode_utf8_acceptRanges), ("unicode/utf8.first", laid_unicode_utf8_first)] }
def ConesErrorsSaid : Prop := conesErrorsRow.holds Tryz.pinned (OpenSpec.ofChange conesErrorsSpec)

/-- ITS FALSE NEIGHBOUR: 'it returns false'. Refute it at one input. -/
def conesErrorsWrong : ChangeSpec := { name := "conesErrors", fn := fun _ => fun
  | [d1, d2] => { results := [.lit (.bool false)], args := [d1, d2] }
  | _ => none }
def ConesErrorsWrongFalsely : Prop := conesErrorsRow.holds Tryz.pinned (OpenSpec.ofChange conesErrorsWrong)

/-- 'crimplaw15.ConesKnown': WHATEVER THE INPUT: true; the input reads as it did. -/
def conesKnownSpec : ChangeSpec := { name := "conesKnown", fn := fun _ => fun
  | [] => { results := [.lit (.bool true)], args := [] }
  | _ => none }
def conesKnownRow : OpenClaim := { program := "ythiammkiobbclaagreatdoor", sum := "2d7ccaefc2393aa4953f63bdb26493afb0f57abb024d4f1a73b91638ec929b48", func := "crimp/crimplaw15.ConesKnown", spec := "conesKnown", inPlace := ["internal/bytealg.CountString", "internal/bytealg.IndexByteString", "internal/bytealg.IndexString", "slices.overlaps[int]"], unfollowed := true, recurses := true, named := ["unicode/utf8.first", "unicode/utf8.acceptRanges", "internal/bytealg.MaxLen"], plainKeys := false, apart := false, laid := [("unicode/utf8.acceptRanges", laid_unicode_utf8_acceptRanges), ("unicode/utf8.first", laid_unicode_utf8_first)] }
def ConesKnownSaid : Prop := conesKnownRow.holds Tryz.pinned (OpenSpec.ofChange conesKnownSpec)

/-- ITS FALSE NEIGHBOUR: 'it returns false'. Refute it at one input. -/
def conesKnownWrong : ChangeSpec := { name := "conesKnown", fn := fun _ => fun
  | [] => { results := [.lit (.bool false)], args := [] }
  | _ => none }
def ConesKnownWrongFalsely : Prop := conesKnownRow.holds Tryz.pinned (OpenSpec.ofChange conesKnownWrong)

/- THE SECOND FORM. 'bulk': how many values and letters a reading holds, each counted each time it is reached (what is shared counts as often as it is met; a slice's spare places count too). A statement '..UptoSaid' is the law's where the arguments, and the package variables that the reading takes, are together of bulk at most 1048576: NARROWER than '..Said'. Prove '..Said' where nothing that the law and all that it calls make is longer than what came in: it says more and counts as full. Else prove '..UptoSaid'. A law counts once. -/
mutual
def uptoBulk {H : Type} : DataW H → Nat
  | .lit (.string bytes) => bytes.length + 1
  | .lit _ => 1
  | .nil => 1
  | .ptr d => uptoBulk d + 1
  | .slice elems spare => uptoBulkAll elems + uptoBulkAll spare + 1
  | .agg parts => uptoBulkAll parts + 1
  | .iface _ d => uptoBulk d + 1
  | .map entries => uptoBulkEntries entries + 1
  | .held _ => 1
def uptoBulkAll {H : Type} : List (DataW H) → Nat
  | [] => 0
  | d :: r => uptoBulk d + uptoBulkAll r
def uptoBulkEntries {H : Type} : List (Lit × DataW H) → Nat
  | [] => 0
  | x :: r => uptoBulkEntry x + uptoBulkEntries r
def uptoBulkEntry {H : Type} : Lit × DataW H → Nat
  | (.string bytes, d) => bytes.length + uptoBulk d + 1
  | (_, d) => uptoBulk d + 1
 end
def uptoSmall : (H : Type) → List (DataW H) → Bool := fun _ ds => decide (uptoBulkAll ds ≤ 1048576)
def OpenSpec.upto (s : _root_.Go.ChangeSpec) : _root_.Go.OpenSpec := { _root_.Go.OpenSpec.ofChange s with cond := some uptoSmall }

/-- 'crimplaw15.ConesCount', WHERE WHAT IT READS IS OF BULK AT MOST 1048576: true; the input reads as it did. -/
def conesCountUptoRow : OpenClaim := { program := "ythiammkiobbclaagreatdoor", sum := "2d7ccaefc2393aa4953f63bdb26493afb0f57abb024d4f1a73b91638ec929b48", func := "crimp/crimplaw15.ConesCount", spec := "conesCount", inPlace := ["internal/bytealg.CountString", "internal/bytealg.IndexByteString", "internal/bytealg.IndexString", "slices.overlaps[int]"], unfollowed := true, recurses := true, named := ["unicode/utf8.first", "unicode/utf8.acceptRanges", "internal/bytealg.MaxLen"], plainKeys := false, apart := false, laid := [("unicode/utf8.acceptRanges", laid_unicode_utf8_acceptRanges), ("unicode/utf8.first", laid_unicode_utf8_first)], narrowed := true }
def ConesCountUptoSaid : Prop := conesCountUptoRow.holds Tryz.pinned (OpenSpec.upto conesCountSpec)

/-- 'crimplaw15.ConesKinds', WHERE WHAT IT READS IS OF BULK AT MOST 1048576: true; the input reads as it did. -/
def conesKindsUptoRow : OpenClaim := { program := "ythiammkiobbclaagreatdoor", sum := "2d7ccaefc2393aa4953f63bdb26493afb0f57abb024d4f1a73b91638ec929b48", func := "crimp/crimplaw15.ConesKinds", spec := "conesKinds", inPlace := ["internal/bytealg.CountString", "internal/bytealg.IndexByteString", "internal/bytealg.IndexString", "slices.overlaps[int]"], unfollowed := true, recurses := true, named := ["unicode/utf8.first", "unicode/utf8.acceptRanges", "internal/bytealg.MaxLen"], plainKeys := false, apart := false, laid := [("unicode/utf8.acceptRanges", laid_unicode_utf8_acceptRanges), ("unicode/utf8.first", laid_unicode_utf8_first)], narrowed := true }
def ConesKindsUptoSaid : Prop := conesKindsUptoRow.holds Tryz.pinned (OpenSpec.upto conesKindsSpec)

/-- 'crimplaw15.ConesTurned', WHERE WHAT IT READS IS OF BULK AT MOST 1048576: true; the input reads as it did. -/
def conesTurnedUptoRow : OpenClaim := { program := "ythiammkiobbclaagreatdoor", sum := "2d7ccaefc2393aa4953f63bdb26493afb0f57abb024d4f1a73b91638ec929b48", func := "crimp/crimplaw15.ConesTurned", spec := "conesTurned", inPlace := ["internal/bytealg.CountString", "internal/bytealg.IndexByteString", "internal/bytealg.IndexString", "slices.overlaps[int]"], unfollowed := true, recurses := true, named := ["unicode/utf8.first", "unicode/utf8.acceptRanges", "internal/bytealg.MaxLen"], plainKeys := false, apart := false, laid := [("unicode/utf8.acceptRanges", laid_unicode_utf8_acceptRanges), ("unicode/utf8.first", laid_unicode_utf8_first)], narrowed := true }
def ConesTurnedUptoSaid : Prop := conesTurnedUptoRow.holds Tryz.pinned (OpenSpec.upto conesTurnedSpec)

/-- 'crimplaw15.ConesValid', WHERE WHAT IT READS IS OF BULK AT MOST 1048576: true; the input reads as it did. -/
def conesValidUptoRow : OpenClaim := { program := "ythiammkiobbclaagreatdoor", sum := "2d7ccaefc2393aa4953f63bdb26493afb0f57abb024d4f1a73b91638ec929b48", func := "crimp/crimplaw15.ConesValid", spec := "conesValid", inPlace := ["internal/bytealg.CountString", "internal/bytealg.IndexByteString", "internal/bytealg.IndexString", "slices.overlaps[int]"], unfollowed := true, recurses := true, named := ["unicode/utf8.first", "unicode/utf8.acceptRanges", "internal/bytealg.MaxLen"], plainKeys := false, apart := false, laid := [("unicode/utf8.acceptRanges", laid_unicode_utf8_acceptRanges), ("unicode/utf8.first", laid_unicode_utf8_first)], narrowed := true }
def ConesValidUptoSaid : Prop := conesValidUptoRow.holds Tryz.pinned (OpenSpec.upto conesValidSpec)

/-- 'crimplaw15.ConesDecide', WHERE WHAT IT READS IS OF BULK AT MOST 1048576: true; the input reads as it did. -/
def conesDecideUptoRow : OpenClaim := { program := "ythiammkiobbclaagreatdoor", sum := "2d7ccaefc2393aa4953f63bdb26493afb0f57abb024d4f1a73b91638ec929b48", func := "crimp/crimplaw15.ConesDecide", spec := "conesDecide", inPlace := ["internal/bytealg.CountString", "internal/bytealg.IndexByteString", "internal/bytealg.IndexString", "slices.overlaps[int]"], unfollowed := true, recurses := true, named := ["unicode/utf8.first", "unicode/utf8.acceptRanges", "internal/bytealg.MaxLen"], plainKeys := false, apart := false, laid := [("unicode/utf8.acceptRanges", laid_unicode_utf8_acceptRanges), ("unicode/utf8.first", laid_unicode_utf8_first)], narrowed := true }
def ConesDecideUptoSaid : Prop := conesDecideUptoRow.holds Tryz.pinned (OpenSpec.upto conesDecideSpec)

/-- 'crimplaw15.ConesErrors', WHERE WHAT IT READS IS OF BULK AT MOST 1048576: true; the input reads as it did. -/
def conesErrorsUptoRow : OpenClaim := { program := "ythiammkiobbclaagreatdoor", sum := "2d7ccaefc2393aa4953f63bdb26493afb0f57abb024d4f1a73b91638ec929b48", func := "crimp/crimplaw15.ConesErrors", spec := "conesErrors", inPlace := ["internal/bytealg.CountString", "internal/bytealg.IndexByteString", "internal/bytealg.IndexString", "slices.overlaps[int]"], unfollowed := true, recurses := true, named := ["unicode/utf8.first", "unicode/utf8.acceptRanges", "internal/bytealg.MaxLen"], plainKeys := false, apart := false, laid := [("unicode/utf8.acceptRanges", laid_unicode_utf8_acceptRanges), ("unicode/utf8.first", laid_unicode_utf8_first)], narrowed := true }
def ConesErrorsUptoSaid : Prop := conesErrorsUptoRow.holds Tryz.pinned (OpenSpec.upto conesErrorsSpec)

/-- 'crimplaw15.ConesKnown', WHERE WHAT IT READS IS OF BULK AT MOST 1048576: true; the input reads as it did. -/
def conesKnownUptoRow : OpenClaim := { program := "ythiammkiobbclaagreatdoor", sum := "2d7ccaefc2393aa4953f63bdb26493afb0f57abb024d4f1a73b91638ec929b48", func := "crimp/crimplaw15.ConesKnown", spec := "conesKnown", inPlace := ["internal/bytealg.CountString", "internal/bytealg.IndexByteString", "internal/bytealg.IndexString", "slices.overlaps[int]"], unfollowed := true, recurses := true, named := ["unicode/utf8.first", "unicode/utf8.acceptRanges", "internal/bytealg.MaxLen"], plainKeys := false, apart := false, laid := [("unicode/utf8.acceptRanges", laid_unicode_utf8_acceptRanges), ("unicode/utf8.first", laid_unicode_utf8_first)], narrowed := true }
def ConesKnownUptoSaid : Prop := conesKnownUptoRow.holds Tryz.pinned (OpenSpec.upto conesKnownSpec)

end Rows
end Go.Proofs.YthiammkiobbclaaGreatDoor
