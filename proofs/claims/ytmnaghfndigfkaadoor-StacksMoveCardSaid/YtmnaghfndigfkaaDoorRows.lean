/-
  NARROWER THAN 'FOR EVERY INPUT', by the rows' own cells (each row's printed sentence says how): StacksAt: laid · StacksSplit: laid · StacksSame: laid · StacksCheck: laid · SetsMerge: laid · SetsAssociate: laid · SetsMove: laid · SetsShape: laid · SetsText: laid · SetsErrors: laid · StacksMove: laid · SetsOf: laid.
  DERIVED. THE GIVEN ROWS OF THIS SEAT. 12 by the template 'for every input the law returns true; each argument reads behind the call as it read before'; 0 by the template 'total and deterministic' (their statements: YtmnaghfndigfkaaDoorTotals.lean).
  GIVEN WITH THE SEED: the statements are not yours to turn. If you find one false, say at which input.
  Laid BY PROGRAM, IN A SANDBOX (cutbox-rows.mjs): the forced cells as the released guide's own fill.sh prints them over the translation a327ddfdac35b36e… (all of the seat's roots in one cut). By AI agents, Wed Nov 11 2026. No macro, syntax, notation, axiom, sorry.
-/
import Derived.Test.YtmnaghfndigfkaaDoorChecked
import GoSem.Claim
import GoSem.ClaimJoined
import GoSem.ClaimMapViews
import Derived.JoinedTies
import Derived.KernelRfl
namespace Go.Proofs.YtmnaghfndigfkaaDoor
/- THE CELL 'sum', in the pinned program and in every row, IS THE sha256 OF THE DUMP (.gsa) THAT YtmnaghfndigfkaaDoorProg.lean LOADS. Nothing in Lean hashes anything: it is a label: what it is worth is what the hold of that sum in a sandbox is worth. -/
noncomputable def Tryd.pinned : Pinned := { name := "ytmnaghfndigfkaadoor", sum := "a327ddfdac35b36e9219cc8cb4bcb2bcdab1142073b55026cf8b97e92bac451c", checked := Tryd.checked }
namespace Rows
def none {H : Type} : Left H := { results := [], args := [] }

/- WHAT THE LISTED PACKAGE-LEVEL VARIABLES READ AS WHEN THE CALL BEGINS. Each datum BY PROGRAM (the guide's laid-datum.mjs) off the statement by which the dump's own 'gosem.cut.vars' lays the variable. In a bare row this is a premise. The card (YtmnaghfndigfkaaDoorCards.lean) ties it to the program's text. -/
def laid_crimp_cells_quarters {H : Type} : DataW H := .agg [.agg [.agg [.lit (.int .i64 0), .lit (.int .i64 (-1))], .lit (.int .u8 2), .lit (.int .i64 0), .agg [.agg [.lit (.int .i64 0), .lit (.int .i64 (-1)), .lit (.int .u8 2)], .agg [.lit (.int .i64 0), .lit (.int .i64 0), .lit (.int .u8 1)], .agg [.lit (.int .i64 0), .lit (.int .i64 0), .lit (.int .u8 3)]], .agg [.lit (.int .i64 0), .lit (.int .i64 0)], .agg [.lit (.int .i64 2), .lit (.int .i64 0)]], .agg [.agg [.lit (.int .i64 1), .lit (.int .i64 0)], .lit (.int .u8 1), .lit (.int .i64 1), .agg [.agg [.lit (.int .i64 1), .lit (.int .i64 0), .lit (.int .u8 3)], .agg [.lit (.int .i64 0), .lit (.int .i64 0), .lit (.int .u8 0)], .agg [.lit (.int .i64 0), .lit (.int .i64 0), .lit (.int .u8 2)]], .agg [.lit (.int .i64 2), .lit (.int .i64 2)], .agg [.lit (.int .i64 2), .lit (.int .i64 0)]], .agg [.agg [.lit (.int .i64 0), .lit (.int .i64 1)], .lit (.int .u8 2), .lit (.int .i64 1), .agg [.agg [.lit (.int .i64 0), .lit (.int .i64 1), .lit (.int .u8 0)], .agg [.lit (.int .i64 0), .lit (.int .i64 0), .lit (.int .u8 3)], .agg [.lit (.int .i64 0), .lit (.int .i64 0), .lit (.int .u8 1)]], .agg [.lit (.int .i64 2), .lit (.int .i64 2)], .agg [.lit (.int .i64 0), .lit (.int .i64 2)]], .agg [.agg [.lit (.int .i64 (-1)), .lit (.int .i64 0)], .lit (.int .u8 1), .lit (.int .i64 0), .agg [.agg [.lit (.int .i64 (-1)), .lit (.int .i64 0), .lit (.int .u8 1)], .agg [.lit (.int .i64 0), .lit (.int .i64 0), .lit (.int .u8 2)], .agg [.lit (.int .i64 0), .lit (.int .i64 0), .lit (.int .u8 0)]], .agg [.lit (.int .i64 0), .lit (.int .i64 0)], .agg [.lit (.int .i64 0), .lit (.int .i64 2)]]]
def laid_crimp_moves_turns {H : Type} : DataW H := .agg [.agg [.lit (.int .i64 1), .lit (.int .i64 0), .lit (.int .i64 0), .lit (.int .i64 1)], .agg [.lit (.int .i64 0), .lit (.int .i64 (-1)), .lit (.int .i64 1), .lit (.int .i64 0)], .agg [.lit (.int .i64 (-1)), .lit (.int .i64 0), .lit (.int .i64 0), .lit (.int .i64 (-1))], .agg [.lit (.int .i64 0), .lit (.int .i64 1), .lit (.int .i64 (-1)), .lit (.int .i64 0)], .agg [.lit (.int .i64 (-1)), .lit (.int .i64 0), .lit (.int .i64 0), .lit (.int .i64 1)], .agg [.lit (.int .i64 0), .lit (.int .i64 (-1)), .lit (.int .i64 (-1)), .lit (.int .i64 0)], .agg [.lit (.int .i64 1), .lit (.int .i64 0), .lit (.int .i64 0), .lit (.int .i64 (-1))], .agg [.lit (.int .i64 0), .lit (.int .i64 1), .lit (.int .i64 1), .lit (.int .i64 0)]]

/-- 'crimplaw23.StacksAt': WHATEVER THE INPUT: true; the input reads as it did. -/
def stacksAtSpec : ChangeSpec := { name := "stacksAt", fn := fun _ => fun
  | [d1, d2, d3] => { results := [.lit (.bool true)], args := [d1, d2, d3] }
  | _ => none }
def stacksAtRow : OpenClaim := { program := "ytmnaghfndigfkaadoor", sum := "a327ddfdac35b36e9219cc8cb4bcb2bcdab1142073b55026cf8b97e92bac451c", func := "crimp/crimplaw23.StacksAt", spec := "stacksAt", unfollowed := true, recurses := true, named := ["crimp/cells.quarters"], plainKeys := false, apart := false, laid := [("crimp/cells.quarters", laid_crimp_cells_quarters)] }
def StacksAtSaid : Prop := stacksAtRow.holds Tryd.pinned (OpenSpec.ofChange stacksAtSpec)

/-- ITS FALSE NEIGHBOUR: 'it returns false'. Refute it at one input. -/
def stacksAtWrong : ChangeSpec := { name := "stacksAt", fn := fun _ => fun
  | [d1, d2, d3] => { results := [.lit (.bool false)], args := [d1, d2, d3] }
  | _ => none }
def StacksAtWrongFalsely : Prop := stacksAtRow.holds Tryd.pinned (OpenSpec.ofChange stacksAtWrong)

/-- 'crimplaw23.StacksSplit': WHATEVER THE INPUT: true; the input reads as it did. -/
def stacksSplitSpec : ChangeSpec := { name := "stacksSplit", fn := fun _ => fun
  | [d1, d2, d3] => { results := [.lit (.bool true)], args := [d1, d2, d3] }
  | _ => none }
def stacksSplitRow : OpenClaim := { program := "ytmnaghfndigfkaadoor", sum := "a327ddfdac35b36e9219cc8cb4bcb2bcdab1142073b55026cf8b97e92bac451c", func := "crimp/crimplaw23.StacksSplit", spec := "stacksSplit", unfollowed := true, recurses := true, named := ["crimp/cells.quarters"], plainKeys := false, apart := false, laid := [("crimp/cells.quarters", laid_crimp_cells_quarters)] }
def StacksSplitSaid : Prop := stacksSplitRow.holds Tryd.pinned (OpenSpec.ofChange stacksSplitSpec)

/-- ITS FALSE NEIGHBOUR: 'it returns false'. Refute it at one input. -/
def stacksSplitWrong : ChangeSpec := { name := "stacksSplit", fn := fun _ => fun
  | [d1, d2, d3] => { results := [.lit (.bool false)], args := [d1, d2, d3] }
  | _ => none }
def StacksSplitWrongFalsely : Prop := stacksSplitRow.holds Tryd.pinned (OpenSpec.ofChange stacksSplitWrong)

/-- 'crimplaw23.StacksSame': WHATEVER THE INPUT: true; the input reads as it did. -/
def stacksSameSpec : ChangeSpec := { name := "stacksSame", fn := fun _ => fun
  | [d1, d2, d3] => { results := [.lit (.bool true)], args := [d1, d2, d3] }
  | _ => none }
def stacksSameRow : OpenClaim := { program := "ytmnaghfndigfkaadoor", sum := "a327ddfdac35b36e9219cc8cb4bcb2bcdab1142073b55026cf8b97e92bac451c", func := "crimp/crimplaw23.StacksSame", spec := "stacksSame", unfollowed := true, recurses := true, named := ["crimp/cells.quarters"], plainKeys := false, apart := false, laid := [("crimp/cells.quarters", laid_crimp_cells_quarters)] }
def StacksSameSaid : Prop := stacksSameRow.holds Tryd.pinned (OpenSpec.ofChange stacksSameSpec)

/-- ITS FALSE NEIGHBOUR: 'it returns false'. Refute it at one input. -/
def stacksSameWrong : ChangeSpec := { name := "stacksSame", fn := fun _ => fun
  | [d1, d2, d3] => { results := [.lit (.bool false)], args := [d1, d2, d3] }
  | _ => none }
def StacksSameWrongFalsely : Prop := stacksSameRow.holds Tryd.pinned (OpenSpec.ofChange stacksSameWrong)

/-- 'crimplaw23.StacksCheck': WHATEVER THE INPUT: true; the input reads as it did. -/
def stacksCheckSpec : ChangeSpec := { name := "stacksCheck", fn := fun _ => fun
  | [d1, d2, d3] => { results := [.lit (.bool true)], args := [d1, d2, d3] }
  | _ => none }
def stacksCheckRow : OpenClaim := { program := "ytmnaghfndigfkaadoor", sum := "a327ddfdac35b36e9219cc8cb4bcb2bcdab1142073b55026cf8b97e92bac451c", func := "crimp/crimplaw23.StacksCheck", spec := "stacksCheck", unfollowed := true, recurses := true, named := ["crimp/cells.quarters"], plainKeys := false, apart := false, laid := [("crimp/cells.quarters", laid_crimp_cells_quarters)] }
def StacksCheckSaid : Prop := stacksCheckRow.holds Tryd.pinned (OpenSpec.ofChange stacksCheckSpec)

/-- ITS FALSE NEIGHBOUR: 'it returns false'. Refute it at one input. -/
def stacksCheckWrong : ChangeSpec := { name := "stacksCheck", fn := fun _ => fun
  | [d1, d2, d3] => { results := [.lit (.bool false)], args := [d1, d2, d3] }
  | _ => none }
def StacksCheckWrongFalsely : Prop := stacksCheckRow.holds Tryd.pinned (OpenSpec.ofChange stacksCheckWrong)

/-- 'crimplaw04.SetsMerge': WHATEVER THE INPUT: true; the input reads as it did. -/
def setsMergeSpec : ChangeSpec := { name := "setsMerge", fn := fun _ => fun
  | [d1, d2] => { results := [.lit (.bool true)], args := [d1, d2] }
  | _ => none }
def setsMergeRow : OpenClaim := { program := "ytmnaghfndigfkaadoor", sum := "a327ddfdac35b36e9219cc8cb4bcb2bcdab1142073b55026cf8b97e92bac451c", func := "crimp/crimplaw04.SetsMerge", spec := "setsMerge", inPlace := ["internal/abi.NoEscape", "internal/bytealg.MakeNoZero"], unfollowed := true, recurses := true, named := ["crimp/cells.quarters", "crimp/moves.turns"], plainKeys := false, apart := false, laid := [("crimp/moves.turns", laid_crimp_moves_turns), ("crimp/cells.quarters", laid_crimp_cells_quarters)] }
def SetsMergeSaid : Prop := setsMergeRow.holds Tryd.pinned (OpenSpec.ofChange setsMergeSpec)

/-- ITS FALSE NEIGHBOUR: 'it returns false'. Refute it at one input. -/
def setsMergeWrong : ChangeSpec := { name := "setsMerge", fn := fun _ => fun
  | [d1, d2] => { results := [.lit (.bool false)], args := [d1, d2] }
  | _ => none }
def SetsMergeWrongFalsely : Prop := setsMergeRow.holds Tryd.pinned (OpenSpec.ofChange setsMergeWrong)

/-- 'crimplaw04.SetsAssociate': WHATEVER THE INPUT: true; the input reads as it did. -/
def setsAssociateSpec : ChangeSpec := { name := "setsAssociate", fn := fun _ => fun
  | [d] => { results := [.lit (.bool true)], args := [d] }
  | _ => none }
def setsAssociateRow : OpenClaim := { program := "ytmnaghfndigfkaadoor", sum := "a327ddfdac35b36e9219cc8cb4bcb2bcdab1142073b55026cf8b97e92bac451c", func := "crimp/crimplaw04.SetsAssociate", spec := "setsAssociate", inPlace := ["internal/abi.NoEscape", "internal/bytealg.MakeNoZero"], unfollowed := true, recurses := true, named := ["crimp/cells.quarters", "crimp/moves.turns"], plainKeys := false, apart := false, laid := [("crimp/moves.turns", laid_crimp_moves_turns), ("crimp/cells.quarters", laid_crimp_cells_quarters)] }
def SetsAssociateSaid : Prop := setsAssociateRow.holds Tryd.pinned (OpenSpec.ofChange setsAssociateSpec)

/-- ITS FALSE NEIGHBOUR: 'it returns false'. Refute it at one input. -/
def setsAssociateWrong : ChangeSpec := { name := "setsAssociate", fn := fun _ => fun
  | [d] => { results := [.lit (.bool false)], args := [d] }
  | _ => none }
def SetsAssociateWrongFalsely : Prop := setsAssociateRow.holds Tryd.pinned (OpenSpec.ofChange setsAssociateWrong)

/-- 'crimplaw04.SetsMove': WHATEVER THE INPUT: true; the input reads as it did. -/
def setsMoveSpec : ChangeSpec := { name := "setsMove", fn := fun _ => fun
  | [d1, d2] => { results := [.lit (.bool true)], args := [d1, d2] }
  | _ => none }
def setsMoveRow : OpenClaim := { program := "ytmnaghfndigfkaadoor", sum := "a327ddfdac35b36e9219cc8cb4bcb2bcdab1142073b55026cf8b97e92bac451c", func := "crimp/crimplaw04.SetsMove", spec := "setsMove", inPlace := ["internal/abi.NoEscape", "internal/bytealg.MakeNoZero"], unfollowed := true, recurses := true, named := ["crimp/cells.quarters", "crimp/moves.turns"], plainKeys := false, apart := false, laid := [("crimp/moves.turns", laid_crimp_moves_turns), ("crimp/cells.quarters", laid_crimp_cells_quarters)] }
def SetsMoveSaid : Prop := setsMoveRow.holds Tryd.pinned (OpenSpec.ofChange setsMoveSpec)

/-- ITS FALSE NEIGHBOUR: 'it returns false'. Refute it at one input. -/
def setsMoveWrong : ChangeSpec := { name := "setsMove", fn := fun _ => fun
  | [d1, d2] => { results := [.lit (.bool false)], args := [d1, d2] }
  | _ => none }
def SetsMoveWrongFalsely : Prop := setsMoveRow.holds Tryd.pinned (OpenSpec.ofChange setsMoveWrong)

/-- 'crimplaw04.SetsShape': WHATEVER THE INPUT: true; the input reads as it did. -/
def setsShapeSpec : ChangeSpec := { name := "setsShape", fn := fun _ => fun
  | [d] => { results := [.lit (.bool true)], args := [d] }
  | _ => none }
def setsShapeRow : OpenClaim := { program := "ytmnaghfndigfkaadoor", sum := "a327ddfdac35b36e9219cc8cb4bcb2bcdab1142073b55026cf8b97e92bac451c", func := "crimp/crimplaw04.SetsShape", spec := "setsShape", inPlace := ["internal/abi.NoEscape", "internal/bytealg.MakeNoZero"], unfollowed := true, recurses := true, named := ["crimp/cells.quarters", "crimp/moves.turns"], plainKeys := false, apart := false, laid := [("crimp/moves.turns", laid_crimp_moves_turns), ("crimp/cells.quarters", laid_crimp_cells_quarters)] }
def SetsShapeSaid : Prop := setsShapeRow.holds Tryd.pinned (OpenSpec.ofChange setsShapeSpec)

/-- ITS FALSE NEIGHBOUR: 'it returns false'. Refute it at one input. -/
def setsShapeWrong : ChangeSpec := { name := "setsShape", fn := fun _ => fun
  | [d] => { results := [.lit (.bool false)], args := [d] }
  | _ => none }
def SetsShapeWrongFalsely : Prop := setsShapeRow.holds Tryd.pinned (OpenSpec.ofChange setsShapeWrong)

/-- 'crimplaw04.SetsText': WHATEVER THE INPUT: true; the input reads as it did. -/
def setsTextSpec : ChangeSpec := { name := "setsText", fn := fun _ => fun
  | [d] => { results := [.lit (.bool true)], args := [d] }
  | _ => none }
def setsTextRow : OpenClaim := { program := "ytmnaghfndigfkaadoor", sum := "a327ddfdac35b36e9219cc8cb4bcb2bcdab1142073b55026cf8b97e92bac451c", func := "crimp/crimplaw04.SetsText", spec := "setsText", inPlace := ["internal/abi.NoEscape", "internal/bytealg.MakeNoZero"], unfollowed := true, recurses := true, named := ["crimp/cells.quarters", "crimp/moves.turns"], plainKeys := false, apart := false, laid := [("crimp/moves.turns", laid_crimp_moves_turns), ("crimp/cells.quarters", laid_crimp_cells_quarters)] }
def SetsTextSaid : Prop := setsTextRow.holds Tryd.pinned (OpenSpec.ofChange setsTextSpec)

/-- ITS FALSE NEIGHBOUR: 'it returns false'. Refute it at one input. -/
def setsTextWrong : ChangeSpec := { name := "setsText", fn := fun _ => fun
  | [d] => { results := [.lit (.bool false)], args := [d] }
  | _ => none }
def SetsTextWrongFalsely : Prop := setsTextRow.holds Tryd.pinned (OpenSpec.ofChange setsTextWrong)

/-- 'crimplaw04.SetsErrors': WHATEVER THE INPUT: true; the input reads as it did. -/
def setsErrorsSpec : ChangeSpec := { name := "setsErrors", fn := fun _ => fun
  | [d1, d2] => { results := [.lit (.bool true)], args := [d1, d2] }
  | _ => none }
def setsErrorsRow : OpenClaim := { program := "ytmnaghfndigfkaadoor", sum := "a327ddfdac35b36e9219cc8cb4bcb2bcdab1142073b55026cf8b97e92bac451c", func := "crimp/crimplaw04.SetsErrors", spec := "setsErrors", inPlace := ["internal/abi.NoEscape", "internal/bytealg.MakeNoZero"], unfollowed := true, recurses := true, named := ["crimp/cells.quarters", "crimp/moves.turns"], plainKeys := false, apart := false, laid := [("crimp/moves.turns", laid_crimp_moves_turns), ("crimp/cells.quarters", laid_crimp_cells_quarters)] }
def SetsErrorsSaid : Prop := setsErrorsRow.holds Tryd.pinned (OpenSpec.ofChange setsErrorsSpec)

/-- ITS FALSE NEIGHBOUR: 'it returns false'. Refute it at one input. -/
def setsErrorsWrong : ChangeSpec := { name := "setsErrors", fn := fun _ => fun
  | [d1, d2] => { results := [.lit (.bool false)], args := [d1, d2] }
  | _ => none }
def SetsErrorsWrongFalsely : Prop := setsErrorsRow.holds Tryd.pinned (OpenSpec.ofChange setsErrorsWrong)

/-- 'crimplaw23.StacksMove': WHATEVER THE INPUT: true; the input reads as it did. -/
def stacksMoveSpec : ChangeSpec := { name := "stacksMove", fn := fun _ => fun
  | [d1, d2] => { results := [.lit (.bool true)], args := [d1, d2] }
  | _ => none }
def stacksMoveRow : OpenClaim := { program := "ytmnaghfndigfkaadoor", sum := "a327ddfdac35b36e9219cc8cb4bcb2bcdab1142073b55026cf8b97e92bac451c", func := "crimp/crimplaw23.StacksMove", spec := "stacksMove", unfollowed := true, recurses := true, named := ["crimp/cells.quarters", "crimp/moves.turns"], plainKeys := false, apart := false, laid := [("crimp/moves.turns", laid_crimp_moves_turns), ("crimp/cells.quarters", laid_crimp_cells_quarters)] }
def StacksMoveSaid : Prop := stacksMoveRow.holds Tryd.pinned (OpenSpec.ofChange stacksMoveSpec)

/-- ITS FALSE NEIGHBOUR: 'it returns false'. Refute it at one input. -/
def stacksMoveWrong : ChangeSpec := { name := "stacksMove", fn := fun _ => fun
  | [d1, d2] => { results := [.lit (.bool false)], args := [d1, d2] }
  | _ => none }
def StacksMoveWrongFalsely : Prop := stacksMoveRow.holds Tryd.pinned (OpenSpec.ofChange stacksMoveWrong)

/-- 'crimplaw04.SetsOf': WHATEVER THE INPUT: true; the input reads as it did. -/
def setsOfSpec : ChangeSpec := { name := "setsOf", fn := fun _ => fun
  | [d1, d2] => { results := [.lit (.bool true)], args := [d1, d2] }
  | _ => none }
def setsOfRow : OpenClaim := { program := "ytmnaghfndigfkaadoor", sum := "a327ddfdac35b36e9219cc8cb4bcb2bcdab1142073b55026cf8b97e92bac451c", func := "crimp/crimplaw04.SetsOf", spec := "setsOf", inPlace := ["internal/abi.NoEscape", "internal/bytealg.MakeNoZero"], unfollowed := true, recurses := true, named := ["crimp/cells.quarters", "crimp/moves.turns"], plainKeys := false, apart := false, laid := [("crimp/moves.turns", laid_crimp_moves_turns), ("crimp/cells.quarters", laid_crimp_cells_quarters)] }
def SetsOfSaid : Prop := setsOfRow.holds Tryd.pinned (OpenSpec.ofChange setsOfSpec)

/-- ITS FALSE NEIGHBOUR: 'it returns false'. Refute it at one input. -/
def setsOfWrong : ChangeSpec := { name := "setsOf", fn := fun _ => fun
  | [d1, d2] => { results := [.lit (.bool false)], args := [d1, d2] }
  | _ => none }
def SetsOfWrongFalsely : Prop := setsOfRow.holds Tryd.pinned (OpenSpec.ofChange setsOfWrong)

/- THE SECOND FORM. 'bulk': how many values and letters a reading holds, each counted each time it is reached (what is shared counts as often as it is met; a slice's spare places count too). A statement '..UptoSaid' is the law's where the arguments, and the package variables that the reading takes, are together of bulk at most 1048576: NARROWER than '..Said'. Prove '..Said' where nothing that the law and all that it calls make is longer than what came in: it says more and counts as full. Else prove '..UptoSaid'. A law counts once. -/
mutual
def uptoBulk {H : Type} : DataW H → Nat
  | .lit (.string bytes) => bytes.length + 1
  | .lit _ => 1
  | .nil => 1
  | .ptr d => uptoBulk d + 1
  | .slice elems spare => uptoBulkAll elems + uptoBulkAll spare + 1
  | .agg parts => uptoBulkAll parts + 1
  | .iface _ d => uptoBulk d + 1
  | .map entries => uptoBulkEntries entries + 1
  | .held _ => 1
def uptoBulkAll {H : Type} : List (DataW H) → Nat
  | [] => 0
  | d :: r => uptoBulk d + uptoBulkAll r
def uptoBulkEntries {H : Type} : List (Lit × DataW H) → Nat
  | [] => 0
  | x :: r => uptoBulkEntry x + uptoBulkEntries r
def uptoBulkEntry {H : Type} : Lit × DataW H → Nat
  | (.string bytes, d) => bytes.length + uptoBulk d + 1
  | (_, d) => uptoBulk d + 1
 end
def uptoSmall : (H : Type) → List (DataW H) → Bool := fun _ ds => decide (uptoBulkAll ds ≤ 1048576)
def OpenSpec.upto (s : _root_.Go.ChangeSpec) : _root_.Go.OpenSpec := { _root_.Go.OpenSpec.ofChange s with cond := some uptoSmall }

/-- 'crimplaw23.StacksAt', WHERE WHAT IT READS IS OF BULK AT MOST 1048576: true; the input reads as it did. -/
def stacksAtUptoRow : OpenClaim := { program := "ytmnaghfndigfkaadoor", sum := "a327ddfdac35b36e9219cc8cb4bcb2bcdab1142073b55026cf8b97e92bac451c", func := "crimp/crimplaw23.StacksAt", spec := "stacksAt", unfollowed := true, recurses := true, named := ["crimp/cells.quarters"], plainKeys := false, apart := false, laid := [("crimp/cells.quarters", laid_crimp_cells_quarters)], narrowed := true }
def StacksAtUptoSaid : Prop := stacksAtUptoRow.holds Tryd.pinned (OpenSpec.upto stacksAtSpec)

/-- 'crimplaw23.StacksSplit', WHERE WHAT IT READS IS OF BULK AT MOST 1048576: true; the input reads as it did. -/
def stacksSplitUptoRow : OpenClaim := { program := "ytmnaghfndigfkaadoor", sum := "a327ddfdac35b36e9219cc8cb4bcb2bcdab1142073b55026cf8b97e92bac451c", func := "crimp/crimplaw23.StacksSplit", spec := "stacksSplit", unfollowed := true, recurses := true, named := ["crimp/cells.quarters"], plainKeys := false, apart := false, laid := [("crimp/cells.quarters", laid_crimp_cells_quarters)], narrowed := true }
def StacksSplitUptoSaid : Prop := stacksSplitUptoRow.holds Tryd.pinned (OpenSpec.upto stacksSplitSpec)

/-- 'crimplaw23.StacksSame', WHERE WHAT IT READS IS OF BULK AT MOST 1048576: true; the input reads as it did. -/
def stacksSameUptoRow : OpenClaim := { program := "ytmnaghfndigfkaadoor", sum := "a327ddfdac35b36e9219cc8cb4bcb2bcdab1142073b55026cf8b97e92bac451c", func := "crimp/crimplaw23.StacksSame", spec := "stacksSame", unfollowed := true, recurses := true, named := ["crimp/cells.quarters"], plainKeys := false, apart := false, laid := [("crimp/cells.quarters", laid_crimp_cells_quarters)], narrowed := true }
def StacksSameUptoSaid : Prop := stacksSameUptoRow.holds Tryd.pinned (OpenSpec.upto stacksSameSpec)

/-- 'crimplaw23.StacksCheck', WHERE WHAT IT READS IS OF BULK AT MOST 1048576: true; the input reads as it did. -/
def stacksCheckUptoRow : OpenClaim := { program := "ytmnaghfndigfkaadoor", sum := "a327ddfdac35b36e9219cc8cb4bcb2bcdab1142073b55026cf8b97e92bac451c", func := "crimp/crimplaw23.StacksCheck", spec := "stacksCheck", unfollowed := true, recurses := true, named := ["crimp/cells.quarters"], plainKeys := false, apart := false, laid := [("crimp/cells.quarters", laid_crimp_cells_quarters)], narrowed := true }
def StacksCheckUptoSaid : Prop := stacksCheckUptoRow.holds Tryd.pinned (OpenSpec.upto stacksCheckSpec)

/-- 'crimplaw04.SetsMerge', WHERE WHAT IT READS IS OF BULK AT MOST 1048576: true; the input reads as it did. -/
def setsMergeUptoRow : OpenClaim := { program := "ytmnaghfndigfkaadoor", sum := "a327ddfdac35b36e9219cc8cb4bcb2bcdab1142073b55026cf8b97e92bac451c", func := "crimp/crimplaw04.SetsMerge", spec := "setsMerge", inPlace := ["internal/abi.NoEscape", "internal/bytealg.MakeNoZero"], unfollowed := true, recurses := true, named := ["crimp/cells.quarters", "crimp/moves.turns"], plainKeys := false, apart := false, laid := [("crimp/moves.turns", laid_crimp_moves_turns), ("crimp/cells.quarters", laid_crimp_cells_quarters)], narrowed := true }
def SetsMergeUptoSaid : Prop := setsMergeUptoRow.holds Tryd.pinned (OpenSpec.upto setsMergeSpec)

/-- 'crimplaw04.SetsAssociate', WHERE WHAT IT READS IS OF BULK AT MOST 1048576: true; the input reads as it did. -/
def setsAssociateUptoRow : OpenClaim := { program := "ytmnaghfndigfkaadoor", sum := "a327ddfdac35b36e9219cc8cb4bcb2bcdab1142073b55026cf8b97e92bac451c", func := "crimp/crimplaw04.SetsAssociate", spec := "setsAssociate", inPlace := ["internal/abi.NoEscape", "internal/bytealg.MakeNoZero"], unfollowed := true, recurses := true, named := ["crimp/cells.quarters", "crimp/moves.turns"], plainKeys := false, apart := false, laid := [("crimp/moves.turns", laid_crimp_moves_turns), ("crimp/cells.quarters", laid_crimp_cells_quarters)], narrowed := true }
def SetsAssociateUptoSaid : Prop := setsAssociateUptoRow.holds Tryd.pinned (OpenSpec.upto setsAssociateSpec)

/-- 'crimplaw04.SetsMove', WHERE WHAT IT READS IS OF BULK AT MOST 1048576: true; the input reads as it did. -/
def setsMoveUptoRow : OpenClaim := { program := "ytmnaghfndigfkaadoor", sum := "a327ddfdac35b36e9219cc8cb4bcb2bcdab1142073b55026cf8b97e92bac451c", func := "crimp/crimplaw04.SetsMove", spec := "setsMove", inPlace := ["internal/abi.NoEscape", "internal/bytealg.MakeNoZero"], unfollowed := true, recurses := true, named := ["crimp/cells.quarters", "crimp/moves.turns"], plainKeys := false, apart := false, laid := [("crimp/moves.turns", laid_crimp_moves_turns), ("crimp/cells.quarters", laid_crimp_cells_quarters)], narrowed := true }
def SetsMoveUptoSaid : Prop := setsMoveUptoRow.holds Tryd.pinned (OpenSpec.upto setsMoveSpec)

/-- 'crimplaw04.SetsShape', WHERE WHAT IT READS IS OF BULK AT MOST 1048576: true; the input reads as it did. -/
def setsShapeUptoRow : OpenClaim := { program := "ytmnaghfndigfkaadoor", sum := "a327ddfdac35b36e9219cc8cb4bcb2bcdab1142073b55026cf8b97e92bac451c", func := "crimp/crimplaw04.SetsShape", spec := "setsShape", inPlace := ["internal/abi.NoEscape", "internal/bytealg.MakeNoZero"], unfollowed := true, recurses := true, named := ["crimp/cells.quarters", "crimp/moves.turns"], plainKeys := false, apart := false, laid := [("crimp/moves.turns", laid_crimp_moves_turns), ("crimp/cells.quarters", laid_crimp_cells_quarters)], narrowed := true }
def SetsShapeUptoSaid : Prop := setsShapeUptoRow.holds Tryd.pinned (OpenSpec.upto setsShapeSpec)

/-- 'crimplaw04.SetsText', WHERE WHAT IT READS IS OF BULK AT MOST 1048576: true; the input reads as it did. -/
def setsTextUptoRow : OpenClaim := { program := "ytmnaghfndigfkaadoor", sum := "a327ddfdac35b36e9219cc8cb4bcb2bcdab1142073b55026cf8b97e92bac451c", func := "crimp/crimplaw04.SetsText", spec := "setsText", inPlace := ["internal/abi.NoEscape", "internal/bytealg.MakeNoZero"], unfollowed := true, recurses := true, named := ["crimp/cells.quarters", "crimp/moves.turns"], plainKeys := false, apart := false, laid := [("crimp/moves.turns", laid_crimp_moves_turns), ("crimp/cells.quarters", laid_crimp_cells_quarters)], narrowed := true }
def SetsTextUptoSaid : Prop := setsTextUptoRow.holds Tryd.pinned (OpenSpec.upto setsTextSpec)

/-- 'crimplaw04.SetsErrors', WHERE WHAT IT READS IS OF BULK AT MOST 1048576: true; the input reads as it did. -/
def setsErrorsUptoRow : OpenClaim := { program := "ytmnaghfndigfkaadoor", sum := "a327ddfdac35b36e9219cc8cb4bcb2bcdab1142073b55026cf8b97e92bac451c", func := "crimp/crimplaw04.SetsErrors", spec := "setsErrors", inPlace := ["internal/abi.NoEscape", "internal/bytealg.MakeNoZero"], unfollowed := true, recurses := true, named := ["crimp/cells.quarters", "crimp/moves.turns"], plainKeys := false, apart := false, laid := [("crimp/moves.turns", laid_crimp_moves_turns), ("crimp/cells.quarters", laid_crimp_cells_quarters)], narrowed := true }
def SetsErrorsUptoSaid : Prop := setsErrorsUptoRow.holds Tryd.pinned (OpenSpec.upto setsErrorsSpec)

/-- 'crimplaw23.StacksMove', WHERE WHAT IT READS IS OF BULK AT MOST 1048576: true; the input reads as it did. -/
def stacksMoveUptoRow : OpenClaim := { program := "ytmnaghfndigfkaadoor", sum := "a327ddfdac35b36e9219cc8cb4bcb2bcdab1142073b55026cf8b97e92bac451c", func := "crimp/crimplaw23.StacksMove", spec := "stacksMove", unfollowed := true, recurses := true, named := ["crimp/cells.quarters", "crimp/moves.turns"], plainKeys := false, apart := false, laid := [("crimp/moves.turns", laid_crimp_moves_turns), ("crimp/cells.quarters", laid_crimp_cells_quarters)], narrowed := true }
def StacksMoveUptoSaid : Prop := stacksMoveUptoRow.holds Tryd.pinned (OpenSpec.upto stacksMoveSpec)

/-- 'crimplaw04.SetsOf', WHERE WHAT IT READS IS OF BULK AT MOST 1048576: true; the input reads as it did. -/
def setsOfUptoRow : OpenClaim := { program := "ytmnaghfndigfkaadoor", sum := "a327ddfdac35b36e9219cc8cb4bcb2bcdab1142073b55026cf8b97e92bac451c", func := "crimp/crimplaw04.SetsOf", spec := "setsOf", inPlace := ["internal/abi.NoEscape", "internal/bytealg.MakeNoZero"], unfollowed := true, recurses := true, named := ["crimp/cells.quarters", "crimp/moves.turns"], plainKeys := false, apart := false, laid := [("crimp/moves.turns", laid_crimp_moves_turns), ("crimp/cells.quarters", laid_crimp_cells_quarters)], narrowed := true }
def SetsOfUptoSaid : Prop := setsOfUptoRow.holds Tryd.pinned (OpenSpec.upto setsOfSpec)

end Rows
end Go.Proofs.YtmnaghfndigfkaaDoor
