/-
  NARROWER THAN 'FOR EVERY INPUT', by the rows' own cells (each row's printed sentence says how): PatternsSet: laid · PatternsTurned: laid · PatternsCheck: laid · PatternsOrder: laid · PatternsSame: laid · PatternsKnown: laid · FacesGraph: laid · FacesLines: laid · FacesSizes: laid · FacesOf: laid · FacesErrors: laid.
  DERIVED. THE GIVEN ROWS OF THIS SEAT. 11 by the template 'for every input the law returns true; each argument reads behind the call as it read before'; 0 by the template 'total and deterministic' (their statements: YtfpcbimohikhmaaDoorTotals.lean).
  GIVEN WITH THE SEED: the statements are not yours to turn. If you find one false, say at which input.
  Laid BY PROGRAM, IN A SANDBOX (cutbox-rows.mjs): the forced cells as the released guide's own fill.sh prints them over the translation f362c3ebab73bf70… (all of the seat's roots in one cut). By AI agents, Wed Nov 11 2026. No macro, syntax, notation, axiom, sorry.
-/
import Derived.Test.YtfpcbimohikhmaaDoorChecked
import GoSem.Claim
import GoSem.ClaimJoined
import GoSem.ClaimMapViews
import Derived.JoinedTies
import Derived.KernelRfl
namespace Go.Proofs.YtfpcbimohikhmaaDoor
/- THE CELL 'sum', in the pinned program and in every row, IS THE sha256 OF THE DUMP (.gsa) THAT YtfpcbimohikhmaaDoorProg.lean LOADS. Nothing in Lean hashes anything: it is a label: what it is worth is what the hold of that sum in a sandbox is worth. -/
noncomputable def Tryd.pinned : Pinned := { name := "ytfpcbimohikhmaadoor", sum := "f362c3ebab73bf7029f50d65563cbb47c2384a64c7dc8c7154366a9b0e060c2c", checked := Tryd.checked }
namespace Rows
def none {H : Type} : Left H := { results := [], args := [] }

/- WHAT THE LISTED PACKAGE-LEVEL VARIABLES READ AS WHEN THE CALL BEGINS. Each datum BY PROGRAM (the guide's laid-datum.mjs) off the statement by which the dump's own 'gosem.cut.vars' lays the variable. In a bare row this is a premise. The card (YtfpcbimohikhmaaDoorCards.lean) ties it to the program's text. -/
def laid_crimp_cells_quarters {H : Type} : DataW H := .agg [.agg [.agg [.lit (.int .i64 0), .lit (.int .i64 (-1))], .lit (.int .u8 2), .lit (.int .i64 0), .agg [.agg [.lit (.int .i64 0), .lit (.int .i64 (-1)), .lit (.int .u8 2)], .agg [.lit (.int .i64 0), .lit (.int .i64 0), .lit (.int .u8 1)], .agg [.lit (.int .i64 0), .lit (.int .i64 0), .lit (.int .u8 3)]], .agg [.lit (.int .i64 0), .lit (.int .i64 0)], .agg [.lit (.int .i64 2), .lit (.int .i64 0)]], .agg [.agg [.lit (.int .i64 1), .lit (.int .i64 0)], .lit (.int .u8 1), .lit (.int .i64 1), .agg [.agg [.lit (.int .i64 1), .lit (.int .i64 0), .lit (.int .u8 3)], .agg [.lit (.int .i64 0), .lit (.int .i64 0), .lit (.int .u8 0)], .agg [.lit (.int .i64 0), .lit (.int .i64 0), .lit (.int .u8 2)]], .agg [.lit (.int .i64 2), .lit (.int .i64 2)], .agg [.lit (.int .i64 2), .lit (.int .i64 0)]], .agg [.agg [.lit (.int .i64 0), .lit (.int .i64 1)], .lit (.int .u8 2), .lit (.int .i64 1), .agg [.agg [.lit (.int .i64 0), .lit (.int .i64 1), .lit (.int .u8 0)], .agg [.lit (.int .i64 0), .lit (.int .i64 0), .lit (.int .u8 3)], .agg [.lit (.int .i64 0), .lit (.int .i64 0), .lit (.int .u8 1)]], .agg [.lit (.int .i64 2), .lit (.int .i64 2)], .agg [.lit (.int .i64 0), .lit (.int .i64 2)]], .agg [.agg [.lit (.int .i64 (-1)), .lit (.int .i64 0)], .lit (.int .u8 1), .lit (.int .i64 0), .agg [.agg [.lit (.int .i64 (-1)), .lit (.int .i64 0), .lit (.int .u8 1)], .agg [.lit (.int .i64 0), .lit (.int .i64 0), .lit (.int .u8 2)], .agg [.lit (.int .i64 0), .lit (.int .i64 0), .lit (.int .u8 0)]], .agg [.lit (.int .i64 0), .lit (.int .i64 0)], .agg [.lit (.int .i64 0), .lit (.int .i64 2)]]]
def laid_crimp_patterns_others {H : Type} : DataW H := .agg [.lit (.int .u8 0), .lit (.int .u8 2), .lit (.int .u8 1), .lit (.int .u8 3)]

/-- 'crimplaw06.PatternsSet': WHATEVER THE INPUT: true; the input reads as it did. -/
def patternsSetSpec : ChangeSpec := { name := "patternsSet", fn := fun _ => fun
  | [d1, d2, d3] => { results := [.lit (.bool true)], args := [d1, d2, d3] }
  | _ => none }
def patternsSetRow : OpenClaim := { program := "ytfpcbimohikhmaadoor", sum := "f362c3ebab73bf7029f50d65563cbb47c2384a64c7dc8c7154366a9b0e060c2c", func := "crimp/crimplaw06.PatternsSet", spec := "patternsSet", unfollowed := true, recurses := true, named := ["crimp/cells.quarters", "crimp/patterns.others"], plainKeys := false, apart := false, laid := [("crimp/cells.quarters", laid_crimp_cells_quarters), ("crimp/patterns.others", laid_crimp_patterns_others)] }
def PatternsSetSaid : Prop := patternsSetRow.holds Tryd.pinned (OpenSpec.ofChange patternsSetSpec)

/-- ITS FALSE NEIGHBOUR: 'it returns false'. Refute it at one input. -/
def patternsSetWrong : ChangeSpec := { name := "patternsSet", fn := fun _ => fun
  | [d1, d2, d3] => { results := [.lit (.bool false)], args := [d1, d2, d3] }
  | _ => none }
def PatternsSetWrongFalsely : Prop := patternsSetRow.holds Tryd.pinned (OpenSpec.ofChange patternsSetWrong)

/-- 'crimplaw06.PatternsTurned': WHATEVER THE INPUT: true; the input reads as it did. -/
def patternsTurnedSpec : ChangeSpec := { name := "patternsTurned", fn := fun _ => fun
  | [d] => { results := [.lit (.bool true)], args := [d] }
  | _ => none }
def patternsTurnedRow : OpenClaim := { program := "ytfpcbimohikhmaadoor", sum := "f362c3ebab73bf7029f50d65563cbb47c2384a64c7dc8c7154366a9b0e060c2c", func := "crimp/crimplaw06.PatternsTurned", spec := "patternsTurned", unfollowed := true, recurses := true, named := ["crimp/patterns.others", "crimp/cells.quarters"], plainKeys := false, apart := false, laid := [("crimp/cells.quarters", laid_crimp_cells_quarters), ("crimp/patterns.others", laid_crimp_patterns_others)] }
def PatternsTurnedSaid : Prop := patternsTurnedRow.holds Tryd.pinned (OpenSpec.ofChange patternsTurnedSpec)

/-- ITS FALSE NEIGHBOUR: 'it returns false'. Refute it at one input. -/
def patternsTurnedWrong : ChangeSpec := { name := "patternsTurned", fn := fun _ => fun
  | [d] => { results := [.lit (.bool false)], args := [d] }
  | _ => none }
def PatternsTurnedWrongFalsely : Prop := patternsTurnedRow.holds Tryd.pinned (OpenSpec.ofChange patternsTurnedWrong)

/-- 'crimplaw06.PatternsCheck': WHATEVER THE INPUT: true; the input reads as it did. -/
def patternsCheckSpec : ChangeSpec := { name := "patternsCheck", fn := fun _ => fun
  | [d1, d2, d3] => { results := [.lit (.bool true)], args := [d1, d2, d3] }
  | _ => none }
def patternsCheckRow : OpenClaim := { program := "ytfpcbimohikhmaadoor", sum := "f362c3ebab73bf7029f50d65563cbb47c2384a64c7dc8c7154366a9b0e060c2c", func := "crimp/crimplaw06.PatternsCheck", spec := "patternsCheck", unfollowed := true, recurses := true, named := ["crimp/cells.quarters", "crimp/patterns.others"], plainKeys := false, apart := false, laid := [("crimp/cells.quarters", laid_crimp_cells_quarters), ("crimp/patterns.others", laid_crimp_patterns_others)] }
def PatternsCheckSaid : Prop := patternsCheckRow.holds Tryd.pinned (OpenSpec.ofChange patternsCheckSpec)

/-- ITS FALSE NEIGHBOUR: 'it returns false'. Refute it at one input. -/
def patternsCheckWrong : ChangeSpec := { name := "patternsCheck", fn := fun _ => fun
  | [d1, d2, d3] => { results := [.lit (.bool false)], args := [d1, d2, d3] }
  | _ => none }
def PatternsCheckWrongFalsely : Prop := patternsCheckRow.holds Tryd.pinned (OpenSpec.ofChange patternsCheckWrong)

/-- 'crimplaw06.PatternsOrder': WHATEVER THE INPUT: true; the input reads as it did. -/
def patternsOrderSpec : ChangeSpec := { name := "patternsOrder", fn := fun _ => fun
  | [d1, d2, d3] => { results := [.lit (.bool true)], args := [d1, d2, d3] }
  | _ => none }
def patternsOrderRow : OpenClaim := { program := "ytfpcbimohikhmaadoor", sum := "f362c3ebab73bf7029f50d65563cbb47c2384a64c7dc8c7154366a9b0e060c2c", func := "crimp/crimplaw06.PatternsOrder", spec := "patternsOrder", unfollowed := true, recurses := true, named := ["crimp/cells.quarters", "crimp/patterns.others"], plainKeys := false, apart := false, laid := [("crimp/cells.quarters", laid_crimp_cells_quarters), ("crimp/patterns.others", laid_crimp_patterns_others)] }
def PatternsOrderSaid : Prop := patternsOrderRow.holds Tryd.pinned (OpenSpec.ofChange patternsOrderSpec)

/-- ITS FALSE NEIGHBOUR: 'it returns false'. Refute it at one input. -/
def patternsOrderWrong : ChangeSpec := { name := "patternsOrder", fn := fun _ => fun
  | [d1, d2, d3] => { results := [.lit (.bool false)], args := [d1, d2, d3] }
  | _ => none }
def PatternsOrderWrongFalsely : Prop := patternsOrderRow.holds Tryd.pinned (OpenSpec.ofChange patternsOrderWrong)

/-- 'crimplaw06.PatternsSame': WHATEVER THE INPUT: true; the input reads as it did. -/
def patternsSameSpec : ChangeSpec := { name := "patternsSame", fn := fun _ => fun
  | [d1, d2, d3] => { results := [.lit (.bool true)], args := [d1, d2, d3] }
  | _ => none }
def patternsSameRow : OpenClaim := { program := "ytfpcbimohikhmaadoor", sum := "f362c3ebab73bf7029f50d65563cbb47c2384a64c7dc8c7154366a9b0e060c2c", func := "crimp/crimplaw06.PatternsSame", spec := "patternsSame", unfollowed := true, recurses := true, named := ["crimp/cells.quarters", "crimp/patterns.others"], plainKeys := false, apart := false, laid := [("crimp/cells.quarters", laid_crimp_cells_quarters), ("crimp/patterns.others", laid_crimp_patterns_others)] }
def PatternsSameSaid : Prop := patternsSameRow.holds Tryd.pinned (OpenSpec.ofChange patternsSameSpec)

/-- ITS FALSE NEIGHBOUR: 'it returns false'. Refute it at one input. -/
def patternsSameWrong : ChangeSpec := { name := "patternsSame", fn := fun _ => fun
  | [d1, d2, d3] => { results := [.lit (.bool false)], args := [d1, d2, d3] }
  | _ => none }
def PatternsSameWrongFalsely : Prop := patternsSameRow.holds Tryd.pinned (OpenSpec.ofChange patternsSameWrong)

/-- 'crimplaw06.PatternsKnown': WHATEVER THE INPUT: true; the input reads as it did. -/
def patternsKnownSpec : ChangeSpec := { name := "patternsKnown", fn := fun _ => fun
  | [] => { results := [.lit (.bool true)], args := [] }
  | _ => none }
def patternsKnownRow : OpenClaim := { program := "ytfpcbimohikhmaadoor", sum := "f362c3ebab73bf7029f50d65563cbb47c2384a64c7dc8c7154366a9b0e060c2c", func := "crimp/crimplaw06.PatternsKnown", spec := "patternsKnown", unfollowed := true, recurses := true, named := ["crimp/cells.quarters", "crimp/patterns.others"], plainKeys := false, apart := false, laid := [("crimp/cells.quarters", laid_crimp_cells_quarters), ("crimp/patterns.others", laid_crimp_patterns_others)] }
def PatternsKnownSaid : Prop := patternsKnownRow.holds Tryd.pinned (OpenSpec.ofChange patternsKnownSpec)

/-- ITS FALSE NEIGHBOUR: 'it returns false'. Refute it at one input. -/
def patternsKnownWrong : ChangeSpec := { name := "patternsKnown", fn := fun _ => fun
  | [] => { results := [.lit (.bool false)], args := [] }
  | _ => none }
def PatternsKnownWrongFalsely : Prop := patternsKnownRow.holds Tryd.pinned (OpenSpec.ofChange patternsKnownWrong)

/-- 'crimplaw08.FacesGraph': WHATEVER THE INPUT: true; the input reads as it did. -/
def facesGraphSpec : ChangeSpec := { name := "facesGraph", fn := fun _ => fun
  | [d] => { results := [.lit (.bool true)], args := [d] }
  | _ => none }
def facesGraphRow : OpenClaim := { program := "ytfpcbimohikhmaadoor", sum := "f362c3ebab73bf7029f50d65563cbb47c2384a64c7dc8c7154366a9b0e060c2c", func := "crimp/crimplaw08.FacesGraph", spec := "facesGraph", unfollowed := true, recurses := true, named := ["crimp/cells.quarters"], plainKeys := false, apart := false, laid := [("crimp/cells.quarters", laid_crimp_cells_quarters)] }
def FacesGraphSaid : Prop := facesGraphRow.holds Tryd.pinned (OpenSpec.ofChange facesGraphSpec)

/-- ITS FALSE NEIGHBOUR: 'it returns false'. Refute it at one input. -/
def facesGraphWrong : ChangeSpec := { name := "facesGraph", fn := fun _ => fun
  | [d] => { results := [.lit (.bool false)], args := [d] }
  | _ => none }
def FacesGraphWrongFalsely : Prop := facesGraphRow.holds Tryd.pinned (OpenSpec.ofChange facesGraphWrong)

/-- 'crimplaw08.FacesLines': WHATEVER THE INPUT: true; the input reads as it did. -/
def facesLinesSpec : ChangeSpec := { name := "facesLines", fn := fun _ => fun
  | [d1, d2] => { results := [.lit (.bool true)], args := [d1, d2] }
  | _ => none }
def facesLinesRow : OpenClaim := { program := "ytfpcbimohikhmaadoor", sum := "f362c3ebab73bf7029f50d65563cbb47c2384a64c7dc8c7154366a9b0e060c2c", func := "crimp/crimplaw08.FacesLines", spec := "facesLines", unfollowed := true, recurses := true, named := ["crimp/cells.quarters"], plainKeys := false, apart := false, laid := [("crimp/cells.quarters", laid_crimp_cells_quarters)] }
def FacesLinesSaid : Prop := facesLinesRow.holds Tryd.pinned (OpenSpec.ofChange facesLinesSpec)

/-- ITS FALSE NEIGHBOUR: 'it returns false'. Refute it at one input. -/
def facesLinesWrong : ChangeSpec := { name := "facesLines", fn := fun _ => fun
  | [d1, d2] => { results := [.lit (.bool false)], args := [d1, d2] }
  | _ => none }
def FacesLinesWrongFalsely : Prop := facesLinesRow.holds Tryd.pinned (OpenSpec.ofChange facesLinesWrong)

/-- 'crimplaw08.FacesSizes': WHATEVER THE INPUT: true; the input reads as it did. -/
def facesSizesSpec : ChangeSpec := { name := "facesSizes", fn := fun _ => fun
  | [d1, d2] => { results := [.lit (.bool true)], args := [d1, d2] }
  | _ => none }
def facesSizesRow : OpenClaim := { program := "ytfpcbimohikhmaadoor", sum := "f362c3ebab73bf7029f50d65563cbb47c2384a64c7dc8c7154366a9b0e060c2c", func := "crimp/crimplaw08.FacesSizes", spec := "facesSizes", unfollowed := true, recurses := true, named := ["crimp/cells.quarters"], plainKeys := false, apart := false, laid := [("crimp/cells.quarters", laid_crimp_cells_quarters)] }
def FacesSizesSaid : Prop := facesSizesRow.holds Tryd.pinned (OpenSpec.ofChange facesSizesSpec)

/-- ITS FALSE NEIGHBOUR: 'it returns false'. Refute it at one input. -/
def facesSizesWrong : ChangeSpec := { name := "facesSizes", fn := fun _ => fun
  | [d1, d2] => { results := [.lit (.bool false)], args := [d1, d2] }
  | _ => none }
def FacesSizesWrongFalsely : Prop := facesSizesRow.holds Tryd.pinned (OpenSpec.ofChange facesSizesWrong)

/-- 'crimplaw08.FacesOf': WHATEVER THE INPUT: true; the input reads as it did. -/
def facesOfSpec : ChangeSpec := { name := "facesOf", fn := fun _ => fun
  | [d] => { results := [.lit (.bool true)], args := [d] }
  | _ => none }
def facesOfRow : OpenClaim := { program := "ytfpcbimohikhmaadoor", sum := "f362c3ebab73bf7029f50d65563cbb47c2384a64c7dc8c7154366a9b0e060c2c", func := "crimp/crimplaw08.FacesOf", spec := "facesOf", unfollowed := true, recurses := true, named := ["crimp/cells.quarters", "crimp/patterns.others"], plainKeys := false, apart := false, laid := [("crimp/cells.quarters", laid_crimp_cells_quarters), ("crimp/patterns.others", laid_crimp_patterns_others)] }
def FacesOfSaid : Prop := facesOfRow.holds Tryd.pinned (OpenSpec.ofChange facesOfSpec)

/-- ITS FALSE NEIGHBOUR: 'it returns false'. Refute it at one input. -/
def facesOfWrong : ChangeSpec := { name := "facesOf", fn := fun _ => fun
  | [d] => { results := [.lit (.bool false)], args := [d] }
  | _ => none }
def FacesOfWrongFalsely : Prop := facesOfRow.holds Tryd.pinned (OpenSpec.ofChange facesOfWrong)

/-- 'crimplaw08.FacesErrors': WHATEVER THE INPUT: true; the input reads as it did. -/
def facesErrorsSpec : ChangeSpec := { name := "facesErrors", fn := fun _ => fun
  | [d] => { results := [.lit (.bool true)], args := [d] }
  | _ => none }
def facesErrorsRow : OpenClaim := { program := "ytfpcbimohikhmaadoor", sum := "f362c3ebab73bf7029f50d65563cbb47c2384a64c7dc8c7154366a9b0e060c2c", func := "crimp/crimplaw08.FacesErrors", spec := "facesErrors", unfollowed := true, recurses := true, named := ["crimp/cells.quarters"], plainKeys := false, apart := false, laid := [("crimp/cells.quarters", laid_crimp_cells_quarters)] }
def FacesErrorsSaid : Prop := facesErrorsRow.holds Tryd.pinned (OpenSpec.ofChange facesErrorsSpec)

/-- ITS FALSE NEIGHBOUR: 'it returns false'. Refute it at one input. -/
def facesErrorsWrong : ChangeSpec := { name := "facesErrors", fn := fun _ => fun
  | [d] => { results := [.lit (.bool false)], args := [d] }
  | _ => none }
def FacesErrorsWrongFalsely : Prop := facesErrorsRow.holds Tryd.pinned (OpenSpec.ofChange facesErrorsWrong)

/- THE SECOND FORM. 'bulk': how many values and letters a reading holds, each counted each time it is reached (what is shared counts as often as it is met; a slice's spare places count too). A statement '..UptoSaid' is the law's where the arguments, and the package variables that the reading takes, are together of bulk at most 1048576: NARROWER than '..Said'. Prove '..Said' where nothing that the law and all that it calls make is longer than what came in: it says more and counts as full. Else prove '..UptoSaid'. A law counts once. -/
mutual
def uptoBulk {H : Type} : DataW H → Nat
  | .lit (.string bytes) => bytes.length + 1
  | .lit _ => 1
  | .nil => 1
  | .ptr d => uptoBulk d + 1
  | .slice elems spare => uptoBulkAll elems + uptoBulkAll spare + 1
  | .agg parts => uptoBulkAll parts + 1
  | .iface _ d => uptoBulk d + 1
  | .map entries => uptoBulkEntries entries + 1
  | .held _ => 1
def uptoBulkAll {H : Type} : List (DataW H) → Nat
  | [] => 0
  | d :: r => uptoBulk d + uptoBulkAll r
def uptoBulkEntries {H : Type} : List (Lit × DataW H) → Nat
  | [] => 0
  | x :: r => uptoBulkEntry x + uptoBulkEntries r
def uptoBulkEntry {H : Type} : Lit × DataW H → Nat
  | (.string bytes, d) => bytes.length + uptoBulk d + 1
  | (_, d) => uptoBulk d + 1
 end
def uptoSmall : (H : Type) → List (DataW H) → Bool := fun _ ds => decide (uptoBulkAll ds ≤ 1048576)
def OpenSpec.upto (s : _root_.Go.ChangeSpec) : _root_.Go.OpenSpec := { _root_.Go.OpenSpec.ofChange s with cond := some uptoSmall }

/-- 'crimplaw06.PatternsSet', WHERE WHAT IT READS IS OF BULK AT MOST 1048576: true; the input reads as it did. -/
def patternsSetUptoRow : OpenClaim := { program := "ytfpcbimohikhmaadoor", sum := "f362c3ebab73bf7029f50d65563cbb47c2384a64c7dc8c7154366a9b0e060c2c", func := "crimp/crimplaw06.PatternsSet", spec := "patternsSet", unfollowed := true, recurses := true, named := ["crimp/cells.quarters", "crimp/patterns.others"], plainKeys := false, apart := false, laid := [("crimp/cells.quarters", laid_crimp_cells_quarters), ("crimp/patterns.others", laid_crimp_patterns_others)], narrowed := true }
def PatternsSetUptoSaid : Prop := patternsSetUptoRow.holds Tryd.pinned (OpenSpec.upto patternsSetSpec)

/-- 'crimplaw06.PatternsTurned', WHERE WHAT IT READS IS OF BULK AT MOST 1048576: true; the input reads as it did. -/
def patternsTurnedUptoRow : OpenClaim := { program := "ytfpcbimohikhmaadoor", sum := "f362c3ebab73bf7029f50d65563cbb47c2384a64c7dc8c7154366a9b0e060c2c", func := "crimp/crimplaw06.PatternsTurned", spec := "patternsTurned", unfollowed := true, recurses := true, named := ["crimp/patterns.others", "crimp/cells.quarters"], plainKeys := false, apart := false, laid := [("crimp/cells.quarters", laid_crimp_cells_quarters), ("crimp/patterns.others", laid_crimp_patterns_others)], narrowed := true }
def PatternsTurnedUptoSaid : Prop := patternsTurnedUptoRow.holds Tryd.pinned (OpenSpec.upto patternsTurnedSpec)

/-- 'crimplaw06.PatternsCheck', WHERE WHAT IT READS IS OF BULK AT MOST 1048576: true; the input reads as it did. -/
def patternsCheckUptoRow : OpenClaim := { program := "ytfpcbimohikhmaadoor", sum := "f362c3ebab73bf7029f50d65563cbb47c2384a64c7dc8c7154366a9b0e060c2c", func := "crimp/crimplaw06.PatternsCheck", spec := "patternsCheck", unfollowed := true, recurses := true, named := ["crimp/cells.quarters", "crimp/patterns.others"], plainKeys := false, apart := false, laid := [("crimp/cells.quarters", laid_crimp_cells_quarters), ("crimp/patterns.others", laid_crimp_patterns_others)], narrowed := true }
def PatternsCheckUptoSaid : Prop := patternsCheckUptoRow.holds Tryd.pinned (OpenSpec.upto patternsCheckSpec)

/-- 'crimplaw06.PatternsOrder', WHERE WHAT IT READS IS OF BULK AT MOST 1048576: true; the input reads as it did. -/
def patternsOrderUptoRow : OpenClaim := { program := "ytfpcbimohikhmaadoor", sum := "f362c3ebab73bf7029f50d65563cbb47c2384a64c7dc8c7154366a9b0e060c2c", func := "crimp/crimplaw06.PatternsOrder", spec := "patternsOrder", unfollowed := true, recurses := true, named := ["crimp/cells.quarters", "crimp/patterns.others"], plainKeys := false, apart := false, laid := [("crimp/cells.quarters", laid_crimp_cells_quarters), ("crimp/patterns.others", laid_crimp_patterns_others)], narrowed := true }
def PatternsOrderUptoSaid : Prop := patternsOrderUptoRow.holds Tryd.pinned (OpenSpec.upto patternsOrderSpec)

/-- 'crimplaw06.PatternsSame', WHERE WHAT IT READS IS OF BULK AT MOST 1048576: true; the input reads as it did. -/
def patternsSameUptoRow : OpenClaim := { program := "ytfpcbimohikhmaadoor", sum := "f362c3ebab73bf7029f50d65563cbb47c2384a64c7dc8c7154366a9b0e060c2c", func := "crimp/crimplaw06.PatternsSame", spec := "patternsSame", unfollowed := true, recurses := true, named := ["crimp/cells.quarters", "crimp/patterns.others"], plainKeys := false, apart := false, laid := [("crimp/cells.quarters", laid_crimp_cells_quarters), ("crimp/patterns.others", laid_crimp_patterns_others)], narrowed := true }
def PatternsSameUptoSaid : Prop := patternsSameUptoRow.holds Tryd.pinned (OpenSpec.upto patternsSameSpec)

/-- 'crimplaw06.PatternsKnown', WHERE WHAT IT READS IS OF BULK AT MOST 1048576: true; the input reads as it did. -/
def patternsKnownUptoRow : OpenClaim := { program := "ytfpcbimohikhmaadoor", sum := "f362c3ebab73bf7029f50d65563cbb47c2384a64c7dc8c7154366a9b0e060c2c", func := "crimp/crimplaw06.PatternsKnown", spec := "patternsKnown", unfollowed := true, recurses := true, named := ["crimp/cells.quarters", "crimp/patterns.others"], plainKeys := false, apart := false, laid := [("crimp/cells.quarters", laid_crimp_cells_quarters), ("crimp/patterns.others", laid_crimp_patterns_others)], narrowed := true }
def PatternsKnownUptoSaid : Prop := patternsKnownUptoRow.holds Tryd.pinned (OpenSpec.upto patternsKnownSpec)

/-- 'crimplaw08.FacesGraph', WHERE WHAT IT READS IS OF BULK AT MOST 1048576: true; the input reads as it did. -/
def facesGraphUptoRow : OpenClaim := { program := "ytfpcbimohikhmaadoor", sum := "f362c3ebab73bf7029f50d65563cbb47c2384a64c7dc8c7154366a9b0e060c2c", func := "crimp/crimplaw08.FacesGraph", spec := "facesGraph", unfollowed := true, recurses := true, named := ["crimp/cells.quarters"], plainKeys := false, apart := false, laid := [("crimp/cells.quarters", laid_crimp_cells_quarters)], narrowed := true }
def FacesGraphUptoSaid : Prop := facesGraphUptoRow.holds Tryd.pinned (OpenSpec.upto facesGraphSpec)

/-- 'crimplaw08.FacesLines', WHERE WHAT IT READS IS OF BULK AT MOST 1048576: true; the input reads as it did. -/
def facesLinesUptoRow : OpenClaim := { program := "ytfpcbimohikhmaadoor", sum := "f362c3ebab73bf7029f50d65563cbb47c2384a64c7dc8c7154366a9b0e060c2c", func := "crimp/crimplaw08.FacesLines", spec := "facesLines", unfollowed := true, recurses := true, named := ["crimp/cells.quarters"], plainKeys := false, apart := false, laid := [("crimp/cells.quarters", laid_crimp_cells_quarters)], narrowed := true }
def FacesLinesUptoSaid : Prop := facesLinesUptoRow.holds Tryd.pinned (OpenSpec.upto facesLinesSpec)

/-- 'crimplaw08.FacesSizes', WHERE WHAT IT READS IS OF BULK AT MOST 1048576: true; the input reads as it did. -/
def facesSizesUptoRow : OpenClaim := { program := "ytfpcbimohikhmaadoor", sum := "f362c3ebab73bf7029f50d65563cbb47c2384a64c7dc8c7154366a9b0e060c2c", func := "crimp/crimplaw08.FacesSizes", spec := "facesSizes", unfollowed := true, recurses := true, named := ["crimp/cells.quarters"], plainKeys := false, apart := false, laid := [("crimp/cells.quarters", laid_crimp_cells_quarters)], narrowed := true }
def FacesSizesUptoSaid : Prop := facesSizesUptoRow.holds Tryd.pinned (OpenSpec.upto facesSizesSpec)

/-- 'crimplaw08.FacesOf', WHERE WHAT IT READS IS OF BULK AT MOST 1048576: true; the input reads as it did. -/
def facesOfUptoRow : OpenClaim := { program := "ytfpcbimohikhmaadoor", sum := "f362c3ebab73bf7029f50d65563cbb47c2384a64c7dc8c7154366a9b0e060c2c", func := "crimp/crimplaw08.FacesOf", spec := "facesOf", unfollowed := true, recurses := true, named := ["crimp/cells.quarters", "crimp/patterns.others"], plainKeys := false, apart := false, laid := [("crimp/cells.quarters", laid_crimp_cells_quarters), ("crimp/patterns.others", laid_crimp_patterns_others)], narrowed := true }
def FacesOfUptoSaid : Prop := facesOfUptoRow.holds Tryd.pinned (OpenSpec.upto facesOfSpec)

/-- 'crimplaw08.FacesErrors', WHERE WHAT IT READS IS OF BULK AT MOST 1048576: true; the input reads as it did. -/
def facesErrorsUptoRow : OpenClaim := { program := "ytfpcbimohikhmaadoor", sum := "f362c3ebab73bf7029f50d65563cbb47c2384a64c7dc8c7154366a9b0e060c2c", func := "crimp/crimplaw08.FacesErrors", spec := "facesErrors", unfollowed := true, recurses := true, named := ["crimp/cells.quarters"], plainKeys := false, apart := false, laid := [("crimp/cells.quarters", laid_crimp_cells_quarters)], narrowed := true }
def FacesErrorsUptoSaid : Prop := facesErrorsUptoRow.holds Tryd.pinned (OpenSpec.upto facesErrorsSpec)

end Rows
end Go.Proofs.YtfpcbimohikhmaaDoor
