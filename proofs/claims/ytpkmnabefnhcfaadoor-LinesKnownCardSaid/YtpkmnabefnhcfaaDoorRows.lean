/-
  NARROWER THAN 'FOR EVERY INPUT', by the rows' own cells (each row's printed sentence says how): LinesSide: laid · LinesReflect: laid · LinesImage: laid · LinesMeet: laid · LinesThrough: laid · LinesTwice: laid · LinesText: laid · LinesKnown: laid.
  DERIVED. THE GIVEN ROWS OF THIS SEAT. 8 by the template 'for every input the law returns true; each argument reads behind the call as it read before'; 0 by the template 'total and deterministic' (their statements: YtpkmnabefnhcfaaDoorTotals.lean).
  GIVEN WITH THE SEED: the statements are not yours to turn. If you find one false, say at which input.
  Laid BY PROGRAM, IN A SANDBOX (cutbox-rows.mjs): the forced cells as the released guide's own fill.sh prints them over the translation 9d3255b43ef6218a… (all of the seat's roots in one cut). By AI agents, Wed Nov 11 2026. No macro, syntax, notation, axiom, sorry.
-/
import Derived.Test.YtpkmnabefnhcfaaDoorChecked
import GoSem.Claim
import GoSem.ClaimJoined
import GoSem.ClaimMapViews
import Derived.JoinedTies
import Derived.KernelRfl
namespace Go.Proofs.YtpkmnabefnhcfaaDoor
/- THE CELL 'sum', in the pinned program and in every row, IS THE sha256 OF THE DUMP (.gsa) THAT YtpkmnabefnhcfaaDoorProg.lean LOADS. Nothing in Lean hashes anything: it is a label: what it is worth is what the hold of that sum in a sandbox is worth. -/
noncomputable def Tryd.pinned : Pinned := { name := "ytpkmnabefnhcfaadoor", sum := "9d3255b43ef6218ab08af07b3e7de88408ce83a01b88f1d05a8c95635cfb4168", checked := Tryd.checked }
namespace Rows
def none {H : Type} : Left H := { results := [], args := [] }

/- WHAT THE LISTED PACKAGE-LEVEL VARIABLES READ AS WHEN THE CALL BEGINS. Each datum BY PROGRAM (the guide's laid-datum.mjs) off the statement by which the dump's own 'gosem.cut.vars' lays the variable. In a bare row this is a premise. The card (YtpkmnabefnhcfaaDoorCards.lean) ties it to the program's text. -/
def laid_math_bits_deBruijn32tab {H : Type} : DataW H := .agg [.lit (.int .u8 0), .lit (.int .u8 1), .lit (.int .u8 28), .lit (.int .u8 2), .lit (.int .u8 29), .lit (.int .u8 14), .lit (.int .u8 24), .lit (.int .u8 3), .lit (.int .u8 30), .lit (.int .u8 22), .lit (.int .u8 20), .lit (.int .u8 15), .lit (.int .u8 25), .lit (.int .u8 17), .lit (.int .u8 4), .lit (.int .u8 8), .lit (.int .u8 31), .lit (.int .u8 27), .lit (.int .u8 13), .lit (.int .u8 23), .lit (.int .u8 21), .lit (.int .u8 19), .lit (.int .u8 16), .lit (.int .u8 7), .lit (.int .u8 26), .lit (.int .u8 12), .lit (.int .u8 18), .lit (.int .u8 6), .lit (.int .u8 11), .lit (.int .u8 5), .lit (.int .u8 10), .lit (.int .u8 9)]
def laid_math_bits_deBruijn64tab {H : Type} : DataW H := .agg [.lit (.int .u8 0), .lit (.int .u8 1), .lit (.int .u8 56), .lit (.int .u8 2), .lit (.int .u8 57), .lit (.int .u8 49), .lit (.int .u8 28), .lit (.int .u8 3), .lit (.int .u8 61), .lit (.int .u8 58), .lit (.int .u8 42), .lit (.int .u8 50), .lit (.int .u8 38), .lit (.int .u8 29), .lit (.int .u8 17), .lit (.int .u8 4), .lit (.int .u8 62), .lit (.int .u8 47), .lit (.int .u8 59), .lit (.int .u8 36), .lit (.int .u8 45), .lit (.int .u8 43), .lit (.int .u8 51), .lit (.int .u8 22), .lit (.int .u8 53), .lit (.int .u8 39), .lit (.int .u8 33), .lit (.int .u8 30), .lit (.int .u8 24), .lit (.int .u8 18), .lit (.int .u8 12), .lit (.int .u8 5), .lit (.int .u8 63), .lit (.int .u8 55), .lit (.int .u8 48), .lit (.int .u8 27), .lit (.int .u8 60), .lit (.int .u8 41), .lit (.int .u8 37), .lit (.int .u8 16), .lit (.int .u8 46), .lit (.int .u8 35), .lit (.int .u8 44), .lit (.int .u8 21), .lit (.int .u8 52), .lit (.int .u8 32), .lit (.int .u8 23), .lit (.int .u8 11), .lit (.int .u8 54), .lit (.int .u8 26), .lit (.int .u8 40), .lit (.int .u8 15), .lit (.int .u8 34), .lit (.int .u8 20), .lit (.int .u8 31), .lit (.int .u8 10), .lit (.int .u8 25), .lit (.int .u8 14), .lit (.int .u8 19), .lit (.int .u8 9), .lit (.int .u8 13), .lit (.int .u8 8), .lit (.int .u8 7), .lit (.int .u8 6)]
def laid_internal_strconv_uint64pow10 {H : Type} : DataW H := .agg [.lit (.int .u64 1), .lit (.int .u64 10), .lit (.int .u64 100), .lit (.int .u64 1000), .lit (.int .u64 10000), .lit (.int .u64 100000), .lit (.int .u64 1000000), .lit (.int .u64 10000000), .lit (.int .u64 100000000), .lit (.int .u64 1000000000), .lit (.int .u64 10000000000), .lit (.int .u64 100000000000), .lit (.int .u64 1000000000000), .lit (.int .u64 10000000000000), .lit (.int .u64 100000000000000), .lit (.int .u64 1000000000000000), .lit (.int .u64 10000000000000000), .lit (.int .u64 100000000000000000), .lit (.int .u64 1000000000000000000), .lit (.int .u64 10000000000000000000)]

/-- 'crimplaw01.LinesSide': WHATEVER THE INPUT: true; the input reads as it did. -/
def linesSideSpec : ChangeSpec := { name := "linesSide", fn := fun _ => fun
  | [d1, d2] => { results := [.lit (.bool true)], args := [d1, d2] }
  | _ => none }
def linesSideRow : OpenClaim := { program := "ytpkmnabefnhcfaadoor", sum := "9d3255b43ef6218ab08af07b3e7de88408ce83a01b88f1d05a8c95635cfb4168", func := "crimp/crimplaw01.LinesSide", spec := "linesSide", inPlace := ["internal/bytealg.IndexByteString", "internal/bytealg.IndexString"], unfollowed := true, recurses := true, named := ["internal/bytealg.MaxLen", "internal/strconv.uint64pow10", "math/bits.deBruijn32tab", "math/bits.deBruijn64tab"], apart := false, laid := [("math/bits.deBruijn32tab", laid_math_bits_deBruijn32tab), ("math/bits.deBruijn64tab", laid_math_bits_deBruijn64tab), ("internal/strconv.uint64pow10", laid_internal_strconv_uint64pow10)] }
def LinesSideSaid : Prop := linesSideRow.holds Tryd.pinned (OpenSpec.ofChange linesSideSpec)

/-- ITS FALSE NEIGHBOUR: 'it returns false'. Refute it at one input. -/
def linesSideWrong : ChangeSpec := { name := "linesSide", fn := fun _ => fun
  | [d1, d2] => { results := [.lit (.bool false)], args := [d1, d2] }
  | _ => none }
def LinesSideWrongFalsely : Prop := linesSideRow.holds Tryd.pinned (OpenSpec.ofChange linesSideWrong)

/-- 'crimplaw01.LinesReflect': WHATEVER THE INPUT: true; the input reads as it did. -/
def linesReflectSpec : ChangeSpec := { name := "linesReflect", fn := fun _ => fun
  | [d1, d2] => { results := [.lit (.bool true)], args := [d1, d2] }
  | _ => none }
def linesReflectRow : OpenClaim := { program := "ytpkmnabefnhcfaadoor", sum := "9d3255b43ef6218ab08af07b3e7de88408ce83a01b88f1d05a8c95635cfb4168", func := "crimp/crimplaw01.LinesReflect", spec := "linesReflect", inPlace := ["internal/bytealg.IndexByteString", "internal/bytealg.IndexString"], unfollowed := true, recurses := true, named := ["internal/bytealg.MaxLen", "internal/strconv.uint64pow10", "math/bits.deBruijn32tab", "math/bits.deBruijn64tab"], apart := false, laid := [("math/bits.deBruijn32tab", laid_math_bits_deBruijn32tab), ("math/bits.deBruijn64tab", laid_math_bits_deBruijn64tab), ("internal/strconv.uint64pow10", laid_internal_strconv_uint64pow10)] }
def LinesReflectSaid : Prop := linesReflectRow.holds Tryd.pinned (OpenSpec.ofChange linesReflectSpec)

/-- ITS FALSE NEIGHBOUR: 'it returns false'. Refute it at one input. -/
def linesReflectWrong : ChangeSpec := { name := "linesReflect", fn := fun _ => fun
  | [d1, d2] => { results := [.lit (.bool false)], args := [d1, d2] }
  | _ => none }
def LinesReflectWrongFalsely : Prop := linesReflectRow.holds Tryd.pinned (OpenSpec.ofChange linesReflectWrong)

/-- 'crimplaw01.LinesImage': WHATEVER THE INPUT: true; the input reads as it did. -/
def linesImageSpec : ChangeSpec := { name := "linesImage", fn := fun _ => fun
  | [d1, d2] => { results := [.lit (.bool true)], args := [d1, d2] }
  | _ => none }
def linesImageRow : OpenClaim := { program := "ytpkmnabefnhcfaadoor", sum := "9d3255b43ef6218ab08af07b3e7de88408ce83a01b88f1d05a8c95635cfb4168", func := "crimp/crimplaw01.LinesImage", spec := "linesImage", inPlace := ["internal/bytealg.IndexByteString", "internal/bytealg.IndexString"], unfollowed := true, recurses := true, named := ["internal/bytealg.MaxLen", "internal/strconv.uint64pow10", "math/bits.deBruijn32tab", "math/bits.deBruijn64tab"], apart := false, laid := [("math/bits.deBruijn32tab", laid_math_bits_deBruijn32tab), ("math/bits.deBruijn64tab", laid_math_bits_deBruijn64tab), ("internal/strconv.uint64pow10", laid_internal_strconv_uint64pow10)] }
def LinesImageSaid : Prop := linesImageRow.holds Tryd.pinned (OpenSpec.ofChange linesImageSpec)

/-- ITS FALSE NEIGHBOUR: 'it returns false'. Refute it at one input. -/
def linesImageWrong : ChangeSpec := { name := "linesImage", fn := fun _ => fun
  | [d1, d2] => { results := [.lit (.bool false)], args := [d1, d2] }
  | _ => none }
def LinesImageWrongFalsely : Prop := linesImageRow.holds Tryd.pinned (OpenSpec.ofChange linesImageWrong)

/-- 'crimplaw01.LinesMeet': WHATEVER THE INPUT: true; the input reads as it did. -/
def linesMeetSpec : ChangeSpec := { name := "linesMeet", fn := fun _ => fun
  | [d1, d2] => { results := [.lit (.bool true)], args := [d1, d2] }
  | _ => none }
def linesMeetRow : OpenClaim := { program := "ytpkmnabefnhcfaadoor", sum := "9d3255b43ef6218ab08af07b3e7de88408ce83a01b88f1d05a8c95635cfb4168", func := "crimp/crimplaw01.LinesMeet", spec := "linesMeet", inPlace := ["internal/bytealg.IndexByteString", "internal/bytealg.IndexString"], unfollowed := true, recurses := true, named := ["internal/bytealg.MaxLen", "internal/strconv.uint64pow10", "math/bits.deBruijn32tab", "math/bits.deBruijn64tab"], apart := false, laid := [("math/bits.deBruijn32tab", laid_math_bits_deBruijn32tab), ("math/bits.deBruijn64tab", laid_math_bits_deBruijn64tab), ("internal/strconv.uint64pow10", laid_internal_strconv_uint64pow10)] }
def LinesMeetSaid : Prop := linesMeetRow.holds Tryd.pinned (OpenSpec.ofChange linesMeetSpec)

/-- ITS FALSE NEIGHBOUR: 'it returns false'. Refute it at one input. -/
def linesMeetWrong : ChangeSpec := { name := "linesMeet", fn := fun _ => fun
  | [d1, d2] => { results := [.lit (.bool false)], args := [d1, d2] }
  | _ => none }
def LinesMeetWrongFalsely : Prop := linesMeetRow.holds Tryd.pinned (OpenSpec.ofChange linesMeetWrong)

/-- 'crimplaw01.LinesThrough': WHATEVER THE INPUT: true; the input reads as it did. -/
def linesThroughSpec : ChangeSpec := { name := "linesThrough", fn := fun _ => fun
  | [d1, d2] => { results := [.lit (.bool true)], args := [d1, d2] }
  | _ => none }
def linesThroughRow : OpenClaim := { program := "ytpkmnabefnhcfaadoor", sum := "9d3255b43ef6218ab08af07b3e7de88408ce83a01b88f1d05a8c95635cfb4168", func := "crimp/crimplaw01.LinesThrough", spec := "linesThrough", inPlace := ["internal/bytealg.IndexByteString", "internal/bytealg.IndexString"], unfollowed := true, recurses := true, named := ["internal/bytealg.MaxLen", "internal/strconv.uint64pow10", "math/bits.deBruijn32tab", "math/bits.deBruijn64tab"], apart := false, laid := [("math/bits.deBruijn32tab", laid_math_bits_deBruijn32tab), ("math/bits.deBruijn64tab", laid_math_bits_deBruijn64tab), ("internal/strconv.uint64pow10", laid_internal_strconv_uint64pow10)] }
def LinesThroughSaid : Prop := linesThroughRow.holds Tryd.pinned (OpenSpec.ofChange linesThroughSpec)

/-- ITS FALSE NEIGHBOUR: 'it returns false'. Refute it at one input. -/
def linesThroughWrong : ChangeSpec := { name := "linesThrough", fn := fun _ => fun
  | [d1, d2] => { results := [.lit (.bool false)], args := [d1, d2] }
  | _ => none }
def LinesThroughWrongFalsely : Prop := linesThroughRow.holds Tryd.pinned (OpenSpec.ofChange linesThroughWrong)

/-- 'crimplaw01.LinesTwice': WHATEVER THE INPUT: true; the input reads as it did. -/
def linesTwiceSpec : ChangeSpec := { name := "linesTwice", fn := fun _ => fun
  | [d1, d2, d3] => { results := [.lit (.bool true)], args := [d1, d2, d3] }
  | _ => none }
def linesTwiceRow : OpenClaim := { program := "ytpkmnabefnhcfaadoor", sum := "9d3255b43ef6218ab08af07b3e7de88408ce83a01b88f1d05a8c95635cfb4168", func := "crimp/crimplaw01.LinesTwice", spec := "linesTwice", inPlace := ["internal/bytealg.IndexByteString", "internal/bytealg.IndexString"], unfollowed := true, recurses := true, named := ["internal/bytealg.MaxLen", "internal/strconv.uint64pow10", "math/bits.deBruijn32tab", "math/bits.deBruijn64tab"], apart := false, laid := [("math/bits.deBruijn32tab", laid_math_bits_deBruijn32tab), ("math/bits.deBruijn64tab", laid_math_bits_deBruijn64tab), ("internal/strconv.uint64pow10", laid_internal_strconv_uint64pow10)] }
def LinesTwiceSaid : Prop := linesTwiceRow.holds Tryd.pinned (OpenSpec.ofChange linesTwiceSpec)

/-- ITS FALSE NEIGHBOUR: 'it returns false'. Refute it at one input. -/
def linesTwiceWrong : ChangeSpec := { name := "linesTwice", fn := fun _ => fun
  | [d1, d2, d3] => { results := [.lit (.bool false)], args := [d1, d2, d3] }
  | _ => none }
def LinesTwiceWrongFalsely : Prop := linesTwiceRow.holds Tryd.pinned (OpenSpec.ofChange linesTwiceWrong)

/-- 'crimplaw01.LinesText': WHATEVER THE INPUT: true; the input reads as it did. -/
def linesTextSpec : ChangeSpec := { name := "linesText", fn := fun _ => fun
  | [d1, d2] => { results := [.lit (.bool true)], args := [d1, d2] }
  | _ => none }
def linesTextRow : OpenClaim := { program := "ytpkmnabefnhcfaadoor", sum := "9d3255b43ef6218ab08af07b3e7de88408ce83a01b88f1d05a8c95635cfb4168", func := "crimp/crimplaw01.LinesText", spec := "linesText", inPlace := ["internal/bytealg.IndexByteString", "internal/bytealg.IndexString"], unfollowed := true, recurses := true, named := ["internal/bytealg.MaxLen", "internal/strconv.uint64pow10", "math/bits.deBruijn32tab", "math/bits.deBruijn64tab"], apart := false, laid := [("math/bits.deBruijn32tab", laid_math_bits_deBruijn32tab), ("math/bits.deBruijn64tab", laid_math_bits_deBruijn64tab), ("internal/strconv.uint64pow10", laid_internal_strconv_uint64pow10)] }
def LinesTextSaid : Prop := linesTextRow.holds Tryd.pinned (OpenSpec.ofChange linesTextSpec)

/-- ITS FALSE NEIGHBOUR: 'it returns false'. Refute it at one input. -/
def linesTextWrong : ChangeSpec := { name := "linesText", fn := fun _ => fun
  | [d1, d2] => { results := [.lit (.bool false)], args := [d1, d2] }
  | _ => none }
def LinesTextWrongFalsely : Prop := linesTextRow.holds Tryd.pinned (OpenSpec.ofChange linesTextWrong)

/-- 'crimplaw01.LinesKnown': WHATEVER THE INPUT: true; the input reads as it did. -/
def linesKnownSpec : ChangeSpec := { name := "linesKnown", fn := fun _ => fun
  | [] => { results := [.lit (.bool true)], args := [] }
  | _ => none }
def linesKnownRow : OpenClaim := { program := "ytpkmnabefnhcfaadoor", sum := "9d3255b43ef6218ab08af07b3e7de88408ce83a01b88f1d05a8c95635cfb4168", func := "crimp/crimplaw01.LinesKnown", spec := "linesKnown", inPlace := ["internal/bytealg.IndexByteString", "internal/bytealg.IndexString"], unfollowed := true, recurses := true, named := ["internal/bytealg.MaxLen", "internal/strconv.uint64pow10", "math/bits.deBruijn32tab", "math/bits.deBruijn64tab"], apart := false, laid := [("math/bits.deBruijn32tab", laid_math_bits_deBruijn32tab), ("math/bits.deBruijn64tab", laid_math_bits_deBruijn64tab), ("internal/strconv.uint64pow10", laid_internal_strconv_uint64pow10)] }
def LinesKnownSaid : Prop := linesKnownRow.holds Tryd.pinned (OpenSpec.ofChange linesKnownSpec)

/-- ITS FALSE NEIGHBOUR: 'it returns false'. Refute it at one input. -/
def linesKnownWrong : ChangeSpec := { name := "linesKnown", fn := fun _ => fun
  | [] => { results := [.lit (.bool false)], args := [] }
  | _ => none }
def LinesKnownWrongFalsely : Prop := linesKnownRow.holds Tryd.pinned (OpenSpec.ofChange linesKnownWrong)

/- THE SECOND FORM. 'bulk': how many values and letters a reading holds, each counted each time it is reached (what is shared counts as often as it is met; a slice's spare places count too). A statement '..UptoSaid' is the law's where the arguments, and the package variables that the reading takes, are together of bulk at most 1048576: NARROWER than '..Said'. Prove '..Said' where nothing that the law and all that it calls make is longer than what came in: it says more and counts as full. Else prove '..UptoSaid'. A law counts once. -/
mutual
def uptoBulk {H : Type} : DataW H → Nat
  | .lit (.string bytes) => bytes.length + 1
  | .lit _ => 1
  | .nil => 1
  | .ptr d => uptoBulk d + 1
  | .slice elems spare => uptoBulkAll elems + uptoBulkAll spare + 1
  | .agg parts => uptoBulkAll parts + 1
  | .iface _ d => uptoBulk d + 1
  | .map entries => uptoBulkEntries entries + 1
  | .held _ => 1
def uptoBulkAll {H : Type} : List (DataW H) → Nat
  | [] => 0
  | d :: r => uptoBulk d + uptoBulkAll r
def uptoBulkEntries {H : Type} : List (Lit × DataW H) → Nat
  | [] => 0
  | x :: r => uptoBulkEntry x + uptoBulkEntries r
def uptoBulkEntry {H : Type} : Lit × DataW H → Nat
  | (.string bytes, d) => bytes.length + uptoBulk d + 1
  | (_, d) => uptoBulk d + 1
 end
def uptoSmall : (H : Type) → List (DataW H) → Bool := fun _ ds => decide (uptoBulkAll ds ≤ 1048576)
def OpenSpec.upto (s : _root_.Go.ChangeSpec) : _root_.Go.OpenSpec := { _root_.Go.OpenSpec.ofChange s with cond := some uptoSmall }

/-- 'crimplaw01.LinesSide', WHERE WHAT IT READS IS OF BULK AT MOST 1048576: true; the input reads as it did. -/
def linesSideUptoRow : OpenClaim := { program := "ytpkmnabefnhcfaadoor", sum := "9d3255b43ef6218ab08af07b3e7de88408ce83a01b88f1d05a8c95635cfb4168", func := "crimp/crimplaw01.LinesSide", spec := "linesSide", inPlace := ["internal/bytealg.IndexByteString", "internal/bytealg.IndexString"], unfollowed := true, recurses := true, named := ["internal/bytealg.MaxLen", "internal/strconv.uint64pow10", "math/bits.deBruijn32tab", "math/bits.deBruijn64tab"], apart := false, laid := [("math/bits.deBruijn32tab", laid_math_bits_deBruijn32tab), ("math/bits.deBruijn64tab", laid_math_bits_deBruijn64tab), ("internal/strconv.uint64pow10", laid_internal_strconv_uint64pow10)], narrowed := true }
def LinesSideUptoSaid : Prop := linesSideUptoRow.holds Tryd.pinned (OpenSpec.upto linesSideSpec)

/-- 'crimplaw01.LinesReflect', WHERE WHAT IT READS IS OF BULK AT MOST 1048576: true; the input reads as it did. -/
def linesReflectUptoRow : OpenClaim := { program := "ytpkmnabefnhcfaadoor", sum := "9d3255b43ef6218ab08af07b3e7de88408ce83a01b88f1d05a8c95635cfb4168", func := "crimp/crimplaw01.LinesReflect", spec := "linesReflect", inPlace := ["internal/bytealg.IndexByteString", "internal/bytealg.IndexString"], unfollowed := true, recurses := true, named := ["internal/bytealg.MaxLen", "internal/strconv.uint64pow10", "math/bits.deBruijn32tab", "math/bits.deBruijn64tab"], apart := false, laid := [("math/bits.deBruijn32tab", laid_math_bits_deBruijn32tab), ("math/bits.deBruijn64tab", laid_math_bits_deBruijn64tab), ("internal/strconv.uint64pow10", laid_internal_strconv_uint64pow10)], narrowed := true }
def LinesReflectUptoSaid : Prop := linesReflectUptoRow.holds Tryd.pinned (OpenSpec.upto linesReflectSpec)

/-- 'crimplaw01.LinesImage', WHERE WHAT IT READS IS OF BULK AT MOST 1048576: true; the input reads as it did. -/
def linesImageUptoRow : OpenClaim := { program := "ytpkmnabefnhcfaadoor", sum := "9d3255b43ef6218ab08af07b3e7de88408ce83a01b88f1d05a8c95635cfb4168", func := "crimp/crimplaw01.LinesImage", spec := "linesImage", inPlace := ["internal/bytealg.IndexByteString", "internal/bytealg.IndexString"], unfollowed := true, recurses := true, named := ["internal/bytealg.MaxLen", "internal/strconv.uint64pow10", "math/bits.deBruijn32tab", "math/bits.deBruijn64tab"], apart := false, laid := [("math/bits.deBruijn32tab", laid_math_bits_deBruijn32tab), ("math/bits.deBruijn64tab", laid_math_bits_deBruijn64tab), ("internal/strconv.uint64pow10", laid_internal_strconv_uint64pow10)], narrowed := true }
def LinesImageUptoSaid : Prop := linesImageUptoRow.holds Tryd.pinned (OpenSpec.upto linesImageSpec)

/-- 'crimplaw01.LinesMeet', WHERE WHAT IT READS IS OF BULK AT MOST 1048576: true; the input reads as it did. -/
def linesMeetUptoRow : OpenClaim := { program := "ytpkmnabefnhcfaadoor", sum := "9d3255b43ef6218ab08af07b3e7de88408ce83a01b88f1d05a8c95635cfb4168", func := "crimp/crimplaw01.LinesMeet", spec := "linesMeet", inPlace := ["internal/bytealg.IndexByteString", "internal/bytealg.IndexString"], unfollowed := true, recurses := true, named := ["internal/bytealg.MaxLen", "internal/strconv.uint64pow10", "math/bits.deBruijn32tab", "math/bits.deBruijn64tab"], apart := false, laid := [("math/bits.deBruijn32tab", laid_math_bits_deBruijn32tab), ("math/bits.deBruijn64tab", laid_math_bits_deBruijn64tab), ("internal/strconv.uint64pow10", laid_internal_strconv_uint64pow10)], narrowed := true }
def LinesMeetUptoSaid : Prop := linesMeetUptoRow.holds Tryd.pinned (OpenSpec.upto linesMeetSpec)

/-- 'crimplaw01.LinesThrough', WHERE WHAT IT READS IS OF BULK AT MOST 1048576: true; the input reads as it did. -/
def linesThroughUptoRow : OpenClaim := { program := "ytpkmnabefnhcfaadoor", sum := "9d3255b43ef6218ab08af07b3e7de88408ce83a01b88f1d05a8c95635cfb4168", func := "crimp/crimplaw01.LinesThrough", spec := "linesThrough", inPlace := ["internal/bytealg.IndexByteString", "internal/bytealg.IndexString"], unfollowed := true, recurses := true, named := ["internal/bytealg.MaxLen", "internal/strconv.uint64pow10", "math/bits.deBruijn32tab", "math/bits.deBruijn64tab"], apart := false, laid := [("math/bits.deBruijn32tab", laid_math_bits_deBruijn32tab), ("math/bits.deBruijn64tab", laid_math_bits_deBruijn64tab), ("internal/strconv.uint64pow10", laid_internal_strconv_uint64pow10)], narrowed := true }
def LinesThroughUptoSaid : Prop := linesThroughUptoRow.holds Tryd.pinned (OpenSpec.upto linesThroughSpec)

/-- 'crimplaw01.LinesTwice', WHERE WHAT IT READS IS OF BULK AT MOST 1048576: true; the input reads as it did. -/
def linesTwiceUptoRow : OpenClaim := { program := "ytpkmnabefnhcfaadoor", sum := "9d3255b43ef6218ab08af07b3e7de88408ce83a01b88f1d05a8c95635cfb4168", func := "crimp/crimplaw01.LinesTwice", spec := "linesTwice", inPlace := ["internal/bytealg.IndexByteString", "internal/bytealg.IndexString"], unfollowed := true, recurses := true, named := ["internal/bytealg.MaxLen", "internal/strconv.uint64pow10", "math/bits.deBruijn32tab", "math/bits.deBruijn64tab"], apart := false, laid := [("math/bits.deBruijn32tab", laid_math_bits_deBruijn32tab), ("math/bits.deBruijn64tab", laid_math_bits_deBruijn64tab), ("internal/strconv.uint64pow10", laid_internal_strconv_uint64pow10)], narrowed := true }
def LinesTwiceUptoSaid : Prop := linesTwiceUptoRow.holds Tryd.pinned (OpenSpec.upto linesTwiceSpec)

/-- 'crimplaw01.LinesText', WHERE WHAT IT READS IS OF BULK AT MOST 1048576: true; the input reads as it did. -/
def linesTextUptoRow : OpenClaim := { program := "ytpkmnabefnhcfaadoor", sum := "9d3255b43ef6218ab08af07b3e7de88408ce83a01b88f1d05a8c95635cfb4168", func := "crimp/crimplaw01.LinesText", spec := "linesText", inPlace := ["internal/bytealg.IndexByteString", "internal/bytealg.IndexString"], unfollowed := true, recurses := true, named := ["internal/bytealg.MaxLen", "internal/strconv.uint64pow10", "math/bits.deBruijn32tab", "math/bits.deBruijn64tab"], apart := false, laid := [("math/bits.deBruijn32tab", laid_math_bits_deBruijn32tab), ("math/bits.deBruijn64tab", laid_math_bits_deBruijn64tab), ("internal/strconv.uint64pow10", laid_internal_strconv_uint64pow10)], narrowed := true }
def LinesTextUptoSaid : Prop := linesTextUptoRow.holds Tryd.pinned (OpenSpec.upto linesTextSpec)

/-- 'crimplaw01.LinesKnown', WHERE WHAT IT READS IS OF BULK AT MOST 1048576: true; the input reads as it did. -/
def linesKnownUptoRow : OpenClaim := { program := "ytpkmnabefnhcfaadoor", sum := "9d3255b43ef6218ab08af07b3e7de88408ce83a01b88f1d05a8c95635cfb4168", func := "crimp/crimplaw01.LinesKnown", spec := "linesKnown", inPlace := ["internal/bytealg.IndexByteString", "internal/bytealg.IndexString"], unfollowed := true, recurses := true, named := ["internal/bytealg.MaxLen", "internal/strconv.uint64pow10", "math/bits.deBruijn32tab", "math/bits.deBruijn64tab"], apart := false, laid := [("math/bits.deBruijn32tab", laid_math_bits_deBruijn32tab), ("math/bits.deBruijn64tab", laid_math_bits_deBruijn64tab), ("internal/strconv.uint64pow10", laid_internal_strconv_uint64pow10)], narrowed := true }
def LinesKnownUptoSaid : Prop := linesKnownUptoRow.holds Tryd.pinned (OpenSpec.upto linesKnownSpec)

end Rows
end Go.Proofs.YtpkmnabefnhcfaaDoor
