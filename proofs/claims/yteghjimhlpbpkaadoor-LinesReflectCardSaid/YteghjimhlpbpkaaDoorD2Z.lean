/-
  The cases of the law on mirror images.
-/
import Derived.Test.YteghjimhlpbpkaaDoorDZ
set_option maxRecDepth 1000000
set_option linter.unusedVariables false
namespace Go.Proofs.YteghjimhlpbpkaaDoor.X
open Go Go.Ab
def ct4 (v : Bool) (i : Option Bool) (z : Bool) (e : Int) (f : Nat) (args : List AV) : Option (AV × List Blk) :=
  match f with
  | 11 => some (.int .i64 (bI v 1 0), [])
  | 12 => match i with
    | some b => some (.int .i64 (bI b 1 0), [])
    | none => ct 12 args
  | 18 => match args with
    | [.agg [.int .u8 k, .int .i64 c], .agg [.int .i64 x, .int .i64 y]] => some (.tup [cond z (ptV (rfX k c x y) (rfY k c x y)) (ptV 0 0), .int .i64 e], [])
    | _ => none
  | _ => ct f args
def dd4 (v : Bool) (i : Option Bool) (z : Bool) (e : Int) : Dirs := [(0, (.auto, .ctr (ct4 v i z e))), (1, (.onl, .ctr (ct4 v i z e)))]
end Go.Proofs.YteghjimhlpbpkaaDoor.X
