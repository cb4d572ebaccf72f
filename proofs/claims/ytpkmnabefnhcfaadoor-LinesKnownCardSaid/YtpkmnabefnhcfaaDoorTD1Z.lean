/-
  What the functions of the lines compute: numbers as texts.
-/
import Derived.Test.YtpkmnabefnhcfaaDoorGDZ
set_option maxRecDepth 1000000
set_option linter.unusedVariables false
namespace Go.Proofs.YtpkmnabefnhcfaaDoor.X
open Go Go.Ab

/-- 00 to 99. -/
def tabS : List UInt8 := [48, 48, 48, 49, 48, 50, 48, 51, 48, 52, 48, 53, 48, 54, 48, 55, 48, 56, 48, 57, 49, 48, 49, 49, 49, 50, 49, 51, 49, 52, 49, 53, 49, 54, 49, 55, 49, 56, 49, 57, 50, 48, 50, 49, 50, 50, 50, 51, 50, 52, 50, 53, 50, 54, 50, 55, 50, 56, 50, 57, 51, 48, 51, 49, 51, 50, 51, 51, 51, 52, 51, 53, 51, 54, 51, 55, 51, 56, 51, 57, 52, 48, 52, 49, 52, 50, 52, 51, 52, 52, 52, 53, 52, 54, 52, 55, 52, 56, 52, 57, 53, 48, 53, 49, 53, 50, 53, 51, 53, 52, 53, 53, 53, 54, 53, 55, 53, 56, 53, 57, 54, 48, 54, 49, 54, 50, 54, 51, 54, 52, 54, 53, 54, 54, 54, 55, 54, 56, 54, 57, 55, 48, 55, 49, 55, 50, 55, 51, 55, 52, 55, 53, 55, 54, 55, 55, 55, 56, 55, 57, 56, 48, 56, 49, 56, 50, 56, 51, 56, 52, 56, 53, 56, 54, 56, 55, 56, 56, 56, 57, 57, 48, 57, 49, 57, 50, 57, 51, 57, 52, 57, 53, 57, 54, 57, 55, 57, 56, 57, 57]
/-- A digit. -/
def dg (n : Int) : UInt8 := UInt8.ofNat (48 + n).toNat
/-- The text of a number of at most four digits. -/
def decN (n : Int) : List UInt8 := if n < 10 then [dg n] else if n < 100 then [dg (n / 10), dg (n % 10)] else if n < 1000 then [dg (n / 100), dg (n / 10 % 10), dg (n % 10)] else [dg (n / 1000), dg (n / 100 % 10), dg (n / 10 % 10), dg (n % 10)]
def decI (n : Int) : List UInt8 := if n < 0 then 45 :: decN (-n) else decN n
def e33 (b : Int) : CtE
  | [.int .i64 n] => some ⟨.str (decI n), [], some (0 ≤ n ∧ n < b)⟩
  | _ => none
def T33 (b : Int) : Tab := tabL [(33, e33 b)] noCh
def e33w : CtE
  | [.int .i64 n] => some ⟨.str (decI n), [], some (-10000 < n ∧ n < 10000)⟩
  | _ => none
def e60 : CtE
  | [.int .i64 n] => some ⟨.str (decI n), [], some (0 ≤ n ∧ n < 100)⟩
  | _ => none
end Go.Proofs.YtpkmnabefnhcfaaDoor.X
