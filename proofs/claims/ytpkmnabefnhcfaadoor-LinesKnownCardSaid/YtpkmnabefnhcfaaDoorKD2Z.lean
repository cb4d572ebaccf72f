/-
  The closed law of the lines, by the others.
-/
import Derived.Test.YtpkmnabefnhcfaaDoorKC1Z
import Derived.Test.YtpkmnabefnhcfaaDoorTC6Z
set_option maxRecDepth 1000000
set_option linter.unusedVariables false
namespace Go.Proofs.YtpkmnabefnhcfaaDoor.X
open Go Go.Ab

def e5 : CtE
  | [.agg [.int .u8 k, .int .i64 c], .agg [.int .u8 j, .int .i64 d]] => some ⟨.bool true, [], none⟩
  | _ => none
def e6 : CtE
  | [.agg [.int .u8 k, .int .i64 c], .agg [.int .u8 j, .int .i64 d]] => some ⟨.bool true, [], none⟩
  | _ => none
def e7 : CtE
  | [.int .u8 k, .agg [.int .i64 x, .int .i64 y]] => some ⟨.bool true, [], none⟩
  | _ => none
def e8 : CtE
  | [.agg [.int .u8 k, .int .i8 c], .agg [.int .u8 j, .int .i8 d], .agg [.int .i8 x, .int .i8 y]] => some ⟨.bool true, [], some ((0 ≤ k ∧ k ≤ 255 ∧ -128 ≤ c ∧ c ≤ 127) ∧ (0 ≤ j ∧ j ≤ 255 ∧ -128 ≤ d ∧ d ≤ 127) ∧ -128 ≤ x ∧ x ≤ 127 ∧ -128 ≤ y ∧ y ≤ 127)⟩
  | _ => none
def e9 : CtE
  | [.agg [.int .u8 k, .int .i64 c], .str s] => some ⟨.bool true, [], some (0 ≤ k ∧ k ≤ 255)⟩
  | _ => none
def tlZ : List (Nat × CtE) := [(3, e3), (4, e4), (5, e5), (6, e6), (7, e7), (8, e8), (9, e9), (16, e16), (25, e25), (26, e26), (30, e30)]
def TZ : Tab := tabL tlZ noCh
structure L10 where (k n : Int)
def l10 : LpS L10 where
  ov b := [(1, .int .i64 b.k), (2, .int .i64 b.n)]
  bk b := []
  rd S := match aget S.t 1, aget S.t 2 with
    | some (.int _ k), some (.int _ n) => some ⟨k, n⟩
    | _, _ => none
  pre b := ∃ m : Nat, b.n = m ∧ m ≤ 60 ∧ 0 ≤ b.k ∧ b.k ≤ 100003
  mu b := 60 - b.n.toNat
end Go.Proofs.YtpkmnabefnhcfaaDoor.X
