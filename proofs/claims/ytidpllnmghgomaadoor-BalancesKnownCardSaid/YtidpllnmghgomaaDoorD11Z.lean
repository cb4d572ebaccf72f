/-
  The closed law, by the others.
-/
import Derived.Test.YtidpllnmghgomaaDoorD10Z
set_option maxRecDepth 1000000
set_option linter.unusedVariables false
namespace Go.Proofs.YtidpllnmghgomaaDoor.X
open Go Go.Ab

def eLaw : CtE
  | [.agg [.int .u8 c, .int .u8 l, .imm (.ints .u8 ks) n _]] => some ⟨.bool true, [], some (n = ks.length ∧ okK ks)⟩
  | _ => none
def eLaw7 : CtE
  | [.agg [.int .u8 c, .int .u8 l, .imm (.ints .u8 ks) n _], .int .u8 y] => some ⟨.bool true, [], some (n = ks.length ∧ okK ks ∧ 0 ≤ y ∧ y ≤ 255)⟩
  | _ => none
def tlK : List (Nat × CtE) := [(3, eLaw), (4, eLaw), (5, eLaw), (7, eLaw7), (14, e14)]
def TK : Tab := tabL tlK noCh
structure L8 where (k n : Int)
def l8 : LpS L8 where
  ov b := [(1, .int .i64 b.k), (2, .int .i64 b.n)]
  bk b := []
  rd S := match aget S.t 1, aget S.t 2 with
    | some (.int _ k), some (.int _ n) => some ⟨k, n⟩
    | _, _ => none
  pre b := ∃ m : Nat, b.n = m ∧ m ≤ 256 ∧ 0 ≤ b.k ∧ b.k ≤ 100003
  mu b := 256 - b.n.toNat
end Go.Proofs.YtidpllnmghgomaaDoor.X
