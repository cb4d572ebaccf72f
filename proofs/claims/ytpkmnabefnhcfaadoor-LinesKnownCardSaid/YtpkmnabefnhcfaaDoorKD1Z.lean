/-
  Contracts for the laws on sides and mirror images, in the new layer.
-/
import Derived.Test.YtpkmnabefnhcfaaDoorGC4Z
set_option maxRecDepth 1000000
set_option linter.unusedVariables false
namespace Go.Proofs.YtpkmnabefnhcfaaDoor.X
open Go Go.Ab

/-- On which side of a line a point lies. -/
def sideI (k c x y : Int) : Int := if (vl k c && ins x y) = true then (if acr k x y - 2 * c < 0 then -1 else if 0 < acr k x y - 2 * c then 1 else 0) else 0
def e37 : CtE
  | [.agg [.int .i64 x, .int .i64 y]] => some ⟨.int .i64 x, [], some (sm x ∧ sm y)⟩
  | _ => none
def e40 : CtE
  | [.agg [.int .i64 x, .int .i64 y]] => some ⟨.int .i64 y, [], some (sm x ∧ sm y)⟩
  | _ => none
def e43 : CtE
  | [.agg [.int .i64 x, .int .i64 y]] => some ⟨.int .i64 (x + y), [], some (sm x ∧ sm y)⟩
  | _ => none
def e46 : CtE
  | [.agg [.int .i64 x, .int .i64 y]] => some ⟨.int .i64 (y - x), [], some (sm x ∧ sm y)⟩
  | _ => none
def e11t : CtE
  | [.agg [.int .u8 k, .int .i64 c]] => some ⟨.int .i64 1, [], some (vl k c = true)⟩
  | _ => none
def e11f : CtE
  | [.agg [.int .u8 k, .int .i64 c]] => some ⟨.int .i64 0, [], some (vl k c = false)⟩
  | _ => none
def e13t : CtE
  | [.agg [.int .u8 k, .int .i64 c]] => some ⟨.int .i64 0, [], some (vl k c = true)⟩
  | _ => none
def e13f : CtE
  | [.agg [.int .u8 k, .int .i64 c]] => some ⟨.int .i64 1, [], some (vl k c = false)⟩
  | _ => none
def e12t : CtE
  | [.agg [.int .i64 x, .int .i64 y]] => some ⟨.int .i64 1, [], some (ins x y = true)⟩
  | _ => none
def e12f : CtE
  | [.agg [.int .i64 x, .int .i64 y]] => some ⟨.int .i64 0, [], some (ins x y = false)⟩
  | _ => none
def e14t : CtE
  | [.agg [.int .i64 x, .int .i64 y]] => some ⟨.int .i64 0, [], some (ins x y = true)⟩
  | _ => none
def e14f : CtE
  | [.agg [.int .i64 x, .int .i64 y]] => some ⟨.int .i64 1, [], some (ins x y = false)⟩
  | _ => none
def e15 : CtE
  | [.agg [.int .u8 k, .int .i64 c], .agg [.int .i64 x, .int .i64 y]] => some ⟨.int .i64 (sideI k c x y), [], none⟩
  | _ => none
/-- Side where the line or the point is out of range. -/
def e15z : CtE
  | [.agg [.int .u8 k, .int .i64 c], .agg [.int .i64 x, .int .i64 y]] => some ⟨.int .i64 0, [], some ((vl k c && ins x y) = false)⟩
  | _ => none
def tlK0 : List (Nat × CtE) := (37, e37) :: (40, e40) :: (43, e43) :: (46, e46) :: tlA
def TK0 : Tab := tabL tlK0 noCh
def tlKtt : List (Nat × CtE) := (11, e11t) :: (13, e13t) :: (12, e12t) :: (14, e14t) :: (15, e15) :: tlB
def TKtt : Tab := tabL tlKtt noCh
def tlKtf : List (Nat × CtE) := (11, e11t) :: (13, e13t) :: (12, e12f) :: (14, e14f) :: (15, e15z) :: tlB
def TKtf : Tab := tabL tlKtf noCh
def tlKft : List (Nat × CtE) := (11, e11f) :: (13, e13f) :: (12, e12t) :: (14, e14t) :: (15, e15z) :: tlB
def TKft : Tab := tabL tlKft noCh
def tlKff : List (Nat × CtE) := (11, e11f) :: (13, e13f) :: (12, e12f) :: (14, e14f) :: (15, e15z) :: tlB
def TKff : Tab := tabL tlKff noCh
/-- For law 4: the line is out of range; the line is in range. -/
def tlRf : List (Nat × CtE) := (11, e11f) :: (19, e19) :: tlB
def TRf : Tab := tabL tlRf noCh
def tlRt : List (Nat × CtE) := (11, e11t) :: (19, e19) :: tlB
def TRt : Tab := tabL tlRt noCh
def e3 : CtE
  | [.agg [.int .u8 k, .int .i64 c], .agg [.int .i64 x, .int .i64 y]] => some ⟨.bool true, [], none⟩
  | _ => none
def e4 : CtE
  | [.agg [.int .u8 k, .int .i64 c], .agg [.int .i64 x, .int .i64 y]] => some ⟨.bool true, [], none⟩
  | _ => none
end Go.Proofs.YtpkmnabefnhcfaaDoor.X
