/-
  What the functions of the lines compute: numbers formatted.
-/
import Derived.Test.YtpkmnabefnhcfaaDoorTD1Z
set_option maxRecDepth 1000000
set_option linter.unusedVariables false
namespace Go.Proofs.YtpkmnabefnhcfaaDoor.X
open Go Go.Ab

/-- The lengths of bytes, in bits. -/
def tab8 : List UInt8 := [0, 1, 2, 2, 3, 3, 3, 3, 4, 4, 4, 4, 4, 4, 4, 4, 5, 5, 5, 5, 5, 5, 5, 5, 5, 5, 5, 5, 5, 5, 5, 5, 6, 6, 6, 6, 6, 6, 6, 6, 6, 6, 6, 6, 6, 6, 6, 6, 6, 6, 6, 6, 6, 6, 6, 6, 6, 6, 6, 6, 6, 6, 6, 6, 7, 7, 7, 7, 7, 7, 7, 7, 7, 7, 7, 7, 7, 7, 7, 7, 7, 7, 7, 7, 7, 7, 7, 7, 7, 7, 7, 7, 7, 7, 7, 7, 7, 7, 7, 7, 7, 7, 7, 7, 7, 7, 7, 7, 7, 7, 7, 7, 7, 7, 7, 7, 7, 7, 7, 7, 7, 7, 7, 7, 7, 7, 7, 7, 8, 8, 8, 8, 8, 8, 8, 8, 8, 8, 8, 8, 8, 8, 8, 8, 8, 8, 8, 8, 8, 8, 8, 8, 8, 8, 8, 8, 8, 8, 8, 8, 8, 8, 8, 8, 8, 8, 8, 8, 8, 8, 8, 8, 8, 8, 8, 8, 8, 8, 8, 8, 8, 8, 8, 8, 8, 8, 8, 8, 8, 8, 8, 8, 8, 8, 8, 8, 8, 8, 8, 8, 8, 8, 8, 8, 8, 8, 8, 8, 8, 8, 8, 8, 8, 8, 8, 8, 8, 8, 8, 8, 8, 8, 8, 8, 8, 8, 8, 8, 8, 8, 8, 8, 8, 8, 8, 8, 8, 8, 8, 8, 8, 8, 8, 8, 8, 8, 8, 8, 8, 8, 8, 8, 8, 8, 8, 8]
def l8 (n : Int) : Int := ((tab8.getD n.toNat 0).toNat : Int)
def len64 (u : Int) : Int := if 256 ≤ u then 8 + l8 (u / 256) else l8 u
def powT : List Int := [1, 10, 100, 1000, 10000, 100000, 1000000, 10000000, 100000000, 1000000000, 10000000000, 100000000000, 1000000000000, 10000000000000, 100000000000000, 1000000000000000, 10000000000000000, 100000000000000000, 1000000000000000000, 10000000000000000000]
def lg (u : Int) : Int := len64 u * 78913 / 262144
def ndg (u : Int) : Int := lg u + bI (leb (powT.getD (lg u).toNat 0) u) 1 0
def e66 : CtE
  | [.int .u64 u] => some ⟨.int .i64 (len64 u), [], some (0 ≤ u ∧ u < 65536)⟩
  | _ => none
def e65 : CtE
  | [.int .i64 x] => some ⟨.int .i64 (x * 78913 / 262144), [], some (0 ≤ x ∧ x ≤ 64)⟩
  | _ => none
def e67 : CtE
  | [.bool b] => some ⟨.int .i64 (bI b 1 0), [], none⟩
  | _ => none
def T61 : Tab := tabL [(66, e66), (65, e65), (67, e67)] noCh
def e61 : CtE
  | [.int .u64 u] => some ⟨.int .i64 (ndg u), [], some (0 ≤ u ∧ u < 10000)⟩
  | _ => none
/-- The row of 24 bytes: before, after. -/
def Z24 : List Int := [0, 0, 0, 0, 0, 0, 0, 0, 0, 0, 0, 0, 0, 0, 0, 0, 0, 0, 0, 0, 0, 0, 0, 0]
def blkZ (l : List Int) : HO := .blk ⟨.ints .u8 l, 1, 24, none, some false, true, true⟩
def W24 (u : Int) : List Int := 0 :: ((decN u).map (fun b => (b.toNat : Int)) ++ List.replicate (23 - (decN u).length) 0)
def ch62 (h : List (Nat × HO)) (cv : AV) (args : List AV) : Option Cx :=
  match cv, args with
  | .fn f [] [], [.sl i off len cap, .int .u64 u] => cond (Nat.beq f 62 && Nat.beq i 320) (some ⟨.tup [], [(320, blkZ (W24 u))], some (h = [(320, blkZ Z24)] ∧ off = 1 ∧ len = (decN u).length ∧ cap = 23 ∧ 0 ≤ u ∧ u < 10000)⟩) none
  | _, _ => none
def T57 : Tab := tabL [(60, e60), (61, e61)] ch62
def e57 : CtE
  | [.int .i64 n, .int .i64 b] => some ⟨.str (decI n), [], some (b = 10 ∧ -10000 < n ∧ n < 10000)⟩
  | _ => none
def T54 : Tab := tabL [(57, e57)] noCh
def T36 : Tab := tabL [(54, e33w)] noCh
end Go.Proofs.YtpkmnabefnhcfaaDoor.X
