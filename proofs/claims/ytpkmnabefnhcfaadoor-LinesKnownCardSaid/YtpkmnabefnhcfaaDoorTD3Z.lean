/-
  What the functions of the lines compute: texts of lines, parsed.
-/
import Derived.Test.YtpkmnabefnhcfaaDoorTD2Z
import Derived.Test.YtpkmnabefnhcfaaDoorAb5
set_option maxRecDepth 1000000
set_option linter.unusedVariables false
namespace Go.Proofs.YtpkmnabefnhcfaaDoor.X
open Go Go.Ab

def strs5 : List (List UInt8) := [[], [120, 32], [121, 32], [117, 32], [100, 32]]
def letters : List UInt8 := [32, 120, 121, 117, 100]
/-- The text of a line. -/
def txt (k c : Int) : List UInt8 := letters.getD k.toNat 0 :: 32 :: decI c
def tx (k c : Int) : List UInt8 := if vl k c = true then txt k c else []
def e27 : CtE
  | [.agg [.int .u8 k, .int .i64 c]] => some ⟨.str (txt k c), [], some (vl k c = true)⟩
  | _ => none
def e29 : CtE
  | [.agg [.int .u8 k, .int .i64 c]] => some ⟨.str (tx k c), [], some (0 ≤ k ∧ k ≤ 255)⟩
  | _ => none
/-- Where a byte stands. -/
def ixB (s : List UInt8) (b : Int) : Int := idxB s b.toNat.toUInt8 0
def eIdx : CtE
  | [.str s, .int .u8 b] => some ⟨.int .i64 (ixB s b), [], none⟩
  | _ => none
def tlT : List (Nat × CtE) := (33, e33w) :: (36, e33w) :: tlA
def TT : Tab := tabL tlT noCh
def T55 : Tab := tabL [(58, eIdx)] noCh
def T49 : Tab := tabL [(55, eIdx)] noCh
/-- A letter's place. -/
def ixR (r : Int) : Int := if r < 128 then ixB letters r else -1
def vrB (r : Int) : Bool := decide ((0 ≤ r ∧ r < 55296) ∨ (57343 < r ∧ r ≤ 1114111))
def e50 : CtE
  | [.int .i32 r] => some ⟨.bool (vrB r), [], none⟩
  | _ => none
def T34 : Tab := tabL [(49, eIdx), (50, e50)] noCh
def e34 : CtE
  | [.str [32, 120, 121, 117, 100], .int .i32 r] => some ⟨.int .i64 (ixR r), [], some (0 ≤ r ∧ r ≤ 1114111)⟩
  | _ => none
/-- A rune's bytes. -/
def encL (r : Int) : List UInt8 := (Utf8.encode r).data.toList
def e56 : CtE
  | [.str s, .str [45]] => some ⟨.int .i64 (ixB s 45), [], none⟩
  | _ => none
def T53 : Tab := tabL [(56, e56)] noCh
def T35 : Tab := tabL [(53, e56)] noCh
def hasM (s : List UInt8) : Bool := leb 0 (ixB s 45)
def e35 : CtE
  | [.str s, .str [45]] => some ⟨.bool (hasM s), [], none⟩
  | _ => none
structure LIt where (p : Nat)
def l34e : LpS LIt where
  ov b := []
  bk b := [(2433, .iter [32, 120, 121, 117, 100] b.p)]
  rd S := match aget S.h 2433 with
    | some (.iter _ p) => some ⟨p⟩
    | _ => none
  pre b := b.p ≤ 5
  mu b := 5 - b.p
end Go.Proofs.YtpkmnabefnhcfaaDoor.X
