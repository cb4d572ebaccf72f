/-
  What the functions of the lines compute: Parse; the law on texts.
-/
import Derived.Test.YtpkmnabefnhcfaaDoorTD3Z
set_option maxRecDepth 1000000
set_option linter.unusedVariables false
namespace Go.Proofs.YtpkmnabefnhcfaaDoor.X
open Go Go.Ab

/-- The rune at a place. -/
def rn (s : List UInt8) (p : Nat) : Int := ((Utf8.decode ⟨s.toArray⟩ p).1 : Int)
def stp (s : List UInt8) (p : Nat) (k c : Int) : Int × Int := if p = 0 then (max (ixR (rn s p)) 0, c) else if 1 < p ∧ rn s p ≠ 45 ∧ 48 ≤ rn s p ∧ rn s p ≤ 57 ∧ c ≤ 4096 then (k, 10 * c + (rn s p - 48)) else (k, c)
def pr (s : List UInt8) : Nat → Nat → Int → Int → Int × Int
  | 0, p, k, c => (k, c)
  | f + 1, p, k, c => if p < s.length then pr s f (nxtP s p) (stp s p k c).1 (stp s p k c).2 else (k, c)
def pK (s : List UInt8) : Int := (pr s s.length 0 0 0).1
def pC (s : List UInt8) : Int := bI (hasM s) (-(pr s s.length 0 0 0).2) (pr s s.length 0 0 0).2
def pOk (s : List UInt8) : Bool := (s != []) && (tx (pK s) (pC s) == s)
structure LPr where (p : Nat) (k c : Int)
def boxL (k c : Int) : HO := .blk ⟨.cells [.int .u8 k, .int .i64 c], 2, 1, none, some false, true, true⟩
def prI (s : List UInt8) (p : Nat) (k c : Int) : Prop := p ≤ s.length ∧ (∃ f, s.length ≤ f + p ∧ pr s f p k c = pr s s.length 0 0 0) ∧ 0 ≤ k ∧ k ≤ 4 ∧ 0 ≤ c ∧ c ≤ 41000
def lPr (s : List UInt8) : LpS LPr where
  ov b := []
  bk b := [(128, boxL b.k b.c), (193, .iter s b.p)]
  rd S := match aget S.h 128, aget S.h 193 with
    | some (.blk ⟨.cells [.int _ k, .int _ c], _, _, _, _, _, _⟩), some (.iter _ p) => some ⟨p, k, c⟩
    | _, _ => none
  pre b := prI s b.p b.k b.c
  mu b := s.length - b.p
def e28 : CtE
  | [.str s] => some ⟨.tup [.agg [.int .u8 (bI (pOk s) (pK s) 0), .int .i64 (bI (pOk s) (pC s) 0)], .int .i64 (bI (pOk s) 0 4)], [], some (s.length < 1000000)⟩
  | _ => none
def T28 : Tab := tabL [(34, e34), (35, e35), (29, e29)] noCh
def T9 : Tab := tabL ((11, e11) :: (27, e27) :: (28, e28) :: (29, e29) :: (16, e16) :: []) noCh
end Go.Proofs.YtpkmnabefnhcfaaDoor.X
