/-
  What the functions of the balances compute: all ways to decide a fan; the law on the range.
-/
import Derived.Test.YtidpllnmghgomaaDoorD8Z
set_option maxRecDepth 1000000
set_option linter.unusedVariables false
namespace Go.Proofs.YtidpllnmghgomaaDoor.X
open Go Go.Ab

/-- The ways to decide one more crease. -/
def ext1 (x c : Int) (q : List Int) : List (List Int) := if x = 3 ∨ x = c then [q ++ [c]] else []
def ext (x : Int) (q : List Int) : List (List Int) := ext1 x 1 q ++ ext1 x 2 q
def decs (k : List Int) : Nat → List (List Int)
  | 0 => [[]]
  | n + 1 => (decs k n).flatMap (ext (k[n]?.getD 0))
/-- A fan's cells, and those of a list of fans, by their kinds. -/
def capO (n : Nat) : Option Nat := if n = 0 then some 0 else none
def fanL (p q : List Int) : List AV := [.imm (.ints .i64 p) p.length (capO p.length), .imm (.ints .u8 q) q.length (capO q.length)]
def fansL (p : List Int) (L : List (List Int)) : List AV := L.flatMap (fanL p)
structure LO where (i : Int) (l : List AV) (n : Nat)
def lO (a k : List Int) : LpS LO where
  ov b := [(4, .int .i64 b.i), (3, .imm (.vals b.l) b.n none)]
  bk b := []
  rd S := match aget S.t 4, aget S.t 3 with
    | some (.int _ i), some (.imm (.vals l) n _) => some ⟨i, l, n⟩
    | _, _ => none
  pre b := ∃ m : Nat, b.i = m ∧ m ≤ a.length ∧ b.l = fansL (a.take m) (decs k m) ∧ b.n = (decs k m).length
  mu b := a.length - b.i.toNat
def blkF (l : List AV) (n : Nat) : Blk := ⟨.vals l, 2, n, none, some true, true, false⟩
def lN (a k : List Int) (m : Nat) : LpS LO where
  ov b := [(6, .int .i64 b.i), (5, .full 9002 b.n)]
  bk b := [(9002, .blk (blkF b.l b.n))]
  rd S := match aget S.t 6, aget S.h 9002 with
    | some (.int _ i), some (.blk ⟨.vals l, _, n, _, _, _, _⟩) => some ⟨i, l, n⟩
    | _, _ => none
  pre b := ∃ j : Nat, b.i = j ∧ j ≤ (decs k m).length ∧ b.l = fansL (a.take (m + 1)) (((decs k m).take j).flatMap (ext (k[m]?.getD 0))) ∧ b.n = (((decs k m).take j).flatMap (ext (k[m]?.getD 0))).length
  mu b := (decs k m).length - b.i.toNat
/-- The first ways of an element. -/
def extN (x : Int) (q : List Int) (c : Nat) : List (List Int) := if c = 1 then [] else if c = 2 then ext1 x 1 q else ext x q
def lKk (a k : List Int) (m j : Nat) : LpS LO where
  ov b := [(7, .int .u8 b.i), (5, .full 9002 b.n)]
  bk b := [(9002, .blk (blkF b.l b.n))]
  rd S := match aget S.t 7, aget S.h 9002 with
    | some (.int _ i), some (.blk ⟨.vals l, _, n, _, _, _, _⟩) => some ⟨i, l, n⟩
    | _, _ => none
  pre b := ∃ c : Nat, b.i = c ∧ 1 ≤ c ∧ c ≤ 3 ∧ b.l = fansL (a.take (m + 1)) (((decs k m).take j).flatMap (ext (k[m]?.getD 0)) ++ extN (k[m]?.getD 0) ((decs k m)[j]?.getD []) c) ∧ b.n = (((decs k m).take j).flatMap (ext (k[m]?.getD 0)) ++ extN (k[m]?.getD 0) ((decs k m)[j]?.getD []) c).length
  mu b := 3 - b.i.toNat
def e12 : CtE
  | [.agg [.imm (.ints .i64 a) n _, .imm (.ints .u8 k) m _]] => some ⟨.imm (.vals (fansL a (decs k k.length))) (decs k k.length).length none, [], some (n = a.length ∧ m = k.length ∧ a.length = k.length ∧ a.length ≤ 8)⟩
  | _ => none
end Go.Proofs.YtidpllnmghgomaaDoor.X
