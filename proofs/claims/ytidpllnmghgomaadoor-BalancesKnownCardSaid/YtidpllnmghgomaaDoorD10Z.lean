/-
  What the functions of the balances compute: the law on the range.
-/
import Derived.Test.YtidpllnmghgomaaDoorD9Z
set_option maxRecDepth 1000000
set_option linter.unusedVariables false
namespace Go.Proofs.YtidpllnmghgomaaDoor.X
open Go Go.Ab

def tlE : List (Nat × CtE) := (12, e12) :: tl9
def TE : Tab := tabL tlE noCh
structure L3a where (f i : Int)
def l3a (k : List Int) : LpS L3a where
  ov b := [(9, .int .i64 b.f), (10, .int .i64 b.i)]
  bk b := []
  rd S := match aget S.t 9, aget S.t 10 with
    | some (.int _ f), some (.int _ i) => some ⟨f, i⟩
    | _, _ => none
  pre b := ∃ n : Nat, b.i = n ∧ n ≤ k.length ∧ 0 ≤ b.f ∧ b.f ≤ n ∧ b.f + cntK (k.drop n) 1 = cntK k 1
  mu b := k.length - b.i.toNat
def blkS (l : List Bool) : HO := .blk ⟨.bools l, 1, 17, none, some false, true, true⟩
/-- The difference of a fan that is decided. -/
def dOf (q : List Int) : Int := 2 * cntK q 1 - q.length
def seenF (L : List (List Int)) (j : Nat) : Bool := L.any fun q => decide (dOf q + 8 = j)
def mayF (f : Int) (n : Nat) (L : List (List Int)) (j : Nat) : Bool := L.any fun q => decide ((dOf q = 2 ∨ dOf q = -2 ∨ n = 0) ∧ cntK q 1 - f = j)
/-- A row of 17 that holds a function's values. -/
def BP (f : Nat → Bool) (s : List Bool) : Prop := s.length = 17 ∧ ∀ j, j < 17 → s.getD j false = f j
def seenP (L : List (List Int)) (s : List Bool) : Prop := BP (seenF L) s
def mayP (f : Int) (n : Nat) (L : List (List Int)) (s : List Bool) : Prop := BP (mayF f n L) s
structure L3b where (i : Int) (s m : List Bool)
def l3b (k : List Int) (L : List (List Int)) : LpS L3b where
  ov b := [(14, .int .i64 b.i)]
  bk b := [(832, blkS b.s), (833, blkS b.m)]
  rd S := match aget S.t 14, aget S.h 832, aget S.h 833 with
    | some (.int _ i), some (.blk ⟨.bools s, _, _, _, _, _, _⟩), some (.blk ⟨.bools m, _, _, _, _, _, _⟩) => some ⟨i, s, m⟩
    | _, _, _ => none
  pre b := ∃ n : Nat, b.i = n ∧ n ≤ L.length ∧ seenP (L.take n) b.s ∧ mayP (cntK k 1) k.length (L.take n) b.m
  mu b := L.length - b.i.toNat
structure L3c where (d m j : Int)
def l3c (q : List Int) : LpS L3c where
  ov b := [(15, .int .i64 b.d), (16, .int .i64 b.m), (17, .int .i64 b.j)]
  bk b := []
  rd S := match aget S.t 15, aget S.t 16, aget S.t 17 with
    | some (.int _ d), some (.int _ m), some (.int _ j) => some ⟨d, m, j⟩
    | _, _, _ => none
  pre b := ∃ r : Nat, b.j = r ∧ r ≤ q.length ∧ 0 ≤ b.m ∧ b.m ≤ r ∧ b.d = 2 * b.m - r ∧ b.m + cntK (q.drop r) 1 = cntK q 1
  mu b := q.length - b.j.toNat
structure VBs where v : List Bool
def j3 (f : Int) (n : Nat) (L : List (List Int)) : LpS VBs where
  ov b := []
  bk b := [(833, blkS b.v)]
  rd S := match aget S.h 833 with
    | some (.blk ⟨.bools m, _, _, _, _, _, _⟩) => some ⟨m⟩
    | _ => none
  pre b := mayP f n L b.v
  mu b := 0
structure L3d where (d : Int)
def l3d (lo : Int) (t : Int) : LpS L3d where
  ov b := [(18, .int .i64 b.d)]
  bk b := []
  rd S := match aget S.t 18 with
    | some (.int _ d) => some ⟨d⟩
    | _ => none
  pre b := ∃ j : Nat, b.d = lo + 2 * j ∧ (j : Int) ≤ t + 1
  mu b := (t + 1 - (b.d - lo) / 2).toNat
def wantF (f : Int) (m : Nat) (L : List (List Int)) : Nat → List Int
  | 0 => []
  | n + 1 => if mayF f m L n = true then wantF f m L n ++ [(n : Int)] else wantF f m L n
structure L3e where (i : Int) (l : List Int)
def l3e (f : Int) (m : Nat) (L : List (List Int)) : LpS L3e where
  ov b := [(20, .int .i64 b.i), (19, .full 9001 b.l.length)]
  bk b := [(9001, .blk (blkI b.l))]
  rd S := match aget S.t 20, aget S.h 9001 with
    | some (.int _ i), some (.blk ⟨.ints _ l, _, _, _, _, _, _⟩) => some ⟨i, l⟩
    | _, _ => none
  pre b := ∃ n : Nat, b.i = n ∧ n ≤ 17 ∧ b.l.length ≤ n ∧ b.l = wantF f m L n
  mu b := 17 - b.i.toNat
/-- A way, by its number. -/
def gL (k : List Int) (i : Int) : List Int := (decs k k.length).getD i.toNat []
end Go.Proofs.YtidpllnmghgomaaDoor.X
