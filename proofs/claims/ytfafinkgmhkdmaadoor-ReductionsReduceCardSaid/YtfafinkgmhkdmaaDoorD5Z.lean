/-
  What the laws of the reductions compute.
-/
import Derived.Test.YtfafinkgmhkdmaaDoorD4Z
set_option maxRecDepth 1000000
set_option linter.unusedVariables false
namespace Go.Proofs.YtfafinkgmhkdmaaDoor.X
open Go Go.Ab

def e12 : CtE
  | [] => some ⟨.bool true, [], none⟩
  | _ => none
def e19z : CtE
  | [.agg [.imm (.ints .i64 a) n _, .imm (.ints .u8 k) m _], .int .i64 i] => some ⟨.tup [.agg [.imm (.ints .i64 []) 0 (some 0), .imm (.ints .u8 []) 0 (some 0)], .int .i64 0], [], some (n = 0 ∧ m = 0 ∧ a = [] ∧ k = [] ∧ i = 0)⟩
  | _ => none
def uL : List (Nat × CtE) := (12, e12) :: (14, e14) :: (22, e22) :: (15, e15) :: (16, e16) :: uF
def UL : Tab := tabL uL noCh
def uT : List (Nat × CtE) := (19, e19m) :: uL
def UT : Tab := tabL uT noCh
def uTz : List (Nat × CtE) := (19, e19z) :: uL
def UTz : Tab := tabL uTz noCh
/-- The law's fan. -/
def dA (c l : Int) (ks : List Int) : List Int := ofA c l ks
def dK (c : Int) (ks : List Int) : List Int := vK (ofK c ks)
structure L3 where (i : Int) (a k : List Int)
def l3 (A K ys : List Int) : LpS L3 where
  ov b := [(8, .int .i64 b.i)]
  bk b := [(258, .blk ⟨.cells [immN .i64 b.a, immN .u8 b.k], 2, 1, none, some false, true, true⟩)]
  rd S := match aget S.t 8, aget S.h 258 with
    | some (.int _ i), some (.blk ⟨.cells [.imm (.ints _ a) _ _, .imm (.ints _ k) _ _], _, _, _, _, _, _⟩) => some ⟨i, a, k⟩
    | _, _ => none
  pre b := ∃ n : Nat, b.i = n ∧ n ≤ ys.length ∧ okF b.a b.k 8 = true ∧ foldB b.a b.k = foldB A K
  mu b := ys.length - b.i.toNat
def jS (a k : List Int) : LpS VB where
  ov b := [(23, .bool b.v)]
  bk b := []
  rd S := match aget S.t 23 with
    | some (.bool i) => some ⟨i⟩
    | _ => none
  pre b := b.v = false ∧ a.length ≤ 12 ∧ k.length ≤ 12
  mu b := 0
structure L4 where (i w : Int)
def wnt (a k : List Int) (n : Nat) : Int := if chk a k = 0 then bI (memB (k.take n) 3) 1 0 else chk a k
def l4 (a k : List Int) : LpS L4 where
  ov b := [(4, .int .i64 b.i), (3, .int .i64 b.w)]
  bk b := []
  rd S := match aget S.t 4, aget S.t 3 with
    | some (.int _ i), some (.int _ w) => some ⟨i, w⟩
    | _, _ => none
  pre b := ∃ n : Nat, b.i = n ∧ n ≤ k.length ∧ b.w = wnt a k n
  mu b := k.length - b.i.toNat
structure L6 where (i : Int) (a k : List Int)
def l6 (A K : List Int) : LpS L6 where
  ov b := [(9, .int .i64 b.i)]
  bk b := [(130, .blk ⟨.cells [immN .i64 b.a, immN .u8 b.k], 2, 1, none, some false, true, true⟩)]
  rd S := match aget S.t 9, aget S.h 130 with
    | some (.int _ i), some (.blk ⟨.cells [.imm (.ints _ a) _ _, .imm (.ints _ k) _ _], _, _, _, _, _, _⟩) => some ⟨i, a, k⟩
    | _, _ => none
  pre b := ∃ n : Nat, b.i = n ∧ n ≤ (rdI A K).length ∧ okF b.a b.k 8 = true ∧ (rdI A K).drop n = rdI b.a b.k ∧ rdA b.a b.k = rdA A K ∧ rdK b.a b.k = rdK A K
  mu b := (rdI A K).length - b.i.toNat
structure L7 where (i : Int) (w : List Int)
def wL (a k : List Int) (n : Nat) : List Int := inL ((List.range n).filter fun i => isS a k i)
def l7 (A K : List Int) : LpS L7 where
  ov b := [(9, .int .i64 b.i), (8, .full 9001 b.w.length)]
  bk b := [(9001, .blk (blkI b.w))]
  rd S := match aget S.t 9, aget S.h 9001 with
    | some (.int _ i), some (.blk ⟨.ints _ w, _, _, _, _, _, _⟩) => some ⟨i, w⟩
    | _, _ => none
  pre b := ∃ n : Nat, b.i = n ∧ n ≤ A.length ∧ b.w = wL A K n
  mu b := A.length - b.i.toNat
end Go.Proofs.YtfafinkgmhkdmaaDoor.X
