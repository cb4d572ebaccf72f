/-
 What the law on mirrored fans computes; the variables of the fans' laws.
-/
import Derived.Test.YtfafinkgmhkdmaaDoorVD3Z
import Derived.Test.YtfafinkgmhkdmaaDoorAb6
set_option maxRecDepth 1000000
set_option linter.unusedVariables false
namespace Go.Proofs.YtfafinkgmhkdmaaDoor.X
open Go Go.Ab

def e12 : CtE
 | [] => some ⟨.bool true, [], none⟩
 | _ => none
/-- Comparison of two fans, the first one's capacities known. -/
def e26 : CtE
 | [.agg [.imm (.ints .i64 a) n (some c), .imm (.ints .u8 k) m (some d)], .agg [.imm (.ints .i64 b) n' _, .imm (.ints .u8 j) m' _]] => some ⟨.bool (eqB a b && eqB k j), [], some (n = a.length ∧ m = k.length ∧ n' = b.length ∧ m' = j.length ∧ c = n ∧ d = m ∧ a.length = b.length ∧ k.length = j.length ∧ a.length < 1000000000000 ∧ k.length < 1000000000000)⟩
 | _ => none
structure L26 where (i : Int)
def l26 (a b : List Int) : LpS L26 where
 ov c := [(5, .int .i64 c.i)]
 bk c := []
 rd S := match aget S.t 5 with
  | some (.int _ i) => some ⟨i⟩
  | _ => none
 pre c := ∃ n : Nat, c.i = n ∧ n ≤ a.length ∧ eqB (a.drop n) (b.drop n) = eqB a b
 mu c := a.length - c.i.toNat
def m26 (a b k j : List Int) : LpS L26 where
 ov c := [(6, .int .i64 c.i)]
 bk c := []
 rd S := match aget S.t 6 with
  | some (.int _ i) => some ⟨i⟩
  | _ => none
 pre c := ∃ n : Nat, c.i = n ∧ n ≤ k.length ∧ eqB a b = true ∧ eqB (k.drop n) (j.drop n) = eqB k j
 mu c := k.length - c.i.toNat

structure L8 where (i : Int)
def l8 (a : List Int) : LpS L8 where
 ov c := [(7, .int .i64 c.i)]
 bk c := []
 rd S := match aget S.t 7 with
  | some (.int _ i) => some ⟨i⟩
  | _ => none
 pre c := ∃ n : Nat, c.i = n ∧ n ≤ a.length
 mu c := a.length - c.i.toNat
/-- The kind that Over gives. -/
def oKd (K : List Int) (n : Nat) (i : Int) : Int := if K.getD (((n : Int) - i).tmod n).toNat 0 = 3 then 3 else 3 - K.getD (((n : Int) - i).tmod n).toNat 0
/-- Tables of the fans' laws. -/
def vL : List (Nat × CtE) := (27, e12) :: (26, e26) :: (20, e20) :: (21, e21) :: uC
def VL : Tab := tabL vL noCh
end Go.Proofs.YtfafinkgmhkdmaaDoor.X
