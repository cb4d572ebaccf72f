/-
 What the reference's functions on cells compute: corners, lines, mirror images, the cell with three corners, neighbours.
-/
import Derived.Test.YtmnaghfndigfkaaDoorDHZ
set_option maxRecDepth 1000000
set_option linter.unusedVariables false
namespace Go.Proofs.YtmnaghfndigfkaaDoor.X
open Go Go.Ab

def acA (k : Int) : Int := if k = 1 then 1 else if k = 2 then 0 else if k = 3 then 1 else -1
def acB (k : Int) : Int := if k = 1 then 0 else 1
def e175 : CtE
 | [.int .u8 k] => some ⟨.tup [.int .i64 (acA k), .int .i64 (acB k)], [], none⟩
 | _ => none
def sml (x : Int) : Prop := -100000 ≤ x ∧ x ≤ 100000
def e176 : CtE
 | [.agg [.int .u8 k, .int .i64 c], .agg [.int .i64 x, .int .i64 y]] => some ⟨.int .i64 (acA k * x + acB k * y - 2 * c), [], some (sml c ∧ sml x ∧ sml y)⟩
 | _ => none
def rfX (k c x y : Int) : Int := if k = 1 then 4 * c - x else if k = 2 then x else if k = 3 then 2 * c - y else y - 2 * c
def rfY (k c x y : Int) : Int := if k = 1 then y else if k = 2 then 4 * c - y else if k = 3 then 2 * c - x else x + 2 * c
def e138 : CtE
 | [.agg [.int .u8 k, .int .i64 c], .agg [.int .i64 x, .int .i64 y]] => some ⟨.agg [.int .i64 (rfX k c x y), .int .i64 (rfY k c x y)], [], some (1 ≤ k ∧ k ≤ 4 ∧ sml c ∧ sml x ∧ sml y)⟩
 | _ => none
def crS (q : Int) : Int := if q = 1 then 1 else if q = 2 then 1 else 0
def crX (q : Int) : Int := if q = 0 then 1 else if q = 1 then 1 else 0
def crY (q : Int) : Int := if q = 2 then 1 else if q = 3 then 1 else 0
def crL (x y q : Int) : List AV := [.int .i64 (2 * x + 1), .int .i64 (2 * y + 1), .int .i64 (2 * x + 2 * crS q), .int .i64 (2 * y + 2 * crS q), .int .i64 (2 * x + 2 * crX q), .int .i64 (2 * y + 2 * crY q)]
def e134 : CtE
 | [.agg [.int .i64 x, .int .i64 y, .int .u8 q]] => some ⟨.agg (crL x y q), [], some (sml x ∧ sml y ∧ 0 ≤ q ∧ q ≤ 3)⟩
 | _ => none
def lnK (q e : Int) : Int := if e = 1 then 3 else if e = 2 then 4 else if q = 0 then 2 else if q = 2 then 2 else 1
def lnC (x y q e : Int) : Int := if e = 1 then x + y + 1 else if e = 2 then y - x else if q = 0 then y else if q = 2 then y + 1 else if q = 1 then x + 1 else x
def smc (x y q : Int) : Prop := -5000 ≤ x ∧ x ≤ 5000 ∧ -5000 ≤ y ∧ y ≤ 5000 ∧ 0 ≤ q ∧ q ≤ 3
def e137 : CtE
 | [.agg [.int .i64 x, .int .i64 y, .int .u8 q], .int .i64 e] => some ⟨.agg [.int .u8 (lnK q e), .int .i64 (lnC x y q e)], [], some (smc x y q ∧ 0 ≤ e ∧ e ≤ 2)⟩
 | _ => none
def aft (K n c : Int) : Int := if K < n then c else 0
structure L137 where (k a b : Int)
def l137 (K C : Int) : LpS L137 where
 ov v := [(9, .int .u8 v.k)]
 bk v := [(256, .blk ⟨.cells [.int .u8 v.a, .int .i64 v.b], 2, 1, none, some false, true, true⟩)]
 rd S := match aget S.t 9, aget S.h 256 with
  | some (.int _ k), some (.blk ⟨.cells [.int _ a, .int _ b], _, _, _, _, _, _⟩) => some ⟨k, a, b⟩
  | _, _ => none
 pre v := 1 ≤ v.k ∧ v.k ≤ 5 ∧ v.a = aft K v.k K ∧ v.b = aft K v.k C
 mu v := 5 - v.k.toNat
def wQ (sx sy : Int) : Int := if sy = -2 then 0 else if sx = 2 then 1 else if sy = 2 then 2 else 3
def wOk (mx my ax ay bx b_ : Int) : Prop := ∃ x y q : Int, smc x y q ∧ mx = 2 * x + 1 ∧ my = 2 * y + 1 ∧
 ((ax = 2 * x + 2 * crS q ∧ ay = 2 * y + 2 * crS q ∧ bx = 2 * x + 2 * crX q ∧ b_ = 2 * y + 2 * crY q) ∨
  (bx = 2 * x + 2 * crS q ∧ b_ = 2 * y + 2 * crS q ∧ ax = 2 * x + 2 * crX q ∧ ay = 2 * y + 2 * crY q))
def e136 : CtE
 | [.agg [.int .i64 mx, .int .i64 my, .int .i64 ax, .int .i64 ay, .int .i64 bx, .int .i64 b_]] => some ⟨.agg [.int .i64 ((mx - 1) / 2), .int .i64 ((my - 1) / 2), .int .u8 (wQ (ax + bx - 2 * mx) (ay + b_ - 2 * my))], [], some (wOk mx my ax ay bx b_)⟩
 | _ => none
structure L136 where (i : Int)
def l136 (q : Int) : LpS L136 where
 ov v := [(7, .int .u8 v.i)]
 bk v := []
 rd S := match aget S.t 7 with
  | some (.int _ i) => some ⟨i⟩
  | _ => none
 pre v := 0 ≤ v.i ∧ v.i ≤ q
 mu v := 4 - v.i.toNat
/-- A condition, where paths join. -/
def jP (P : Prop) : LpS Unit where
 ov _ := []
 bk _ := []
 rd S := some ()
 pre _ := P
 mu _ := 0
def neI (a b : Int) : Prop := a ≠ b
def nrX (x y q e : Int) : Int := (nbC (x, y, q) e).1
def nrY (x y q e : Int) : Int := (nbC (x, y, q) e).2.1
def nrQ (x y q e : Int) : Int := (nbC (x, y, q) e).2.2
def e100 : CtE
 | [.agg [.int .i64 x, .int .i64 y, .int .u8 q], .int .i64 e] => some ⟨.agg [.int .i64 (nrX x y q e), .int .i64 (nrY x y q e), .int .u8 (nrQ x y q e)], [], some (smc x y q ∧ (-4096 ≤ x ∧ x ≤ 4096) ∧ (-4096 ≤ y ∧ y ≤ 4096) ∧ 0 ≤ e ∧ e ≤ 2)⟩
 | _ => none
def tQ175 : List (Nat × CtE) := [(175, e175)]
def TQ175 : Tab := tabL tQ175 noCh
def tQ138 : List (Nat × CtE) := [(175, e175), (176, e176)]
def TQ138 : Tab := tabL tQ138 noCh
def tQ137 : List (Nat × CtE) := [(175, e175), (134, e134)]
def TQ137 : Tab := tabL tQ137 noCh
def tQ100 : List (Nat × CtE) := [(137, e137), (134, e134), (138, e138), (136, e136)]
def TQ100 : Tab := tabL tQ100 noCh
end Go.Proofs.YtmnaghfndigfkaaDoor.X
