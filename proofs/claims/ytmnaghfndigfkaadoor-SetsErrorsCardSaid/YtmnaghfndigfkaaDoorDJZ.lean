/-
 What Text computes.
-/
import Derived.Test.YtmnaghfndigfkaaDoorDHZ
import Derived.Test.YtmnaghfndigfkaaDoorAb8
set_option maxRecDepth 1000000
set_option linter.unusedVariables false
namespace Go.Proofs.YtmnaghfndigfkaaDoor.X
open Go Go.Ab

def e101 : CtE
 | [.str s, .int .i64 c] => some ⟨.str (Lib.repeatL s c.toNat), [], some (0 ≤ c ∧ c ≤ 1000000 ∧ s.length * c.toNat ≤ 1000000)⟩
 | _ => none
/-- The least and the greatest X of the first cells. -/
def lftF (l : List Cl) : Nat → Int
 | 0 => kX l 0
 | n + 1 => if kX l n < lftF l n then kX l n else lftF l n
def rgtF (l : List Cl) : Nat → Int
 | 0 => kX l 0
 | n + 1 => if kX l n > rgtF l n then kX l n else rgtF l n
def lftI (l : List Cl) : Int := lftF l l.length
def rgtI (l : List Cl) : Int := rgtF l l.length
def lowI (l : List Cl) : Int := kY l 0
def higI (l : List Cl) : Int := kY l ((l.length : Int) - 1)
def bigB (l : List Cl) : Bool := decide (65536 < (4 * (rgtI l - lftI l + 1) + 1) * (higI l - lowI l + 1))
/-- A row of the drawing; an empty drawing. -/
def rowS (l : List Cl) : List UInt8 := Lib.repeatL [46, 46, 46, 46] (rgtI l - lftI l + 1).toNat ++ [10]
def bgS (l : List Cl) : List UInt8 := Lib.repeatL (rowS l) (higI l - lowI l + 1).toNat
def sgn (q : Int) : Int := if q = 0 then 83 else if q = 1 then 69 else if q = 2 then 78 else 87
def posI (l : List Cl) (x y q : Int) : Int := (higI l - y) * (rowS l).length + 4 * (x - lftI l) + q
def txF (l : List Cl) : Nat → List Int
 | 0 => (bgS l).map fun b => (b.toNat : Int)
 | n + 1 => (txF l n).set (posI l (kX l n) (kY l n) (kQ l n)).toNat (sgn (kQ l n))
def txE (l : List Cl) : Int := cond (chkI l == 0) (bI (decide (0 < l.length) && bigB l) 3 0) (chkI l)
def txV (l : List Cl) : List UInt8 := cond (chkI l == 0 && (decide (0 < l.length) && !bigB l)) (bytesI (txF l l.length)) []
def e49 : CtE
 | [.imm (.vals a) n _] => some ⟨.tup [.str (txV (unK a)), .int .i64 (txE (unK a))], [], some (okL a n ∧ okQ (unK a))⟩
 | _ => none
structure L49 where (i a b : Int)
def l49 (l : List Cl) : LpS L49 where
 ov b := [(33, .int .i64 b.i), (5, .int .i64 b.a), (6, .int .i64 b.b)]
 bk b := []
 rd S := match aget S.t 33, aget S.t 5, aget S.t 6 with
  | some (.int _ i), some (.int _ a), some (.int _ b) => some ⟨i, a, b⟩
  | _, _, _ => none
 pre b := ∃ n : Nat, b.i = n ∧ n ≤ l.length ∧ b.a = lftF l n ∧ b.b = rgtF l n
 mu b := l.length - b.i.toNat
structure M49 where (i : Int) (o : List Int)
def m49 (l : List Cl) : LpS M49 where
 ov b := [(84, .int .i64 b.i)]
 bk b := [(1094, .blk ⟨.ints .u8 b.o, 1, (bgS l).length, none, some false, true, false⟩)]
 rd S := match aget S.t 84, aget S.h 1094 with
  | some (.int _ i), some (.blk ⟨.ints _ o, _, _, _, _, _, _⟩) => some ⟨i, o⟩
  | _, _ => none
 pre b := ∃ n : Nat, b.i = n ∧ n ≤ l.length ∧ b.o = txF l n
 mu b := l.length - b.i.toNat
def tJ49 : List (Nat × CtE) := [(61, e61), (101, e101)]
def TJ49 : Tab := tabL tJ49 noCh
end Go.Proofs.YtmnaghfndigfkaaDoor.X
