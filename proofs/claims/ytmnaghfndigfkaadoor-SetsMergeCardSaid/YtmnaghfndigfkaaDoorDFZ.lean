/-
 The law on merging: its table; the lists by names.
-/
import Derived.Test.YtmnaghfndigfkaaDoorDEZ
set_option maxRecDepth 1000000
set_option linter.unusedVariables false
namespace Go.Proofs.YtmnaghfndigfkaaDoor.X
open Go Go.Ab

def tD7 : List (Nat × CtE) := [(31, e31), (32, eMg 89), (33, eMg 90), (34, eMg 91), (35, e35), (36, e36), (37, e37)]
def TD7 : Tab := tabL tD7 noCh
structure J7a where (a b : List AV) (n m : Nat)
/-- The two sets. -/
def j7a (l1 l2 : List Cl) : LpS J7a where
 ov v := [(5, .imm (.vals v.a) v.n none), (6, .imm (.vals v.b) v.m none)]
 bk v := []
 rd S := match aget S.t 5, aget S.t 6 with
  | some (.imm (.vals a) n _), some (.imm (.vals b) m _) => some ⟨a, b, n, m⟩
  | _, _ => none
 pre v := v.a = flatK (sOf l1) ∧ v.n = (sOf l1).length ∧ v.b = flatK (sOf l2) ∧ v.m = (sOf l2).length
 mu v := 0
structure J7b where (u c m : List AV) (p q r : Nat)
/-- Union, common cells, difference. -/
def j7b (x y : List Cl) : LpS J7b where
 ov v := [(7, .imm (.vals v.u) v.p (some v.p)), (9, .imm (.vals v.c) v.q (some v.q)), (11, .imm (.vals v.m) v.r (some v.r)), (12, .int .i64 0)]
 bk v := []
 rd S := match aget S.t 7, aget S.t 9, aget S.t 11 with
  | some (.imm (.vals a) n _), some (.imm (.vals b) m _), some (.imm (.vals c) k _) => some ⟨a, b, c, n, m, k⟩
  | _, _, _ => none
 pre v := (v.u = flatK (mrg 89 x y) ∧ v.p = (mrg 89 x y).length) ∧ (v.c = flatK (mrg 90 x y) ∧ v.q = (mrg 90 x y).length) ∧ v.m = flatK (mrg 91 x y) ∧ v.r = (mrg 91 x y).length
 mu v := 0
/-- Union and common cells in the other order; the set that is put together again. -/
def j7c (x y : List Cl) : LpS J7b where
 ov v := [(13, .imm (.vals v.u) v.p (some v.p)), (15, .imm (.vals v.c) v.q (some v.q)), (17, .imm (.vals v.m) v.r (some v.r)), (18, .int .i64 0)]
 bk v := []
 rd S := match aget S.t 13, aget S.t 15, aget S.t 17 with
  | some (.imm (.vals a) n _), some (.imm (.vals b) m _), some (.imm (.vals c) k _) => some ⟨a, b, c, n, m, k⟩
  | _, _, _ => none
 pre v := (v.u = flatK (mrg 89 y x) ∧ v.p = (mrg 89 y x).length) ∧ (v.c = flatK (mrg 90 y x) ∧ v.q = (mrg 90 y x).length) ∧ v.m = flatK (mrg 89 (mrg 90 x y) (mrg 91 x y)) ∧ v.r = (mrg 89 (mrg 90 x y) (mrg 91 x y)).length
 mu v := 0
end Go.Proofs.YtmnaghfndigfkaaDoor.X
