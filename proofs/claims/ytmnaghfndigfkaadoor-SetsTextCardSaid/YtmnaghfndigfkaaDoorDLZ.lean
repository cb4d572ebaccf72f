/-
 The law on drawings: its table; the set and the expected answer by names.
-/
import Derived.Test.YtmnaghfndigfkaaDoorDKZ
set_option maxRecDepth 1000000
set_option linter.unusedVariables false
namespace Go.Proofs.YtmnaghfndigfkaaDoor.X
open Go Go.Ab

/-- The three sets that the law draws itself; what is drawn of them, by names. -/
def farL : List Cl := [(-4096, 0, 0), (4096, 0, 0)]
def hghL : List Cl := [(0, -4096, 0), (0, 4096, 0)]
def allL : List Cl := [(0, -4096, 0), (-4096, 0, 0), (4096, 0, 0)]
def nmP (x : List Cl) (s : List UInt8) (e : Int) (l : List Cl) : Prop := l = x ∧ txV x = s ∧ txE x = e
def okA (a : List AV) (n : Nat) : Prop := okL a n ∧ okQ (unK a)
def e49x (s1 s2 s3 : List UInt8) (e1 e2 e3 : Int) : CtE
 | [.imm (.vals a) n none] => some ⟨.tup [.str (txV (unK a)), .int .i64 (txE (unK a))], [], some (okA a n)⟩
 | [.imm (.vals a) n (some 3)] => some ⟨.tup [.str s3, .int .i64 e3], [], some (okA a n ∧ nmP allL s3 e3 (unK a))⟩
 | [.imm (.vals (.int k x :: a)) n (some _)] => cond (x == 0) (some ⟨.tup [.str s2, .int .i64 e2], [], some (okA (.int k x :: a) n ∧ nmP hghL s2 e2 (unK (.int k x :: a)))⟩) (some ⟨.tup [.str s1, .int .i64 e1], [], some (okA (.int k x :: a) n ∧ nmP farL s1 e1 (unK (.int k x :: a)))⟩)
 | _ => none
def tL11 (s1 s2 s3 : List UInt8) (e1 e2 e3 : Int) : List (Nat × CtE) := [(31, e31), (48, e48), (49, e49x s1 s2 s3 e1 e2 e3), (50, e50), (51, e51), (37, e37)]
def TL11 (s1 s2 s3 : List UInt8) (e1 e2 e3 : Int) : Tab := tabL (tL11 s1 s2 s3 e1 e2 e3) noCh
structure JSet where (a : List AV) (n : Nat)
/-- The set, in a temporary. -/
def jSet (t : Nat) (x : List Cl) : LpS JSet where
 ov v := [(t, .imm (.vals v.a) v.n none)]
 bk v := []
 rd S := match aget S.t t with
  | some (.imm (.vals a) n _) => some ⟨a, n⟩
  | _ => none
 pre v := v.a = flatK x ∧ v.n = x.length
 mu v := 0
structure J11 where (s : List UInt8) (e : Int)
def j11 (x : List Cl) : LpS J11 where
 ov v := [(6, .str v.s), (7, .int .i64 v.e)]
 bk v := []
 rd S := match aget S.t 6, aget S.t 7 with
  | some (.str s), some (.int _ e) => some ⟨s, e⟩
  | _, _ => none
 pre v := v.s = txV x ∧ v.e = txE x
 mu v := 0
end Go.Proofs.YtmnaghfndigfkaaDoor.X
