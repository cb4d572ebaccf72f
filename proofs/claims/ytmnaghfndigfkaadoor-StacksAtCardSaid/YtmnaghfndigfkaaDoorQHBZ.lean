/-
 The law on At: its tables and loops.
-/
import Derived.Test.YtmnaghfndigfkaaDoorQHAZ
import Derived.Test.YtmnaghfndigfkaaDoorQLSZ
set_option maxRecDepth 1000000
set_option linter.unusedVariables false
namespace Go.Proofs.YtmnaghfndigfkaaDoor.X
open Go Go.Ab

def ch19 (h : List (Nat × HO)) (cv : AV) (args : List AV) : Option Cx :=
 match cv, args, aget h 90240 with
 | .fn g [] [], [.fullc i n c, .imm (.ints .i64 b) m none], some (.blk ⟨.ints _ a, _, _, _, _, _, _⟩) => cond (Nat.beq g 19 && Nat.beq i 90240) (some ⟨.int .i64 (bI (eqK a b) 1 0), [], some (h = [(90240, .blk (bkI a none))] ∧ n = a.length ∧ c = a.length ∧ m = b.length ∧ smK a ∧ smK b)⟩) none
 | _, _, _ => none
def e18z : CtE
 | [.imm (.vals a) n _, .agg [.int .i64 x, .int .i64 y, .int .u8 q]] => some ⟨layC [], [], some (okT a n ∧ atL (unT a) (x, y, q) = [])⟩
 | _ => none
def tH3 : List (Nat × CtE) := [(15, e15), (16, e16), (17, e17), (18, e18p), (20, e20), (21, e21)]
def TH3 : Tab := tabL tH3 ch19
def tH3z : List (Nat × CtE) := [(15, e15), (16, e16), (17, e17), (18, e18z), (19, e19), (20, e20), (21, e21)]
def TH3z : Tab := tabL tH3z noCh
def bxC (x y q : Int) : HO := .blk ⟨.cells [.int .i64 x, .int .i64 y, .int .u8 q], 3, 1, none, some false, true, true⟩
def hasT : List Sk → Cl → Bool
 | [], _ => false
 | s :: r, c => cond (eqCl s.1 c) true (hasT r c)
structure L3 where (i h n : Int) (a : List Int) (f s : Bool) (x y q : Int)
def l3 (l : List Sk) (c : Cl) (id : Int) : LpS L3 where
 ov b := [(14, .int .i64 b.i), (8, .int .i64 b.h), (9, .imm (.ints .i64 b.a) b.a.length none), (11, .int .i64 b.n), (12, .bool b.f), (13, .bool b.s)]
 bk b := [(320, bxC b.x b.y b.q)]
 rd S := match aget S.t 14, aget S.t 8, aget S.t 11, aget S.t 12, aget S.t 13, aget S.h 320 with
  | some (.int _ i), some (.int _ h), some (.int _ n), some (.bool f), some (.bool s), some (.blk ⟨.cells [.int _ x, .int _ y, .int _ q], _, _, _, _, _, _⟩) => match aget S.t 9 with
   | some (.imm (.ints _ a) _ _) => some ⟨i, h, n, a, f, s, x, y, q⟩
   | some .nils => some ⟨i, h, n, [], f, s, x, y, q⟩
   | _ => none
  | _, _, _, _, _, _ => none
 pre b := ∃ n : Nat, b.i = n ∧ n ≤ l.length ∧ b.h = (hgt (l.take n) : Nat) ∧ b.a = atL (l.take n) c ∧ b.s = hasT (l.take n) c ∧ ((b.x, b.y, b.q), b.n) = ((fdS (l.take n) id).1, (fdS (l.take n) id).2.1) ∧ b.f = ((fdS (l.take n) id).2.2 == 0)
 mu b := l.length - b.i.toNat
structure M3 where (k n : Int) (f : Bool) (x y q : Int)
def sofar (l : List Sk) (i : Int) (k : Nat) : List Sk := l.take i.toNat ++ [((gT l i).1, (gT l i).2.take k)]
def m3 (l : List Sk) (id i : Int) : LpS M3 where
 ov b := [(15, .int .i64 b.k), (11, .int .i64 b.n), (12, .bool b.f)]
 bk b := [(320, bxC b.x b.y b.q)]
 rd S := match aget S.t 15, aget S.t 11, aget S.t 12, aget S.h 320 with
  | some (.int _ k), some (.int _ n), some (.bool f), some (.blk ⟨.cells [.int _ x, .int _ y, .int _ q], _, _, _, _, _, _⟩) => some ⟨k, n, f, x, y, q⟩
  | _, _, _, _ => none
 pre b := ∃ k : Nat, b.k = k ∧ k ≤ (tK l i).length ∧ ((b.x, b.y, b.q), b.n) = ((fdS (sofar l i k) id).1, (fdS (sofar l i k) id).2.1) ∧ b.f = ((fdS (sofar l i k) id).2.2 == 0)
 mu b := (tK l i).length - b.k.toNat
def j3L (l : List Sk) : LpS Unit where
 ov _ := [(7, lsk l)]
 bk _ := []
 rd S := some ()
 pre _ := True
 mu _ := 0
def j3A (a : List Int) (s : Bool) : LpS Unit where
 ov _ := [(9, .imm (.ints .i64 a) a.length none), (13, .bool s)]
 bk _ := []
 rd S := some ()
 pre _ := True
 mu _ := 0
def j3B (l : List Sk) (c : Cl) (id : Int) : LpS Unit where
 ov _ := [(8, .int .i64 (hgt l : Nat)), (9, .imm (.ints .i64 (atL l c)) (atL l c).length none), (11, .int .i64 (fdS l id).2.1), (12, .bool ((fdS l id).2.2 == 0))]
 bk _ := [(320, bxC (fdS l id).1.1 (fdS l id).1.2.1 (fdS l id).1.2.2)]
 rd S := some ()
 pre _ := True
 mu _ := 0
def j3t (l : List Sk) (id : Int) : LpS Unit where
 ov _ := [(12, .bool true), (16, .ptr 1223 0), (17, .int .i64 (fdS l id).2.1), (18, .int .i64 0)]
 bk _ := [(1223, bxC (fdS l id).1.1 (fdS l id).1.2.1 (fdS l id).1.2.2)]
 rd S := some ()
 pre _ := True
 mu _ := 0
def j3f (l : List Sk) (id : Int) : LpS Unit where
 ov _ := [(12, .bool false), (16, .ptr 1223 0), (17, .int .i64 (fdS l id).2.1), (18, .int .i64 7)]
 bk _ := [(1223, bxC (fdS l id).1.1 (fdS l id).1.2.1 (fdS l id).1.2.2)]
 rd S := some ()
 pre _ := True
 mu _ := 0
structure L26 where (i : Int) (o : List Int)
def l26 (a : List Int) : LpS L26 where
 ov b := [(20, .int .i64 b.i)]
 bk b := [(90240, .blk ⟨.ints .i64 b.o, 1, a.length, none, none, true, false⟩)]
 rd S := match aget S.t 20, aget S.h 90240 with
  | some (.int _ i), some (.blk ⟨.ints _ o, _, _, _, _, _, _⟩) => some ⟨i, o⟩
  | _, _ => none
 pre b := ∃ n : Nat, b.i = n ∧ n ≤ a.length ∧ b.o = (a.take n).map (· + 1) ++ a.drop n
 mu b := a.length - b.i.toNat
end Go.Proofs.YtmnaghfndigfkaaDoor.X
